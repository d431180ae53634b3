import PyProof.Rows.All
import Wide.All
import OpenK.AllK
import Wide.FinOn
import HandS.ForMost
import HandS.Evl
import HandS.Walk
import HandS.Conv
import HandS.IsInst
import HandS.Deep
import HandS.WideBits
import HandS.Style
import HandS.More
import HandS.Zip
import HandS.SortInts
import HandS.Strs
import KE.KDictKeyed
import KE.KeyNested
import KE.GoesEnum
import PyProof.SeqIndex
import KE.KDictLaw
import PySem.Challenge.RW_firstpowers_k56_whole_rows_and_pairs
set_option Elab.async false
set_option linter.all false
set_option maxRecDepth 100000
namespace K56
open PySem PySem.Spec PyProof.Rows L2
def topS (i : Nat) : Stmt := PySem.Challenge.pw_firstpowers_k56_whole_rows_and_pairs.main.body.getD i (.Pass ⟨0, 0, 0, 0⟩)
abbrev s_is_whole : Stmt := topS 9
abbrev s_is_within : Stmt := topS 10
abbrev s_is_line : Stmt := topS 11
abbrev s_a_table : Stmt := topS 12
abbrev s_need_table : Stmt := topS 13
abbrev s_need_place : Stmt := topS 14
abbrev s_all_places : Stmt := topS 15
abbrev s_multiplied : Stmt := topS 17
abbrev s_no_nought : Stmt := topS 19
abbrev s_marked : Stmt := topS 20
abbrev s_marks : Stmt := topS 21
abbrev s_turned : Stmt := topS 22
abbrev s_is_order : Stmt := topS 23
abbrev s_named_anew : Stmt := topS 24
abbrev s_renamed : Stmt := topS 25
abbrev s_first_of : Stmt := topS 27
abbrev s_need_first : Stmt := topS 29
abbrev s_marks_up_to : Stmt := topS 30
abbrev s_first_row : Stmt := topS 31
abbrev s_pair_of : Stmt := topS 32
abbrev s_first_pair : Stmt := topS 33
abbrev s_first_pairs : Stmt := topS 34
abbrev s_rows_meet : Stmt := topS 35
abbrev s_meeting : Stmt := topS 36
abbrev s_times_marks : Stmt := topS 39
abbrev s_courses : Stmt := topS 40
abbrev s_need_number : Stmt := topS 41
abbrev s_place_of : Stmt := topS 42
abbrev s_marks_of : Stmt := topS 43
abbrev s_first_power : Stmt := topS 45
abbrev s_u_law_cell : Stmt := topS 47
abbrev s_u_law_pen : Stmt := topS 48
abbrev s_u_law_draw : Stmt := topS 49
abbrev s_u_law_size : Stmt := topS 50
abbrev s_u_law_order : Stmt := topS 51
abbrev s_u_law_good_table : Stmt := topS 52
abbrev s_u_law_right : Stmt := topS 53
abbrev s_law : Stmt := topS 54
theorem sc_is_whole : FnScope ["thing"] ["thing"] (defScope s_is_whole) := ⟨rfl, rfl, rfl, by decide +kernel, rfl, by decide +kernel, by decide +kernel⟩
theorem sc_is_within : FnScope ["thing", "least", "most"] ["thing", "least", "most"] (defScope s_is_within) := ⟨rfl, rfl, rfl, by decide +kernel, rfl, by decide +kernel, by decide +kernel⟩
theorem sc_is_line : FnScope ["thing", "size", "one"] ["thing", "size"] (defScope s_is_line) := ⟨rfl, rfl, rfl, by decide +kernel, rfl, by decide +kernel, by decide +kernel⟩
theorem sc_a_table : FnScope ["thing", "line"] ["thing"] (defScope s_a_table) := ⟨rfl, rfl, rfl, by decide +kernel, rfl, by decide +kernel, by decide +kernel⟩
theorem sc_need_table : FnScope ["table"] ["table"] (defScope s_need_table) := ⟨rfl, rfl, rfl, by decide +kernel, rfl, by decide +kernel, by decide +kernel⟩
theorem sc_need_place : FnScope ["table", "place"] ["table", "place"] (defScope s_need_place) := ⟨rfl, rfl, rfl, by decide +kernel, rfl, by decide +kernel, by decide +kernel⟩
theorem sc_all_places : FnScope ["table"] ["table"] (defScope s_all_places) := ⟨rfl, rfl, rfl, by decide +kernel, rfl, by decide +kernel, by decide +kernel⟩
theorem sc_multiplied : FnScope ["one", "other", "columns", "line", "place", "a", "b", "column"] ["one", "other"] (defScope s_multiplied) := ⟨rfl, rfl, rfl, by decide +kernel, rfl, by decide +kernel, by decide +kernel⟩
theorem sc_no_nought : FnScope ["table", "number", "line"] ["table"] (defScope s_no_nought) := ⟨rfl, rfl, rfl, by decide +kernel, rfl, by decide +kernel, by decide +kernel⟩
theorem sc_marked : FnScope ["table", "number", "line"] ["table"] (defScope s_marked) := ⟨rfl, rfl, rfl, by decide +kernel, rfl, by decide +kernel, by decide +kernel⟩
theorem sc_marks : FnScope ["table"] ["table"] (defScope s_marks) := ⟨rfl, rfl, rfl, by decide +kernel, rfl, by decide +kernel, by decide +kernel⟩
theorem sc_turned : FnScope ["table", "line", "place"] ["table"] (defScope s_turned) := ⟨rfl, rfl, rfl, by decide +kernel, rfl, by decide +kernel, by decide +kernel⟩
theorem sc_is_order : FnScope ["table", "thing", "one"] ["table", "thing"] (defScope s_is_order) := ⟨rfl, rfl, rfl, by decide +kernel, rfl, by decide +kernel, by decide +kernel⟩
theorem sc_named_anew : FnScope ["table", "order", "back", "place", "other", "one"] ["table", "order"] (defScope s_named_anew) := ⟨rfl, rfl, rfl, by decide +kernel, rfl, by decide +kernel, by decide +kernel⟩
theorem sc_renamed : FnScope ["table", "order"] ["table", "order"] (defScope s_renamed) := ⟨rfl, rfl, rfl, by decide +kernel, rfl, by decide +kernel, by decide +kernel⟩
theorem sc_first_of : FnScope ["table", "here", "found", "size", "k"] ["table"] (defScope s_first_of) := ⟨rfl, rfl, rfl, by decide +kernel, rfl, by decide +kernel, by decide +kernel⟩
theorem sc_need_first : FnScope ["table"] ["table"] (defScope s_need_first) := ⟨rfl, rfl, rfl, by decide +kernel, rfl, by decide +kernel, by decide +kernel⟩
theorem sc_marks_up_to : FnScope ["table", "most", "here", "found"] ["table", "most"] (defScope s_marks_up_to) := ⟨rfl, rfl, rfl, by decide +kernel, rfl, by decide +kernel, by decide +kernel⟩
theorem sc_first_row : FnScope ["table", "place", "rows", "one", "row"] ["table", "place"] (defScope s_first_row) := ⟨rfl, rfl, rfl, by decide +kernel, rfl, by decide +kernel, by decide +kernel⟩
theorem sc_pair_of : FnScope ["powers", "one", "other", "found", "at", "table"] ["powers", "one", "other"] (defScope s_pair_of) := ⟨rfl, rfl, rfl, by decide +kernel, rfl, by decide +kernel, by decide +kernel⟩
theorem sc_first_pair : FnScope ["table", "one", "other"] ["table", "one", "other"] (defScope s_first_pair) := ⟨rfl, rfl, rfl, by decide +kernel, rfl, by decide +kernel, by decide +kernel⟩
theorem sc_first_pairs : FnScope ["table", "powers", "places", "other", "one"] ["table"] (defScope s_first_pairs) := ⟨rfl, rfl, rfl, by decide +kernel, rfl, by decide +kernel, by decide +kernel⟩
theorem sc_rows_meet : FnScope ["table", "one", "other", "a", "b"] ["table"] (defScope s_rows_meet) := ⟨rfl, rfl, rfl, by decide +kernel, rfl, by decide +kernel, by decide +kernel⟩
theorem sc_meeting : FnScope ["table", "here", "found", "seen"] ["table"] (defScope s_meeting) := ⟨rfl, rfl, rfl, by decide +kernel, rfl, by decide +kernel, by decide +kernel⟩
theorem sc_times_marks : FnScope ["one", "other", "places", "found", "row", "k", "j"] ["one", "other"] (defScope s_times_marks) := ⟨rfl, rfl, rfl, by decide +kernel, rfl, by decide +kernel, by decide +kernel⟩
theorem sc_courses : FnScope ["table", "first", "found", "here"] ["table"] (defScope s_courses) := ⟨rfl, rfl, rfl, by decide +kernel, rfl, by decide +kernel, by decide +kernel⟩
theorem sc_need_number : FnScope ["k"] ["k"] (defScope s_need_number) := ⟨rfl, rfl, rfl, by decide +kernel, rfl, by decide +kernel, by decide +kernel⟩
theorem sc_place_of : FnScope ["found", "at", "k"] ["found", "at", "k"] (defScope s_place_of) := ⟨rfl, rfl, rfl, by decide +kernel, rfl, by decide +kernel, by decide +kernel⟩
theorem sc_marks_of : FnScope ["table", "k", "found", "at"] ["table", "k"] (defScope s_marks_of) := ⟨rfl, rfl, rfl, by decide +kernel, rfl, by decide +kernel, by decide +kernel⟩
theorem sc_first_power : FnScope ["table"] ["table"] (defScope s_first_power) := ⟨rfl, rfl, rfl, by decide +kernel, rfl, by decide +kernel, by decide +kernel⟩
theorem sc_u_law_cell : FnScope ["_law_script", "_law_k"] ["_law_script", "_law_k"] (defScope s_u_law_cell) := ⟨rfl, rfl, rfl, by decide +kernel, rfl, by decide +kernel, by decide +kernel⟩
theorem sc_u_law_pen : FnScope ["_law_cell_here", "_law_left"] ["_law_cell_here"] (defScope s_u_law_pen) := ⟨rfl, rfl, rfl, by decide +kernel, rfl, by decide +kernel, by decide +kernel⟩
theorem sc_u_law_draw : FnScope ["_law_pen_here", "_law_many", "_law_left", "_law_found", "_law_stir"] ["_law_pen_here", "_law_many"] (defScope s_u_law_draw) := ⟨rfl, rfl, rfl, by decide +kernel, rfl, by decide +kernel, by decide +kernel⟩
theorem sc_u_law_size : FnScope ["_law_pen_here"] ["_law_pen_here"] (defScope s_u_law_size) := ⟨rfl, rfl, rfl, by decide +kernel, rfl, by decide +kernel, by decide +kernel⟩
theorem sc_u_law_order : FnScope ["_law_pen_here", "_law_many", "_law_found", "_law_what"] ["_law_pen_here", "_law_many"] (defScope s_u_law_order) := ⟨rfl, rfl, rfl, by decide +kernel, rfl, by decide +kernel, by decide +kernel⟩
theorem sc_u_law_good_table : FnScope ["_law_pen_here", "_law_size_here", "_law_order_here", "_law_often", "_law_rows", "_law_other", "_law_one", "_law_at", "_law_here", "_law_there", "_law_row"] ["_law_pen_here", "_law_size_here"] (defScope s_u_law_good_table) := ⟨rfl, rfl, rfl, by decide +kernel, rfl, by decide +kernel, by decide +kernel⟩
theorem sc_u_law_right : FnScope ["_law_table", "_law_order_here", "_law_size_here", "_law_k", "_law_pairs", "_law_rows", "_law_place", "_law_row", "_law_one", "_law_other"] ["_law_table", "_law_order_here"] (defScope s_u_law_right) := ⟨rfl, rfl, rfl, by decide +kernel, rfl, by decide +kernel, by decide +kernel⟩
theorem sc_law : FnScope ["_law_script", "_law_cell_here", "_law_pen_here", "_law_size_here", "_law_table", "_law_one", "_law_other", "_law_k", "_law_far"] ["_law_script"] (defScope s_law) := ⟨rfl, rfl, rfl, by decide +kernel, rfl, by decide +kernel, by decide +kernel⟩
/-- a def of the text as it stands behind the top, by its name -/
structure FnT (K : PySem.W.Frag) (mg : Str → Option Value) (x : Str) (st : Stmt) (ps : List Str) where
  f : Addr
  fd : FuncData
  F : Fun K x x st f fd
  b : Binds K fd ps []
  g : mg x = some (.ref f)
def fnt_mk {K : PySem.W.Frag} {mg : Str → Option Value} {h : Heap} {x : Str} {st : Stmt} {ps : List Str} (X : K.In h) (G : h.Ns mainGlobals mg) {f : Addr} {od an : Option Addr} {sl : Array (Option Value)} {oc kV dc pm cd ct : Value}
    (a : PySem.W.nsIn K mainGlobals x = some (some (.ref f))) (l : K.lookup f = some ⟨oc, od, .func (PySem.W.fnOf x x (defArgs st) (defBody st) (defScope st) .none kV dc pm an cd ct), sl⟩) (c : PySem.W.codeIn K cd x = true) (k : PySem.W.keepIn K (.ref f) = true)
    (hb : ∀ (kV doc pm : Value) (an : Option Addr) (cdv ct : Value) (us : List Value), us.length = ps.length → bindArgs (PySem.W.fnOf x x (defArgs st) (defBody st) (defScope st) .none kV doc pm an cdv ct) ⟨us, []⟩ = pure (ps.zip us)) : FnT K mg x st ps :=
  ⟨f, _, fun_mk l c k, (fun_mk l c k).binds hb, PySem.W.mg_of X G a⟩
structure Txt (K : PySem.W.Frag) (mg : Str → Option Value) where
  is_whole : FnT K mg "is_whole" s_is_whole ["thing"]
  is_within : FnT K mg "is_within" s_is_within ["thing", "least", "most"]
  is_line : FnT K mg "is_line" s_is_line ["thing", "size"]
  a_table : FnT K mg "a_table" s_a_table ["thing"]
  need_table : FnT K mg "need_table" s_need_table ["table"]
  need_place : FnT K mg "need_place" s_need_place ["table", "place"]
  all_places : FnT K mg "all_places" s_all_places ["table"]
  multiplied : FnT K mg "multiplied" s_multiplied ["one", "other"]
  no_nought : FnT K mg "no_nought" s_no_nought ["table"]
  marked : FnT K mg "marked" s_marked ["table"]
  marks : FnT K mg "marks" s_marks ["table"]
  turned : FnT K mg "turned" s_turned ["table"]
  is_order : FnT K mg "is_order" s_is_order ["table", "thing"]
  named_anew : FnT K mg "named_anew" s_named_anew ["table", "order"]
  renamed : FnT K mg "renamed" s_renamed ["table", "order"]
  first_of : FnT K mg "first_of" s_first_of ["table"]
  need_first : FnT K mg "need_first" s_need_first ["table"]
  marks_up_to : FnT K mg "marks_up_to" s_marks_up_to ["table", "most"]
  first_row : FnT K mg "first_row" s_first_row ["table", "place"]
  pair_of : FnT K mg "pair_of" s_pair_of ["powers", "one", "other"]
  first_pair : FnT K mg "first_pair" s_first_pair ["table", "one", "other"]
  first_pairs : FnT K mg "first_pairs" s_first_pairs ["table"]
  rows_meet : FnT K mg "rows_meet" s_rows_meet ["table"]
  meeting : FnT K mg "meeting" s_meeting ["table"]
  times_marks : FnT K mg "times_marks" s_times_marks ["one", "other"]
  courses : FnT K mg "courses" s_courses ["table"]
  need_number : FnT K mg "need_number" s_need_number ["k"]
  place_of : FnT K mg "place_of" s_place_of ["found", "at", "k"]
  marks_of : FnT K mg "marks_of" s_marks_of ["table", "k"]
  first_power : FnT K mg "first_power" s_first_power ["table"]
  u_law_cell : FnT K mg "_law_cell" s_u_law_cell ["_law_script", "_law_k"]
  u_law_pen : FnT K mg "_law_pen" s_u_law_pen ["_law_cell_here"]
  u_law_draw : FnT K mg "_law_draw" s_u_law_draw ["_law_pen_here", "_law_many"]
  u_law_size : FnT K mg "_law_size" s_u_law_size ["_law_pen_here"]
  u_law_order : FnT K mg "_law_order" s_u_law_order ["_law_pen_here", "_law_many"]
  u_law_good_table : FnT K mg "_law_good_table" s_u_law_good_table ["_law_pen_here", "_law_size_here"]
  u_law_right : FnT K mg "_law_right" s_u_law_right ["_law_table", "_law_order_here"]
  b_isinstance : mg "isinstance" = none
  b_int : mg "int" = none
  b_bool : mg "bool" = none
  b_tuple : mg "tuple" = none
  b_len : mg "len" = none
  b_all : mg "all" = none
  b_range : mg "range" = none
  b_sum : mg "sum" = none
  b_zip : mg "zip" = none
  b_sorted : mg "sorted" = none
  b_list : mg "list" = none
  b_any : mg "any" = none
  b_enumerate : mg "enumerate" = none
  b_max : mg "max" = none
  b_divmod : mg "divmod" = none
  c_MOST_ROWS : ∃ t, mg "MOST_ROWS" = some (.int (6) t)
  c_MOST_POWER : ∃ t, mg "MOST_POWER" = some (.int (10 ^ 30) t)
end K56
namespace K56
/-! ### the mathematics: marks of powers, over places below n -/
/-- the marks of the power m + 1 -/
def pw (n : Nat) (a : Nat → Nat → Bool) : Nat → Nat → Nat → Bool
  | 0, i, j => a i j
  | m + 1, i, j => (List.range n).any fun l => pw n a m i l && a l j
theorem any_range {n : Nat} {p : Nat → Bool} : (List.range n).any p = true ↔ ∃ l, l < n ∧ p l = true := by
  rw [List.any_eq_true]
  constructor
  · rintro ⟨l, h1, h2⟩
    exact ⟨l, List.mem_range.mp h1, h2⟩
  · rintro ⟨l, h1, h2⟩
    exact ⟨l, List.mem_range.mpr h1, h2⟩
theorem pw_succ {n : Nat} {a : Nat → Nat → Bool} {m i j : Nat} : pw n a (m + 1) i j = true ↔ ∃ l, l < n ∧ pw n a m i l = true ∧ a l j = true := by
  show (List.range n).any _ = true ↔ _
  rw [any_range]
  constructor
  · rintro ⟨l, h1, h2⟩
    rw [Bool.and_eq_true] at h2
    exact ⟨l, h1, h2.1, h2.2⟩
  · rintro ⟨l, h1, h2, h3⟩
    exact ⟨l, h1, by rw [h2, h3]; rfl⟩
/-- the first arrow taken off -/
theorem pw_left {n : Nat} {a : Nat → Nat → Bool} : ∀ {m i j : Nat}, pw n a (m + 1) i j = true ↔ ∃ l, l < n ∧ a i l = true ∧ pw n a m l j = true
  | 0, i, j => by
    rw [pw_succ]
    exact Iff.rfl
  | m + 1, i, j => by
    rw [pw_succ]
    constructor
    · rintro ⟨l, h1, h2, h3⟩
      obtain ⟨k, k1, k2, k3⟩ := pw_left.mp h2
      exact ⟨k, k1, k2, pw_succ.mpr ⟨l, h1, k3, h3⟩⟩
    · rintro ⟨l, h1, h2, h3⟩
      obtain ⟨k, k1, k2, k3⟩ := pw_succ.mp h3
      exact ⟨k, k1, pw_left.mpr ⟨l, h1, h2, k2⟩, k3⟩
def Fl (n : Nat) (b : Nat → Nat → Bool) : Prop := ∀ i j, i < n → j < n → b i j = true
def RowFl (n : Nat) (b : Nat → Nat → Bool) (i : Nat) : Prop := ∀ j, j < n → b i j = true
/-- two marks are the same at places below n -/
def Eqn (n : Nat) (b c : Nat → Nat → Bool) : Prop := ∀ i j, i < n → j < n → b i j = c i j
instance (n : Nat) (b : Nat → Nat → Bool) : Decidable (Fl n b) := decidable_of_iff (∀ i, i < n → ∀ j, j < n → b i j = true) ⟨fun h i j hi hj => h i hi j hj, fun h i hi j hj => h i j hi hj⟩
/-- k is the first power without a nought -/
def IsFirst (n : Nat) (a : Nat → Nat → Bool) (k : Nat) : Prop := 1 ≤ k ∧ Fl n (pw n a (k - 1)) ∧ ∀ m, m + 1 < k → ¬ Fl n (pw n a m)
theorem first_exists {n : Nat} {a : Nat → Nat → Bool} : ∀ {m : Nat}, Fl n (pw n a m) → ∃ k, k ≤ m + 1 ∧ IsFirst n a k := by
  intro m
  induction m using Nat.strongRecOn with
  | ind m ih =>
    intro h
    by_cases q : ∃ m', m' < m ∧ Fl n (pw n a m')
    · obtain ⟨m', h1, h2⟩ := q
      obtain ⟨k, k1, k2⟩ := ih m' h1 h2
      exact ⟨k, by omega, k2⟩
    · exact ⟨m + 1, Nat.le_refl _, by omega, h, fun m' h1 h2 => q ⟨m', by omega, h2⟩⟩
theorem first_unique {n : Nat} {a : Nat → Nat → Bool} {k l : Nat} (h : IsFirst n a k) (g : IsFirst n a l) : k = l := by
  obtain ⟨h1, h2, h3⟩ := h
  obtain ⟨g1, g2, g3⟩ := g
  rcases Nat.lt_trichotomy k l with q | q | q
  · exact absurd h2 (g3 (k - 1) (by omega))
  · exact q
  · exact absurd g2 (h3 (l - 1) (by omega))
/-- each column has an arrow, where a power is full -/
theorem col_of {n : Nat} {a : Nat → Nat → Bool} {m : Nat} (h : Fl n (pw n a m)) {j : Nat} (hj : j < n) : ∃ l, l < n ∧ a l j = true := by
  cases m with
  | zero => exact ⟨j, hj, h j j hj hj⟩
  | succ m =>
    obtain ⟨l, h1, _, h3⟩ := pw_succ.mp (h j j hj hj)
    exact ⟨l, h1, h3⟩
theorem row_stays {n : Nat} {a : Nat → Nat → Bool} (hc : ∀ j, j < n → ∃ l, l < n ∧ a l j = true) {i m : Nat} (h : RowFl n (pw n a m) i) : ∀ d, RowFl n (pw n a (m + d)) i
  | 0 => h
  | d + 1 => fun j hj => by
    obtain ⟨l, h1, h2⟩ := hc j hj
    exact pw_succ.mpr ⟨l, h1, row_stays hc h d l h1, h2⟩
theorem row_stays' {n : Nat} {a : Nat → Nat → Bool} (hc : ∀ j, j < n → ∃ l, l < n ∧ a l j = true) {i m m' : Nat} (h : RowFl n (pw n a m) i) (hm : m ≤ m') : RowFl n (pw n a m') i := by
  have := row_stays hc h (m' - m)
  rwa [Nat.add_sub_cancel' hm] at this
theorem full_stays {n : Nat} {a : Nat → Nat → Bool} {m m' : Nat} (h : Fl n (pw n a m)) (hm : m ≤ m') : Fl n (pw n a m') := fun i j hi hj =>
  row_stays' (fun j hj => col_of h hj) (i := i) (fun j hj => h i j hi hj) hm j hj
/-- the same marks from two powers on -/
theorem eqn_step {n : Nat} {a : Nat → Nat → Bool} {m m' : Nat} (h : Eqn n (pw n a m) (pw n a m')) : ∀ d, Eqn n (pw n a (m + d)) (pw n a (m' + d))
  | 0 => h
  | d + 1 => fun i j hi hj => by
    have ih := eqn_step h d
    have e : ∀ x y : Bool, (x = true ↔ y = true) → x = y := fun x y z => by cases x <;> cases y <;> simp_all
    refine e _ _ ?_
    show pw n a (m + d + 1) i j = true ↔ pw n a (m' + d + 1) i j = true
    rw [pw_succ, pw_succ]
    constructor
    · rintro ⟨l, h1, h2, h3⟩
      exact ⟨l, h1, by rw [← ih i l hi h1]; exact h2, h3⟩
    · rintro ⟨l, h1, h2, h3⟩
      exact ⟨l, h1, by rw [ih i l hi h1]; exact h2, h3⟩
/-- no two of the marks ahead of the first full ones are the same -/
theorem distinct {n : Nat} {a : Nat → Nat → Bool} {k m r : Nat} (h : IsFirst n a k) (h1 : m < r) (h2 : r < k) : ¬ Eqn n (pw n a m) (pw n a r) := fun e => by
  have z := eqn_step e (k - 1 - r)
  rw [show r + (k - 1 - r) = k - 1 by omega] at z
  refine h.2.2 (m + (k - 1 - r)) (by omega) fun i j hi hj => ?_
  rw [z i j hi hj]
  exact h.2.1 i j hi hj
/-- they come round -/
theorem eqn_round {n : Nat} {a : Nat → Nat → Bool} {at' L : Nat} (h : Eqn n (pw n a L) (pw n a at')) (hl : at' < L) : ∀ d, Eqn n (pw n a (at' + d)) (pw n a (at' + d % (L - at'))) := by
  intro d
  induction d using Nat.strongRecOn with
  | ind d ih =>
    by_cases hd : d < L - at'
    · rw [Nat.mod_eq_of_lt hd]
      exact fun _ _ _ _ => rfl
    · have e := ih (d - (L - at')) (by omega)
      rw [← Nat.mod_eq_sub_mod (by omega)] at e
      intro i j hi hj
      rw [← e i j hi hj]
      have z := eqn_step h (d - (L - at'))
      rw [show L + (d - (L - at')) = at' + d by omega] at z
      exact z i j hi hj

/-! ### pairs and rows -/
/-- q: the least number from which on no power has a nought at i, j -/
def IsPair (n : Nat) (a : Nat → Nat → Bool) (i j q : Nat) : Prop := 1 ≤ q ∧ (∀ m, q ≤ m + 1 → pw n a m i j = true) ∧ (q = 1 ∨ pw n a (q - 2) i j = false)
theorem pair_unique {n : Nat} {a : Nat → Nat → Bool} {i j q r : Nat} (h : IsPair n a i j q) (g : IsPair n a i j r) : q = r := by
  obtain ⟨h1, h2, h3⟩ := h
  obtain ⟨g1, g2, g3⟩ := g
  rcases Nat.lt_trichotomy q r with z | z | z
  · rcases g3 with y | y
    · omega
    · rw [h2 (r - 2) (by omega)] at y
      cases y
  · exact z
  · rcases h3 with y | y
    · omega
    · rw [g2 (q - 2) (by omega)] at y
      cases y
/-- r + 1: the least power whose row i is full -/
def IsRow (n : Nat) (a : Nat → Nat → Bool) (i r : Nat) : Prop := RowFl n (pw n a r) i ∧ ∀ m, m < r → ¬ RowFl n (pw n a m) i
theorem row_unique {n : Nat} {a : Nat → Nat → Bool} {i q r : Nat} (h : IsRow n a i q) (g : IsRow n a i r) : q = r := by
  rcases Nat.lt_trichotomy q r with z | z | z
  · exact absurd h.1 (g.2 q z)
  · exact z
  · exact absurd g.1 (h.2 r z)
theorem pair_le {n : Nat} {a : Nat → Nat → Bool} {k i j q : Nat} (h : IsFirst n a k) (hi : i < n) (hj : j < n) (g : IsPair n a i j q) : q ≤ k := by
  rcases g.2.2 with z | z
  · have := h.1
    omega
  · by_cases hq : q ≤ k
    · exact hq
    · rw [full_stays h.2.1 (m' := q - 2) (by omega) i j hi hj] at z
      cases z
/-- one pair has the first power's number -/
theorem pair_top {n : Nat} {a : Nat → Nat → Bool} {k : Nat} (hn : 0 < n) (h : IsFirst n a k) (p : Nat → Nat → Nat) (hp : ∀ i j, i < n → j < n → IsPair n a i j (p i j)) : ∃ i j, i < n ∧ j < n ∧ p i j = k := by
  by_cases hk : k = 1
  · refine ⟨0, 0, hn, hn, ?_⟩
    have h1 := (hp 0 0 hn hn).1
    have h2 := pair_le h hn hn (hp 0 0 hn hn)
    omega
  · have nf := h.2.2 (k - 2) (by have := h.1; omega)
    have : ∃ i j, i < n ∧ j < n ∧ pw n a (k - 2) i j = false := by
      by_cases q : ∃ i j, i < n ∧ j < n ∧ pw n a (k - 2) i j = false
      · exact q
      · exact absurd (fun i j hi hj => by
          cases e : pw n a (k - 2) i j with
          | true => rfl
          | false => exact absurd ⟨i, j, hi, hj, e⟩ q) nf
    obtain ⟨i, j, hi, hj, e⟩ := this
    refine ⟨i, j, hi, hj, ?_⟩
    have h1 := pair_le h hi hj (hp i j hi hj)
    by_cases q : p i j = k
    · exact q
    · rw [(hp i j hi hj).2.1 (k - 2) (by omega)] at e
      cases e
theorem row_le {n : Nat} {a : Nat → Nat → Bool} {k i r : Nat} (h : IsFirst n a k) (hi : i < n) (g : IsRow n a i r) : r + 1 ≤ k := by
  by_cases q : r + 1 ≤ k
  · exact q
  · exact absurd (fun j hj => h.2.1 i j hi hj) (g.2 (k - 1) (by have := h.1; omega))
theorem row_top {n : Nat} {a : Nat → Nat → Bool} {k : Nat} (hn : 0 < n) (h : IsFirst n a k) (r : Nat → Nat) (hr : ∀ i, i < n → IsRow n a i (r i)) : ∃ i, i < n ∧ r i + 1 = k := by
  have all : ¬ ∀ i, i < n → r i + 1 < k := fun q => by
    by_cases hk : k = 1
    · have := q 0 hn
      omega
    · refine h.2.2 (k - 2) (by have := h.1; omega) fun i j hi hj => ?_
      have := q i hi
      exact row_stays' (fun j hj => col_of h.2.1 hj) (hr i hi).1 (m' := k - 2) (by omega) j hj
  by_cases q : ∃ i, i < n ∧ r i + 1 = k
  · exact q
  · refine absurd (fun i hi => ?_) all
    have h1 := row_le h hi (hr i hi)
    have h2 : r i + 1 ≠ k := fun e => q ⟨i, hi, e⟩
    omega
/-- a row is full where all its pairs are, at the latest -/
theorem row_pairs {n : Nat} {a : Nat → Nat → Bool} {i r : Nat} (g : IsRow n a i r) (p : Nat → Nat) (hp : ∀ j, j < n → IsPair n a i j (p j)) (M : Nat) (hM : ∀ j, j < n → p j ≤ M) (h1 : 1 ≤ M) : r + 1 ≤ M := by
  by_cases q : r + 1 ≤ M
  · exact q
  · exact absurd (fun j hj => (hp j hj).2.1 (M - 1) (by have := hM j hj; omega)) (g.2 (M - 1) (by omega))
/-- a place behind an arrow is full no later than one step behind -/
theorem row_arrow {n : Nat} {a : Nat → Nat → Bool} {i l r q : Nat} (hl : l < n) (e : a i l = true) (g : IsRow n a i r) (f : IsRow n a l q) : r ≤ q + 1 := by
  by_cases z : r ≤ q + 1
  · exact z
  · exact absurd (fun j hj => pw_left.mpr ⟨l, hl, e, f.1 j hj⟩) (g.2 (q + 1) (by omega))

/-! ### turned, named anew -/
theorem pw_turn {n : Nat} {a : Nat → Nat → Bool} : ∀ {m i j : Nat}, pw n (fun i j => a j i) m i j = pw n a m j i
  | 0, i, j => rfl
  | m + 1, i, j => by
    have e : ∀ x y : Bool, (x = true ↔ y = true) → x = y := fun x y z => by cases x <;> cases y <;> simp_all
    refine e _ _ ?_
    rw [pw_succ, pw_left]
    constructor
    · rintro ⟨l, h1, h2, h3⟩
      exact ⟨l, h1, h3, by rw [← pw_turn]; exact h2⟩
    · rintro ⟨l, h1, h2, h3⟩
      exact ⟨l, h1, by rw [pw_turn]; exact h3, h2⟩
theorem pw_name {n : Nat} {a : Nat → Nat → Bool} {b : Nat → Nat} (hb : ∀ i, i < n → b i < n) (hs : ∀ i, i < n → ∃ i', i' < n ∧ b i' = i) : ∀ {m i j : Nat}, i < n → j < n → pw n (fun i j => a (b i) (b j)) m i j = pw n a m (b i) (b j)
  | 0, i, j, _, _ => rfl
  | m + 1, i, j, hi, hj => by
    have e : ∀ x y : Bool, (x = true ↔ y = true) → x = y := fun x y z => by cases x <;> cases y <;> simp_all
    refine e _ _ ?_
    rw [pw_succ, pw_succ]
    constructor
    · rintro ⟨l, h1, h2, h3⟩
      exact ⟨b l, hb l h1, by rw [← pw_name hb hs hi h1]; exact h2, h3⟩
    · rintro ⟨l, h1, h2, h3⟩
      obtain ⟨l', k1, rfl⟩ := hs l h1
      exact ⟨l', k1, by rw [pw_name hb hs hi k1]; exact h2, h3⟩
theorem pw_mono {n : Nat} {a b : Nat → Nat → Bool} (h : ∀ i j, i < n → j < n → a i j = true → b i j = true) : ∀ {m i j : Nat}, i < n → j < n → pw n a m i j = true → pw n b m i j = true
  | 0, i, j, hi, hj, e => h i j hi hj e
  | m + 1, i, j, hi, hj, e => by
    obtain ⟨l, h1, h2, h3⟩ := pw_succ.mp e
    exact pw_succ.mpr ⟨l, h1, pw_mono h hi h1 h2, h l j h1 hj h3⟩
theorem pw_congr {n : Nat} {a b : Nat → Nat → Bool} (h : Eqn n a b) {m i j : Nat} (hi : i < n) (hj : j < n) : pw n a m i j = pw n b m i j := by
  have e : ∀ x y : Bool, (x = true ↔ y = true) → x = y := fun x y z => by cases x <;> cases y <;> simp_all
  exact e _ _ ⟨pw_mono (fun i j hi hj q => by rw [← h i j hi hj]; exact q) hi hj, pw_mono (fun i j hi hj q => by rw [h i j hi hj]; exact q) hi hj⟩
theorem first_of_eq {n : Nat} {a b : Nat → Nat → Bool} (h : ∀ m, Fl n (pw n a m) ↔ Fl n (pw n b m)) {k : Nat} (f : IsFirst n a k) : IsFirst n b k :=
  ⟨f.1, (h _).mp f.2.1, fun m hm q => f.2.2 m hm ((h m).mpr q)⟩
theorem first_turn {n : Nat} {a : Nat → Nat → Bool} {k : Nat} (f : IsFirst n a k) : IsFirst n (fun i j => a j i) k :=
  first_of_eq (fun m => ⟨fun h i j hi hj => by rw [pw_turn]; exact h j i hj hi, fun h i j hi hj => by have := h j i hj hi; rw [pw_turn] at this; exact this⟩) f
theorem full_name {n : Nat} {a : Nat → Nat → Bool} {b : Nat → Nat} (hb : ∀ i, i < n → b i < n) (hs : ∀ i, i < n → ∃ i', i' < n ∧ b i' = i) (m : Nat) : Fl n (pw n a m) ↔ Fl n (pw n (fun i j => a (b i) (b j)) m) :=
  ⟨fun h i j hi hj => by rw [pw_name hb hs hi hj]; exact h _ _ (hb i hi) (hb j hj), fun h i j hi hj => by
    obtain ⟨i', h1, rfl⟩ := hs i hi
    obtain ⟨j', h2, rfl⟩ := hs j hj
    rw [← pw_name hb hs h1 h2]
    exact h i' j' h1 h2⟩
theorem first_name {n : Nat} {a : Nat → Nat → Bool} {b : Nat → Nat} (hb : ∀ i, i < n → b i < n) (hs : ∀ i, i < n → ∃ i', i' < n ∧ b i' = i) {k : Nat} (f : IsFirst n a k) : IsFirst n (fun i j => a (b i) (b j)) k :=
  first_of_eq (full_name hb hs) f
theorem first_congr {n : Nat} {a b : Nat → Nat → Bool} (h : Eqn n a b) {k : Nat} (f : IsFirst n a k) : IsFirst n b k :=
  first_of_eq (fun m => ⟨fun q i j hi hj => by rw [← pw_congr h hi hj]; exact q i j hi hj, fun q i j hi hj => by rw [pw_congr h hi hj]; exact q i j hi hj⟩) f
theorem pair_turn {n : Nat} {a : Nat → Nat → Bool} {i j q : Nat} (h : IsPair n (fun i j => a j i) i j q) : IsPair n a j i q :=
  ⟨h.1, fun m hm => by have := h.2.1 m hm; rwa [pw_turn] at this, h.2.2.imp id fun z => by rwa [pw_turn] at z⟩
theorem pair_name {n : Nat} {a : Nat → Nat → Bool} {b : Nat → Nat} (hb : ∀ i, i < n → b i < n) (hs : ∀ i, i < n → ∃ i', i' < n ∧ b i' = i) {i j q : Nat} (hi : i < n) (hj : j < n) (h : IsPair n (fun i j => a (b i) (b j)) i j q) : IsPair n a (b i) (b j) q :=
  ⟨h.1, fun m hm => by have := h.2.1 m hm; rwa [pw_name hb hs hi hj] at this, h.2.2.imp id fun z => by rwa [pw_name hb hs hi hj] at z⟩
theorem pair_congr {n : Nat} {a b : Nat → Nat → Bool} (e : Eqn n a b) {i j q : Nat} (hi : i < n) (hj : j < n) (h : IsPair n a i j q) : IsPair n b i j q :=
  ⟨h.1, fun m hm => by rw [← pw_congr e hi hj]; exact h.2.1 m hm, h.2.2.imp id fun z => by rw [← pw_congr e hi hj]; exact z⟩

/-! ### the tables that are made: a ring through all places with one arrow more -/
/-- the ring 0, 1, .., n - 1, and an arrow from the last place to c -/
def ring (n c : Nat) (i j : Nat) : Bool := j == (i + 1) % n || (i + 1 == n && j == c)
def tabB (n : Nat) (f : Nat → Nat → Bool) : List (List Bool) := (List.range n).map fun i => (List.range n).map fun j => f i j
def atB (T : List (List Bool)) (i j : Nat) : Bool := (T.getD i []).getD j false
theorem atB_tab {n : Nat} {f : Nat → Nat → Bool} {i j : Nat} (hi : i < n) (hj : j < n) : atB (tabB n f) i j = f i j := by
  unfold atB tabB
  simp [List.getD, List.getElem?_map, hi, hj]
def stepB (n : Nat) (T A : List (List Bool)) : List (List Bool) := (List.range n).map fun i => (List.range n).map fun j => (List.range n).any fun l => atB T i l && atB A l j
def powB (n : Nat) (A : List (List Bool)) : Nat → List (List Bool)
  | 0 => A
  | m + 1 => stepB n (powB n A m) A
theorem any_congr {n : Nat} {p q : Nat → Bool} (h : ∀ l, l < n → p l = q l) : (List.range n).any p = (List.range n).any q := by
  have e : ∀ x y : Bool, (x = true ↔ y = true) → x = y := fun x y z => by cases x <;> cases y <;> simp_all
  refine e _ _ ?_
  rw [any_range, any_range]
  constructor
  · rintro ⟨l, h1, h2⟩
    exact ⟨l, h1, by rw [← h l h1]; exact h2⟩
  · rintro ⟨l, h1, h2⟩
    exact ⟨l, h1, by rw [h l h1]; exact h2⟩
theorem powB_tab {n : Nat} {a : Nat → Nat → Bool} : ∀ m : Nat, powB n (tabB n a) m = tabB n (pw n a m)
  | 0 => rfl
  | m + 1 => by
    show stepB n (powB n (tabB n a) m) (tabB n a) = _
    rw [powB_tab m]
    unfold stepB
    show _ = (List.range n).map fun i => (List.range n).map fun j => pw n a (m + 1) i j
    refine List.map_congr_left fun i hi => List.map_congr_left fun j hj => ?_
    have hi' := List.mem_range.mp hi
    have hj' := List.mem_range.mp hj
    exact any_congr fun l hl => by rw [atB_tab hi' hl, atB_tab hl hj']
def fullB (T : List (List Bool)) : Bool := T.all fun r => r.all id
theorem full_of_B {n : Nat} {a : Nat → Nat → Bool} {m : Nat} (h : fullB (powB n (tabB n a) m) = true) : Fl n (pw n a m) := fun i j hi hj => by
  rw [powB_tab] at h
  unfold fullB at h
  rw [List.all_eq_true] at h
  have h1 := h ((List.range n).map fun j => pw n a m i j) (List.mem_map.mpr ⟨i, List.mem_range.mpr hi, rfl⟩)
  rw [List.all_eq_true] at h1
  exact h1 _ (List.mem_map.mpr ⟨j, List.mem_range.mpr hj, rfl⟩)
theorem ring_all : ∀ n, n < 7 → 1 ≤ n → fullB (powB n (tabB n (ring n (1 % n))) ((n - 1) * (n - 1))) = true ∧ fullB (powB n (tabB n (ring n (n - 1))) ((n - 1) * (n - 1))) = true := by
  decide +kernel
theorem ring_full {n c : Nat} (h1 : 1 ≤ n) (h6 : n ≤ 6) (hc : c = 1 % n ∨ c = n - 1) : Fl n (pw n (ring n c) ((n - 1) * (n - 1))) := by
  obtain ⟨q1, q2⟩ := ring_all n (by omega) h1
  rcases hc with rfl | rfl
  · exact full_of_B q1
  · exact full_of_B q2
/-- a table with a ring along o and an arrow from o's last place to o c has a first power -/
theorem good_first {n c : Nat} {a : Nat → Nat → Bool} {o : Nat → Nat} (h1 : 1 ≤ n) (h6 : n ≤ 6) (hc : c = 1 % n ∨ c = n - 1) (ho : ∀ i, i < n → o i < n) (hs : ∀ i, i < n → ∃ i', i' < n ∧ o i' = i)
    (hr : ∀ i, i < n → a (o i) (o ((i + 1) % n)) = true) (hx : a (o (n - 1)) (o c) = true) : ∃ k, k ≤ (n - 1) * (n - 1) + 1 ∧ IsFirst n a k := by
  have hf : Fl n (pw n (fun i j => a (o i) (o j)) ((n - 1) * (n - 1))) := fun i j hi hj => by
    refine pw_mono (a := ring n c) (fun i j hi hj e => ?_) hi hj (ring_full h1 h6 hc i j hi hj)
    unfold ring at e
    simp only [Bool.or_eq_true, Bool.and_eq_true, beq_iff_eq] at e
    rcases e with rfl | ⟨e1, rfl⟩
    · exact hr i hi
    · rw [show i = n - 1 by omega]
      exact hx
  exact first_exists ((full_name ho hs _).mpr hf)
end K56
namespace K56
open PySem PySem.Spec PyProof.Rows L2 Evl

/-! ### heaps: what never changes stays -/
def ExT (H H' : Hp) : Prop := (∀ a xs, H a = some (.tup xs) → H' a = some (.tup xs)) ∧ ∀ a o u, H a = some (.frz o u) → H' a = some (.frz o u)
theorem ex_T {H H' : Hp} (e : Ex H H') : ExT H H' := ⟨fun a xs h => e a _ h, fun a o u h => e a _ h⟩
theorem ExT.refl (H : Hp) : ExT H H := ⟨fun _ _ h => h, fun _ _ _ h => h⟩
theorem ExT.trans {H H1 H2 : Hp} (a : ExT H H1) (b : ExT H1 H2) : ExT H H2 := ⟨fun x y h => b.1 x y (a.1 x y h), fun x y z h => b.2 x y z (a.2 x y z h)⟩
theorem ext_lst {H : Hp} {p : Addr} {xs ys : List V} (h : H p = some (.lst xs)) : ExT H (upd H p (.lst ys)) :=
  ⟨fun a zs e => by rw [upd_ne (ne_of e h (fun z => nomatch z))]; exact e, fun a o u e => by rw [upd_ne (ne_of e h (fun z => nomatch z))]; exact e⟩
theorem ext_t {K : PySem.W.Frag} {H H' : Hp} {a : Addr} {xs : List V} (e : ExT H H') (h : SqT K H a xs) : SqT K H' a xs := by
  rcases h with (h | ⟨o, h⟩) | h
  · exact .inl (.inl (e.1 a _ h))
  · exact .inl (.inr ⟨o, e.2 a o _ h⟩)
  · exact .inr h
/-- what is said of a value stays while what never changes stays; while all stays -/
def Mt (R : V → Hp → Prop) : Prop := ∀ v H H', ExT H H' → R v H → R v H'
def Me (R : V → Hp → Prop) : Prop := ∀ v H H', Ex H H' → R v H → R v H'
theorem Mt.e {R : V → Hp → Prop} (m : Mt R) : Me R := fun v H H' e h => m v H H' (ex_T e) h
def IsV (v : V) : V → Hp → Prop := fun x _ => x = v
theorem mt_is (v : V) : Mt (IsV v) := fun _ _ _ _ h => h
/-- a tuple of n things, the i-th as R i says -/
def TAt (K : PySem.W.Frag) (n : Nat) (R : Nat → V → Hp → Prop) : V → Hp → Prop := fun v H => ∃ (a : Addr) (rs : Nat → V), v = .ref a ∧ SqT K H a ((List.range n).map rs) ∧ ∀ i, i < n → R i (rs i) H
theorem mt_tup {K : PySem.W.Frag} {n : Nat} {R : Nat → V → Hp → Prop} (m : ∀ i, Mt (R i)) : Mt (TAt K n R) := fun v H H' e ⟨a, rs, h1, h2, h3⟩ => ⟨a, rs, h1, ext_t e h2, fun i hi => m i _ _ _ e (h3 i hi)⟩
abbrev Row (K : PySem.W.Frag) (n : Nat) (f : Nat → Int) : V → Hp → Prop := TAt K n fun j => IsV (.int (f j))
abbrev Tab (K : PySem.W.Frag) (n : Nat) (f : Nat → Nat → Int) : V → Hp → Prop := TAt K n fun i => Row K n (f i)
theorem mt_row {K : PySem.W.Frag} {n : Nat} {f : Nat → Int} : Mt (Row K n f) := mt_tup fun _ => mt_is _
theorem mt_tab {K : PySem.W.Frag} {n : Nat} {f : Nat → Nat → Int} : Mt (Tab K n f) := mt_tup fun _ => mt_row
theorem map_range_congr {n : Nat} {f g : Nat → V} (h : ∀ i, i < n → f i = g i) : (List.range n).map f = (List.range n).map g := List.map_congr_left fun i hi => h i (List.mem_range.mp hi)
theorem row_seq {K : PySem.W.Frag} {n : Nat} {f : Nat → Int} {v : V} {H : Hp} (h : Row K n f v H) : ∃ a, v = .ref a ∧ SqT K H a ((List.range n).map fun j => V.int (f j)) := by
  obtain ⟨a, rs, h1, h2, h3⟩ := h
  rw [map_range_congr h3] at h2
  exact ⟨a, h1, h2⟩
theorem get_range {n i : Nat} {α : Type} {f : Nat → α} (h : i < n) : ((List.range n).map f)[i]? = some (f i) := by
  rw [List.getElem?_map, List.getElem?_range h]
  rfl
theorem at_range {n i : Nat} {α : Type} {f : Nat → α} (h : i < n) : atI ((List.range n).map f) (i : Int) = some (f i) := atI_nat (get_range h)

/-! ### what evaluates to what: told by what is true of it -/
def EvR (te : TE) (σ : L2.St) (H : Hp) (R : V → Hp → Prop) : Prop := ∀ H1, Ex H H1 → ∀ Q : VK, (∀ v H2, Ex H1 H2 → R v H2 → Q v H2) → te σ H1 Q
/-- a new list of n things -/
def EvLR (te : TE) (σ : L2.St) (H : Hp) (n : Nat) (R : Nat → V → Hp → Prop) : Prop := ∀ H1, Ex H H1 → ∀ Q : VK,
  (∀ p rs H2, H1 p = none → Ex H1 H2 → H2 p = some (.lst ((List.range n).map rs)) → (∀ i, i < n → R i (rs i) H2) → Q (.ref p) H2) → te σ H1 Q
def EvAR (ta : TA) (σ : L2.St) (H : Hp) (R : List V → Hp → Prop) : Prop := ∀ H1, Ex H H1 → ∀ Q : List V → Hp → Prop, (∀ vs H2, Ex H1 H2 → R vs H2 → Q vs H2) → ta σ H1 Q
def SpR (sp : Sp) (vs : List V) (H : Hp) (R : V → Hp → Prop) : Prop := ∀ H1, Ex H H1 → ∀ Q : VK, (∀ v H2, Ex H1 H2 → R v H2 → Q v H2) → ∀ E : XK, sp vs H1 Q E
section
variable {K : PySem.W.Frag} {σ : L2.St} {H H' : Hp} {ta tb te : TE} {v x y : V} {R R1 R2 : V → Hp → Prop} {S : Nat → V → Hp → Prop} {n : Nat}
theorem EvR.mono (e : Ex H H') (h : EvR te σ H R) : EvR te σ H' R := fun H1 a Q q => h H1 (e.trans a) Q q
theorem EvR.imp (h : EvR te σ H R) (i : ∀ v H1, Ex H H1 → R v H1 → R2 v H1) : EvR te σ H R2 := fun H1 a Q q => h H1 a Q fun v H2 e r => q v H2 e (i v H2 (a.trans e) r)
theorem EvR.of (h : Ev te σ H v) (m : Me R) (r : R v H) : EvR te σ H R := fun H1 a Q q => h H1 a Q fun H2 e => q v H2 e (m v H H2 (a.trans e) r)
theorem EvR.is (h : Ev te σ H v) : EvR te σ H (IsV v) := fun H1 a Q q => h H1 a Q fun H2 e => q v H2 e rfl
theorem EvR.ev (h : EvR te σ H (IsV v)) : Ev te σ H v := fun H1 a Q q => h H1 a Q fun w H2 e (r : w = v) => by
  subst r
  exact q H2 e
theorem EvLR.mono (e : Ex H H') (h : EvLR te σ H n S) : EvLR te σ H' n S := fun H1 a Q q => h H1 (e.trans a) Q q
theorem EvLR.l {f : Nat → V} (h : EvLR te σ H n fun i => IsV (f i)) : EvL te σ H ((List.range n).map f) := fun H1 a Q q => h H1 a Q fun p rs H2 hp e e2 r => q p H2 hp e (by
  rw [e2, map_range_congr r])
theorem EvL.r {f : Nat → V} (h : EvL te σ H ((List.range n).map f)) : EvLR te σ H n fun i => IsV (f i) := fun H1 a Q q => h H1 a Q fun p H2 hp e e2 => q p f H2 hp e e2 fun _ _ => rfl
theorem evr_bind (ha : EvR ta σ H R1) {k : V → Hp → VK → Prop} (hk : ∀ x H1, Ex H H1 → R1 x H1 → ∀ Q : VK, (∀ v H2, Ex H1 H2 → R v H2 → Q v H2) → k x H1 Q) : EvR (fun σ H Q => ta σ H fun x H1 => k x H1 Q) σ H R := fun H1 e Q q =>
  ha H1 e _ fun x H2 e2 r => hk x H2 (e.trans e2) r Q fun v H3 e3 r3 => q v H3 (e2.trans e3) r3
/-- arguments -/
theorem ear_nil : EvAR tNil σ H (fun vs _ => vs = []) := fun H1 _ _ q => q [] H1 (Ex.refl H1) rfl
theorem ear_cons {tr : TA} {R3 : List V → Hp → Prop} (h : EvR ta σ H R1) (m : Me R1) (hr : ∀ H1, Ex H H1 → EvAR tr σ H1 R3) : EvAR (tCons ta tr) σ H (fun vs H' => ∃ x xs, vs = x :: xs ∧ R1 x H' ∧ R3 xs H') := fun H1 e Q q =>
  h H1 e _ fun x H2 e2 r => hr H2 (e.trans e2) H2 (Ex.refl H2) _ fun xs H3 e3 r3 => q _ H3 (e2.trans e3) ⟨x, xs, rfl, m x H2 H3 e3 r, r3⟩
theorem evr_call {sp : Sp} {dvs : List V} {E : XK} {t : TA} {RA : List V → Hp → Prop} (h : EvAR t σ H RA) (hs : ∀ vs H1, Ex H H1 → RA vs H1 → SpR sp (vs ++ dvs) H1 R) : EvR (tCall sp dvs E t) σ H R := fun H1 e Q q =>
  h H1 e _ fun vs H2 e2 r => hs vs H2 (e.trans e2) r H2 (Ex.refl H2) Q (fun v H3 e3 r3 => q v H3 (e2.trans e3) r3) E
/-- calls whose arguments are told by values -/
theorem evr_callV {sp : Sp} {dvs vs : List V} {E : XK} {t : TA} (h : EvA t σ H vs) (hs : SpR sp (vs ++ dvs) H R) : EvR (tCall sp dvs E t) σ H R := fun H1 e Q q =>
  h H1 e _ fun H2 e2 => hs H2 (e.trans e2) Q (fun v H3 e3 r3 => q v H3 (e2.trans e3) r3) E
theorem evr_call1 {sp : Sp} {E : XK} (h : EvR ta σ H R1) (hs : ∀ x H1, Ex H H1 → R1 x H1 → SpR sp [x] H1 R) : EvR (tCall sp [] E (tCons ta tNil)) σ H R := fun H1 e Q q =>
  h H1 e _ fun x H2 e2 r => hs x H2 (e.trans e2) r H2 (Ex.refl H2) Q (fun v H3 e3 r3 => q v H3 (e2.trans e3) r3) E
/-- an item of a tuple -/
theorem ev_ixT {i : Nat} (ha : Ev ta σ H v) (hv : TAt K n S v H) (hb : Ev tb σ H (.int (i : Int))) (hi : i < n) : ∃ x, S i x H ∧ Ev (tOp (rIxT K) ta tb) σ H x := by
  obtain ⟨a, rs, rfl, h2, h3⟩ := hv
  exact ⟨rs i, h3 i hi, ev_op ha hb (rv_ixT h2 (at_range hi))⟩
theorem ev_ix2 {f : Nat → Nat → Int} {tc : TE} {i j : Nat} (ha : Ev ta σ H v) (hv : Tab K n f v H) (hb : Ev tb σ H (.int (i : Int))) (hi : i < n) (hc : Ev tc σ H (.int (j : Int))) (hj : j < n) :
    Ev (tOp (rIxT K) (tOp (rIxT K) ta tb) tc) σ H (.int (f i j)) := by
  obtain ⟨x, h1, h2⟩ := ev_ixT ha hv hb hi
  obtain ⟨y, h3, h4⟩ := ev_ixT h2 h1 hc hj
  have h3 : y = .int (f i j) := h3
  subst h3
  exact h4
/-- an item of a tuple that evaluates so -/
theorem evr_ixT {i : Nat} (ha : EvR ta σ H (TAt K n S)) (hm : ∀ i, Mt (S i)) (hb : Ev tb σ H (.int (i : Int))) (hi : i < n) : EvR (tOp (rIxT K) ta tb) σ H (S i) := fun H1 e Q q =>
  ha H1 e _ fun x H2 e2 ⟨a, rs, h1, h2, h3⟩ => by
    subst h1
    exact hb H2 (e.trans e2) _ fun H3 e3 => ⟨a, _, _, rs i, rfl, rfl, ex_t e3 h2, at_range hi, q _ H3 (e2.trans e3) (hm i _ _ _ (ex_T e3) (h3 i hi))⟩
theorem evr_ix2 {f : Nat → Nat → Int} {tc : TE} {i j : Nat} (ha : EvR ta σ H (Tab K n f)) (hb : Ev tb σ H (.int (i : Int))) (hi : i < n) (hc : Ev tc σ H (.int (j : Int))) (hj : j < n) :
    Ev (tOp (rIxT K) (tOp (rIxT K) ta tb) tc) σ H (.int (f i j)) := (evr_ixT (evr_ixT ha (fun _ => mt_row) hb hi) (fun _ => mt_is _) hc hj).ev
/-- len of a tuple -/
theorem ev_lenT (ha : Ev ta σ H v) (hv : TAt K n S v H) : Ev (tCB (rLenS K) (tCons ta tNil)) σ H (.int (n : Int)) := fun H1 e Q q =>
  ha H1 e _ fun H2 e2 => by
    obtain ⟨a, rs, rfl, h2, h3⟩ := hv
    have hl : (((List.range n).map rs).length : Int) = (n : Int) := by rw [List.length_map, List.length_range]
    refine ⟨a, _, rfl, .inr (ex_t (e.trans e2) h2), ?_⟩
    rw [hl]
    exact q H2 e2
/-- tuple of a new list -/
def rTupOf (K : PySem.W.Frag) : List V → Hp → VK → Prop := fun xs H Q => ∃ p ys, xs = [.ref p] ∧ ((SqL K H p ys ∧ ∀ l, H l = none → Q (.ref l) (upd H l (.tup ys))) ∨ (SqT K H p ys ∧ Q (.ref p) H))
theorem evr_tupOf (h : EvLR ta σ H n S) (hm : ∀ i, Mt (S i)) : EvR (tCB (rTupOf K) (tCons ta tNil)) σ H (TAt K n S) := fun H1 e Q q =>
  h H1 e _ fun p rs H2 hp e2 h2 h3 => ⟨p, _, rfl, .inl ⟨sq_of h2, fun l hl => q _ _ (e2.trans (Ex.new hl)) ⟨l, rs, rfl, st_of upd_same, fun i hi => hm i _ _ _ (ex_T (Ex.new hl)) (h3 i hi)⟩⟩⟩

/-! ### walks -/
structure WalkR (J : It) (n : Nat) (H0 : Hp) (S : Nat → V → Hp → Prop) : Prop where
  goes : ∀ i H, i < n → Ex H0 H → J.go i H
  stops : ∀ H, Ex H0 H → J.stop n H
  yields : ∀ i H x H', i < n → Ex H0 H → J.yld i H x H' → Ex H H' ∧ S i x H'
theorem WalkR.w {J : It} {H0 : Hp} (w : WalkR J n H0 S) : Walk J n (Ex H0) fun i H x H' => Ex H H' ∧ S i x H' := ⟨w.goes, w.stops, w.yields⟩
def Src (wi : TI) (σ : L2.St) (H : Hp) (n : Nat) (S : Nat → V → Hp → Prop) : Prop := ∀ H1, Ex H H1 → ∀ R, (∀ J H2, Ex H1 H2 → WalkR J n H2 S → R J H2) → wi σ H1 R
theorem src_tup (h : EvR te σ H (TAt K n S)) (hm : ∀ i, Mt (S i)) : Src (iTup K te) σ H n S := fun H1 e R k => h H1 e _ fun v H2 e2 ⟨a, rs, h1, h2, h3⟩ => by
  have hl : ((List.range n).map rs).length = n := by rw [List.length_map, List.length_range]
  refine ⟨a, h1, ⟨_, h2⟩, k _ H2 e2 ⟨fun i H3 hi e3 => (walk_tup (xs := (List.range n).map rs)).goes i H3 (by rw [hl]; exact hi) (ex_t e3 h2), fun H3 e3 => ?_, fun i H3 x H4 hi e3 y => ?_⟩⟩
  · have := (walk_tup (K := K) (a := a) (xs := (List.range n).map rs)).stops H3 (ex_t e3 h2)
    rw [hl] at this
    exact this
  · obtain ⟨y1, y2⟩ := (walk_tup (xs := (List.range n).map rs)).yields i H3 x H4 (by rw [hl]; exact hi) (ex_t e3 h2) y
    subst y1
    rw [get_range hi] at y2
    cases y2
    exact ⟨Ex.refl _, hm i _ _ _ (ex_T e3) (h3 i hi)⟩
theorem walkR_list {a : Addr} {rs : Nat → V} {H2 : Hp} (h2 : SqL K H2 a ((List.range n).map rs)) (h3 : ∀ i, i < n → S i (rs i) H2) (hm : ∀ i, Mt (S i)) : WalkR (Itl K a) n H2 S := by
  have hl : ((List.range n).map rs).length = n := by rw [List.length_map, List.length_range]
  refine ⟨fun i H3 hi e3 => (walk_list (xs := (List.range n).map rs)).goes i H3 (by rw [hl]; exact hi) (ex_l e3 h2), fun H3 e3 => ?_, fun i H3 x H4 hi e3 y => ?_⟩
  · have := (walk_list (K := K) (a := a) (xs := (List.range n).map rs)).stops H3 (ex_l e3 h2)
    rw [hl] at this
    exact this
  · obtain ⟨y1, y2⟩ := (walk_list (xs := (List.range n).map rs)).yields i H3 x H4 (by rw [hl]; exact hi) (ex_l e3 h2) y
    subst y1
    rw [get_range hi] at y2
    cases y2
    exact ⟨Ex.refl _, hm i _ _ _ (ex_T e3) (h3 i hi)⟩
theorem src_new (h : EvLR te σ H n S) (hm : ∀ i, Mt (S i)) : Src (iList K te) σ H n S := fun H1 e R k => h H1 e _ fun p rs H2 hp e2 h2 h3 =>
  ⟨p, rfl, ⟨_, sq_of h2⟩, k _ H2 e2 (walkR_list (sq_of h2) h3 hm)⟩
theorem src_list {a : Addr} {rs : Nat → V} (h : Ev te σ H (.ref a)) (h2 : SqL K H a ((List.range n).map rs)) (h3 : ∀ i, i < n → S i (rs i) H) (hm : ∀ i, Mt (S i)) : Src (iList K te) σ H n S := fun H1 e R k => h H1 e _ fun H2 e2 =>
  ⟨a, rfl, ⟨_, ex_l (e.trans e2) h2⟩, k _ H2 e2 (walkR_list (ex_l (e.trans e2) h2) (fun i hi => hm i _ _ _ (ex_T (e.trans e2)) (h3 i hi)) hm)⟩
theorem src_range {t : TA} {m : Int} (h : EvA t σ H [.int m]) (hn : m = (n : Int)) (hz : n ≤ 100000) : Src (iRng1 t) σ H n fun i => IsV (.int (i : Int)) := fun H1 e R k => h H1 e _ fun H2 e2 => by
  subst hn
  refine ⟨_, rfl, by omega, by omega, k _ H2 e2 ⟨fun i H3 hi e3 => ?_, fun H3 e3 => ?_, fun i H3 x H4 hi e3 y => ?_⟩⟩
  · exact (walk_range (lo := 0)).goes i H3 (by omega) trivial
  · exact (walk_range (lo := 0) (n := ((n : Int)).toNat)).stops H3 trivial
  · obtain ⟨y1, y2⟩ := (walk_range (lo := 0)).yields i H3 x H4 (show i < ((n : Int)).toNat by omega) trivial y
    subst y1 y2
    exact ⟨Ex.refl _, by show V.int (0 + (i : Int)) = V.int (i : Int); rw [Int.zero_add]⟩

/-! ### comprehensions -/
theorem len_get {α : Type} {xs : List α} {n : Nat} {d : α} (h : xs.length = n) : xs = (List.range n).map fun i => xs.getD i d := by
  apply List.ext_getElem?
  intro i
  by_cases hi : i < n
  · rw [get_range hi]
    have h' : i < xs.length := by omega
    rw [List.getElem?_eq_getElem h', List.getD_eq_getElem?_getD, List.getElem?_eq_getElem h']
    rfl
  · rw [List.getElem?_eq_none (by omega), List.getElem?_eq_none (by rw [List.length_map, List.length_range]; omega)]
theorem lcR {wi : TI} {g : TG} {vs : List Nat} {R : Nat → V → Hp → Prop} (hw : Src wi σ H n S) (hm : ∀ i, Mt (R i)) (hn : n ≤ 40000)
    (hs : ∀ i x H1, i < n → Ex H H1 → S i x H1 → ∃ σ2, (∀ Q : L2.St → Hp → Prop, (∀ H2, Ex H1 H2 → Q σ2 H2) → g x (wipe σ vs) H1 Q) ∧ wipe σ2 vs = wipe σ vs ∧ EvR te σ2 H1 (R i)) :
    EvLR (tLc wi g tYes te vs) σ H n R := fun H0 e Q q => hw H0 e _ fun J H1 e1 w D hD => by
  refine lc_it w.w (fun i H' => Ex H1 H' ∧ ∃ acc, H' D = some (.lst acc) ∧ acc.length = i ∧ ∀ j, j < i → R j (acc.getD j .non) H') ⟨Ex.new hD, [], upd_same, rfl, fun j hj => absurd hj (Nat.not_lt_zero j)⟩ (fun i H' _ p => p.1) (fun i x H2 H3 hi p y => ?_) (fun H2 p => ?_)
  · obtain ⟨p1, acc, p2, p3, p4⟩ := p
    obtain ⟨y1, y2⟩ := y
    obtain ⟨σ2, g1, g2, g3⟩ := hs i x H3 hi (((e.trans e1).trans p1).trans y1) y2
    refine g1 _ fun H4 e4 => ⟨g2, ?_⟩
    show te σ2 H4 _
    refine g3 H4 e4 _ fun v H5 e5 r5 => ?_
    have hD5 : H5 D = some (.lst acc) := e5 D _ (e4 D _ (y1 D _ p2))
    refine ⟨acc, hD5, Nat.lt_of_le_of_lt (show acc.length ≤ 40000 by omega) (by decide), Ex.mut (((p1.trans y1).trans e4).trans e5) hD, acc ++ [v], upd_same, by rw [List.length_append, p3]; rfl, fun j hj => ?_⟩
    refine hm j _ _ _ (ext_lst hD5) ?_
    by_cases hji : j < i
    · rw [List.getD_eq_getElem?_getD, List.getElem?_append_left (by omega), ← List.getD_eq_getElem?_getD]
      exact (hm j).e _ _ _ ((y1.trans e4).trans e5) (p4 j hji)
    · have : j = i := by omega
      subst this
      rw [List.getD_eq_getElem?_getD, List.getElem?_append_right (by omega), p3, Nat.sub_self]
      exact r5
  · obtain ⟨p1, acc, p2, p3, p4⟩ := p
    refine q D (fun i => acc.getD i .non) H2 (fresh_back e1 hD) (e1.trans p1) (by rw [p2]; exact congrArg some (congrArg HO.lst (len_get p3))) p4
/-- the target a name -/
theorem lcN {wi : TI} {j : Nat} {vs : List Nat} {R : Nat → V → Hp → Prop} (hw : Src wi σ H n S) (hm : ∀ i, Mt (R i)) (hn : n ≤ 40000) (hwi : ∀ x, wipe ((wipe σ vs).set j (some x)) vs = wipe σ vs)
    (hs : ∀ i x H1, i < n → Ex H H1 → S i x H1 → EvR te ((wipe σ vs).set j (some x)) H1 (R i)) : EvLR (tLc wi (gName j) tYes te vs) σ H n R :=
  lcR hw hm hn fun i x H1 hi e s => ⟨(wipe σ vs).set j (some x), fun Q q => q H1 (Ex.refl H1), hwi x, hs i x H1 hi e s⟩
/-- the elements told by values -/
theorem lcV {wi : TI} {j : Nat} {vs : List Nat} {f : Nat → V} (hw : Src wi σ H n S) (hn : n ≤ 40000) (hwi : ∀ x, wipe ((wipe σ vs).set j (some x)) vs = wipe σ vs)
    (hs : ∀ i x H1, i < n → Ex H H1 → S i x H1 → Ev te ((wipe σ vs).set j (some x)) H1 (f i)) : EvL (tLc wi (gName j) tYes te vs) σ H ((List.range n).map f) :=
  (lcN (R := fun i => IsV (f i)) hw (fun _ => mt_is _) hn hwi fun i x H1 hi e s => .is (hs i x H1 hi e s)).l

/-! ### statements -/
variable {D : Ends} {tu tz : TS}
theorem s_asgR {i : Nat} (h : EvR te σ H R) (k : ∀ v H1, Ex H H1 → R v H1 → D.nx (σ.set i (some v)) H1) : tAsg te (gName i) D σ H := h H (Ex.refl H) _ fun v H1 e r => k v H1 e r
theorem q_asgR {i : Nat} (h : EvR te σ H R) (k : ∀ v H1, Ex H H1 → R v H1 → tz D (σ.set i (some v)) H1) : tSeq (tAsg te (gName i)) tz D σ H := s_asgR (D := { D with nx := tz D }) h k
theorem s_asgN {i : Nat} (h : EvLR te σ H n S) (k : ∀ p rs H1, H p = none → Ex H H1 → H1 p = some (.lst ((List.range n).map rs)) → (∀ i, i < n → S i (rs i) H1) → D.nx (σ.set i (some (.ref p))) H1) : tAsg te (gName i) D σ H := h H (Ex.refl H) _ k
theorem q_asgN {i : Nat} (h : EvLR te σ H n S) (k : ∀ p rs H1, H p = none → Ex H H1 → H1 p = some (.lst ((List.range n).map rs)) → (∀ i, i < n → S i (rs i) H1) → tz D (σ.set i (some (.ref p))) H1) : tSeq (tAsg te (gName i)) tz D σ H := s_asgN (D := { D with nx := tz D }) h k
theorem s_retR (h : EvR te σ H R) (k : ∀ v H1, Ex H H1 → R v H1 → D.rt v H1) : tRet te D σ H := h H (Ex.refl H) _ k
theorem s_dropR (h : EvR te σ H R) (k : ∀ v H1, Ex H H1 → R v H1 → D.nx σ H1) : tDrop te D σ H := h H (Ex.refl H) _ k
theorem q_dropR (h : EvR te σ H R) (k : ∀ v H1, Ex H H1 → R v H1 → tz D σ H1) : tSeq (tDrop te) tz D σ H := h H (Ex.refl H) _ k
/-- all, any, sum of a new list -/
theorem ev_all {f : Nat → Bool} (h : EvL ta σ H ((List.range n).map fun i => V.bl (f i))) : Ev (tCB (rAll K) (tCons ta tNil)) σ H (.bl ((List.range n).all f)) := fun H1 e Q q =>
  h H1 e _ fun p H2 hp e2 h2 => ⟨p, (List.range n).map f, rfl, sq_of (by rw [h2, List.map_map]; rfl), by rw [List.all_map]; exact q H2 e2⟩
theorem ev_any {f : Nat → Bool} (h : EvL ta σ H ((List.range n).map fun i => V.bl (f i))) : Ev (tCB (rAny K) (tCons ta tNil)) σ H (.bl ((List.range n).any f)) := fun H1 e Q q =>
  h H1 e _ fun p H2 hp e2 h2 => ⟨p, (List.range n).map f, rfl, sq_of (by rw [h2, List.map_map]; rfl), by rw [List.any_map]; exact q H2 e2⟩
theorem ev_sum {f : Nat → Int} (h : EvL ta σ H ((List.range n).map fun i => V.int (f i))) : Ev (tCB (rSum K) (tCons ta tNil)) σ H (.int ((List.range n).map f).sum) := fun H1 e Q q =>
  h H1 e _ fun p H2 hp e2 h2 => ⟨p, (List.range n).map f, rfl, sq_of (by rw [h2, List.map_map]; rfl), q H2 e2⟩
def rInt1 : List V → Hp → VK → Prop := fun xs H Q => (∃ i, xs = [.int i] ∧ Q (.int i) H) ∨ ∃ k, xs = [.bl k] ∧ Q (.int (if k then 1 else 0)) H
theorem ev_intB {b : Bool} (h : Ev ta σ H (.bl b)) : Ev (tCB rInt1 (tCons ta tNil)) σ H (.int (if b then 1 else 0)) := fun H1 e Q q => h H1 e _ fun H2 e2 => .inr ⟨b, rfl, q H2 e2⟩
end
theorem hu65 {A : Around} {k : Nat} (hr : Room k A) : A.units + 65 < cLine := by
  have := hr.un
  omega
end K56
namespace K56
open PySem PySem.Spec PyProof.Rows L2 Evl

/-! ### zip of a tuple and a list (the layer has two lists, two tuples) -/
def ItzM (K : PySem.W.Frag) (a b : Addr) : It where
  go i H := ∃ (xs ys : List V) (x y : V), SqT K H a xs ∧ SqL K H b ys ∧ xs[i]? = some x ∧ ys[i]? = some y
  yld i H v H' := ∃ T x y, v = .ref T ∧ H T = none ∧ H' = upd H T (.tup [x, y]) ∧ (∀ xs, SqT K H a xs → xs[i]? = some x) ∧ ∀ ys, SqL K H b ys → ys[i]? = some y
  stop i H := ∃ xs ys : List V, SqT K H a xs ∧ SqL K H b ys ∧ i ≤ xs.length ∧ i ≤ ys.length ∧ (i = xs.length ∨ i = ys.length)
/-- the zip's own records as they stand at turn i -/
def ZipAt (z TI TO i1 i2 a b : Addr) (i : Nat) (h : Heap) : Prop :=
  IsZip h z TI TO .none ∧ IsTupOf2 h TI (.ref i1) (.ref i2) ∧ (∃ x y, IsTupOf2 h TO x y) ∧ h.IsTupleIter i1 a i ∧ h.IsListIter i2 b i
theorem ne_iterT {h : Heap} {a it : Addr} {i : Nat} {xs : Array Value} (p : IsTup h a xs) (g : h.IsTupleIter it a i) : a ≠ it := fun e => by
  obtain ⟨o, e1, c1, _⟩ := p
  obtain ⟨o', e2, c2, _⟩ := g
  rw [e, e2] at e1
  cases e1
  rw [c1] at c2
  exact absurd c2 (by decide)
theorem ne_iterL {h : Heap} {a it : Addr} {i : Nat} {xs : Array Value} (p : PlainL h a xs) (g : h.IsListIter it a i) : a ≠ it := fun e => by
  obtain ⟨o, _, e1, c1, _⟩ := p
  obtain ⟨o', e2, c2, _⟩ := g
  rw [e, e2] at e1
  cases e1
  rw [c1] at c2
  exact absurd c2 (by decide)
theorem turn_zipM {P : Program} {w : World} {K : PySem.W.Frag} {elts : List Expr} {kk : Nat} {tpos : Pos} {a b z TI TO i1 i2 : Addr} (S : ZipSep2 z TI TO i1 i2 [i1, a] [i2, b]) :
    Turn P w K (.Tuple elts kk tpos) (ItzM K a b) [z, TI, TO, i1, i2] z (ZipAt z TI TO i1 i2 a b) where
  mem := List.mem_cons_self
  obj := fun i h st c hc => by
    obtain ⟨g1, g2, ⟨_, _, g3⟩, ⟨p, g4, _, d4⟩, ⟨q, g5, _, d5⟩⟩ := st
    simp only [List.mem_cons, List.not_mem_nil, or_false] at hc
    rcases hc with rfl | rfl | rfl | rfl | rfl
    · exact ⟨_, g1, fun _ e => nomatch e⟩
    · exact ⟨_, g2, fun _ e => nomatch e⟩
    · exact ⟨_, g3, fun _ e => nomatch e⟩
    · exact ⟨p, g4, fun _ e => by rw [d4] at e; cases e⟩
    · exact ⟨q, g5, fun _ e => by rw [d5] at e; cases e⟩
  keep := fun i h h' st k => by
    obtain ⟨g1, g2, ⟨x, y, g3⟩, g4, g5⟩ := st
    exact ⟨k _ (by simp) _ g1, k _ (by simp) _ g2, ⟨x, y, k _ (by simp) _ g3⟩, g4.at (k _ (by simp)), g5.at (k _ (by simp))⟩
  item := by
    rintro X rfl rfl rfl hc i pins s σ H E I hf ⟨g1, g2, ⟨x0, y0, g3⟩, g4, g5⟩ ⟨xs, ys, x, y, qx, qy, hx, hy⟩
    obtain ⟨its, rx, px, _⟩ := I.tuple qx
    obtain ⟨jts, ry, py, _⟩ := I.list qy
    have hh : X.A.in1.handled = none := I.ok.hd hc
    have l1 : i < its.toArray.size := by
      rw [List.size_toArray, ← rx.length]
      exact (List.getElem?_eq_some_iff.mp hx).1
    have l2 : i < jts.toArray.size := by
      rw [List.size_toArray, ← ry.length]
      exact (List.getElem?_eq_some_iff.mp hy).1
    refine wpAny_pyNext_zipD2_item S (Draws.tuple hh i1 a (ne_iterT px g4) its.toArray) (Draws.list hh i2 b (ne_iterL py g5) jts.toArray) g1 g2 g3 ⟨g4, px⟩ ⟨g5, py.isList⟩ l1 l2 fun u1 u2 h' tk e1 e2 z' TO' st1 st2 hT hsz hk => ?_
    refine ⟨_, rfl, wpAny_letOwnedTupleGo_zip (s := { s with heap := h', toks := tk }) z' fun h2 z2 sb => ?_⟩
    have zlt : z < s.heap.objs.size := Heap.lt_size g1
    have r1 : RelV x u1 := by
      obtain ⟨u, hu, r⟩ := rx.get hx
      have : its[i]? = some u1 := by simpa using e1
      rw [hu] at this
      cases this
      exact r
    have r2 : RelV y u2 := by
      obtain ⟨u, hu, r⟩ := ry.get hy
      have : jts[i]? = some u2 := by simpa using e2
      rw [hu] at this
      cases this
      exact r
    have hT2 : IsTupOf2 h2 s.heap.objs.size u1 u2 := (sb.2 _ (Nat.ne_of_gt zlt)).trans hT
    have ks : ∀ c o, c ∉ [z, TI, TO, i1, i2] → s.heap.get? c = some o → h2.get? c = some o := fun c o hn e => by
      simp only [List.mem_cons, List.not_mem_nil, or_false, not_or] at hn
      exact (sb.2 c hn.1).trans (hk c o hn.1 hn.2.2.1 hn.2.2.2.1 hn.2.2.2.2 e)
    have new : ObjOk X.prog X.w (upd H s.heap.objs.size (.tup [x, y])) h2 s.heap.objs.size (.tup [x, y]) := ⟨by show 2 ≤ sizeLine; decide, [u1, u2], .cons r1 (.cons r2 .nil), _, hT2, rfl, _, rfl⟩
    have I1 := I.turnedNew (t' := tk) ks hf (Nat.le_refl _) new
    have fr := I.hok.fresh (Nat.le_refl s.heap.objs.size)
    refine ⟨.ref s.heap.objs.size, _, I1, rfl, ⟨_, x, y, rfl, fr, rfl, fun l hl => by rw [I.tuple_inj hl qx]; exact hx, fun l hl => by rw [I.list_inj hl qy]; exact hy⟩, ⟨z2, ?_, ⟨u1, u2, ?_⟩, ?_, ?_⟩, fun c hm => ?_⟩
    · exact (sb.2 _ S.TIz).trans (hk _ _ S.TIz S.TITO S.TIi1 S.TIi2 g2)
    · exact (sb.2 _ S.TOz).trans TO'
    · exact st1.1.at fun o e => (sb.2 _ S.zi1.symm).trans e
    · exact st2.1.at fun o e => (sb.2 _ S.zi2.symm).trans e
    · have lt : c < s.heap.objs.size := by
        simp only [List.mem_cons, List.not_mem_nil, or_false] at hm
        rcases hm with rfl | rfl | rfl | rfl | rfl
        · exact zlt
        · exact Heap.lt_size g2
        · exact Heap.lt_size g3
        · obtain ⟨_, e, _⟩ := g4
          exact Heap.lt_size e
        · obtain ⟨_, e, _⟩ := g5
          exact Heap.lt_size e
      rw [upd_ne (Nat.ne_of_lt lt)]
      exact (hf c hm).1
  done := by
    rintro X rfl rfl rfl hc i pins s σ H E I hf ⟨g1, g2, ⟨x0, y0, g3⟩, g4, g5⟩ ⟨xs, ys, qx, qy, h1, h2, h3⟩
    obtain ⟨its, rx, px, _⟩ := I.tuple qx
    obtain ⟨jts, ry, py, _⟩ := I.list qy
    have hh : X.A.in1.handled = none := I.ok.hd hc
    have s1 : its.toArray.size = xs.length := by rw [List.size_toArray, ← rx.length]
    have s2 : jts.toArray.size = ys.length := by rw [List.size_toArray, ← ry.length]
    refine wpAny_pyNext_zipD2_end S (Draws.tuple hh i1 a (ne_iterT px g4) its.toArray) (Draws.list hh i2 b (ne_iterL py g5) jts.toArray) g1 g2 g3 ⟨g4, px⟩ ⟨g5, py.isList⟩ (by omega) (by omega) (by omega) fun h' tk hk => ⟨rfl, ?_⟩
    refine I.turnedL (t' := tk) (ch := [z, TI, TO, i1, i2]) (fun c o hn e => ?_) hf
    simp only [List.mem_cons, List.not_mem_nil, or_false, not_or] at hn
    exact hk c o hn.1 hn.2.2.1 hn.2.2.2.1 hn.2.2.2.2 e
  self := fun A i s Q E st h => wpAny_pyIter_zip st.1 h

def iZipM (K : PySem.W.Frag) (ta : TA) : TI := fun σ H R => ta σ H fun vs H1 => ∃ a b xs ys, vs = [.ref a, .ref b] ∧ SqT K H1 a xs ∧ SqL K H1 b ys ∧ R (ItzM K a b) H1
theorem pi_zipM {X : Cx} {e e2 : Expr} {ta : TA} {p pos tpos : Pos} {elts : List Expr} {kk : Nat} (hg : Gl X "zip") (hm : X.mg "zip" = none) (ha : PA X [e, e2] ta)
    (h1 : starEach [e, e2] X.env = (false, eval e X.env) :: starEach [e2] X.env := by rfl) (h2 : (backTo pos (starEach [e2] X.env)).any (·.1) = false := by rfl) :
    PI X (.Tuple elts kk tpos) (.Call (.Name "zip" p) [e, e2] [] pos) (iZipM X.K ta) := by
  constructor
  intro pins s σ H R I h
  refine Call_ (ld_blt I hg hm PyProof.Rows.boot_zip (PyProof.Rows.callWith_type1 (thn (ha.run pos pins s σ H _ I h) ?_) h1 h2))
  rintro us s1 ⟨vs, H1, I1, r1, a, b, xs, ys, rfl, qx, qy, q⟩
  obtain ⟨u, u', rfl, ra, rb⟩ := vals2 r1
  cases (show u = Value.ref a from ra)
  cases (show u' = Value.ref b from rb)
  obtain ⟨its, rx, px, _⟩ := I1.tuple qx
  obtain ⟨jts, ry, py, _⟩ := I1.list qy
  have la : a < s1.heap.objs.size := let ⟨_, e, _⟩ := px; Heap.lt_size e
  have lb : b < s1.heap.objs.size := py.lt
  refine zip_begins2 (begins_tuple a its.toArray) (begins_list b jts.toArray) px py.isList fun h' z1 z2 z3 z4 z5 z6 k => wpAny_pyIter_zip z1 ?_
  have I2 := I1.kept (t' := s1.toks) k
  refine ⟨_, [s1.heap.objs.size + 4, s1.heap.objs.size + 2, s1.heap.objs.size + 3, s1.heap.objs.size, s1.heap.objs.size + 1], _, _, H1, rfl, I2, turn_zipM (zip_sep2 (fp1 := [a]) (fp2 := [b]) (fun c hc => ?_) (fun c hc => ?_)), ⟨z1, z2, ⟨_, _, z3⟩, ⟨_, z4, rfl, rfl⟩, ⟨_, z5, rfl, rfl⟩⟩, fun c hc => ?_, q⟩
  · rw [List.mem_singleton.mp hc]
    exact la
  · rw [List.mem_singleton.mp hc]
    exact lb
  · have le : s1.heap.objs.size ≤ c := by
      simp only [List.mem_cons, List.not_mem_nil, or_false] at hc
      rcases hc with rfl | rfl | rfl | rfl | rfl
      all_goals first | exact Nat.le_refl _ | exact Nat.le_add_right _ _
    exact I1.fpOk le (I1.hok.fresh le)
/-! ### the rest of what the layer lacks -/
section
variable {prog : Program} {w : World} {A : Around} {E : Value → Shared → Prop} {s : Shared}
theorem collect_tup {l : Addr} {vs : List Value} {Q : List Value → Shared → Prop} (hl : s.heap.IsTuple l vs.toArray) (hz : vs.length ≤ sizeLine)
    (h : Q vs { s with heap := (s.heap.push (seqObj "list" #[] 0)).update s.heap.objs.size (Obj.mapSeq (· ++ vs.toArray)) }) : wpAny (model prog w) A (collect (.ref l)) Q E s := by
  obtain ⟨o, ho, hc, n, hd⟩ := hl
  unfold collect
  refine wpAny_bind (wpAny_runValue (codeAny_builtin entry_proto_collect' ?_))
  show wpAny _ _ (newList [] >>= fun r => again (.builtin "list.__iadd__" ⟨[r, .ref l], []⟩)) _ _ s
  refine wpAny_bind (wpAny_newList (wpAny_pure ⟨Code.quiet_builtin _ (by decide +kernel), codeAny_builtin entry_list_iadd' ?_⟩))
  have k : (s.heap.push (seqObj "list" #[] 0)).get? l = some o := Heap.get?_push_of_some _ ho
  have k0 : (s.heap.push (seqObj "list" #[] 0)).get? s.heap.objs.size = some (seqObj "list" #[] 0) := Heap.get?_push_size _ rfl
  show wpAny _ _ (Builtin.List.listExtendWith _ _ _) _ _ { s with heap := s.heap.push (seqObj "list" #[] 0) }
  unfold Builtin.List.listExtendWith
  refine wpAny_bind (wpAny_typeOf (T := "tuple") ⟨o, k, hc⟩ ?_)
  have t1 : (Value.type "tuple" == Value.type "tuple") = true := rfl
  rw [if_pos (by rw [t1, Bool.or_true])]
  refine wpAny_bind (listItems_at k hd (wpAny_bind (listItems_at k0 rfl ?_)))
  rw [if_neg (by simp)]
  refine wpAny_bind (listUpdate_at k0 rfl ?_ (Nat.zero_le _) ?_)
  · refine wpAny_pure ?_
    show wpAny (model prog w) A (load s.heap.objs.size >>= fun o => match o.data with | .seq xs _ => pure xs.toList | _ => unsupported "internal:collect") Q E _
    refine wpAny_bind (wpAny_load (get?_update_seq k0 _) ?_)
    show wpAny _ _ (pure ((#[] : Array Value) ++ vs.toArray).toList) Q E _
    rw [show ((#[] : Array Value) ++ vs.toArray).toList = vs by simp]
    exact wpAny_pure h
  · rw [Array.size_append, List.size_toArray]
    exact Nat.le_succ_of_le (by simpa using hz)
/-- sorted of a tuple of ints -/
theorem sorted_tup {l : Addr} {vs : List Value} {ns : List Int} {Q : Value → Shared → Prop} (hl : s.heap.IsTuple l vs.toArray) (hi : IntsAre vs ns) (h64 : vs.length < 64)
    (h : ∀ (out : Array Value) (ms : List Int), IntsAre out.toList ms → ms.Perm ns → ms.Pairwise (· ≤ ·) → Q (.ref (s.heap.objs.size + 1)) { s with heap := sortedAll s.heap vs out }) : wpAny (model prog w) A (call (.builtin "sorted") [.ref l]) Q E s := by
  have hz : vs.length ≤ sizeLine := Nat.le_trans (Nat.le_of_lt h64) (by decide)
  refine Calls.call_function_entry kind_sorted plain_sorted entry_sorted (args_sorted1 _) ?_
  unfold Builtin.«sorted»
  refine wpAny_bind (m := checkCount "sorted" 1 1 _) (wpAny_pure (wpAny_bind (collect_tup hl hz (wpAny_bind (wpAny_newList ?_ hz)))))
  have e1 : ((s.heap.push (seqObj "list" #[] 0)).update s.heap.objs.size (Obj.mapSeq (· ++ vs.toArray))).objs.size = s.heap.objs.size + 1 := by rw [Heap.size_update, size_push']
  generalize hg : ((s.heap.push (seqObj "list" #[] 0)).update s.heap.objs.size (Obj.mapSeq (· ++ vs.toArray))) = g at e1
  have e2 : (g.push (seqObj "list" vs.toArray 0)).get? (s.heap.objs.size + 1) = some (seqObj "list" vs.toArray 0) := by
    rw [← e1]
    exact Heap.get?_push_size _ rfl
  show wpAny _ _ _ _ _ { s with heap := g.push (seqObj "list" vs.toArray 0) }
  rw [e1]
  refine wpAny_bind (wpAny_holding (wpAny_call_entry slot_list_sort ⟨_, e2, rfl⟩ entry_list_sort (list_sort_tree e2 hi h64 fun out ms a1 a2 a3 => ⟨_, rfl, wpAny_pure ⟨_, rfl, ?_⟩⟩) (args_list_sort _)))
  have := h out ms a1 a2 a3
  unfold sortedAll at this
  rw [hg] at this
  exact this
/-- max of a tuple of ints -/
theorem max_tup {l : Addr} {vs : List Value} {ns : List Int} {Q : Value → Shared → Prop} (hh : A.handled = none) (hl : s.heap.IsTuple l vs.toArray) (hi : IntsAre vs ns) (hn : 0 < ns.length)
    (h : ∀ h' tk M t, (∀ b o, s.heap.get? b = some o → h'.get? b = some o) → M ∈ ns → (∀ a, a ∈ ns → a ≤ M) → Q (.int M t) { s with heap := h', toks := tk }) : wpAny (model prog w) A (call (.builtin "max") [.ref l]) Q E s := by
  have val : ∀ (i : Nat) (v : Value), vs.toArray[i]? = some v → ∃ t, v = .int (ns.getD i 0) t := fun i v e => by
    have e : vs[i]? = some v := by simpa using e
    obtain ⟨u, hu, t, rfl⟩ := (vals_of_ints hi).get (i := i) (x := .int (ns.getD i 0)) (by
      have lt : i < ns.length := by
        rw [← hi.length]
        exact (List.getElem?_eq_some_iff.mp e).1
      rw [List.getElem?_map, List.getElem?_eq_getElem lt, List.getD_eq_getElem?_getD, List.getElem?_eq_getElem lt]
      rfl)
    rw [hu] at e
    cases e
    exact ⟨t, rfl⟩
  have lt : l < s.heap.objs.size := let ⟨_, e, _⟩ := hl; Heap.lt_size e
  refine call_max_walk (wpAny_pyIter_tuple hl ?_)
  refine ⟨_, _, _, _, _, _, _, rfl, Walks.tuple (A := A.in1) hh s.heap.objs.size l (Nat.ne_of_lt lt) vs.toArray, ⟨⟨_, Heap.get?_push_size _ rfl, rfl, rfl⟩, hl.push _⟩, fun b hb => ?_, by rw [List.size_toArray, hi.length]; exact hn, CmpOf.ints_gt (fun i => ns.getD i 0) val, fun v h' tk hv hk => ?_⟩
  · show b < (s.heap.push _).objs.size
    rw [Heap.size_push]
    simp only [List.mem_cons, List.not_mem_nil, or_false] at hb
    rcases hb with rfl | rfl
    · exact Nat.lt_succ_self _
    · exact Nat.lt_succ_of_lt lt
  · obtain ⟨t, rfl⟩ := val _ _ hv
    have hl1 : vs.toArray.size = ns.length := by rw [List.size_toArray, hi.length]
    obtain ⟨h1, h2⟩ := argBest_gt (fun i => ns.getD i 0) (vs.toArray.size - 1)
    refine h h' tk _ t (fun b o e => hk b o (fun hm => ?_) (Heap.get?_push_of_some _ e)) ?_ fun a ha => ?_
    · exact Nat.lt_irrefl _ (List.mem_singleton.mp hm ▸ Heap.lt_size e)
    · exact PySem.getD_mem (by omega)
    · obtain ⟨j, hj, rfl⟩ := mem_getD ha
      exact h2 j (by omega)
end
section
variable {X : Cx}
def rSortedTup (K : PySem.W.Frag) : List V → Hp → VK → Prop := fun vs H Q => ∃ (a : Addr) (ns : List Int), vs = [V.ref a] ∧ SqT K H a (ns.map V.int) ∧ ns.length < 64 ∧ ∀ (ms : List Int) (p : Addr), ms.Perm ns → ms.Pairwise (· ≤ ·) → H p = none → Q (.ref p) (upd H p (.lst (ms.map V.int)))
theorem cr_sortedTup : CallR X (.builtin "sorted") (rSortedTup X.K) := by
  rintro pins s σ H vs us Q I r ⟨a, ns, rfl, hs, h64, q⟩
  obtain ⟨its, rv, ht, _⟩ := I.tuple hs
  rw [Vals.ref1 r]
  have hi := rv.ints
  refine sorted_tup ht hi (by rw [hi.length]; exact h64) fun out ms a1 a2 a3 => ?_
  obtain ⟨ep, e⟩ := sortedAll_at s.heap its out
  have fr := I.hok.fresh (Nat.le_succ s.heap.objs.size)
  refine ⟨.ref (s.heap.objs.size + 1), upd H (s.heap.objs.size + 1) (.lst (ms.map V.int)), I.laid (t' := s.toks) (fun _ _ => sortedAll_old) (Nat.le_succ _) ⟨?_, out.toList, ep, vals_of_ints a1, e⟩, rfl, q ms _ a2 a3 fr⟩
  rw [List.length_map, a2.length_eq]
  exact Nat.le_trans (Nat.le_of_lt h64) (by decide)
def rMaxT (K : PySem.W.Frag) : List V → Hp → VK → Prop := fun vs H Q => ∃ (a : Addr) (ns : List Int), vs = [V.ref a] ∧ SqT K H a (ns.map V.int) ∧ 0 < ns.length ∧ ∀ m, m ∈ ns → (∀ y, y ∈ ns → y ≤ m) → Q (.int m) H
theorem cr_maxT (hc : X.calm = true) : CallR X (.builtin "max") (rMaxT X.K) := by
  rintro pins s σ H vs us Q I r ⟨a, ns, rfl, hs, hn, q⟩
  obtain ⟨its, rv, ht, _⟩ := I.tuple hs
  rw [Vals.ref1 r]
  exact max_tup (I.ok.hd hc) ht rv.ints hn fun h' tk m t hk h1 h2 => ⟨.int m, H, I.kept hk, ⟨t, rfl⟩, q m h1 h2⟩
/-- t.index(n), t a tuple of ints -/
def rTupIx (K : PySem.W.Frag) : V → List V → Hp → VK → Prop := fun x xs H Q => ∃ (a : Addr) (ns : List Int) (n : Int), x = .ref a ∧ xs = [.int n] ∧ SqT K H a (ns.map V.int) ∧ n ∈ ns ∧ Q (.int (ns.idxOf n : Nat)) H
theorem mt_tupIx : MtR X "tuple.index" (rTupIx X.K) := by
  rintro pins s σ H x xs v us Q I rx rs ⟨a, ns, n, rfl, rfl, hs, hn, q⟩
  obtain ⟨its, rv, ht, _⟩ := I.tuple hs
  obtain ⟨u, rfl, ru⟩ := vals1 rs
  cases (show v = Value.ref a from rx)
  refine SeqAt.call_tuple_index (ks := ns) (k := n) ht ⟨?_, fun j h1 h2 => ?_⟩ hn ⟨.int _, H, I.tok _, ⟨_, rfl⟩, q⟩
  · rw [← rv.length, List.length_map]
  · obtain ⟨z, hz, rz⟩ := rv.get (i := j) (x := .int ns[j]) (by rw [List.getElem?_map, List.getElem?_eq_getElem h2]; rfl)
    have e : its[j] = z := (List.getElem?_eq_some_iff.mp hz).2
    rw [e]
    have := eqAt_V (A := X.A.in1) (s := s) rz ru rfl rfl
    have d : decide (ns[j] = n) = (ns[j] == n) := (Bool.beq_eq_decide_eq _ _).symm
    rw [d]
    exact this
end
/-- both: a tuple and a list, two tuples -/
def iZipX (K : PySem.W.Frag) (ta : TA) : TI := fun σ H R => ta σ H fun vs H1 => ∃ a b xs ys, vs = [.ref a, .ref b] ∧ ((SqT K H1 a xs ∧ SqL K H1 b ys ∧ R (ItzM K a b) H1) ∨ (SqT K H1 a xs ∧ SqT K H1 b ys ∧ R (RZ.ItzT K a b) H1))

end K56
namespace K56
open PySem PySem.Spec PyProof.Rows L2 Evl

/-! ### a dict whose keys are tables -/
def rowKey (n : Nat) (f : Nat → Int) : NestedKey := .tup ((List.range n).map fun j => .num (f j))
def tabKey (n : Nat) (f : Nat → Nat → Int) : NestedKey := .tup ((List.range n).map fun i => rowKey n (f i))
theorem map_inj_range {α : Type} {n : Nat} {f g : Nat → α} (h : (List.range n).map f = (List.range n).map g) {i : Nat} (hi : i < n) : f i = g i := by
  have e := congrArg (fun l => l[i]?) h
  simp only [get_range hi] at e
  exact Option.some.inj e
theorem tabKey_inj {n : Nat} {f g : Nat → Nat → Int} (h : tabKey n f = tabKey n g) {i j : Nat} (hi : i < n) (hj : j < n) : f i j = g i j := by
  have h1 : rowKey n (f i) = rowKey n (g i) := map_inj_range (NestedKey.tup.inj h) hi
  have h2 : NestedKey.num (f i j) = NestedKey.num (g i j) := map_inj_range (f := fun j => NestedKey.num (f i j)) (g := fun j => NestedKey.num (g i j)) (NestedKey.tup.inj h1) hj
  exact NestedKey.num.inj h2
theorem depthAll_le {d : Nat} : ∀ ks : List NestedKey, (∀ k ∈ ks, k.depth ≤ d) → NestedKey.depthAll ks ≤ d
  | [], _ => Nat.zero_le _
  | k :: ks, h => by
    have h1 := h k List.mem_cons_self
    have h2 := depthAll_le ks fun k hk => h k (List.mem_cons_of_mem _ hk)
    simp only [NestedKey.depthAll]
    omega
theorem tabKey_depth (n : Nat) (f : Nat → Nat → Int) : (tabKey n f).depth ≤ 8 := by
  have row : ∀ g : Nat → Int, (rowKey n g).depth ≤ 1 := fun g => by
    have := depthAll_le (d := 0) ((List.range n).map fun j => NestedKey.num (g j)) fun k hk => by
      obtain ⟨j, _, rfl⟩ := List.mem_map.mp hk
      exact Nat.le_refl _
    simp only [rowKey, NestedKey.depth]
    omega
  have := depthAll_le (d := 1) ((List.range n).map fun i => rowKey n (f i)) fun k hk => by
    obtain ⟨i, _, rfl⟩ := List.mem_map.mp hk
    exact row _
  simp only [tabKey, NestedKey.depth]
  omega
theorem nested_all {h : Heap} {kf : Nat → NestedKey} {rs : Nat → V} : ∀ {l : List Nat} {its : List Value}, Vals (l.map rs) its → (∀ i ∈ l, ∀ u, RelV (rs i) u → NestedIs h (kf i) u) → NestedAll h (l.map kf) its
  | [], _, .nil, _ => .nil
  | i :: l, _, .cons r t, hk => .cons (hk i List.mem_cons_self _ r) (nested_all t fun j hj => hk j (List.mem_cons_of_mem _ hj))
section
variable {X : Cx} {pins : List (Addr × Obj)} {σ : L2.St} {H : Hp} {s : Shared} {n : Nat}
theorem row_nested {f : Nat → Int} {v : V} {u : Value} (I : Inv X pins σ H s) (h : Row X.K n f v H) (r : RelV v u) : NestedIs s.heap (rowKey n f) u := by
  obtain ⟨a, rfl, hs⟩ := row_seq h
  cases (show u = Value.ref a from r)
  obtain ⟨its, rv, ⟨o, h1, h2, k, h3⟩, _⟩ := I.tuple hs
  refine .tup h1 h2 h3 ?_
  refine nested_all (rs := fun j => V.int (f j)) (by simpa using rv) fun j _ u ru => ?_
  obtain ⟨t, rfl⟩ := ru
  exact .int _ t
theorem tab_nested {f : Nat → Nat → Int} {a : Addr} (I : Inv X pins σ H s) (h : Tab X.K n f (.ref a) H) : (nestedKind X.prog X.w).is s.heap (tabKey n f) a := by
  obtain ⟨b, rs, e, hs, hr⟩ := h
  cases e
  obtain ⟨its, rv, ⟨o, h1, h2, k, h3⟩, _⟩ := I.tuple hs
  refine ⟨.tup h1 h2 h3 (nested_all (rs := rs) (by simpa using rv) fun i hi u ru => ?_), tabKey_depth n f⟩
  exact row_nested I (hr i (List.mem_range.mp hi)) ru
end
/-- at d stands a dict whose keys are the tables fs i, i below m, in this order -/
def DictN (P : Program) (w : World) (K : PySem.W.Frag) (n : Nat) (H : Hp) (d : Addr) (m : Nat) (fs : Nat → Nat → Nat → Int) : Prop :=
  ∃ (o : Obj) (es : Array DictEntry) (ep : Nat) (xs : List (NestedKey × Addr × Value)), H d = some (.ext fun h => h.get? d = some o) ∧ (d == sysModules) = false ∧ o.ExactDict ∧ o.data = .dict es ep ∧
    es.toList = xs.map (entryOfKey (nestedKind P w)) ∧ (xs.map (·.1)).Nodup ∧ xs.map (·.1) = (List.range m).map (fun i => tabKey n (fs i)) ∧ ∀ x ∈ xs, ∃ f, x.1 = tabKey n f ∧ Tab K n f (.ref x.2.1) H
section
variable {P : Program} {w : World} {K : PySem.W.Frag} {n m : Nat} {H H' : Hp} {d : Addr} {fs : Nat → Nat → Nat → Int}
theorem DictN.mono (e : Ex H H') (h : DictN P w K n H d m fs) : DictN P w K n H' d m fs := by
  obtain ⟨o, es, ep, xs, h1, h2, h3, h4, h5, h6, h7, h8⟩ := h
  exact ⟨o, es, ep, xs, e d _ h1, h2, h3, h4, h5, h6, h7, fun x hx => let ⟨f, e1, e2⟩ := h8 x hx; ⟨f, e1, mt_tab.e _ _ _ e e2⟩⟩
end
section
variable {X : Cx} {pins : List (Addr × Obj)} {σ : L2.St} {H : Hp} {s : Shared} {n m : Nat} {d : Addr} {fs : Nat → Nat → Nat → Int}
theorem DictN.at (I : Inv X pins σ H s) (h : DictN X.prog X.w X.K n H d m fs) : ∃ kvs : List (NestedKey × Value), s.heap.DictKeyed (nestedKind X.prog X.w) d kvs ∧ (d == sysModules) = false ∧ kvs.map (·.1) = (List.range m).map fun i => tabKey n (fs i) := by
  obtain ⟨o, es, ep, xs, h1, h2, h3, h4, h5, h6, h7, h8⟩ := h
  have e : s.heap.get? d = some o := (show ObjOk X.prog X.w H s.heap d (.ext fun h => h.get? d = some o) from I.hok d _ h1).1
  refine ⟨pairsH xs, ⟨xs, ⟨o, es, ep, e, h3, h4, h5, fun x hx => ?_, h6⟩, rfl⟩, h2, ?_⟩
  · obtain ⟨f, e1, e2⟩ := h8 x hx
    rw [e1]
    exact tab_nested I e2
  · rw [← h7]
    unfold pairsH
    rw [List.map_map]
    rfl
/-- x not in d, a table that is not there -/
def rNotInN (P : Program) (w : World) (K : PySem.W.Frag) : R2 := fun x y H Q => ∃ (n m : Nat) (d : Addr) (f : Nat → Nat → Int) (fs : Nat → Nat → Nat → Int), y = .ref d ∧ Tab K n f x H ∧ DictN P w K n H d m fs ∧ (∀ i, i < m → tabKey n f ≠ tabKey n (fs i)) ∧ Q (.bl true) H
theorem op_notInN (hu : X.A.units + 64 < cLine) : OpR X (compareOp .NotIn) (rNotInN X.prog X.w X.K) := by
  rintro pins s σ H x y v u Q I rx ry ⟨n, m, d, f, fs, rfl, hx, hd, hno, q⟩
  obtain ⟨kvs, k1, k2, k3⟩ := hd.at I
  obtain ⟨a, rs, rfl, hs, hr⟩ := id hx
  cases (show v = Value.ref a from rx)
  cases (show u = Value.ref d from ry)
  have no : valueAt kvs (tabKey n f) = none := valueAt_none.mpr (by
    rw [k3]
    intro hm
    obtain ⟨i, hi, e⟩ := List.mem_map.mp hm
    exact hno i (List.mem_range.mp hi) e.symm)
  refine notIn_keyed (knd := nestedKind X.prog X.w) (by show X.A.units + 1 + 8 < cLine; omega) (tab_nested I hx) k2 k1 ⟨.bl true, H, I.tok _, ?_, q⟩
  rw [no]
  rfl
/-- len of such a dict -/
def rLenN (P : Program) (w : World) (K : PySem.W.Frag) : List V → Hp → VK → Prop := fun vs H Q => ∃ (n m : Nat) (d : Addr) (fs : Nat → Nat → Nat → Int), vs = [.ref d] ∧ DictN P w K n H d m fs ∧ m ≤ 1000 ∧ Q (.int (m : Nat)) H
theorem call_lenN : CallR X (.builtin "len") (rLenN X.prog X.w X.K) := by
  rintro pins s σ H vs us Q I r ⟨n, m, d, fs, rfl, hd, hm, q⟩
  obtain ⟨kvs, k1, k2, k3⟩ := hd.at I
  rw [Vals.ref1 r]
  have l : kvs.length = m := by
    have := congrArg List.length k3
    simpa using this
  refine call_len_slot (n := kvs.length) k1.typeIs F.slot_dict_len (fun Q' hq => len_keyed k2 k1 hq) (by omega) (by omega) ?_
  rw [l]
  exact ⟨.int _, H, I.tok _, ⟨_, rfl⟩, q⟩
theorem ext_ext {H : Hp} {p : Addr} {φ : Heap → Prop} {o : HO} (h : H p = some (.ext φ)) : ExT H (upd H p o) :=
  ⟨fun a xs e => by rw [upd_ne (ne_of e h (fun z => nomatch z))]; exact e, fun a u v e => by rw [upd_ne (ne_of e h (fun z => nomatch z))]; exact e⟩
/-- d[x] = True, a table that is not there -/
def rSetN (P : Program) (w : World) (K : PySem.W.Frag) : TSet := fun o i v H Q => ∃ (n m : Nat) (d : Addr) (f : Nat → Nat → Int) (fs : Nat → Nat → Nat → Int) (b : Bool), o = .ref d ∧ v = .bl b ∧ Tab K n f i H ∧ DictN P w K n H d m fs ∧ (∀ i, i < m → tabKey n f ≠ tabKey n (fs i)) ∧ m ≤ 1000 ∧
  ∀ φ, DictN P w K n (upd H d (.ext φ)) d (m + 1) (fun i => if i < m then fs i else f) → ExT H (upd H d (.ext φ)) → Q (upd H d (.ext φ))
theorem set_dictN (hu : X.A.units + 64 < cLine) : PSet X (rSetN X.prog X.w X.K) := by
  rintro pins s σ H o i v ov iv u Q I ro ri rv ⟨n, m, d, f, fs, b, rfl, rfl, hx, hd, hno, hm, q⟩
  obtain ⟨a, rs, rfl, hs, hr⟩ := id hx
  cases (show ov = Value.ref d from ro)
  cases (show iv = Value.ref a from ri)
  cases (show u = Value.bool b from rv)
  obtain ⟨ob, es, ep, xs, h1, h2, h3, h4, h5, h6, h7, h8⟩ := id hd
  have e : s.heap.get? d = some ob := (show ObjOk X.prog X.w H s.heap d (.ext fun h => h.get? d = some ob) from I.hok d _ h1).1
  have keyed : s.heap.DictOfH (nestedKind X.prog X.w) d xs := ⟨ob, es, ep, e, h3, h4, h5, fun x hx => by
    obtain ⟨g, e1, e2⟩ := h8 x hx
    rw [e1]
    exact tab_nested I e2, h6⟩
  have l : xs.length = m := by
    have := congrArg List.length h7
    simpa using this
  have ab : tabKey n f ∉ xs.map (·.1) := by
    rw [h7]
    intro hm
    obtain ⟨i, hi, e⟩ := List.mem_map.mp hm
    exact hno i (List.mem_range.mp hi) e.symm
  have no : atKey xs (tabKey n f) = none := by
    have z : valueAt (pairsH xs) (tabKey n f) = none := valueAt_none.mpr (by
      unfold pairsH
      rw [List.map_map]
      exact ab)
    rw [valueAt_pairsH] at z
    exact Option.map_eq_none_iff.mp z
  refine wpAny_setItem_heap (knd := nestedKind X.prog X.w) (hsz := by rw [l]; exact Nat.le_trans hm (by decide)) (by show X.A.units + 1 + 8 < cLine; omega) (tab_nested I hx) keyed fun h' hm' sb => ?_
  rw [storedH_new no] at hm'
  obtain ⟨ob', es', ep', g1, g2, g3, g4, g5, g6⟩ := hm'
  have t := ext_ext (o := .ext fun h => h.get? d = some ob') h1
  refine ⟨_, I.write (e := d) (o := .ext fun h => h.get? d = some ob') (t' := _) (by rw [h1]; trivial) (.inl rfl) (fun c o hc ho => (sb.2 c hc).trans ho) ⟨_, g1⟩ ⟨g1, ⟨_, g1⟩, fun p p' x y => y _ x⟩, q _ ⟨ob', es', ep', xs ++ [(tabKey n f, a, .bool b)], upd_same, h2, g2, g3, g4, ?_, ?_, fun x hx' => ?_⟩ t⟩
  · exact g6
  · rw [List.map_append, h7, List.range_succ, List.map_append]
    congr 1
    · refine List.map_congr_left fun i hi => ?_
      show tabKey n (fs i) = tabKey n (if i < m then fs i else f)
      rw [if_pos (List.mem_range.mp hi)]
    · show [tabKey n f] = [tabKey n (if m < m then fs m else f)]
      rw [if_neg (Nat.lt_irrefl m)]
  · rcases List.mem_append.mp hx' with hx' | hx'
    · obtain ⟨g, e1, e2⟩ := h8 x hx'
      exact ⟨g, e1, mt_tab _ _ _ t e2⟩
    · rw [List.mem_singleton.mp hx']
      exact ⟨f, rfl, mt_tab _ _ _ t hx⟩
/-- {}, to be such a dict -/
def tDNewN (P : Program) (w : World) (K : PySem.W.Frag) : TE := fun _ H Q => ∀ p φ, H p = none → (∀ n fs, DictN P w K n (upd H p (.ext φ)) p 0 fs) → Q (.ref p) (upd H p (.ext φ))
theorem pe_dnewN {pos : Pos} : PE X (.Dict [] [] pos) (tDNewN X.prog X.w X.K) := by
  constructor
  intro pins s σ H Q I h
  have g : (s.heap.push { cls := .type "dict", data := .dict #[] }).get? s.heap.objs.size = some { cls := .type "dict", data := .dict #[] } := Heap.get?_push_size _ rfl
  have fr := I.hok.fresh (Nat.le_refl s.heap.objs.size)
  refine wpAny_Dict_empty ⟨.ref s.heap.objs.size, _, I.laid (a := s.heap.objs.size) (o := .ext fun h => h.get? s.heap.objs.size = some { cls := .type "dict", data := .dict #[] }) (t' := s.toks) (fun _ _ q => Heap.get?_push_of_some _ q) (Nat.le_refl _) ⟨g, ⟨_, g⟩, fun p p' x y => y _ x⟩, rfl, h _ _ fr fun n fs => ?_⟩
  exact ⟨_, #[], 0, [], upd_same, beq_eq_false_iff_ne.mpr (Ne.symm (Nat.ne_of_lt I.big)), ⟨rfl, rfl, rfl⟩, rfl, rfl, List.nodup_nil, rfl, fun x hx => nomatch hx⟩
end

/-! ### rules with the written part named (so that they stand within a comprehension's block) -/
section
variable {X : Cx} {K : PySem.W.Frag}
theorem pi_listK {tg l : Expr} {tl : TE} (h : PE X l tl) (hK : X.K = K := by rfl) : PI X tg l (iList K tl) := by
  subst hK
  exact pi_list h
theorem pi_tupK {tg l : Expr} {tl : TE} (h : PE X l tl) (hK : X.K = K := by rfl) : PI X tg l (iTup K tl) := by
  subst hK
  exact pi_tup h
theorem pi_zipMK {e e2 : Expr} {ta : TA} {p pos tpos : Pos} {elts : List Expr} {kk : Nat} (hg : Gl X "zip") (hm : X.mg "zip" = none) (ha : PA X [e, e2] ta)
    (h1 : starEach [e, e2] X.env = (false, eval e X.env) :: starEach [e2] X.env := by rfl) (h2 : (backTo pos (starEach [e2] X.env)).any (·.1) = false := by rfl) (hK : X.K = K := by rfl) :
    PI X (.Tuple elts kk tpos) (.Call (.Name "zip" p) [e, e2] [] pos) (iZipM K ta) := by
  subst hK
  exact pi_zipM hg hm ha h1 h2
theorem pi_zipAK {e e2 : Expr} {ta : TA} {p pos tpos : Pos} {elts : List Expr} {kk : Nat} (hg : Gl X "zip") (hm : X.mg "zip" = none) (ha : PA X [e, e2] ta)
    (h1 : starEach [e, e2] X.env = (false, eval e X.env) :: starEach [e2] X.env := by rfl) (h2 : (backTo pos (starEach [e2] X.env)).any (·.1) = false := by rfl) (hK : X.K = K := by rfl) :
    PI X (.Tuple elts kk tpos) (.Call (.Name "zip" p) [e, e2] [] pos) (RZ.iZipA K ta) := by
  subst hK
  exact RZ.pi_zipA hg hm ha h1 h2
theorem pg_tupK {es : List Expr} {k : Nat} {t : TGs} {n : Nat} {pos : Pos} (hc : X.calm = true) (h : PGs X es t) (hn : (assignEach es X.env).length = n := by rfl) (hst : (assignEach es X.env).findIdx? (·.1) = none := by rfl) (hK : X.K = K := by rfl) :
    PG X (.Tuple es k pos) (gTup K n t) := by
  subst hK
  exact pg_tup hc h hn hst
theorem ix_listK (hK : X.K = K := by rfl) : IxR X (rIxL K) := by
  subst hK
  exact ix_list
theorem ix_tupK (hK : X.K = K := by rfl) : IxR X (rIxT K) := by
  subst hK
  exact ix_tup
theorem len_K (hK : X.K = K := by rfl) : CallR X (.builtin "len") (rLenS K) := by
  subst hK
  exact call_len_seq
theorem all_K (hc : X.calm = true := by rfl) (hK : X.K = K := by rfl) : CallR X (.builtin "all") (rAll K) := by
  subst hK
  exact cr_all hc
theorem any_K (hc : X.calm = true := by rfl) (hK : X.K = K := by rfl) : CallR X (.builtin "any") (rAny K) := by
  subst hK
  exact cr_any hc
theorem sum_K (hc : X.calm = true := by rfl) (hK : X.K = K := by rfl) : CallR X (.builtin "sum") (rSum K) := by
  subst hK
  exact cr_sum hc
theorem max_K (hc : X.calm = true := by rfl) (hK : X.K = K := by rfl) : CallR X (.builtin "max") (rMax K) := by
  subst hK
  exact cr_max hc
theorem maxT_K (hc : X.calm = true := by rfl) (hK : X.K = K := by rfl) : CallR X (.builtin "max") (rMaxT K) := by
  subst hK
  exact cr_maxT hc
theorem tup_K (hK : X.K = K := by rfl) : CallR X (.type "tuple") (rTupOf K) := by
  subst hK
  exact call_tuple_of
theorem list_K (hK : X.K = K := by rfl) : CallR X (.type "list") (rListS K) := by
  subst hK
  exact call_list_of
theorem isi_K (hK : X.K = K := by rfl) : CallR X (.builtin "isinstance") (rIsi K) := by
  subst hK
  exact call_isi
theorem in_K (hK : X.K = K := by rfl) : OpR X (compareOp .In) (rIn K false) := by
  subst hK
  exact op_in_seq
theorem tupIx_K (hK : X.K = K := by rfl) : MtR X "tuple.index" (rTupIx K) := by
  subst hK
  exact mt_tupIx
theorem index_K (hK : X.K = K := by rfl) : MtR X "list.index" (rIndex K) := by
  subst hK
  exact mt_index
theorem pe_bmK {T name id : String} {o e : Expr} {es : List Expr} {to : TE} {t : TA} {r : V → List V → Hp → VK → Prop} {apos cpos : Pos} (pa : PlainAttrs T) (slot : Slot T name id) (hty : typeOf (.builtin id) = pure (.type "method_descriptor")) (hm : MtR X id r) (ho : PE X o to) (ha : PA X (e :: es) t)
    (h1 : attributeBase o name X.env (eval o X.env) = eval o X.env := by rfl) (h2 : ((backTo cpos (starEach (e :: es) X.env)).all (fun x => !x.1) && (backToKw cpos (keywordEach [] X.env)).all (fun x => x.1.isSome) && decide ((e :: es).length + ([] : List Keyword).length + (if ([] : List Keyword).isEmpty then 0 else 1) < 30)) = true := by rfl)
    (h3 : (apos.endLine == cpos.line) = true := by rfl) (h4 : starEach (e :: es) X.env = (false, eval e X.env) :: starEach es X.env := by rfl) (h5 : (backTo cpos (starEach es X.env)).any (·.1) = false := by rfl) (hK : X.K = K := by rfl) : PE X (.Call (.Attribute o name apos) (e :: es) [] cpos) (tBM K T r to t) := by
  subst hK
  exact pe_bm pa slot hty hm ho ha h1 h2 h3 h4 h5
end
/-! ### the blocks of comprehensions within comprehensions -/
theorem blk1 {X : Cx} {s : Shared} {H : Hp} {scope1 scope : Scope} {cl : List (Str × Addr)} {C : Addr} {fp : List Addr} {own : List (Str × Nat)} (N : List Str) (sc : Scope) (h : blkC N (relS scope1 sc) scope own = true) (hN : X.N = N := by rfl) (hs : X.env.scope = sc := by rfl) :
    BlkOk (X.blk s H scope1 (compEnvC scope1 cl C X.env) fp).N (X.blk s H scope1 (compEnvC scope1 cl C X.env) fp).env.scope scope own := by
  subst hN hs
  exact blkOk_by h
theorem blk2 {X : Cx} {s s' : Shared} {H H' : Hp} {scope1 scope2 scope : Scope} {cl cl' : List (Str × Addr)} {C C' : Addr} {fp fp' : List Addr} {own : List (Str × Nat)} (N : List Str) (sc : Scope) (h : blkC N (relS scope2 (relS scope1 sc)) scope own = true) (hN : X.N = N := by rfl) (hs : X.env.scope = sc := by rfl) :
    BlkOk ((X.blk s H scope1 (compEnvC scope1 cl C X.env) fp).blk s' H' scope2 (compEnvC scope2 cl' C' (X.blk s H scope1 (compEnvC scope1 cl C X.env) fp).env) fp').N ((X.blk s H scope1 (compEnvC scope1 cl C X.env) fp).blk s' H' scope2 (compEnvC scope2 cl' C' (X.blk s H scope1 (compEnvC scope1 cl C X.env) fp).env) fp').env.scope scope own := by
  subst hN hs
  exact blkOk_by h
end K56
namespace K56
open PySem PySem.Spec PyProof.Rows L2 Evl

/-! ### more of what evaluates to what -/
section
variable {K : PySem.W.Frag} {σ : L2.St} {H : Hp} {ta tb tc te : TE} {x : V} {n : Nat}
theorem tyT {a : Addr} {xs : List V} (h : SqT K H a xs) : TyX K H (.ref a) (.type "tuple") := by
  rcases h with (h | ⟨o, h⟩) | ⟨o, its, k, h, hc, _⟩
  · exact .base (.tup h)
  · exact .fTuple h
  · exact .kTuple h hc
theorem ev_isi {T : String} {t : Value} {b : Bool} (h : Ev ta σ H x) (ht : ∀ H1, Ex H H1 → TyX K H1 x t) (hk : PySem.W.kitOne K t (.type T) = some b) : Ev (tCB (rIsi K) (tCons ta (tCons (tC (.ty T)) tNil))) σ H (.bl b) := fun H1 e Q q =>
  h H1 e _ fun H2 e2 => ⟨x, .ty T, t, .type T, b, rfl, .ty T, ht H2 (e.trans e2), hk, q H2 e2⟩
theorem ev_isiT {T : String} {S : Nat → V → Hp → Prop} {b : Bool} (h : Ev ta σ H x) (ht : TAt K n S x H) (hk : PySem.W.kitOne K (.type "tuple") (.type T) = some b) : Ev (tCB (rIsi K) (tCons ta (tCons (tC (.ty T)) tNil))) σ H (.bl b) := by
  obtain ⟨a, rs, rfl, hs, _⟩ := ht
  exact ev_isi h (fun H1 e => tyT (ex_t e hs)) hk
theorem ev_isiI {T : String} {i : Int} {b : Bool} (h : Ev ta σ H (.int i)) (hk : PySem.W.kitOne K (.type "int") (.type T) = some b) : Ev (tCB (rIsi K) (tCons ta (tCons (tC (.ty T)) tNil))) σ H (.bl b) := ev_isi h (fun _ _ => .base (.int i)) hk
/-- a <= b <= c -/
theorem ev_chain {r r' : R2} {y z : V} {b1 b2 : Bool} (ha : Ev ta σ H x) (hb : Ev tb σ H y) (h1 : RV r x y H (.bl b1)) (hc : Ev tc σ H z) (h2 : RV r' y z H (.bl b2)) : Ev (tChain r r' ta tb tc) σ H (.bl (b1 && b2)) := fun H1 e Q q =>
  ha H1 e _ fun H2 e2 => hb H2 (e.trans e2) _ fun H3 e3 => h1 H3 ((e.trans e2).trans e3) _ fun H4 e4 => ⟨b1, rfl, by
    have e14 := (e2.trans e3).trans e4
    cases b1 with
    | false => exact q H4 e14
    | true =>
      show tc σ H4 _
      exact hc H4 (e.trans e14) _ fun H5 e5 => h2 H5 ((e.trans e14).trans e5) Q fun H6 e6 => q H6 ((e14.trans e5).trans e6)⟩
theorem et_ev {b : Bool} (h : Ev te σ H (.bl b)) : EvT (fun σ H Q => te σ H fun v H1 => ∃ k, v = .bl k ∧ Q k H1) σ H b := fun H1 e _ q => h H1 e _ fun H2 e2 => ⟨b, rfl, q H2 e2⟩
theorem evr_tupRg (h : Ev ta σ H (.int (n : Int))) (hn : n ≤ 10000) : EvR (tTupRg (tRg1 ta)) σ H (Row K n fun j => (j : Int)) := fun H1 e Q q =>
  h H1 e _ fun H2 e2 => ⟨_, rfl, .of_le (by omega) (by omega) (by omega) (by omega), fun p hp => q _ _ (e2.trans (Ex.new hp)) ⟨p, fun j => .int (j : Int), rfl, st_of (by
    rw [upd_same]
    unfold rgV
    rw [Int.sub_zero, Int.toNat_natCast]
    simp only [Int.zero_add]), fun _ _ => rfl⟩⟩
theorem el_listRg (h : Ev ta σ H (.int (n : Int))) (hn : n ≤ 10000) : EvL (tLstRg (tRg1 ta)) σ H ((List.range n).map fun (j : Nat) => V.int (j : Int)) := fun H1 e Q q =>
  h H1 e _ fun H2 e2 => ⟨_, rfl, .of_le (by omega) (by omega) (by omega) (by omega), fun p hp => q p _ (fresh_back e2 hp) (e2.trans (Ex.new hp)) (by
    rw [upd_same]
    unfold rgV
    rw [Int.sub_zero, Int.toNat_natCast]
    simp only [Int.zero_add])⟩
end
/-! ### the promises -/
def spR (pre : List V → Hp → (V → Hp → Prop) → Prop) : Sp := fun vs H Q _ => ∃ R, pre vs H R ∧ ∀ v H', Ex H H' → R v H' → Q v H'
theorem spR_of {pre : List V → Hp → (V → Hp → Prop) → Prop} {vs : List V} {H : Hp} {R : V → Hp → Prop} (h : ∀ H1, Ex H H1 → pre vs H1 R) : SpR (spR pre) vs H R := fun H1 e _ q _ => ⟨R, h H1 e, q⟩
/-- a table of 1 to 6 rows, none of its numbers below 0 -/
structure OkT (K : PySem.W.Frag) (n : Nat) (f : Nat → Nat → Int) (v : V) (H : Hp) : Prop where
  one : 1 ≤ n
  six : n ≤ 6
  tab : Tab K n f v H
  pos : ∀ i j, i < n → j < n → 0 ≤ f i j
theorem OkT.mono {K : PySem.W.Frag} {n : Nat} {f : Nat → Nat → Int} {v : V} {H H' : Hp} (h : OkT K n f v H) (e : Ex H H') : OkT K n f v H' := ⟨h.one, h.six, mt_tab.e _ _ _ e h.tab, h.pos⟩
section
variable {P : Program} {w : World} {K : PySem.W.Frag} {mg : Str → Option Value} {base : Heap}

def sp_is_whole (K : PySem.W.Frag) : Sp := spR fun vs H R => ∃ i : Int, vs = [.int i] ∧ R = IsV (.bl true)
theorem ok_is_whole (T : Txt K mg) : FnOk P w K mg base CX0 1 T.is_whole.f T.is_whole.fd ["thing"] (sp_is_whole K) := by
  refine T.is_whole.F.ok sc_is_whole (fun vs H Q E h => ?_) (fun cdv A outer s H vs Q E hr h => ?_)
  · obtain ⟨_, ⟨i, rfl, rfl⟩, q⟩ := h
    rfl
  · obtain ⟨_, ⟨i, rfl, rfl⟩, q⟩ := h
    refine ⟨_, (pss_one (ps_ret (pe_and (pe_callB (isi_K (K := K)) (by rfl) T.b_isinstance (by decide +kernel) (pa_cons (pv 0) (pa_cons (pe_bltn (v := .ty "int") (by rfl) T.b_int (by decide +kernel) rfl) pa_nil))) (pe_one (pe_not (pe_callB (isi_K (K := K)) (by rfl) T.b_isinstance (by decide +kernel) (pa_cons (pv 0) (pa_cons (pe_bltn (v := .ty "bool") (by rfl) T.b_bool (by decide +kernel) rfl) pa_nil)))))))), ?_⟩
    exact s_ret (ev_andV (ev_isiI (ev_var rfl) (kit_ty (b := "int") (r := true) (by decide +kernel))) fun _ => ev_notV (ev_isiI (ev_var rfl) (kit_ty (b := "bool") (r := false) (by decide +kernel)))) fun H1 e => q _ _ e rfl
def sp_is_within (K : PySem.W.Frag) : Sp := spR fun vs H R => ∃ i lo hi : Int, vs = [.int i, .int lo, .int hi] ∧ R = IsV (.bl (decide (lo ≤ i) && decide (i ≤ hi)))
theorem ok_is_within (T : Txt K mg) : FnOk P w K mg base CX0 2 T.is_within.f T.is_within.fd ["thing", "least", "most"] (sp_is_within K) := by
  refine T.is_within.F.ok sc_is_within (fun vs H Q E h => ?_) (fun cdv A outer s H vs Q E hr h => ?_)
  · obtain ⟨_, ⟨i, lo, hi, rfl, rfl⟩, q⟩ := h
    rfl
  · obtain ⟨_, ⟨i, lo, hi, rfl, rfl⟩, q⟩ := h
    refine ⟨_, (pss_one (ps_ret (pe_and (pe_call (ok_is_whole T) (hr.mono (by decide)) (by rfl) T.is_whole.g T.is_whole.F.kp T.is_whole.b .nil pass0 (pa_cons (pv 0) pa_nil)) (pe_one (pe_chain op_le op_le (pv 1) (pv 0) (pv 2)))))), ?_⟩
    refine s_ret (v := .bl (true && (decide (lo ≤ i) && decide (i ≤ hi)))) (ev_andV ?_ fun _ => ev_chain (ev_var rfl) (ev_var rfl) rv_I0 (ev_var rfl) rv_I0) fun H1 e => q _ _ e rfl
    exact (evr_callV (ea_cons (ev_var rfl) ea_nil) (spR_of fun _ _ => ⟨i, rfl, rfl⟩)).ev
def sp_is_line (K : PySem.W.Frag) : Sp := spR fun vs H R => ∃ (n : Nat) (f : Nat → Int) (v : V), vs = [v, .int (n : Int)] ∧ n ≤ 6 ∧ Row K n f v H ∧ (∀ j, j < n → 0 ≤ f j) ∧ R = IsV (.bl true)
theorem ok_is_line (T : Txt K mg) : FnOk P w K mg base CX0 2 T.is_line.f T.is_line.fd ["thing", "size"] (sp_is_line K) := by
  refine T.is_line.F.ok sc_is_line (fun vs H Q E h => ?_) (fun cdv A outer s H vs Q E hr h => ?_)
  · obtain ⟨_, ⟨n, f, v, rfl, hn, hv, hf, rfl⟩, q⟩ := h
    rfl
  · obtain ⟨_, ⟨n, f, v, rfl, hn, hv, hf, rfl⟩, q⟩ := h
    refine ⟨_, (pss_one (ps_ret (pe_and (pe_callB (isi_K (K := K)) (by rfl) T.b_isinstance (by decide +kernel) (pa_cons (pv 0) (pa_cons (pe_bltn (v := .ty "tuple") (by rfl) T.b_tuple (by decide +kernel) rfl) pa_nil))) (pe_and (pe_cmpR op_eq (pe_callB (len_K (K := K)) (by rfl) T.b_len (by decide +kernel) (pa_cons (pv 0) pa_nil)) (pv 1) (nomark _)) (pe_one (pe_callB (all_K (K := K)) (by rfl) T.b_all (by decide +kernel) (pa_cons (pe_lc (own := [("one", 2)]) (g := gName 2) (tt := tYes) rfl sc_is_line.nd (pi_tupK (K := K) (pv 0)) (blkOk_by (by dsimp only [cxOf, envOfC]; decide +kernel)) (fun _ _ _ _ _ => (pg_name (i := 2) sc_is_line.nd rfl (by first | exact .inl rfl | exact .inr rfl))) (fun _ _ _ _ _ => pts_nil) (fun _ _ _ _ _ => (pe_and (pe_call (ok_is_whole T) (hr.mono (by decide)) (by rfl) T.is_whole.g T.is_whole.F.kp T.is_whole.b .nil pass0 (pa_cons (pv 2) pa_nil)) (pe_one (pe_cmpR op_ge (pv 2) pe_int (nomark _)))))) pa_nil))))))), ?_⟩
    refine s_ret (v := .bl (true && (decide (V.int n = V.int n) && (List.range n).all fun _ => true))) (ev_andV (ev_isiT (ev_var rfl) hv (kit_ty (b := "tuple") (r := true) (by decide +kernel))) fun _ => ev_andV (ev_op (ev_lenT (ev_var rfl) hv) (ev_var rfl) (rv_eq rfl)) fun _ => ev_all ?_) fun H1 e => q _ _ e ?_
    · refine lcV (src_tup (.of (ev_var rfl) mt_row.e hv) fun _ => mt_is _) (by omega) (fun _ => rfl) fun j x H1 hj e (hx : x = _) => ?_
      subst hx
      refine ev_is (ev_andV ((evr_callV (ea_cons (ev_var rfl) ea_nil) (spR_of fun _ _ => ⟨f j, rfl, rfl⟩)).ev) fun _ => ev_op (ev_var rfl) ev_c rv_I0) ?_
      rw [decide_eq_true (hf j hj)]
      rfl
    · show V.bl _ = V.bl _
      rw [decide_eq_true rfl]
      congr 1
      simp
def sp_a_table (K : PySem.W.Frag) : Sp := spR fun vs H R => ∃ (n : Nat) (f : Nat → Nat → Int) (v : V), vs = [v] ∧ OkT K n f v H ∧ R = IsV (.bl true)
theorem ok_a_table (T : Txt K mg) : FnOk P w K mg base CX0 3 T.a_table.f T.a_table.fd ["thing"] (sp_a_table K) := by
  refine T.a_table.F.ok sc_a_table (fun vs H Q E h => ?_) (fun cdv A outer s H vs Q E hr h => ?_)
  · obtain ⟨_, ⟨n, f, v, rfl, hv, rfl⟩, q⟩ := h
    rfl
  · obtain ⟨_, ⟨n, f, v, rfl, hv, rfl⟩, q⟩ := h
    refine ⟨_, (pss_cons (ps_if (PW.pt (pw_or (pt_not (pt_val (pe_callB (isi_K (K := K)) (by rfl) T.b_isinstance (by decide +kernel) (pa_cons (pv 0) (pa_cons (pe_bltn (v := .ty "tuple") (by rfl) T.b_tuple (by decide +kernel) rfl) pa_nil))))) (pw_or1 (pt_not (pt_chain op_le op_le pe_int (pe_callB (len_K (K := K)) (by rfl) T.b_len (by decide +kernel) (pa_cons (pv 0) pa_nil)) (pe_glob (v := .int (6)) (by rfl) T.c_MOST_ROWS.choose_spec ⟨_, rfl⟩)))))) (pss_one (ps_ret pe_bl)) pss_nil)
        (pss_one (ps_ret (pe_callB (all_K (K := K)) (by rfl) T.b_all (by decide +kernel) (pa_cons (pe_lc (own := [("line", 1)]) (g := gName 1) (tt := tYes) rfl sc_a_table.nd (pi_tupK (K := K) (pv 0)) (blkOk_by (by dsimp only [cxOf, envOfC]; decide +kernel)) (fun _ _ _ _ _ => (pg_name (i := 1) sc_a_table.nd rfl (by first | exact .inl rfl | exact .inr rfl))) (fun _ _ _ _ _ => pts_nil) (fun _ _ _ _ _ => (pe_call (ok_is_line T) (hr.mono (by decide)) (by rfl) T.is_line.g T.is_line.F.kp T.is_line.b .nil pass0 (pa_cons (pv 1) (pa_cons (pe_callB (len_K (K := K)) (by rfl) T.b_len (by decide +kernel) (pa_cons (pv 0) pa_nil)) pa_nil))))) pa_nil))))), ?_⟩
    have h1 := hv.one
    have h6 := hv.six
    refine q_when (b := false) (et_is (et_or (et_not (et_B (ev_isiT (ev_var rfl) hv.tab (kit_ty (b := "tuple") (r := true) (by decide +kernel))))) fun _ => et_not (et_ev (ev_chain ev_c (ev_lenT (ev_var rfl) hv.tab) rv_I0 ev_c rv_I0))) ?_) (fun z => nomatch z) fun _ H1 e1 => ?_
    · rw [decide_eq_true (show (1 : Int) ≤ n by omega), decide_eq_true (show (n : Int) ≤ 6 by omega)]
      rfl
    refine s_ret (v := .bl ((List.range n).all fun _ => true)) (ev_all ?_) fun H2 e2 => q _ _ (e1.trans e2) ?_
    · refine lcV (src_tup (.of (ev_var rfl) mt_tab.e (hv.mono e1).tab) fun _ => mt_row) (by omega) (fun _ => rfl) fun i x H2 hi e2 hx => ?_
      exact (evr_callV (ea_cons (ev_var rfl) (ea_cons (ev_lenT (ev_var rfl) ((hv.mono e1).mono e2).tab) ea_nil)) (spR_of fun H3 e3 => ⟨n, f i, x, rfl, h6, mt_row.e _ _ _ e3 hx, fun j hj => hv.pos i j hi hj, rfl⟩)).ev
    · show V.bl _ = V.bl _
      congr 1
      simp
def sp_need_table (K : PySem.W.Frag) : Sp := spR fun vs H R => ∃ (n : Nat) (f : Nat → Nat → Int) (v : V), vs = [v] ∧ OkT K n f v H ∧ R = IsV .non
theorem ok_need_table (T : Txt K mg) : FnOk P w K mg base CX0 4 T.need_table.f T.need_table.fd ["table"] (sp_need_table K) := by
  refine T.need_table.F.ok sc_need_table (fun vs H Q E h => ?_) (fun cdv A outer s H vs Q E hr h => ?_)
  · obtain ⟨_, ⟨n, f, v, rfl, hv, rfl⟩, q⟩ := h
    rfl
  · obtain ⟨_, ⟨n, f, v, rfl, hv, rfl⟩, q⟩ := h
    refine ⟨_, (pss_one (ps_if (pt_not (pt_val (pe_call (ok_a_table T) (hr.mono (by decide)) (by rfl) T.a_table.g T.a_table.F.kp T.a_table.b .nil pass0 (pa_cons (pv 0) pa_nil)))) (pss_one ps_never) pss_nil)), ?_⟩
    refine s_when (b := false) (et_not (et_B (b := true) (evr_callV (ea_cons (ev_var rfl) ea_nil) (spR_of fun H1 e => ⟨n, f, v, rfl, hv.mono e, rfl⟩)).ev)) (fun z => nomatch z) fun _ H1 e1 => q _ _ e1 rfl
def sp_need_place (K : PySem.W.Frag) : Sp := spR fun vs H R => ∃ (n i : Nat) (f : Nat → Nat → Int) (v : V), vs = [v, .int (i : Int)] ∧ Tab K n f v H ∧ i < n ∧ R = IsV .non
theorem ok_need_place (T : Txt K mg) : FnOk P w K mg base CX0 3 T.need_place.f T.need_place.fd ["table", "place"] (sp_need_place K) := by
  refine T.need_place.F.ok sc_need_place (fun vs H Q E h => ?_) (fun cdv A outer s H vs Q E hr h => ?_)
  · obtain ⟨_, ⟨n, i, f, v, rfl, hv, hi, rfl⟩, q⟩ := h
    rfl
  · obtain ⟨_, ⟨n, i, f, v, rfl, hv, hi, rfl⟩, q⟩ := h
    refine ⟨_, (pss_one (ps_if (pt_not (pt_val (pe_call (ok_is_within T) (hr.mono (by decide)) (by rfl) T.is_within.g T.is_within.F.kp T.is_within.b .nil pass0 (pa_cons (pv 1) (pa_cons pe_int (pa_cons (pe_op op_sub (pe_callB (len_K (K := K)) (by rfl) T.b_len (by decide +kernel) (pa_cons (pv 0) pa_nil)) pe_int) pa_nil)))))) (pss_one ps_never) pss_nil)), ?_⟩
    refine s_when (b := false) (et_is (et_not (et_B (evr_callV (ea_cons (ev_var rfl) (ea_cons ev_c (ea_cons (ev_op (ev_lenT (ev_var rfl) hv) ev_c rv_I0) ea_nil))) (spR_of fun H1 e => ⟨i, 0, (n : Int) - 1, rfl, rfl⟩)).ev)) ?_) (fun z => nomatch z) fun _ H1 e1 => q _ _ e1 rfl
    rw [decide_eq_true (show (0 : Int) ≤ i by omega), decide_eq_true (show (i : Int) ≤ n - 1 by omega)]
    rfl
def sp_all_places (K : PySem.W.Frag) : Sp := spR fun vs H R => ∃ (n : Nat) (f : Nat → Nat → Int) (v : V), vs = [v] ∧ n ≤ 6 ∧ Tab K n f v H ∧ R = Row K n fun j => (j : Int)
theorem ok_all_places (T : Txt K mg) : FnOk P w K mg base CX0 1 T.all_places.f T.all_places.fd ["table"] (sp_all_places K) := by
  refine T.all_places.F.ok sc_all_places (fun vs H Q E h => ?_) (fun cdv A outer s H vs Q E hr h => ?_)
  · obtain ⟨_, ⟨n, f, v, rfl, hn, hv, rfl⟩, q⟩ := h
    rfl
  · obtain ⟨_, ⟨n, f, v, rfl, hn, hv, rfl⟩, q⟩ := h
    refine ⟨_, (pss_one (ps_ret (pe_tupRg rfl (by rfl) T.b_tuple (prg_1 (by rfl) T.b_range (pe_callB (len_K (K := K)) (by rfl) T.b_len (by decide +kernel) (pa_cons (pv 0) pa_nil)))))), ?_⟩
    exact s_retR (evr_tupRg (ev_lenT (ev_var rfl) hv) (by omega)) fun r H1 e => q r H1 e
end
end K56
namespace K56
open PySem PySem.Spec PyProof.Rows L2 Evl

/-! ### marks as numbers -/
def nz (f : Nat → Nat → Int) : Nat → Nat → Bool := fun i j => !decide (V.int (f i j) = V.int 0)
def b2 (a : Nat → Nat → Bool) : Nat → Nat → Int := fun i j => if a i j then 1 else 0
theorem nz_iff {f : Nat → Nat → Int} {i j : Nat} : nz f i j = true ↔ f i j ≠ 0 := by
  unfold nz
  rw [dec_int]
  simp
theorem nz_b2 (a : Nat → Nat → Bool) : nz (b2 a) = a := by
  funext i j
  unfold nz b2
  rw [dec_int]
  cases a i j <;> rfl
theorem b2_pos (a : Nat → Nat → Bool) (i j : Nat) : 0 ≤ b2 a i j := by
  unfold b2
  cases a i j <;> decide
theorem b2_le (a : Nat → Nat → Bool) (i j : Nat) : b2 a i j ≤ 1 := by
  unfold b2
  cases a i j <;> decide
def mul (n : Nat) (f g : Nat → Nat → Int) : Nat → Nat → Int := fun i j => ((List.range n).map fun l => f i l * g l j).sum
theorem sum_nn {α : Type} {h : α → Int} : ∀ {l : List α}, (∀ x ∈ l, 0 ≤ h x) → 0 ≤ (l.map h).sum ∧ ((l.map h).sum ≠ 0 ↔ ∃ x ∈ l, h x ≠ 0)
  | [], _ => ⟨Int.le_refl _, by simp⟩
  | a :: l, hh => by
    obtain ⟨h1, h2⟩ := sum_nn (l := l) fun x hx => hh x (List.mem_cons_of_mem _ hx)
    have h3 := hh a List.mem_cons_self
    rw [List.map_cons, List.sum_cons]
    refine ⟨by omega, ?_⟩
    constructor
    · intro e
      by_cases q : h a = 0
      · obtain ⟨x, hx, e⟩ := h2.mp (by omega)
        exact ⟨x, List.mem_cons_of_mem _ hx, e⟩
      · exact ⟨a, List.mem_cons_self, q⟩
    · rintro ⟨x, hx, e⟩
      rcases List.mem_cons.mp hx with rfl | hx
      · omega
      · have := h2.mpr ⟨x, hx, e⟩
        omega
theorem b2_mul {a c : Nat → Nat → Bool} {i l j : Nat} : b2 a i l * b2 c l j = b2 (fun _ _ => a i l && c l j) 0 0 := by
  unfold b2
  cases a i l <;> cases c l j <;> rfl
theorem nz_mul (n : Nat) (a c : Nat → Nat → Bool) : nz (mul n (b2 a) (b2 c)) = fun i j => (List.range n).any fun l => a i l && c l j := by
  funext i j
  have e : ∀ x y : Bool, (x = true ↔ y = true) → x = y := fun x y z => by cases x <;> cases y <;> simp_all
  refine e _ _ ?_
  rw [nz_iff, any_range]
  unfold mul
  simp only [b2_mul]
  rw [(sum_nn (fun l _ => b2_pos _ _ _)).2]
  constructor
  · rintro ⟨l, hl, q⟩
    refine ⟨l, List.mem_range.mp hl, ?_⟩
    cases z : a i l && c l j with
    | true => rfl
    | false =>
      unfold b2 at q
      rw [z] at q
      exact absurd rfl q
  · rintro ⟨l, hl, q⟩
    refine ⟨l, List.mem_range.mpr hl, ?_⟩
    unfold b2
    rw [q]
    decide
theorem nz_pw (n : Nat) (a : Nat → Nat → Bool) (m : Nat) : nz (mul n (b2 (pw n a m)) (b2 a)) = pw n a (m + 1) := nz_mul n _ _
def flB (n : Nat) (b : Nat → Nat → Bool) : Bool := (List.range n).all fun i => (List.range n).all fun j => b i j
theorem flB_iff {n : Nat} {b : Nat → Nat → Bool} : flB n b = true ↔ Fl n b := by
  unfold flB
  rw [List.all_eq_true]
  constructor
  · intro h i j hi hj
    have := h i (List.mem_range.mpr hi)
    rw [List.all_eq_true] at this
    exact this j (List.mem_range.mpr hj)
  · intro h i hi
    rw [List.all_eq_true]
    exact fun j hj => h i j (List.mem_range.mp hi) (List.mem_range.mp hj)

/-! ### lists of lists; zip -/
section
variable {K : PySem.W.Frag} {σ : L2.St} {H : Hp} {ta tb te : TE} {v : V} {n : Nat} {S : Nat → V → Hp → Prop}
theorem lcLL {wi : TI} {j m : Nat} {vs : List Nat} {f : Nat → Nat → V} (hw : Src wi σ H n S) (hn : n ≤ 40000) (hwi : ∀ x, wipe ((wipe σ vs).set j (some x)) vs = wipe σ vs)
    (hs : ∀ i x H1, i < n → Ex H H1 → S i x H1 → EvL te ((wipe σ vs).set j (some x)) H1 ((List.range m).map (f i))) {Q : VK}
    (q : ∀ (p : Addr) (cs : Nat → Addr) H2, H p = none → Ex H H2 → H2 p = some (.lst ((List.range n).map fun i => .ref (cs i))) → (∀ i, i < n → H2 (cs i) = some (.lst ((List.range m).map (f i)))) → Q (.ref p) H2) : tLc wi (gName j) tYes te vs σ H Q := hw H (Ex.refl H) _ fun J H1 e1 w D hD => by
  refine lc_it w.w (fun i H' => Ex H1 H' ∧ ∃ cs : Nat → Addr, H' D = some (.lst ((List.range i).map fun k => .ref (cs k))) ∧ ∀ k, k < i → cs k ≠ D ∧ H' (cs k) = some (.lst ((List.range m).map (f k)))) ⟨Ex.new hD, fun _ => D, upd_same, fun k hk => absurd hk (Nat.not_lt_zero k)⟩ (fun i H' _ p => p.1) (fun i x H2 H3 hi p y => ?_) (fun H2 p => ?_)
  · obtain ⟨p1, cs, p2, p3⟩ := p
    obtain ⟨y1, y2⟩ := y
    show wipe ((wipe σ vs).set j (some x)) vs = wipe σ vs ∧ te ((wipe σ vs).set j (some x)) H3 _
    refine ⟨hwi x, hs i x H3 hi ((e1.trans p1).trans y1) y2 H3 (Ex.refl H3) _ fun c H5 hc e5 h5 => ?_⟩
    have hD5 := e5 D _ (y1 D _ p2)
    have ncD : c ≠ D := fun z => by
      rw [z, y1 D _ p2] at hc
      cases hc
    refine ⟨_, hD5, Nat.lt_of_le_of_lt (show ((List.range i).map fun k => V.ref (cs k)).length ≤ 40000 by rw [List.length_map, List.length_range]; omega) (by decide), Ex.mut ((p1.trans y1).trans e5) hD, fun k => if k < i then cs k else c, ?_, fun k hk => ?_⟩
    · rw [upd_same, List.range_succ, List.map_append]
      congr 3
      · refine map_range_congr fun k hk => ?_
        show V.ref (cs k) = V.ref (if k < i then cs k else c)
        rw [if_pos hk]
      · show [V.ref c] = [V.ref (if i < i then cs i else c)]
        rw [if_neg (Nat.lt_irrefl i)]
    · show (if k < i then cs k else c) ≠ D ∧ _ = _
      by_cases hki : k < i
      · rw [show (fun k => if k < i then cs k else c) k = cs k from if_pos hki, if_pos hki]
        obtain ⟨z1, z2⟩ := p3 k hki
        exact ⟨z1, by rw [upd_ne z1]; exact e5 _ _ (y1 _ _ z2)⟩
      · have : k = i := by omega
        subst this
        rw [show (fun k' => if k' < k then cs k' else c) k = c from if_neg hki, if_neg hki]
        exact ⟨ncD, by rw [upd_ne ncD]; exact h5⟩
  · obtain ⟨p1, cs, p2, p3⟩ := p
    exact q D cs H2 (fresh_back e1 hD) (e1.trans p1) p2 fun i hi => (p3 i hi).2
theorem q_asgLL {wi : TI} {j m k : Nat} {vs : List Nat} {f : Nat → Nat → V} {D : Ends} {tz : TS} (hw : Src wi σ H n S) (hn : n ≤ 40000) (hwi : ∀ x, wipe ((wipe σ vs).set j (some x)) vs = wipe σ vs)
    (hs : ∀ i x H1, i < n → Ex H H1 → S i x H1 → EvL te ((wipe σ vs).set j (some x)) H1 ((List.range m).map (f i)))
    (q : ∀ (p : Addr) (cs : Nat → Addr) H2, H p = none → Ex H H2 → H2 p = some (.lst ((List.range n).map fun i => .ref (cs i))) → (∀ i, i < n → H2 (cs i) = some (.lst ((List.range m).map (f i)))) → tz D (σ.set k (some (.ref p))) H2) : tSeq (tAsg (tLc wi (gName j) tYes te vs) (gName k)) tz D σ H := by
  show tLc wi (gName j) tYes te vs σ H fun x H1 => tz D (σ.set k (some x)) H1
  exact lcLL hw hn hwi hs q
theorem evr_ixTV {i : Nat} (ha : Ev ta σ H v) (hv : TAt K n S v H) (hm : Me (S i)) (hb : Ev tb σ H (.int (i : Int))) (hi : i < n) : EvR (tOp (rIxT K) ta tb) σ H (S i) := by
  obtain ⟨x, h1, h2⟩ := ev_ixT ha hv hb hi
  exact .of h2 hm h1
/-- a new pair (f i, g i) at each turn -/
def PairAt (f g : Nat → V) (i : Nat) : V → Hp → Prop := fun v H => ∃ T, v = .ref T ∧ H T = some (.tup [f i, g i])
theorem src_zipM {b : Addr} {f g : Nat → V} (ha : Ev ta σ H v) (hv : TAt K n (fun i => IsV (f i)) v H) (hb : Ev tb σ H (.ref b)) (h2 : SqL K H b ((List.range n).map g)) : Src (iZipM K (tCons ta (tCons tb tNil))) σ H n (PairAt f g) := fun H1 e R k =>
  ha H1 e _ fun H2 e2 => hb H2 (e.trans e2) _ fun H3 e3 => by
    obtain ⟨a, rs, rfl, h1, hr⟩ := hv
    rw [map_range_congr hr] at h1
    have len : ∀ h : Nat → V, ((List.range n).map h).length = n := fun h => by rw [List.length_map, List.length_range]
    have h1' := ex_t ((e.trans e2).trans e3) h1
    have h2' := ex_l ((e.trans e2).trans e3) h2
    refine ⟨a, b, _, _, rfl, h1', h2', k _ H3 (e2.trans e3) ⟨fun i H4 hi e4 => ⟨_, _, f i, g i, ex_t e4 h1', ex_l e4 h2', get_range hi, get_range hi⟩, fun H4 e4 => ⟨_, _, ex_t e4 h1', ex_l e4 h2', by rw [len]; exact Nat.le_refl _, by rw [len]; exact Nat.le_refl _, .inl (by rw [len])⟩, fun i H4 x H5 hi e4 y => ?_⟩⟩
    obtain ⟨T, x', y', rfl, hT, rfl, q1, q2⟩ := y
    have z1 := q1 _ (ex_t e4 h1')
    have z2 := q2 _ (ex_l e4 h2')
    rw [get_range hi] at z1 z2
    cases z1
    cases z2
    exact ⟨Ex.new hT, T, rfl, upd_same⟩
theorem src_zipT {u : V} {f g : Nat → V} (ha : Ev ta σ H v) (hv : TAt K n (fun i => IsV (f i)) v H) (hb : Ev tb σ H u) (hu : TAt K n (fun i => IsV (g i)) u H) : Src (RZ.iZipA K (tCons ta (tCons tb tNil))) σ H n (PairAt f g) := fun H1 e R k =>
  ha H1 e _ fun H2 e2 => hb H2 (e.trans e2) _ fun H3 e3 => by
    obtain ⟨a, rs, rfl, h1, hr⟩ := hv
    rw [map_range_congr hr] at h1
    obtain ⟨b, ss, rfl, h2, hs⟩ := hu
    rw [map_range_congr hs] at h2
    have len : ∀ h : Nat → V, ((List.range n).map h).length = n := fun h => by rw [List.length_map, List.length_range]
    have h1' := ex_t ((e.trans e2).trans e3) h1
    have h2' := ex_t ((e.trans e2).trans e3) h2
    refine ⟨a, b, _, _, rfl, .inr ⟨h1', h2', k _ H3 (e2.trans e3) ⟨fun i H4 hi e4 => ⟨_, _, f i, g i, ex_t e4 h1', ex_t e4 h2', get_range hi, get_range hi⟩, fun H4 e4 => ⟨_, _, ex_t e4 h1', ex_t e4 h2', .inl (by rw [len]; exact Nat.le_refl _)⟩, fun i H4 x H5 hi e4 y => ?_⟩⟩⟩
    obtain ⟨T, x', y', rfl, hT, rfl, q1, q2⟩ := y
    have z1 := q1 _ (ex_t e4 h1')
    have z2 := q2 _ (ex_t e4 h2')
    rw [get_range hi] at z1 z2
    cases z1
    cases z2
    exact ⟨Ex.new hT, T, rfl, upd_same⟩
/-- for a, b in zip(..): the elements told by values -/
theorem lcZ {wi : TI} {j1 j2 : Nat} {vs : List Nat} {f g h : Nat → V} (hw : Src wi σ H n (PairAt f g)) (hn : n ≤ 40000) (hwi : ∀ x y, wipe (((wipe σ vs).set j1 (some x)).set j2 (some y)) vs = wipe σ vs)
    (hs : ∀ i H1, i < n → Ex H H1 → Ev te (((wipe σ vs).set j1 (some (f i))).set j2 (some (g i))) H1 (h i)) : EvL (tLc wi (gTup K 2 (gCons (gName j1) (gCons (gName j2) gNil))) tYes te vs) σ H ((List.range n).map h) :=
  (lcR (R := fun i => IsV (h i)) hw (fun _ => mt_is _) hn fun i x H1 hi e s => by
    obtain ⟨T, rfl, hT⟩ := s
    exact ⟨((wipe σ vs).set j1 (some (f i))).set j2 (some (g i)), fun Q q => ⟨T, _, rfl, st_of hT, rfl, f i, [g i], rfl, g i, [], rfl, rfl, q H1 (Ex.refl H1)⟩, hwi _ _, .is (hs i H1 hi e)⟩).l
end
section
variable {P : Program} {w : World} {K : PySem.W.Frag} {mg : Str → Option Value} {base : Heap}

def sp_multiplied (K : PySem.W.Frag) : Sp := spR fun vs H R => ∃ (n : Nat) (a c : Nat → Nat → Bool) (u v : V), vs = [u, v] ∧ n ≤ 6 ∧ Tab K n (b2 a) u H ∧ Tab K n (b2 c) v H ∧ R = Tab K n (mul n (b2 a) (b2 c))
theorem ok_multiplied (T : Txt K mg) : FnOk P w K mg base CX0 2 T.multiplied.f T.multiplied.fd ["one", "other"] (sp_multiplied K) := by
  refine T.multiplied.F.ok sc_multiplied (fun vs H Q E h => ?_) (fun cdv A outer s H vs Q E hr h => ?_)
  · obtain ⟨_, ⟨n, a, c, u, v, rfl, hn, hu, hv, rfl⟩, q⟩ := h
    rfl
  · obtain ⟨_, ⟨n, a, c, u, v, rfl, hn, hu, hv, rfl⟩, q⟩ := h
    refine ⟨_, (pss_cons (ps_set (i := 2) sc_multiplied.nd rfl (by first | exact .inl rfl | exact .inr rfl) (pe_lc (own := [("place", 4)]) (g := gName 4) (tt := tYes) rfl sc_multiplied.nd (pi_tupK (K := K) (pe_call (ok_all_places T) (hr.mono (by decide)) (by rfl) T.all_places.g T.all_places.F.kp T.all_places.b .nil pass0 (pa_cons (pv 1) pa_nil))) (blkOk_by (by dsimp only [cxOf, envOfC]; decide +kernel)) (fun _ _ _ _ _ => (pg_name (i := 4) sc_multiplied.nd rfl (by first | exact .inl rfl | exact .inr rfl))) (fun _ _ _ _ _ => pts_nil) (fun _ _ _ _ _ => (pe_lc (own := [("line", 3)]) (g := gName 3) (tt := tYes) rfl sc_multiplied.nd (pi_tupK (K := K) (pv 1)) (blk1 ["one", "other", "columns", "line", "place", "a", "b", "column"] (defScope s_multiplied) (by decide +kernel)) (fun _ _ _ _ _ => (pg_name (i := 3) sc_multiplied.nd rfl (by first | exact .inl rfl | exact .inr rfl))) (fun _ _ _ _ _ => pts_nil) (fun _ _ _ _ _ => (pe_ix (ix_tupK (K := K)) (pv 3) (pv 4) (fun _ _ => rfl)))))))
        (pss_one (ps_ret (pe_callTy (tup_K (K := K)) (by rfl) T.b_tuple (by decide +kernel) (pa_cons (pe_lc (own := [("line", 3)]) (g := gName 3) (tt := tYes) rfl sc_multiplied.nd (pi_tupK (K := K) (pv 0)) (blkOk_by (by dsimp only [cxOf, envOfC]; decide +kernel)) (fun _ _ _ _ _ => (pg_name (i := 3) sc_multiplied.nd rfl (by first | exact .inl rfl | exact .inr rfl))) (fun _ _ _ _ _ => pts_nil) (fun _ _ _ _ _ => (pe_callTy (tup_K (K := K)) (by rfl) T.b_tuple (by decide +kernel) (pa_cons (pe_lc (own := [("column", 7)]) (g := gName 7) (tt := tYes) rfl sc_multiplied.nd (pi_listK (K := K) (pv 2)) (blk1 ["one", "other", "columns", "line", "place", "a", "b", "column"] (defScope s_multiplied) (by decide +kernel)) (fun _ _ _ _ _ => (pg_name (i := 7) sc_multiplied.nd rfl (by first | exact .inl rfl | exact .inr rfl))) (fun _ _ _ _ _ => pts_nil) (fun _ _ _ _ _ => (pe_callB (sum_K (K := K)) (by rfl) T.b_sum (by decide +kernel) (pa_cons (pe_lc (own := [("a", 5), ("b", 6)]) (g := gTup K 2 (gCons (gName 5) (gCons (gName 6) (gNil)))) (tt := tYes) rfl sc_multiplied.nd (pi_zipMK (K := K) (by rfl) T.b_zip (pa_cons (pv 3) (pa_cons (pv 7) pa_nil))) (blk2 ["one", "other", "columns", "line", "place", "a", "b", "column"] (defScope s_multiplied) (by decide +kernel)) (fun _ _ _ _ _ => (pg_tupK (K := K) (n := 2) rfl (pgs_cons (pg_name (i := 5) sc_multiplied.nd rfl (by first | exact .inl rfl | exact .inr rfl)) (pgs_cons (pg_name (i := 6) sc_multiplied.nd rfl (by first | exact .inl rfl | exact .inr rfl)) pgs_nil)))) (fun _ _ _ _ _ => pts_nil) (fun _ _ _ _ _ => (pe_op op_mul (pv 5) (pv 6)))) pa_nil)))) pa_nil)))) pa_nil))))), ?_⟩
    refine q_asgLL (m := n) (f := fun j l => .int (b2 c l j)) (src_tup (evr_callV (ea_cons (ev_var rfl) ea_nil) (spR_of fun H1 e => ⟨n, _, v, rfl, hn, mt_tab.e _ _ _ e hv, rfl⟩)) fun _ => mt_is _) (by omega) (fun _ => rfl) (fun j x H1 hj e (hx : x = _) => ?_) fun p cs H1 hp e1 h1 h2 => ?_
    · subst hx
      refine lcV (src_tup (.of (ev_var rfl) mt_tab.e (mt_tab.e _ _ _ e hv)) fun _ => mt_row) (by omega) (fun _ => rfl) fun l r H2 hl e2 hr => ?_
      exact (evr_ixTV (ev_var rfl) hr (mt_is _).e (ev_var rfl) hj).ev
    · refine s_retR (R := Tab K n (mul n (b2 a) (b2 c))) (evr_tupOf (lcN (src_tup (.of (ev_var rfl) mt_tab.e (mt_tab.e _ _ _ e1 hu)) fun _ => mt_row) (fun _ => mt_row) (by omega) (fun _ => rfl) fun i x H2 hi e2 hx => ?_) fun _ => mt_row) fun r H2 e2 => q r H2 (e1.trans e2)
      refine evr_tupOf (lcN (R := fun j => IsV (.int (mul n (b2 a) (b2 c) i j))) (src_list (S := fun j => IsV (.ref (cs j))) (ev_var rfl) (ex_l e2 (sq_of h1)) (fun _ _ => rfl) fun _ => mt_is _) (fun _ => mt_is _) (by omega) (fun _ => rfl) fun j y H3 hj e3 (hy : y = _) => ?_) fun _ => mt_is _
      subst hy
      refine .is (ev_sum (f := fun l => b2 a i l * b2 c l j) (lcZ (src_zipM (ev_var rfl) (mt_row.e _ _ _ e3 hx) (ev_var rfl) (ex_l (e2.trans e3) (sq_of (h2 j hj)))) (by omega) (fun _ _ => rfl) fun l H4 hl e4 => ?_))
      refine ev_op (ev_var rfl) (ev_var rfl) (rv_I (.inl ?_))
      have q1 := b2_pos a i l
      have q2 := b2_le a i l
      omega
def sp_no_nought (K : PySem.W.Frag) : Sp := spR fun vs H R => ∃ (n : Nat) (f : Nat → Nat → Int) (v : V), vs = [v] ∧ n ≤ 6 ∧ Tab K n f v H ∧ R = IsV (.bl (flB n (nz f)))
theorem ok_no_nought (T : Txt K mg) : FnOk P w K mg base CX0 1 T.no_nought.f T.no_nought.fd ["table"] (sp_no_nought K) := by
  refine T.no_nought.F.ok sc_no_nought (fun vs H Q E h => ?_) (fun cdv A outer s H vs Q E hr h => ?_)
  · obtain ⟨_, ⟨n, f, v, rfl, hn, hv, rfl⟩, q⟩ := h
    rfl
  · obtain ⟨_, ⟨n, f, v, rfl, hn, hv, rfl⟩, q⟩ := h
    refine ⟨_, (pss_one (ps_ret (pe_callB (all_K (K := K)) (by rfl) T.b_all (by decide +kernel) (pa_cons (pe_lc (own := [("line", 2)]) (g := gName 2) (tt := tYes) rfl sc_no_nought.nd (pi_tupK (K := K) (pv 0)) (blkOk_by (by dsimp only [cxOf, envOfC]; decide +kernel)) (fun _ _ _ _ _ => (pg_name (i := 2) sc_no_nought.nd rfl (by first | exact .inl rfl | exact .inr rfl))) (fun _ _ _ _ _ => pts_nil) (fun _ _ _ _ _ => (pe_callB (all_K (K := K)) (by rfl) T.b_all (by decide +kernel) (pa_cons (pe_lc (own := [("number", 1)]) (g := gName 1) (tt := tYes) rfl sc_no_nought.nd (pi_tupK (K := K) (pv 2)) (blk1 ["table", "number", "line"] (defScope s_no_nought) (by decide +kernel)) (fun _ _ _ _ _ => (pg_name (i := 1) sc_no_nought.nd rfl (by first | exact .inl rfl | exact .inr rfl))) (fun _ _ _ _ _ => pts_nil) (fun _ _ _ _ _ => (pe_cmpR op_ne (pv 1) pe_int (nomark _)))) pa_nil)))) pa_nil)))), ?_⟩
    refine s_ret (ev_all (f := fun i => (List.range n).all fun j => nz f i j) (lcV (src_tup (.of (ev_var rfl) mt_tab.e hv) fun _ => mt_row) (by omega) (fun _ => rfl) fun i x H1 hi e hx => ?_)) fun H1 e => q _ H1 e rfl
    refine ev_all (f := fun j => nz f i j) (lcV (src_tup (.of (ev_var rfl) mt_row.e hx) fun _ => mt_is _) (by omega) (fun _ => rfl) fun j y H2 hj e2 (hy : y = _) => ?_)
    subst hy
    exact ev_op (ev_var rfl) ev_c (rv_ne rfl)
def sp_marked (K : PySem.W.Frag) : Sp := spR fun vs H R => ∃ (n : Nat) (f : Nat → Nat → Int) (v : V), vs = [v] ∧ n ≤ 6 ∧ Tab K n f v H ∧ R = Tab K n (b2 (nz f))
theorem ok_marked (T : Txt K mg) : FnOk P w K mg base CX0 1 T.marked.f T.marked.fd ["table"] (sp_marked K) := by
  refine T.marked.F.ok sc_marked (fun vs H Q E h => ?_) (fun cdv A outer s H vs Q E hr h => ?_)
  · obtain ⟨_, ⟨n, f, v, rfl, hn, hv, rfl⟩, q⟩ := h
    rfl
  · obtain ⟨_, ⟨n, f, v, rfl, hn, hv, rfl⟩, q⟩ := h
    refine ⟨_, (pss_one (ps_ret (pe_callTy (tup_K (K := K)) (by rfl) T.b_tuple (by decide +kernel) (pa_cons (pe_lc (own := [("line", 2)]) (g := gName 2) (tt := tYes) rfl sc_marked.nd (pi_tupK (K := K) (pv 0)) (blkOk_by (by dsimp only [cxOf, envOfC]; decide +kernel)) (fun _ _ _ _ _ => (pg_name (i := 2) sc_marked.nd rfl (by first | exact .inl rfl | exact .inr rfl))) (fun _ _ _ _ _ => pts_nil) (fun _ _ _ _ _ => (pe_callTy (tup_K (K := K)) (by rfl) T.b_tuple (by decide +kernel) (pa_cons (pe_lc (own := [("number", 1)]) (g := gName 1) (tt := tYes) rfl sc_marked.nd (pi_tupK (K := K) (pv 2)) (blk1 ["table", "number", "line"] (defScope s_marked) (by decide +kernel)) (fun _ _ _ _ _ => (pg_name (i := 1) sc_marked.nd rfl (by first | exact .inl rfl | exact .inr rfl))) (fun _ _ _ _ _ => pts_nil) (fun _ _ _ _ _ => (pe_callTy call_int1 (by rfl) T.b_int (by decide +kernel) (pa_cons (pe_cmpR op_ne (pv 1) pe_int (nomark _)) pa_nil)))) pa_nil)))) pa_nil)))), ?_⟩
    refine s_retR (R := Tab K n (b2 (nz f))) (evr_tupOf (lcN (src_tup (.of (ev_var rfl) mt_tab.e hv) fun _ => mt_row) (fun _ => mt_row) (by omega) (fun _ => rfl) fun i x H2 hi e2 hx => ?_) fun _ => mt_row) fun r H2 e2 => q r H2 e2
    refine evr_tupOf (lcN (R := fun j => IsV (.int (b2 (nz f) i j))) (src_tup (.of (ev_var rfl) mt_row.e hx) fun _ => mt_is _) (fun _ => mt_is _) (by omega) (fun _ => rfl) fun j y H3 hj e3 (hy : y = _) => ?_) fun _ => mt_is _
    subst hy
    exact .is (ev_intB (ev_op (ev_var rfl) ev_c (rv_ne rfl)))
def sp_marks (K : PySem.W.Frag) : Sp := spR fun vs H R => ∃ (n : Nat) (f : Nat → Nat → Int) (v : V), vs = [v] ∧ OkT K n f v H ∧ R = Tab K n (b2 (nz f))
theorem ok_marks (T : Txt K mg) : FnOk P w K mg base CX0 5 T.marks.f T.marks.fd ["table"] (sp_marks K) := by
  refine T.marks.F.ok sc_marks (fun vs H Q E h => ?_) (fun cdv A outer s H vs Q E hr h => ?_)
  · obtain ⟨_, ⟨n, f, v, rfl, hv, rfl⟩, q⟩ := h
    rfl
  · obtain ⟨_, ⟨n, f, v, rfl, hv, rfl⟩, q⟩ := h
    refine ⟨_, (pss_cons (ps_expr (pe_call (ok_need_table T) (hr.mono (by decide)) (by rfl) T.need_table.g T.need_table.F.kp T.need_table.b .nil pass0 (pa_cons (pv 0) pa_nil)))
        (pss_one (ps_ret (pe_call (ok_marked T) (hr.mono (by decide)) (by rfl) T.marked.g T.marked.F.kp T.marked.b .nil pass0 (pa_cons (pv 0) pa_nil))))), ?_⟩
    refine q_drop (v := .non) (evr_callV (ea_cons (ev_var rfl) ea_nil) (spR_of fun H1 e => ⟨n, f, v, rfl, hv.mono e, rfl⟩)).ev fun H1 e1 => ?_
    exact s_retR (evr_callV (ea_cons (ev_var rfl) ea_nil) (spR_of fun H2 e2 => ⟨n, f, v, rfl, hv.six, ((hv.mono e1).mono e2).tab, rfl⟩)) fun r H2 e2 => q r H2 (e1.trans e2)
def sp_turned (K : PySem.W.Frag) : Sp := spR fun vs H R => ∃ (n : Nat) (f : Nat → Nat → Int) (v : V), vs = [v] ∧ OkT K n f v H ∧ R = Tab K n fun i j => f j i
theorem ok_turned (T : Txt K mg) : FnOk P w K mg base CX0 5 T.turned.f T.turned.fd ["table"] (sp_turned K) := by
  refine T.turned.F.ok sc_turned (fun vs H Q E h => ?_) (fun cdv A outer s H vs Q E hr h => ?_)
  · obtain ⟨_, ⟨n, f, v, rfl, hv, rfl⟩, q⟩ := h
    rfl
  · obtain ⟨_, ⟨n, f, v, rfl, hv, rfl⟩, q⟩ := h
    refine ⟨_, (pss_cons (ps_expr (pe_call (ok_need_table T) (hr.mono (by decide)) (by rfl) T.need_table.g T.need_table.F.kp T.need_table.b .nil pass0 (pa_cons (pv 0) pa_nil)))
        (pss_one (ps_ret (pe_callTy (tup_K (K := K)) (by rfl) T.b_tuple (by decide +kernel) (pa_cons (pe_lc (own := [("place", 2)]) (g := gName 2) (tt := tYes) rfl sc_turned.nd (pi_tupK (K := K) (pe_call (ok_all_places T) (hr.mono (by decide)) (by rfl) T.all_places.g T.all_places.F.kp T.all_places.b .nil pass0 (pa_cons (pv 0) pa_nil))) (blkOk_by (by dsimp only [cxOf, envOfC]; decide +kernel)) (fun _ _ _ _ _ => (pg_name (i := 2) sc_turned.nd rfl (by first | exact .inl rfl | exact .inr rfl))) (fun _ _ _ _ _ => pts_nil) (fun _ _ _ _ _ => (pe_callTy (tup_K (K := K)) (by rfl) T.b_tuple (by decide +kernel) (pa_cons (pe_lc (own := [("line", 1)]) (g := gName 1) (tt := tYes) rfl sc_turned.nd (pi_tupK (K := K) (pv 0)) (blk1 ["table", "line", "place"] (defScope s_turned) (by decide +kernel)) (fun _ _ _ _ _ => (pg_name (i := 1) sc_turned.nd rfl (by first | exact .inl rfl | exact .inr rfl))) (fun _ _ _ _ _ => pts_nil) (fun _ _ _ _ _ => (pe_ix (ix_tupK (K := K)) (pv 1) (pv 2) (fun _ _ => rfl)))) pa_nil)))) pa_nil))))), ?_⟩
    have h6 := hv.six
    refine q_drop (v := .non) (evr_callV (ea_cons (ev_var rfl) ea_nil) (spR_of fun H1 e => ⟨n, f, v, rfl, hv.mono e, rfl⟩)).ev fun H1 e1 => ?_
    refine s_retR (R := Tab K n fun i j => f j i) (evr_tupOf (lcN (src_tup (evr_callV (ea_cons (ev_var rfl) ea_nil) (spR_of fun H2 e2 => ⟨n, f, v, rfl, h6, ((hv.mono e1).mono e2).tab, rfl⟩)) fun _ => mt_is _) (fun _ => mt_row) (by omega) (fun _ => rfl) fun i x H2 hi e2 (hx : x = _) => ?_) fun _ => mt_row) fun r H2 e2 => q r H2 (e1.trans e2)
    subst hx
    refine evr_tupOf (lcN (R := fun j => IsV (.int (f j i))) (src_tup (.of (ev_var rfl) mt_tab.e ((hv.mono e1).mono e2).tab) fun _ => mt_row) (fun _ => mt_is _) (by omega) (fun _ => rfl) fun j y H3 hj e3 hy => ?_) fun _ => mt_is _
    exact evr_ixTV (ev_var rfl) hy (mt_is _).e (ev_var rfl) hi
end
end K56
namespace K56
open PySem PySem.Spec PyProof.Rows L2 Evl

/-! ### orders: tuples that are known to the object -/
def OrdAt (n : Nat) (o : Nat → Nat) : V → Hp → Prop := fun v H => ∃ p ob, v = .ref p ∧ H p = some (.frz ob (.tup ((List.range n).map fun i => .int (o i : Int)))) ∧ ob.dict = none
theorem mt_ord {n : Nat} {o : Nat → Nat} : Mt (OrdAt n o) := fun v H H' e ⟨p, ob, h1, h2, h3⟩ => ⟨p, ob, h1, e.2 p ob _ h2, h3⟩
theorem ord_row {K : PySem.W.Frag} {n : Nat} {o : Nat → Nat} {v : V} {H : Hp} (h : OrdAt n o v H) : Row K n (fun i => (o i : Int)) v H := by
  obtain ⟨p, ob, h1, h2, _⟩ := h
  exact ⟨p, _, h1, .inl (.inr ⟨ob, h2⟩), fun _ _ => rfl⟩
section
variable {X : Cx}
def tBMF (T : String) (r : V → List V → Hp → VK → Prop) (to : TE) (t : TA) : TE := fun σ H Q => to σ H fun x H1 => (T = "tuple" ∧ ∃ p ob xs, x = .ref p ∧ H1 p = some (.frz ob (.tup xs)) ∧ ob.dict = none) ∧ t σ H1 fun xs H2 => r x xs H2 Q
/-- a method of a tuple that is known to the object -/
theorem pe_bmF {T name id : String} {o e : Expr} {es : List Expr} {to : TE} {t : TA} {r : V → List V → Hp → VK → Prop} {apos cpos : Pos} (pa : PlainAttrs T) (slot : Slot T name id) (hty : typeOf (.builtin id) = pure (.type "method_descriptor")) (hm : MtR X id r) (ho : PE X o to) (ha : PA X (e :: es) t)
    (h1 : attributeBase o name X.env (eval o X.env) = eval o X.env := by rfl) (h2 : ((backTo cpos (starEach (e :: es) X.env)).all (fun x => !x.1) && (backToKw cpos (keywordEach [] X.env)).all (fun x => x.1.isSome) && decide ((e :: es).length + ([] : List Keyword).length + (if ([] : List Keyword).isEmpty then 0 else 1) < 30)) = true := by rfl)
    (h3 : (apos.endLine == cpos.line) = true := by rfl) (h4 : starEach (e :: es) X.env = (false, eval e X.env) :: starEach es X.env := by rfl) (h5 : (backTo cpos (starEach es X.env)).any (·.1) = false := by rfl) : PE X (.Call (.Attribute o name apos) (e :: es) [] cpos) (tBMF T r to t) := by
  constructor
  intro pins s σ H Q I h
  refine wpAny_Call_method_late h1 h2 h3 rfl (thn (ho.run pins s σ H _ I h) ?_)
  rintro v s1 ⟨x, H1, I1, r1, ⟨rfl, p, ob, xs, rfl, e1, e2⟩, q1⟩
  cases (show v = Value.ref p from r1)
  obtain ⟨k1, _, _, _, o', k2, k3, _⟩ := (show ObjOk X.prog X.w H1 s1.heap p (.frz ob (.tup xs)) from I1.hok p _ e1)
  refine ⟨_, id, pa, slot, hty, ⟨o', k2, k3⟩, fun a z => ?_, ?_⟩
  · cases z
    exact ⟨ob, k1, e2⟩
  · have hA := ha.run cpos pins s1 σ H1 _ I1 q1
    rw [h4] at hA ⊢
    refine Calls.callWith_builtin (by show (false || (backTo cpos (starEach es X.env)).any (·.1)) = false; rw [h5]; rfl) (Calls.evalArgs_plain (thn hA ?_))
    rintro us s2 ⟨vs, H2, I2, r2, q2⟩
    exact hm pins s2 σ H2 (.ref p) vs (.ref p) us Q I2 rfl r2 q2
def rTupF (K : PySem.W.Frag) : List V → Hp → VK → Prop := fun xs H Q => ∃ p ys, xs = [.ref p] ∧ SqL K H p ys ∧ ∀ l ob, H l = none → ob.dict = none → Q (.ref l) (upd H l (.frz ob (.tup ys)))
/-- tuple(l), the new tuple told with its object -/
theorem tup_F : CallR X (.type "tuple") (rTupF X.K) := by
  rintro pins s σ H xs us Q I r ⟨p, ys, rfl, hq, q⟩
  obtain ⟨u, rfl, rx⟩ := vals1 r
  cases (show u = Value.ref p from rx)
  obtain ⟨its, r', pl, hz⟩ := I.list hq
  refine call_tuple_list pl.isList (fun h' kp => ?_) (by rw [List.size_toArray, ← r'.length]; exact hz)
  have I1 := I.kept (t' := s.toks) kp
  have g : (h'.push { cls := .type "tuple", data := .seq its.toArray }).get? h'.objs.size = some { cls := .type "tuple", data := .seq its.toArray } := Heap.get?_push_size _ rfl
  have I2 := I1.laid (a := h'.objs.size) (o := .frz { cls := .type "tuple", data := .seq its.toArray } (.tup ys)) (t' := s.toks) (fun b o e => Heap.get?_push_of_some _ e) (Nat.le_refl _) ⟨g, hz, its, r', _, g, rfl, _, rfl⟩
  exact ⟨.ref h'.objs.size, _, I2, rfl, q _ _ (I1.hok.fresh (Nat.le_refl _)) rfl⟩
end

/-! ### what evaluates to what, further -/
def LAt (K : PySem.W.Frag) (n : Nat) (S : Nat → V → Hp → Prop) : V → Hp → Prop := fun v H => ∃ (p : Addr) (rs : Nat → V), v = .ref p ∧ SqL K H p ((List.range n).map rs) ∧ ∀ i, i < n → S i (rs i) H
section
variable {K : PySem.W.Frag} {σ : L2.St} {H : Hp} {ta tb te : TE} {v x : V} {n : Nat} {S : Nat → V → Hp → Prop} {R : V → Hp → Prop} {D : Ends} {tu tz : TS} {g : TG}
theorem me_list (m : ∀ i, Mt (S i)) : Me (LAt K n S) := fun v H H' e ⟨p, rs, h1, h2, h3⟩ => ⟨p, rs, h1, ex_l e h2, fun i hi => (m i).e _ _ _ e (h3 i hi)⟩
theorem src_lst (h : EvR te σ H (LAt K n S)) (hm : ∀ i, Mt (S i)) : Src (iList K te) σ H n S := fun H1 e R k => h H1 e _ fun v H2 e2 ⟨p, rs, h1, h2, h3⟩ => ⟨p, h1, ⟨_, h2⟩, k _ H2 e2 (walkR_list h2 h3 hm)⟩
/-- list of a tuple -/
theorem el_listT {f : Nat → V} (h : EvR te σ H (TAt K n fun j => IsV (f j))) : EvL (tCB (rListS K) (tCons te tNil)) σ H ((List.range n).map f) := fun H1 e Q q => h H1 e _ fun v H2 e2 ⟨a, rs, h1, h2, h3⟩ => by
  rw [map_range_congr h3] at h2
  exact ⟨a, _, congrArg (· :: []) h1, .inr h2, fun l hl => q l _ (fresh_back e2 hl) (e2.trans (Ex.new hl)) upd_same⟩
def EnumAt (S : Nat → V → Hp → Prop) (i : Nat) : V → Hp → Prop := fun v H => ∃ T x, v = .ref T ∧ H T = some (.tup [.int (i : Int), x]) ∧ S i x H
theorem src_enum {p : Addr} {rs : Nat → V} (h : Ev te σ H (.ref p)) (h2 : SqL K H p ((List.range n).map rs)) (h3 : ∀ i, i < n → S i (rs i) H) (hm : ∀ i, Mt (S i)) : Src (iEnum K (tCons te tNil)) σ H n (EnumAt S) := fun H1 e R k =>
  h H1 e _ fun H2 e2 => by
    have h2' := ex_l (e.trans e2) h2
    have len : ((List.range n).map rs).length = n := by rw [List.length_map, List.length_range]
    refine ⟨p, _, rfl, h2', k _ H2 e2 ⟨fun i H4 hi e4 => ⟨_, rs i, ex_l e4 h2', get_range hi⟩, fun H4 e4 => ⟨_, ex_l e4 h2', Nat.le_of_eq len⟩, fun i H4 y H5 hi e4 z => ?_⟩⟩
    obtain ⟨T, x', rfl, hT, rfl, q⟩ := z
    have z1 := q _ (ex_l e4 h2')
    rw [get_range hi] at z1
    cases z1
    exact ⟨Ex.new hT, T, _, rfl, upd_same, (hm i).e _ _ _ (((e.trans e2).trans e4).trans (Ex.new hT)) (h3 i hi)⟩
/-- for over a source: Pv by the heap at the start, the turn, the slots, the heap -/
theorem s_forS {wi : TI} (hw : Src wi σ H n S) (Pv : Hp → Nat → L2.St → Hp → Prop) (h0 : ∀ H1, Ex H H1 → Pv H1 0 σ H1) (hl : ∀ H1 i σ' H', Ex H H1 → Pv H1 i σ' H' → Ex H1 H')
    (hs : ∀ H1 i x σ' H' H2, Ex H H1 → i < n → Pv H1 i σ' H' → Ex H' H2 → S i x H2 → g x σ' H2 fun σ3 H3 => tu { D with nx := Pv H1 (i + 1), ct := Pv H1 (i + 1), bk := D.nx } σ3 H3) (hd : ∀ H1 σ' H', Ex H H1 → Pv H1 n σ' H' → D.nx σ' H') : tFor wi g tu D σ H :=
  hw H (Ex.refl H) _ fun J H1 e w => for_it w.w (Pv H1) (h0 H1 e) (fun i σ' H' _ p => hl H1 i σ' H' e p) (fun i x σ' H' H2 hi p y => hs H1 i x σ' H' H2 e hi p y.1 y.2) fun σ' H' p => hd H1 σ' H' e p
theorem q_forS {wi : TI} (hw : Src wi σ H n S) (Pv : Hp → Nat → L2.St → Hp → Prop) (h0 : ∀ H1, Ex H H1 → Pv H1 0 σ H1) (hl : ∀ H1 i σ' H', Ex H H1 → Pv H1 i σ' H' → Ex H1 H')
    (hs : ∀ H1 i x σ' H' H2, Ex H H1 → i < n → Pv H1 i σ' H' → Ex H' H2 → S i x H2 → g x σ' H2 fun σ3 H3 => tu { D with nx := Pv H1 (i + 1), ct := Pv H1 (i + 1), bk := tz D } σ3 H3) (hd : ∀ H1 σ' H', Ex H H1 → Pv H1 n σ' H' → tz D σ' H') : tSeq (tFor wi g tu) tz D σ H := s_forS (D := { D with nx := tz D }) hw Pv h0 hl hs hd
/-- xs.append(e) -/
theorem s_appR {l : Addr} {xs : List V} (hl : H l = some (.lst xs)) (ha : Ev ta σ H (.ref l)) (h : EvR te σ H R) (hz : xs.length < 100000) (k : ∀ v H1, Ex H H1 → R v H1 → D.nx σ (upd H1 l (.lst (xs ++ [v])))) : tDrop (tBM K "list" rAppend ta (tCons te tNil)) D σ H :=
  ha H (Ex.refl H) _ fun H1 e1 => ⟨.inl ⟨rfl, xs, sq_of (e1 l _ hl)⟩, h H1 e1 _ fun v H2 e2 r => ⟨l, xs, v, rfl, rfl, e2 l _ (e1 l _ hl), sz_lt hz, k v H2 (e1.trans e2) r⟩⟩
theorem q_appR {l : Addr} {xs : List V} (hl : H l = some (.lst xs)) (ha : Ev ta σ H (.ref l)) (h : EvR te σ H R) (hz : xs.length < 100000) (k : ∀ v H1, Ex H H1 → R v H1 → tz D σ (upd H1 l (.lst (xs ++ [v])))) : tSeq (tDrop (tBM K "list" rAppend ta (tCons te tNil))) tz D σ H := s_appR (D := { D with nx := tz D }) hl ha h hz k
end
/-- the inverse of an order -/
def backOf (n : Nat) (o : Nat → Nat) (p : Nat) : Nat := ((List.range n).map fun i => (o i : Int)).idxOf (p : Int)
theorem back_lt {n : Nat} {o : Nat → Nat} (hp : ((List.range n).map o).Perm (List.range n)) {p : Nat} (h : p < n) : backOf n o p < n ∧ o (backOf n o p) = p := by
  have hm : (p : Int) ∈ (List.range n).map fun i => (o i : Int) := by
    have : p ∈ (List.range n).map o := hp.mem_iff.mpr (List.mem_range.mpr h)
    obtain ⟨i, hi, e⟩ := List.mem_map.mp this
    exact List.mem_map.mpr ⟨i, hi, by rw [e]⟩
  have lt := List.idxOf_lt_length_iff.mpr hm
  have lt2 : backOf n o p < n := by
    rw [List.length_map, List.length_range] at lt
    exact lt
  refine ⟨lt2, ?_⟩
  have e := List.getElem_idxOf lt
  rw [List.getElem_map, List.getElem_range] at e
  have e : ((o (backOf n o p) : Nat) : Int) = (p : Int) := e
  omega
theorem ord_lt {n : Nat} {o : Nat → Nat} (hp : ((List.range n).map o).Perm (List.range n)) {i : Nat} (h : i < n) : o i < n :=
  List.mem_range.mp (hp.mem_iff.mp (List.mem_map.mpr ⟨i, List.mem_range.mpr h, rfl⟩))
theorem back_onto {n : Nat} {o : Nat → Nat} (hp : ((List.range n).map o).Perm (List.range n)) {i : Nat} (h : i < n) : ∃ p, p < n ∧ backOf n o p = i := by
  refine ⟨o i, ord_lt hp h, ?_⟩
  have nd : ((List.range n).map fun i => (o i : Int)).Nodup := by
    have h1 : ((List.range n).map o).Nodup := List.Nodup.perm List.nodup_range hp.symm
    have h2 : ((List.range n).map fun i => (o i : Int)) = ((List.range n).map o).map fun (k : Nat) => (k : Int) := by rw [List.map_map]; rfl
    rw [h2]
    exact List.Pairwise.map _ (fun (a b : Nat) (hne : a ≠ b) (e : (a : Int) = (b : Int)) => hne (by omega)) h1
  have hl : i < ((List.range n).map fun i => (o i : Int)).length := by rw [List.length_map, List.length_range]; exact h
  have e := nd.idxOf_getElem i hl
  rw [List.getElem_map, List.getElem_range] at e
  exact e
theorem ord_onto {n : Nat} {o : Nat → Nat} (hp : ((List.range n).map o).Perm (List.range n)) {i : Nat} (h : i < n) : ∃ p, p < n ∧ o p = i := ⟨_, back_lt hp h⟩
theorem dp_ints {K : PySem.W.Frag} {H : Hp} : ∀ {n : Nat} (f : Nat → Int) (l : List Nat), DpAll K H (l.map fun j => V.int (f j)) (l.map fun j => PyData.int (f j))
  | _, f, [] => .nil
  | n, f, j :: l => .cons (.int _) (dp_ints (n := n) f l)
theorem lay_ints (f : Nat → Int) : ∀ l : List Nat, PyData.canLayAll0 (l.map fun j => PyData.int (f j)) = true ∧ PyData.depthAll (l.map fun j => PyData.int (f j)) = 0
  | [] => by simp [PyData.canLayAll0, PyData.depthAll]
  | j :: l => by
    obtain ⟨h1, h2⟩ := lay_ints f l
    simp [PyData.canLayAll0, PyData.canLay0, PyData.depthAll, PyData.depth, h1, h2]
theorem el_sorted {K : PySem.W.Frag} {σ : L2.St} {H : Hp} {ta : TE} {v : V} {n : Nat} {o : Nat → Nat} (h : Ev ta σ H v) (hu : OrdAt n o v H) (hn : n ≤ 6) (hp : ((List.range n).map o).Perm (List.range n)) : EvL (tCB (rSortedTup K) (tCons ta tNil)) σ H ((List.range n).map fun (j : Nat) => V.int (j : Int)) := fun H1 e Q q =>
  h H1 e _ fun H2 e2 => by
    obtain ⟨p, ob, rfl, h2, _⟩ := hu
    refine ⟨p, (List.range n).map fun i => (o i : Int), rfl, .inl (.inr ⟨ob, ?_⟩), by rw [List.length_map, List.length_range]; omega, fun ms l m1 m2 hl => ?_⟩
    · rw [List.map_map]
      exact (e.trans e2) _ _ h2
    · have e3 : ms = (List.range n).map fun (j : Nat) => (j : Int) := by
        refine List.Perm.eq_of_pairwise (le := fun a b : Int => a ≤ b) (fun a b _ _ h1 h2 => Int.le_antisymm h1 h2) m2 ?_ (m1.trans ?_)
        · exact List.Pairwise.map _ (fun (a b : Nat) (h : a < b) => show (a : Int) ≤ (b : Int) by omega) List.pairwise_lt_range
        · have := hp.map fun (k : Nat) => (k : Int)
          rw [List.map_map] at this
          exact this
      rw [e3, List.map_map]
      exact q l _ (fresh_back e2 hl) (e2.trans (Ex.new hl)) upd_same
theorem rv_eqInts {K : PySem.W.Frag} {H : Hp} {p q : Addr} {f : Nat → Int} {l : List Nat} (h1 : H p = some (.lst (l.map fun j => V.int (f j)))) (h2 : H q = some (.lst (l.map fun j => V.int (f j)))) : RV (rEqD K) (.ref p) (.ref q) H (.bl true) := fun H1 e Q k => by
  obtain ⟨y1, y2⟩ := lay_ints f l
  have sh : SeqAt.shaped (.list (l.map fun j => PyData.int (f j))) = true := by
    unfold SeqAt.shaped
    simp [PyData.canLay0, PyData.depth, y1, y2]
  refine ⟨.list (l.map fun j => .int (f j)), .list (l.map fun j => .int (f j)), .lst (sq_of (e _ _ h1)) (dp_ints (n := 0) f l), .lst (sq_of (e _ _ h2)) (dp_ints (n := 0) f l), sh, sh, ?_⟩
  rw [SeqAt.eqv_refl _ (by simp [PyData.canLay0, y1])]
  exact k H1 (Ex.refl H1)
/-- order.index(i) -/
theorem ev_tupIx {K : PySem.W.Frag} {σ : L2.St} {H : Hp} {ta tb : TE} {v : V} {n i : Nat} {o : Nat → Nat} (h : Ev ta σ H v) (hu : OrdAt n o v H) (hp : ((List.range n).map o).Perm (List.range n)) (hb : Ev tb σ H (.int (i : Int))) (hi : i < n) : Ev (tBMF "tuple" (rTupIx K) ta (tCons tb tNil)) σ H (.int (backOf n o i : Int)) := fun H1 e Q q =>
  h H1 e _ fun H2 e2 => by
    obtain ⟨p, ob, rfl, h2, h3⟩ := hu
    refine ⟨⟨rfl, p, ob, _, rfl, (e.trans e2) _ _ h2, h3⟩, hb H2 (e.trans e2) _ fun H3 e3 => ⟨p, (List.range n).map fun i => (o i : Int), (i : Int), rfl, rfl, .inl (.inr ⟨ob, ?_⟩), ?_, q H3 (e2.trans e3)⟩⟩
    · rw [List.map_map]
      exact ((e.trans e2).trans e3) _ _ h2
    · obtain ⟨z1, z2⟩ := back_lt hp hi
      exact List.mem_map.mpr ⟨backOf n o i, List.mem_range.mpr z1, by rw [z2]⟩
section
variable {P : Program} {w : World} {K : PySem.W.Frag} {mg : Str → Option Value} {base : Heap}

def sp_is_order (K : PySem.W.Frag) : Sp := spR fun vs H R => ∃ (n : Nat) (f : Nat → Nat → Int) (o : Nat → Nat) (v u : V), vs = [v, u] ∧ n ≤ 6 ∧ Tab K n f v H ∧ OrdAt n o u H ∧ ((List.range n).map o).Perm (List.range n) ∧ R = IsV (.bl true)
theorem ok_is_order (T : Txt K mg) : FnOk P w K mg base CX0 3 T.is_order.f T.is_order.fd ["table", "thing"] (sp_is_order K) := by
  refine T.is_order.F.ok sc_is_order (fun vs H Q E h => ?_) (fun cdv A outer s H vs Q E hr h => ?_)
  · obtain ⟨_, ⟨n, f, o, v, u, rfl, hn, hv, hu, hp, rfl⟩, q⟩ := h
    rfl
  · obtain ⟨_, ⟨n, f, o, v, u, rfl, hn, hv, hu, hp, rfl⟩, q⟩ := h
    refine ⟨_, (pss_cons (ps_if (PW.pt (pw_or (pt_not (pt_val (pe_callB (isi_K (K := K)) (by rfl) T.b_isinstance (by decide +kernel) (pa_cons (pv 1) (pa_cons (pe_bltn (v := .ty "tuple") (by rfl) T.b_tuple (by decide +kernel) rfl) pa_nil))))) (pw_or1 (pt_not (pt_val (pe_callB (all_K (K := K)) (by rfl) T.b_all (by decide +kernel) (pa_cons (pe_lc (own := [("one", 2)]) (g := gName 2) (tt := tYes) rfl sc_is_order.nd (pi_tupK (K := K) (pv 1)) (blkOk_by (by dsimp only [cxOf, envOfC]; decide +kernel)) (fun _ _ _ _ _ => (pg_name (i := 2) sc_is_order.nd rfl (by first | exact .inl rfl | exact .inr rfl))) (fun _ _ _ _ _ => pts_nil) (fun _ _ _ _ _ => (pe_call (ok_is_within T) (hr.mono (by decide)) (by rfl) T.is_within.g T.is_within.F.kp T.is_within.b .nil pass0 (pa_cons (pv 2) (pa_cons pe_int (pa_cons (pe_op op_sub (pe_callB (len_K (K := K)) (by rfl) T.b_len (by decide +kernel) (pa_cons (pv 0) pa_nil)) pe_int) pa_nil)))))) pa_nil))))))) (pss_one (ps_ret pe_bl)) pss_nil)
        (pss_one (ps_ret (pe_cmpR (op_eqD hr.units) (pe_callB cr_sortedTup (by rfl) T.b_sorted (by decide +kernel) (pa_cons (pv 1) pa_nil)) (pe_callTy (list_K (K := K)) (by rfl) T.b_list (by decide +kernel) (pa_cons (pe_call (ok_all_places T) (hr.mono (by decide)) (by rfl) T.all_places.g T.all_places.F.kp T.all_places.b .nil pass0 (pa_cons (pv 0) pa_nil)) pa_nil)) (nomark _))))), ?_⟩
    have hr := ord_row (K := K) hu
    refine q_when (b := false) (et_is (et_or (et_not (et_B (ev_isiT (ev_var rfl) hr (kit_ty (b := "tuple") (r := true) (by decide +kernel))))) fun _ => et_not (et_B (ev_all (f := fun _ => true) (lcV (src_tup (.of (ev_var rfl) mt_row.e hr) fun _ => mt_is _) (by omega) (fun _ => rfl) fun j x H1 hj e (hx : x = _) => ?_)))) ?_) (fun z => nomatch z) fun _ H1 e1 => ?_
    · subst hx
      refine (evr_callV (ea_cons (ev_var rfl) (ea_cons ev_c (ea_cons (ev_op (ev_lenT (ev_var rfl) (mt_tab.e _ _ _ e hv)) ev_c rv_I0) ea_nil))) (spR_of fun H1 e => ⟨(o j : Int), 0, (n : Int) - 1, rfl, ?_⟩)).ev
      have := ord_lt hp hj
      rw [decide_eq_true (show (0 : Int) ≤ o j by omega), decide_eq_true (show (o j : Int) ≤ n - 1 by omega)]
      rfl
    · simp
    · refine s_ret (v := .bl true) (ev_opLL (el_sorted (ev_var rfl) (mt_ord.e _ _ _ e1 hu) hn hp) (el_listT (f := fun (j : Nat) => .int (j : Int)) (evr_callV (ea_cons (ev_var rfl) ea_nil) (spR_of fun H2 e2 => ⟨n, f, v, rfl, hn, mt_tab.e _ _ _ (e1.trans e2) hv, rfl⟩))) fun p p' H2 h1 h2 _ => rv_eqInts (f := fun j => (j : Int)) h1 h2) fun H2 e2 => q _ _ (e1.trans e2) rfl
def sp_named_anew (K : PySem.W.Frag) : Sp := spR fun vs H R => ∃ (n : Nat) (f : Nat → Nat → Int) (o : Nat → Nat) (v u : V), vs = [v, u] ∧ n ≤ 6 ∧ Tab K n f v H ∧ OrdAt n o u H ∧ ((List.range n).map o).Perm (List.range n) ∧ R = Tab K n fun i j => f (backOf n o i) (backOf n o j)
theorem ok_named_anew (T : Txt K mg) : FnOk P w K mg base CX0 2 T.named_anew.f T.named_anew.fd ["table", "order"] (sp_named_anew K) := by
  refine T.named_anew.F.ok sc_named_anew (fun vs H Q E h => ?_) (fun cdv A outer s H vs Q E hr h => ?_)
  · obtain ⟨_, ⟨n, f, o, v, u, rfl, hn, hv, hu, hp, rfl⟩, q⟩ := h
    rfl
  · obtain ⟨_, ⟨n, f, o, v, u, rfl, hn, hv, hu, hp, rfl⟩, q⟩ := h
    refine ⟨_, (pss_cons (ps_set (i := 2) sc_named_anew.nd rfl (by first | exact .inl rfl | exact .inr rfl) (pe_lc (own := [("place", 3)]) (g := gName 3) (tt := tYes) rfl sc_named_anew.nd (pi_tupK (K := K) (pe_call (ok_all_places T) (hr.mono (by decide)) (by rfl) T.all_places.g T.all_places.F.kp T.all_places.b .nil pass0 (pa_cons (pv 0) pa_nil))) (blkOk_by (by dsimp only [cxOf, envOfC]; decide +kernel)) (fun _ _ _ _ _ => (pg_name (i := 3) sc_named_anew.nd rfl (by first | exact .inl rfl | exact .inr rfl))) (fun _ _ _ _ _ => pts_nil) (fun _ _ _ _ _ => (pe_bmF PySem.F.plainAttrs_tuple PySem.F.slot_tuple_index PySem.F.type_tuple_index (tupIx_K (K := K)) (pv 1) (pa_cons (pv 3) pa_nil)))))
        (pss_one (ps_ret (pe_callTy (tup_K (K := K)) (by rfl) T.b_tuple (by decide +kernel) (pa_cons (pe_lc (own := [("one", 5)]) (g := gName 5) (tt := tYes) rfl sc_named_anew.nd (pi_listK (K := K) (pv 2)) (blkOk_by (by dsimp only [cxOf, envOfC]; decide +kernel)) (fun _ _ _ _ _ => (pg_name (i := 5) sc_named_anew.nd rfl (by first | exact .inl rfl | exact .inr rfl))) (fun _ _ _ _ _ => pts_nil) (fun _ _ _ _ _ => (pe_callTy (tup_K (K := K)) (by rfl) T.b_tuple (by decide +kernel) (pa_cons (pe_lc (own := [("other", 4)]) (g := gName 4) (tt := tYes) rfl sc_named_anew.nd (pi_listK (K := K) (pv 2)) (blk1 ["table", "order", "back", "place", "other", "one"] (defScope s_named_anew) (by decide +kernel)) (fun _ _ _ _ _ => (pg_name (i := 4) sc_named_anew.nd rfl (by first | exact .inl rfl | exact .inr rfl))) (fun _ _ _ _ _ => pts_nil) (fun _ _ _ _ _ => (pe_ix (ix_tupK (K := K)) (pe_ix (ix_tupK (K := K)) (pv 0) (pv 5) (fun _ _ => rfl)) (pv 4) (fun _ _ => rfl)))) pa_nil)))) pa_nil))))), ?_⟩
    refine q_asgL (xs := (List.range n).map fun i => .int (backOf n o i : Int)) (lcV (src_tup (evr_callV (ea_cons (ev_var rfl) ea_nil) (spR_of fun H1 e => ⟨n, _, v, rfl, hn, mt_tab.e _ _ _ e hv, rfl⟩)) fun _ => mt_is _) (by omega) (fun _ => rfl) fun i x H1 hi e (hx : x = _) => ?_) fun p H1 hp1 e1 h1 => ?_
    · subst hx
      exact ev_tupIx (ev_var rfl) (mt_ord.e _ _ _ e hu) hp (ev_var rfl) hi
    · refine s_retR (R := Tab K n fun i j => f (backOf n o i) (backOf n o j)) (evr_tupOf (lcN (R := fun i => Row K n fun j => f (backOf n o i) (backOf n o j)) (src_list (S := fun i => IsV (.int (backOf n o i : Int))) (ev_var rfl) (sq_of h1) (fun _ _ => rfl) fun _ => mt_is _) (fun _ => mt_row) (by omega) (fun _ => rfl) fun i x H2 hi e2 (hx : x = _) => ?_) fun _ => mt_row) fun r H2 e2 => q r H2 (e1.trans e2)
      subst hx
      refine evr_tupOf (lcN (R := fun j => IsV (.int (f (backOf n o i) (backOf n o j)))) (src_list (S := fun i => IsV (.int (backOf n o i : Int))) (ev_var rfl) (ex_l e2 (sq_of h1)) (fun _ _ => rfl) fun _ => mt_is _) (fun _ => mt_is _) (by omega) (fun _ => rfl) fun j y H3 hj e3 (hy : y = _) => ?_) fun _ => mt_is _
      subst hy
      exact .is (ev_ix2 (ev_var rfl) (mt_tab.e _ _ _ ((e1.trans e2).trans e3) hv) (ev_var rfl) (back_lt hp hi).1 (ev_var rfl) (back_lt hp hj).1)
def sp_renamed (K : PySem.W.Frag) : Sp := spR fun vs H R => ∃ (n : Nat) (f : Nat → Nat → Int) (o : Nat → Nat) (v u : V), vs = [v, u] ∧ OkT K n f v H ∧ OrdAt n o u H ∧ ((List.range n).map o).Perm (List.range n) ∧ R = Tab K n fun i j => f (backOf n o i) (backOf n o j)
theorem ok_renamed (T : Txt K mg) : FnOk P w K mg base CX0 5 T.renamed.f T.renamed.fd ["table", "order"] (sp_renamed K) := by
  refine T.renamed.F.ok sc_renamed (fun vs H Q E h => ?_) (fun cdv A outer s H vs Q E hr h => ?_)
  · obtain ⟨_, ⟨n, f, o, v, u, rfl, hv, hu, hp, rfl⟩, q⟩ := h
    rfl
  · obtain ⟨_, ⟨n, f, o, v, u, rfl, hv, hu, hp, rfl⟩, q⟩ := h
    refine ⟨_, (pss_cons (ps_expr (pe_call (ok_need_table T) (hr.mono (by decide)) (by rfl) T.need_table.g T.need_table.F.kp T.need_table.b .nil pass0 (pa_cons (pv 0) pa_nil)))
        (pss_cons (ps_if (pt_not (pt_val (pe_call (ok_is_order T) (hr.mono (by decide)) (by rfl) T.is_order.g T.is_order.F.kp T.is_order.b .nil pass0 (pa_cons (pv 0) (pa_cons (pv 1) pa_nil))))) (pss_one ps_never) pss_nil)
        (pss_one (ps_ret (pe_call (ok_named_anew T) (hr.mono (by decide)) (by rfl) T.named_anew.g T.named_anew.F.kp T.named_anew.b .nil pass0 (pa_cons (pv 0) (pa_cons (pv 1) pa_nil))))))), ?_⟩
    have h6 := hv.six
    refine q_drop (v := .non) (evr_callV (ea_cons (ev_var rfl) ea_nil) (spR_of fun H1 e => ⟨n, f, v, rfl, hv.mono e, rfl⟩)).ev fun H1 e1 => ?_
    refine q_when (b := false) (et_not (et_B (b := true) (evr_callV (ea_cons (ev_var rfl) (ea_cons (ev_var rfl) ea_nil)) (spR_of fun H2 e => ⟨n, f, o, v, u, rfl, h6, (hv.mono (e1.trans e)).tab, mt_ord.e _ _ _ (e1.trans e) hu, hp, rfl⟩)).ev)) (fun z => nomatch z) fun _ H2 e2 => ?_
    exact s_retR (evr_callV (ea_cons (ev_var rfl) (ea_cons (ev_var rfl) ea_nil)) (spR_of fun H3 e => ⟨n, f, o, v, u, rfl, h6, (hv.mono ((e1.trans e2).trans e)).tab, mt_ord.e _ _ _ ((e1.trans e2).trans e) hu, hp, rfl⟩)) fun r H3 e3 => q r H3 ((e1.trans e2).trans e3)
end
end K56
namespace K56
open PySem PySem.Spec PyProof.Rows L2 Evl

theorem sq_cast {n : Nat} (h : 1 ≤ n) : ((n : Int) - 1) * ((n : Int) - 1) = (((n - 1) * (n - 1) : Nat) : Int) := by
  have e : (n : Int) - 1 = ((n - 1 : Nat) : Int) := by omega
  rw [e, Int.natCast_mul]
theorem sq_le {n : Nat} (h : n ≤ 6) : (n - 1) * (n - 1) ≤ 25 := Nat.mul_le_mul (show n - 1 ≤ 5 by omega) (show n - 1 ≤ 5 by omega)
/-- the marks of a product of marks -/
theorem evr_step {K : PySem.W.Frag} {σ : L2.St} {H : Hp} {E E' : XK} {ta tb : TE} {n m : Nat} {a : Nat → Nat → Bool} {u v : V} (hn : n ≤ 6) (ha : Ev ta σ H u) (hu : Tab K n (b2 (pw n a m)) u H) (hb : Ev tb σ H v) (hv : Tab K n (b2 a) v H) :
    EvR (tCall (sp_marked K) [] E (tCons (tCall (sp_multiplied K) [] E' (tCons ta (tCons tb tNil))) tNil)) σ H (Tab K n (b2 (pw n a (m + 1)))) :=
  evr_call1 (evr_callV (ea_cons ha (ea_cons hb ea_nil)) (spR_of fun H1 e => ⟨n, pw n a m, a, u, v, rfl, hn, mt_tab.e _ _ _ e hu, mt_tab.e _ _ _ e hv, rfl⟩)) fun x H1 e hx => spR_of fun H2 e2 => ⟨n, _, x, rfl, hn, mt_tab.e _ _ _ e2 hx, by rw [nz_pw]⟩
theorem at_last {n : Nat} (h : 0 < n) (rs : Nat → V) : atI ((List.range n).map rs) (-1) = some (rs (n - 1)) := by
  obtain ⟨m, rfl⟩ : ∃ m, n = m + 1 := ⟨n - 1, by omega⟩
  rw [List.range_succ, List.map_append]
  exact atI_last _ _
theorem range_snoc {n : Nat} {rs : Nat → V} {v : V} : (List.range n).map rs ++ [v] = (List.range (n + 1)).map fun i => if i < n then rs i else v := by
  rw [List.range_succ, List.map_append]
  congr 1
  · refine map_range_congr fun i hi => ?_
    show rs i = if i < n then rs i else v
    rw [if_pos hi]
  · show [v] = [if n < n then rs n else v]
    rw [if_neg (Nat.lt_irrefl n)]
theorem snoc_all {n : Nat} {rs : Nat → V} {v : V} {S : Nat → V → Prop} (h : ∀ i, i < n → S i (rs i)) (hv : S n v) : ∀ i, i < n + 1 → S i (if i < n then rs i else v) := fun i hi => by
  by_cases q : i < n
  · rw [if_pos q]
    exact h i q
  · have : i = n := by omega
    subst this
    rw [if_neg q]
    exact hv
/-- what the first m of the powers say of a pair -/
def Upto (n : Nat) (a : Nat → Nat → Bool) (i j m q : Nat) : Prop := 1 ≤ q ∧ q ≤ m + 1 ∧ (∀ t, q ≤ t + 1 → t < m → pw n a t i j = true) ∧ (q = 1 ∨ pw n a (q - 2) i j = false)
theorem upto_pair {n : Nat} {a : Nat → Nat → Bool} {i j k q r : Nat} (f : IsFirst n a k) (hi : i < n) (hj : j < n) (h : Upto n a i j k q) (g : IsPair n a i j r) : q = r := by
  refine pair_unique ⟨h.1, fun t ht => ?_, h.2.2.2⟩ g
  by_cases z : t < k
  · exact h.2.2.1 t ht z
  · exact full_stays f.2.1 (by omega) i j hi hj
theorem pair_exists {n : Nat} {a : Nat → Nat → Bool} {i j k : Nat} (f : IsFirst n a k) (hi : i < n) (hj : j < n) : ∃ q, IsPair n a i j q := by
  have up : ∀ m, ∃ q, Upto n a i j m q := fun m => by
    induction m with
    | zero => exact ⟨1, Nat.le_refl _, Nat.le_refl _, fun t _ h => absurd h (Nat.not_lt_zero t), .inl rfl⟩
    | succ m ih =>
      obtain ⟨q, h1, h2, h3, h4⟩ := ih
      cases e : pw n a m i j with
      | true => exact ⟨q, h1, by omega, fun t ht hm => by
          by_cases z : t = m
          · rw [z]
            exact e
          · exact h3 t ht (by omega), h4⟩
      | false => exact ⟨m + 2, by omega, by omega, fun t ht hm => by omega, .inr e⟩
  obtain ⟨q, h1, h2, h3, h4⟩ := up k
  exact ⟨q, h1, fun t ht => by
    by_cases z : t < k
    · exact h3 t ht z
    · exact full_stays f.2.1 (by omega) i j hi hj, h4⟩
theorem row_exists {n : Nat} {a : Nat → Nat → Bool} {i k : Nat} (f : IsFirst n a k) (hi : i < n) : ∃ r, IsRow n a i r := by
  have : ∀ m, RowFl n (pw n a m) i → ∃ r, IsRow n a i r := fun m => by
    induction m using Nat.strongRecOn with
    | ind m ih =>
      intro h
      by_cases q : ∃ m', m' < m ∧ RowFl n (pw n a m') i
      · obtain ⟨m', h1, h2⟩ := q
        exact ih m' h1 h2
      · exact ⟨m, h, fun m' h1 h2 => q ⟨m', h1, h2⟩⟩
  exact this (k - 1) fun j hj => f.2.1 i j hi hj
/-- whether a row has a nought, as the program asks -/
def rowZ (n : Nat) (b : Nat → Nat → Bool) (i : Nat) : Bool := inV (.int 0) ((List.range n).map fun j => .int (b2 b i j))
theorem rowZ_iff {n : Nat} {b : Nat → Nat → Bool} {i : Nat} : rowZ n b i = false ↔ RowFl n b i := by
  unfold rowZ inV
  rw [List.any_map, List.any_eq_false]
  constructor
  · intro h j hj
    have := h j (List.mem_range.mpr hj)
    cases e : b i j with
    | true => rfl
    | false =>
      refine absurd ?_ this
      show (b2 b i j == 0) = true
      unfold b2
      rw [e]
      rfl
  · intro h j hj z
    have z : (b2 b i j == 0) = true := z
    unfold b2 at z
    rw [h j (List.mem_range.mp hj)] at z
    exact absurd z (by decide)
/-- [..].index(False) of a new list of truths -/
theorem ev_indexB {K : PySem.W.Frag} {σ : L2.St} {H : Hp} {ta : TE} {z : Nat → Bool} {n r : Nat} (h : EvL ta σ H ((List.range n).map fun m => V.bl (z m))) (hr : r < n) (h1 : z r = false) (h2 : ∀ m, m < r → z m = true) : Ev (tBM K "list" (rIndex K) ta (tCons (tC (.bl false)) tNil)) σ H (.int (r : Int)) := fun H1 e Q q =>
  h H1 e _ fun p H2 hp e2 e3 => ⟨.inl ⟨rfl, _, sq_of e3⟩, p, _, .bl false, r, .bl (z r), rfl, rfl, sq_of e3, rfl, by rw [List.all_map]; exact List.all_eq_true.mpr fun _ _ => rfl, get_range hr, by rw [h1]; rfl, fun m y hm hy => by
    rw [get_range (by omega)] at hy
    cases hy
    rw [h2 m hm]
    rfl, q H2 e2⟩
section
variable {P : Program} {w : World} {K : PySem.W.Frag} {mg : Str → Option Value} {base : Heap}

def sp_first_of (K : PySem.W.Frag) : Sp := spR fun vs H R => ∃ (n k : Nat) (f : Nat → Nat → Int) (v : V), vs = [v] ∧ 1 ≤ n ∧ n ≤ 6 ∧ Tab K n f v H ∧ IsFirst n (nz f) k ∧ k ≤ (n - 1) * (n - 1) + 1 ∧ R = IsV (.int (k : Int))
theorem ok_first_of (T : Txt K mg) : FnOk P w K mg base CX0 3 T.first_of.f T.first_of.fd ["table"] (sp_first_of K) := by
  refine T.first_of.F.ok sc_first_of (fun vs H Q E h => ?_) (fun cdv A outer s H vs Q E hr h => ?_)
  · obtain ⟨_, ⟨n, k, f, v, rfl, h1, h6, hv, hk, hb, rfl⟩, q⟩ := h
    rfl
  · obtain ⟨_, ⟨n, k, f, v, rfl, h1, h6, hv, hk, hb, rfl⟩, q⟩ := h
    refine ⟨_, (pss_cons (ps_set (i := 1) sc_first_of.nd rfl (by first | exact .inl rfl | exact .inr rfl) (pe_call (ok_marked T) (hr.mono (by decide)) (by rfl) T.marked.g T.marked.F.kp T.marked.b .nil pass0 (pa_cons (pv 0) pa_nil)))
        (pss_cons (ps_set (i := 2) sc_first_of.nd rfl (by first | exact .inl rfl | exact .inr rfl) (pv 1))
        (pss_cons (ps_set (i := 3) sc_first_of.nd rfl (by first | exact .inl rfl | exact .inr rfl) (pe_callB (len_K (K := K)) (by rfl) T.b_len (by decide +kernel) (pa_cons (pv 0) pa_nil)))
        (pss_cons (ps_for PassesOwn.never rfl (pi_range2 (by rfl) T.b_range (pa_cons pe_int (pa_cons (pe_op op_add (pe_op op_mul (pe_op op_sub (pv 3) pe_int) (pe_op op_sub (pv 3) pe_int)) pe_int) pa_nil))) (pg_name (i := 4) sc_first_of.nd rfl (by first | exact .inl rfl | exact .inr rfl)) (pss_cons (ps_if (pt_val (pe_call (ok_no_nought T) (hr.mono (by decide)) (by rfl) T.no_nought.g T.no_nought.F.kp T.no_nought.b .nil pass0 (pa_cons (pv 2) pa_nil))) (pss_one (ps_ret (pv 4))) pss_nil)
        (pss_one (ps_set (i := 2) sc_first_of.nd rfl (by first | exact .inl rfl | exact .inr rfl) (pe_call (ok_marked T) (hr.mono (by decide)) (by rfl) T.marked.g T.marked.F.kp T.marked.b .nil pass0 (pa_cons (pe_call (ok_multiplied T) (hr.mono (by decide)) (by rfl) T.multiplied.g T.multiplied.F.kp T.multiplied.b .nil pass0 (pa_cons (pv 2) (pa_cons (pv 1) pa_nil))) pa_nil))))))
        (pss_one (ps_ret pe_non)))))), ?_⟩
    have sq := sq_le h6
    refine q_asgR (R := Tab K n (b2 (nz f))) (evr_callV (ea_cons (ev_var rfl) ea_nil) (spR_of fun H1 e => ⟨n, f, v, rfl, h6, mt_tab.e _ _ _ e hv, rfl⟩)) fun hv' H1 e1 t1 => ?_
    refine q_asg (ev_var rfl) fun H2 e2 => ?_
    refine q_asg (ev_lenT (ev_var rfl) (mt_tab.e _ _ _ (e1.trans e2) hv)) fun H3 e3 => ?_
    refine q_forR2 (n := (((n - 1) * (n - 1) : Nat) : Int) + 2) (ea_cons ev_c (ea_cons (ev_is (ev_op (ev_op (ev_op (ev_var rfl) ev_c rv_I0) (ev_op (ev_var rfl) ev_c rv_I0) (rv_I (.inl (by omega)))) ev_c rv_I0) (by rw [sq_cast h1])) ea_nil)) (by omega)
      (fun i σ' H' => ∃ fv kk, σ' = [some v, some hv', some fv, some (.int (n : Int)), kk] ∧ Ex H H' ∧ Tab K n (b2 (nz f)) hv' H' ∧ Tab K n (b2 (pw n (nz f) i)) fv H' ∧ i < k)
      (fun H4 e4 => ⟨hv', none, rfl, ((e1.trans e2).trans e3).trans e4, mt_tab.e _ _ _ ((e2.trans e3).trans e4) t1, mt_tab.e _ _ _ ((e2.trans e3).trans e4) t1, by have := hk.1; omega⟩) ?_ ?_
    · rintro i σ' H' hi ⟨fv, kk, rfl, x1, x2, x3, x4⟩
      refine q_when (b := flB n (pw n (nz f) i)) (et_B (evr_callV (ea_cons (ev_var rfl) ea_nil) (spR_of fun H5 e5 => ⟨n, _, fv, rfl, h6, mt_tab.e _ _ _ e5 x3, by rw [nz_b2]⟩)).ev) (fun hf H5 e5 => ?_) fun hf H5 e5 => ?_
      · refine s_ret (ev_var rfl) fun H6 e6 => q _ _ ((x1.trans e5).trans e6) ?_
        have hf := flB_iff.mp hf
        have : ¬ i + 1 < k := fun z => hk.2.2 i z hf
        show V.int _ = V.int _
        congr 1
        omega
      · refine s_asgR (evr_step h6 (ev_var rfl) (mt_tab.e _ _ _ e5 x3) (ev_var rfl) (mt_tab.e _ _ _ e5 x2)) fun fv' H6 e6 t6 => ?_
        refine ⟨fv', some (.int (1 + (i : Int))), rfl, (x1.trans e5).trans e6, mt_tab.e _ _ _ (e5.trans e6) x2, t6, ?_⟩
        by_cases z : i + 1 = k
        · subst z
          have := flB_iff.mpr hk.2.1
          rw [show i + 1 - 1 = i by omega, hf] at this
          cases this
        · omega
    · rintro σ' H' ⟨fv, kk, rfl, x1, x2, x3, x4⟩
      exact absurd x4 (by omega)
def sp_need_first (K : PySem.W.Frag) : Sp := spR fun vs H R => ∃ (n k : Nat) (f : Nat → Nat → Int) (v : V), vs = [v] ∧ 1 ≤ n ∧ n ≤ 6 ∧ Tab K n f v H ∧ IsFirst n (nz f) k ∧ k ≤ (n - 1) * (n - 1) + 1 ∧ R = IsV .non
theorem ok_need_first (T : Txt K mg) : FnOk P w K mg base CX0 4 T.need_first.f T.need_first.fd ["table"] (sp_need_first K) := by
  refine T.need_first.F.ok sc_need_first (fun vs H Q E h => ?_) (fun cdv A outer s H vs Q E hr h => ?_)
  · obtain ⟨_, ⟨n, k, f, v, rfl, h1, h6, hv, hk, hb, rfl⟩, q⟩ := h
    rfl
  · obtain ⟨_, ⟨n, k, f, v, rfl, h1, h6, hv, hk, hb, rfl⟩, q⟩ := h
    refine ⟨_, (pss_one (ps_if (pt_cmpR op_isN (pe_call (ok_first_of T) (hr.mono (by decide)) (by rfl) T.first_of.g T.first_of.F.kp T.first_of.b .nil pass0 (pa_cons (pv 0) pa_nil)) pe_non (nomark _)) (pss_one ps_never) pss_nil)), ?_⟩
    refine s_when (b := false) (et_test (ev_op (x := .int (k : Int)) (evr_callV (ea_cons (ev_var rfl) ea_nil) (spR_of fun H1 e => ⟨n, k, f, v, rfl, h1, h6, mt_tab.e _ _ _ e hv, hk, hb, rfl⟩)).ev ev_c (rv_val fun H1 e Q q => ⟨rfl, q⟩))) (fun z => nomatch z) fun _ H1 e1 => q _ _ e1 rfl
def sp_marks_up_to (K : PySem.W.Frag) : Sp := spR fun vs H R => ∃ (n most : Nat) (f : Nat → Nat → Int) (v : V), vs = [v, .int (most : Int)] ∧ n ≤ 6 ∧ 1 ≤ most ∧ most ≤ 1000 ∧ Tab K n f v H ∧ R = LAt K most fun m => Tab K n (b2 (pw n (nz f) m))
theorem ok_marks_up_to (T : Txt K mg) : FnOk P w K mg base CX0 3 T.marks_up_to.f T.marks_up_to.fd ["table", "most"] (sp_marks_up_to K) := by
  refine T.marks_up_to.F.ok sc_marks_up_to (fun vs H Q E h => ?_) (fun cdv A outer s H vs Q E hr h => ?_)
  · obtain ⟨_, ⟨n, most, f, v, rfl, h6, hm1, hm2, hv, rfl⟩, q⟩ := h
    rfl
  · obtain ⟨_, ⟨n, most, f, v, rfl, h6, hm1, hm2, hv, rfl⟩, q⟩ := h
    refine ⟨_, (pss_cons (ps_set (i := 2) sc_marks_up_to.nd rfl (by first | exact .inl rfl | exact .inr rfl) (pe_call (ok_marked T) (hr.mono (by decide)) (by rfl) T.marked.g T.marked.F.kp T.marked.b .nil pass0 (pa_cons (pv 0) pa_nil)))
        (pss_cons (ps_set (i := 3) sc_marks_up_to.nd rfl (by first | exact .inl rfl | exact .inr rfl) (pe_lst (pa_cons (pv 2) pa_nil)))
        (pss_cons (ps_while PassesOwn.never (pt_cmpR op_lt (pe_callB (len_K (K := K)) (by rfl) T.b_len (by decide +kernel) (pa_cons (pv 3) pa_nil)) (pv 1) (nomark _)) (pss_one (ps_expr (pe_bmK (K := K) PySem.F.plainAttrs_list PySem.F.slot_list_append PySem.F.type_list_append mt_append (pv 3) (pa_cons (pe_call (ok_marked T) (hr.mono (by decide)) (by rfl) T.marked.g T.marked.F.kp T.marked.b .nil pass0 (pa_cons (pe_call (ok_multiplied T) (hr.mono (by decide)) (by rfl) T.multiplied.g T.multiplied.F.kp T.multiplied.b .nil pass0 (pa_cons (pe_ix (ix_listK (K := K)) (pv 3) (pe_un un_neg pe_int) (fun _ _ => rfl)) (pa_cons (pv 2) pa_nil))) pa_nil)) pa_nil)))))
        (pss_one (ps_ret (pv 3)))))), ?_⟩
    refine q_asgR (R := Tab K n (b2 (nz f))) (evr_callV (ea_cons (ev_var rfl) ea_nil) (spR_of fun H1 e => ⟨n, f, v, rfl, h6, mt_tab.e _ _ _ e hv, rfl⟩)) fun hv' H1 e1 t1 => ?_
    refine q_asgL (xs := [hv']) (el_lst (ea_cons (ev_var rfl) ea_nil) (show 1 ≤ 100000 by decide)) fun p H2 hp e2 h2 => ?_
    refine q_while (fun m σ' H' => ∃ c rs, 1 ≤ c ∧ c ≤ most ∧ m = most - c ∧ σ' = [some v, some (.int (most : Int)), some hv', some (.ref p)] ∧ Ex H H' ∧ Tab K n (b2 (nz f)) hv' H' ∧ H' p = some (.lst ((List.range c).map rs)) ∧ ∀ i, i < c → Tab K n (b2 (pw n (nz f) i)) (rs i) H') (most - 1)
      ⟨1, fun _ => hv', Nat.le_refl _, hm1, rfl, rfl, e1.trans e2, mt_tab.e _ _ _ e2 t1, h2, fun i hi => ?_⟩ ?_
    · have : i = 0 := by omega
      subst this
      exact mt_tab.e _ _ _ e2 t1
    · rintro m σ' H' ⟨c, rs, c1, c2, rfl, rfl, x1, x2, x3, x4⟩
      have len : (((List.range c).map rs).length : Int) = (c : Int) := by rw [List.length_map, List.length_range]
      refine ⟨decide ((c : Int) < most), et_test (ev_op (ev_is (ev_len (ev_var rfl) (sq_of x3)) (congrArg V.int len)) (ev_var rfl) rv_I0), fun hb H3 e3 => ?_, fun hb H3 e3 => ?_⟩
      · have hc := of_decide_eq_true hb
        refine ⟨_, fun σ2 H4 h => h, s_appR (e3 _ _ x3) (ev_var rfl) (evr_step (m := c - 1) h6 (ev_op (ev_var rfl) (ev_un ev_c ru_neg) (rv_ixL (sq_of (e3 _ _ x3)) (at_last c1 rs))) (mt_tab.e _ _ _ e3 (x4 (c - 1) (by omega))) (ev_var rfl) (mt_tab.e _ _ _ e3 x2)) (by rw [List.length_map, List.length_range]; omega) fun r H4 e4 t4 => ?_⟩
        have hp0 : H p = none := fresh_back e1 hp
        have hx : ExT H4 (upd H4 p (.lst ((List.range c).map rs ++ [r]))) := ext_lst (e4 _ _ (e3 _ _ x3))
        refine ⟨most - (c + 1), by omega, c + 1, _, by omega, by omega, rfl, rfl, Ex.mut ((x1.trans e3).trans e4) hp0, mt_tab _ _ _ hx (mt_tab.e _ _ _ (e3.trans e4) x2), by rw [upd_same, range_snoc], ?_⟩
        refine snoc_all (S := fun i v => Tab K n (b2 (pw n (nz f) i)) v _) (fun i hi => mt_tab _ _ _ hx (mt_tab.e _ _ _ (e3.trans e4) (x4 i hi))) (mt_tab _ _ _ hx ?_)
        rw [show c - 1 + 1 = c by omega] at t4
        exact t4
      · have hc := of_decide_eq_false hb
        have : c = most := by omega
        subst this
        exact s_ret (ev_var rfl) fun H4 e4 => q _ _ ((x1.trans e3).trans e4) (me_list (fun _ => mt_tab) _ _ _ (e3.trans e4) ⟨p, rs, rfl, sq_of x3, x4⟩)
/-- a table with a first power -/
structure OkF (K : PySem.W.Frag) (n k : Nat) (f : Nat → Nat → Int) (v : V) (H : Hp) : Prop extends OkT K n f v H where
  first : IsFirst n (nz f) k
  low : k ≤ (n - 1) * (n - 1) + 1
theorem OkF.mono {n k : Nat} {f : Nat → Nat → Int} {v : V} {H H' : Hp} (h : OkF K n k f v H) (e : Ex H H') : OkF K n k f v H' := ⟨h.toOkT.mono e, h.first, h.low⟩
theorem OkF.le {n k : Nat} {f : Nat → Nat → Int} {v : V} {H : Hp} (h : OkF K n k f v H) : 1 ≤ k ∧ k ≤ 26 := ⟨h.first.1, by have := sq_le h.six; have := h.low; omega⟩
theorem ev_firstof {n k : Nat} {f : Nat → Nat → Int} {v : V} {H : Hp} {σ : L2.St} {ta : TE} {E : XK} (h : OkF K n k f v H) (ha : Ev ta σ H v) : Ev (tCall (sp_first_of K) [] E (tCons ta tNil)) σ H (.int (k : Int)) :=
  (evr_callV (ea_cons ha ea_nil) (spR_of fun H1 e => ⟨n, k, f, v, rfl, h.one, h.six, (h.mono e).tab, h.first, h.low, rfl⟩)).ev
theorem ev_needfirst {n k : Nat} {f : Nat → Nat → Int} {v : V} {H : Hp} {σ : L2.St} {ta : TE} {E : XK} (h : OkF K n k f v H) (ha : Ev ta σ H v) : Ev (tCall (sp_need_first K) [] E (tCons ta tNil)) σ H .non :=
  (evr_callV (ea_cons ha ea_nil) (spR_of fun H1 e => ⟨n, k, f, v, rfl, h.one, h.six, (h.mono e).tab, h.first, h.low, rfl⟩)).ev
theorem ev_needtable {n : Nat} {f : Nat → Nat → Int} {v : V} {H : Hp} {σ : L2.St} {ta : TE} {E : XK} (h : OkT K n f v H) (ha : Ev ta σ H v) : Ev (tCall (sp_need_table K) [] E (tCons ta tNil)) σ H .non :=
  (evr_callV (ea_cons ha ea_nil) (spR_of fun H1 e => ⟨n, f, v, rfl, h.mono e, rfl⟩)).ev
theorem ev_needplace {n i : Nat} {f : Nat → Nat → Int} {v : V} {H : Hp} {σ : L2.St} {ta tb : TE} {E : XK} (h : OkT K n f v H) (ha : Ev ta σ H v) (hb : Ev tb σ H (.int (i : Int))) (hi : i < n) : Ev (tCall (sp_need_place K) [] E (tCons ta (tCons tb tNil))) σ H .non :=
  (evr_callV (ea_cons ha (ea_cons hb ea_nil)) (spR_of fun H1 e => ⟨n, i, f, v, rfl, (h.mono e).tab, hi, rfl⟩)).ev
theorem evr_upto {n k : Nat} {f : Nat → Nat → Int} {v : V} {H : Hp} {σ : L2.St} {ta tb : TE} {E E' : XK} (h : OkF K n k f v H) (ha : Ev ta σ H v) (hb : Ev tb σ H v) : EvR (tCall (sp_marks_up_to K) [] E (tCons ta (tCons (tCall (sp_first_of K) [] E' (tCons tb tNil)) tNil))) σ H (LAt K k fun m => Tab K n (b2 (pw n (nz f) m))) :=
  evr_callV (ea_cons ha (ea_cons (ev_firstof h hb) ea_nil)) (spR_of fun H1 e => ⟨n, k, f, v, rfl, h.six, h.le.1, by have := h.le.2; omega, (h.mono e).tab, rfl⟩)
def sp_first_row (K : PySem.W.Frag) : Sp := spR fun vs H R => ∃ (n k i r : Nat) (f : Nat → Nat → Int) (v : V), vs = [v, .int (i : Int)] ∧ OkF K n k f v H ∧ i < n ∧ IsRow n (nz f) i r ∧ R = IsV (.int ((r : Int) + 1))
theorem ok_first_row (T : Txt K mg) : FnOk P w K mg base CX0 5 T.first_row.f T.first_row.fd ["table", "place"] (sp_first_row K) := by
  refine T.first_row.F.ok sc_first_row (fun vs H Q E h => ?_) (fun cdv A outer s H vs Q E hr h => ?_)
  · obtain ⟨_, ⟨n, k, i, r, f, v, rfl, hv, hi, hr', rfl⟩, q⟩ := h
    rfl
  · obtain ⟨_, ⟨n, k, i, r, f, v, rfl, hv, hi, hr', rfl⟩, q⟩ := h
    refine ⟨_, (pss_cons (ps_expr (pe_call (ok_need_table T) (hr.mono (by decide)) (by rfl) T.need_table.g T.need_table.F.kp T.need_table.b .nil pass0 (pa_cons (pv 0) pa_nil)))
        (pss_cons (ps_expr (pe_call (ok_need_place T) (hr.mono (by decide)) (by rfl) T.need_place.g T.need_place.F.kp T.need_place.b .nil pass0 (pa_cons (pv 0) (pa_cons (pv 1) pa_nil))))
        (pss_cons (ps_expr (pe_call (ok_need_first T) (hr.mono (by decide)) (by rfl) T.need_first.g T.need_first.F.kp T.need_first.b .nil pass0 (pa_cons (pv 0) pa_nil)))
        (pss_cons (ps_setLc (i := 2) (own := [("one", 3)]) (g := gName 3) (tt := tYes) rfl sc_first_row.nd rfl rfl (sw_true rfl rfl rfl (by decide +kernel)) (pi_listK (K := K) (pe_call (ok_marks_up_to T) (hr.mono (by decide)) (by rfl) T.marks_up_to.g T.marks_up_to.F.kp T.marks_up_to.b .nil pass0 (pa_cons (pv 0) (pa_cons (pe_call (ok_first_of T) (hr.mono (by decide)) (by rfl) T.first_of.g T.first_of.F.kp T.first_of.b .nil pass0 (pa_cons (pv 0) pa_nil)) pa_nil)))) (blkOk_by (by dsimp only [cxOf, envOfC]; decide +kernel)) (fun _ _ _ _ _ => (pg_name (i := 3) sc_first_row.nd rfl (by first | exact .inl rfl | exact .inr rfl))) (fun _ _ _ _ _ => pts_nil) (fun _ _ _ _ _ => (pe_ix (ix_tupK (K := K)) (pv 3) (pv 1) (fun _ _ => rfl))))
        (pss_one (ps_ret (pe_op op_add (pe_bmK (K := K) PySem.F.plainAttrs_list PySem.F.slot_list_index PySem.F.type_list_index (index_K (K := K)) (pe_lc (own := [("row", 4)]) (g := gName 4) (tt := tYes) rfl sc_first_row.nd (pi_listK (K := K) (pv 2)) (blkOk_by (by dsimp only [cxOf, envOfC]; decide +kernel)) (fun _ _ _ _ _ => (pg_name (i := 4) sc_first_row.nd rfl (by first | exact .inl rfl | exact .inr rfl))) (fun _ _ _ _ _ => pts_nil) (fun _ _ _ _ _ => (pe_cmpR (in_K (K := K)) pe_int (pv 4) (by rfl)))) (pa_cons pe_bl pa_nil)) pe_int))))))), ?_⟩
    refine q_drop (v := .non) (ev_needtable hv.toOkT (ev_var rfl)) fun H1 e1 => ?_
    refine q_drop (v := .non) (ev_needplace (hv.mono e1).toOkT (ev_var rfl) (ev_var rfl) hi) fun H2 e2 => ?_
    refine q_drop (v := .non) (ev_needfirst (hv.mono (e1.trans e2)) (ev_var rfl)) fun H3 e3 => ?_
    have hv3 := hv.mono ((e1.trans e2).trans e3)
    refine q_asgN (n := k) (S := fun m => Row K n fun j => b2 (pw n (nz f) m) i j) (lcN (src_lst (evr_upto hv3 (ev_var rfl) (ev_var rfl)) fun _ => mt_tab) (fun _ => mt_row) (by have := hv.le.2; omega) (fun _ => rfl) fun m x H4 hm e4 hx => evr_ixTV (ev_var rfl) hx mt_row.e (ev_var rfl) hi) fun p rs H4 hp e4 h4 t4 => ?_
    have rk := row_le hv.first hi hr'
    refine s_ret (ev_op (ev_indexB (z := fun m => rowZ n (pw n (nz f) m) i) (lcV (src_list (ev_var rfl) (sq_of h4) t4 fun _ => mt_row) (by have := hv.le.2; omega) (fun _ => rfl) fun m x H6 hm e6 hx => ?_) rk (rowZ_iff.mpr hr'.1) fun m hm => ?_) ev_c rv_I0) fun H5 e5 => q _ _ (((e1.trans e2).trans e3).trans (e4.trans e5)) rfl
    · obtain ⟨a, rfl, hs⟩ := row_seq hx
      exact ev_op ev_c (ev_var rfl) (rv_isT hs rfl (by rw [List.all_map]; exact List.all_eq_true.mpr fun _ _ => rfl))
    · cases z : rowZ n (pw n (nz f) m) i with
      | true => rfl
      | false => exact absurd (rowZ_iff.mp z) (hr'.2 m hm)
def sp_pair_of (K : PySem.W.Frag) : Sp := spR fun vs H R => ∃ (n k i j p : Nat) (a : Nat → Nat → Bool) (v : V), vs = [v, .int (i : Int), .int (j : Int)] ∧ IsFirst n a k ∧ LAt K k (fun m => Tab K n (b2 (pw n a m))) v H ∧ i < n ∧ j < n ∧ IsPair n a i j p ∧ R = IsV (.int (p : Int))
theorem ok_pair_of (T : Txt K mg) : FnOk P w K mg base CX0 1 T.pair_of.f T.pair_of.fd ["powers", "one", "other"] (sp_pair_of K) := by
  refine T.pair_of.F.ok sc_pair_of (fun vs H Q E h => ?_) (fun cdv A outer s H vs Q E hr h => ?_)
  · obtain ⟨_, ⟨n, k, i, j, p, a, v, rfl, hk, hv, hi, hj, hp, rfl⟩, q⟩ := h
    rfl
  · obtain ⟨_, ⟨n, k, i, j, p, a, v, rfl, hk, hv, hi, hj, hp, rfl⟩, q⟩ := h
    refine ⟨_, (pss_cons (ps_set (i := 3) sc_pair_of.nd rfl (by first | exact .inl rfl | exact .inr rfl) pe_int)
        (pss_cons (ps_for PassesOwn.never rfl (pi_enum (by rfl) T.b_enumerate (pa_cons (pv 0) pa_nil)) (pg_tupK (K := K) (n := 2) rfl (pgs_cons (pg_name (i := 4) sc_pair_of.nd rfl (by first | exact .inl rfl | exact .inr rfl)) (pgs_cons (pg_name (i := 5) sc_pair_of.nd rfl (by first | exact .inl rfl | exact .inr rfl)) pgs_nil))) (pss_one (ps_if (pt_cmpR op_eq (pe_ix (ix_tupK (K := K)) (pe_ix (ix_tupK (K := K)) (pv 5) (pv 1) (fun _ _ => rfl)) (pv 2) (fun _ _ => rfl)) pe_int (nomark _)) (pss_one (ps_set (i := 3) sc_pair_of.nd rfl (by first | exact .inl rfl | exact .inr rfl) (pe_op op_add (pv 4) pe_int))) pss_nil)))
        (pss_one (ps_ret (pv 3))))), ?_⟩
    obtain ⟨l, rs, rfl, hl, ht⟩ := hv
    refine q_asg ev_c fun H1 e1 => ?_
    refine q_forS (n := k) (src_enum (S := fun m => Tab K n (b2 (pw n a m))) (ev_var rfl) (ex_l e1 hl) (fun m hm => mt_tab.e _ _ _ e1 (ht m hm)) fun _ => mt_tab) (fun H2 m σ' H' => Ex H2 H' ∧ ∃ (u : Nat) (y4 y5 : Option V), Upto n a i j m u ∧ σ' = [some (.ref l), some (.int (i : Int)), some (.int (j : Int)), some (.int (u : Int)), y4, y5])
      (fun H2 e2 => ⟨Ex.refl _, 1, none, none, ⟨Nat.le_refl _, Nat.le_refl _, fun t _ h => absurd h (Nat.not_lt_zero t), .inl rfl⟩, rfl⟩) (fun H2 m σ' H' _ p => p.1) ?_ ?_
    · rintro H2 m x σ' H' H3 e2 hm ⟨x1, u, y4, y5, ⟨u1, u2, u3, u4⟩, rfl⟩ x2 ⟨T', y, rfl, hT, ty⟩
      refine ⟨T', _, rfl, st_of hT, rfl, .int (m : Int), [y], rfl, y, [], rfl, rfl, ?_⟩
      refine s_when (b := decide (V.int (b2 (pw n a m) i j) = V.int 0)) (et_test (ev_op (ev_ix2 (ev_var rfl) ty (ev_var rfl) hi (ev_var rfl) hj) ev_c (rv_eq rfl))) (fun hb H4 e4 => ?_) fun hb H4 e4 => ?_
      · have hb : b2 (pw n a m) i j = 0 := V.int.inj (of_decide_eq_true hb)
        have hf : pw n a m i j = false := by
          cases z : pw n a m i j with
          | false => rfl
          | true =>
            unfold b2 at hb
            rw [z] at hb
            exact absurd hb (by decide)
        refine s_asg (ev_op (ev_var rfl) ev_c rv_I0) fun H5 e5 => ⟨(x1.trans x2).trans (e4.trans e5), m + 2, some (.int (m : Int)), some y, ⟨by omega, by omega, fun t ht hm => by omega, .inr hf⟩, rfl⟩
      · have hb := of_decide_eq_false hb
        have hf : pw n a m i j = true := by
          cases z : pw n a m i j with
          | true => rfl
          | false =>
            refine absurd (congrArg V.int ?_) hb
            unfold b2
            rw [z]
            rfl
        refine ⟨(x1.trans x2).trans e4, u, _, _, ⟨u1, by omega, fun t ht hm => ?_, u4⟩, rfl⟩
        by_cases z : t = m
        · rw [z]
          exact hf
        · exact u3 t ht (by omega)
    · rintro H2 σ' H' e2 ⟨x1, u, y4, y5, hu, rfl⟩
      have : u = p := upto_pair hk hi hj hu hp
      subst this
      exact s_ret (ev_var rfl) fun H3 e3 => q _ _ ((e1.trans e2).trans (x1.trans e3)) rfl
def sp_first_pair (K : PySem.W.Frag) : Sp := spR fun vs H R => ∃ (n k i j p : Nat) (f : Nat → Nat → Int) (v : V), vs = [v, .int (i : Int), .int (j : Int)] ∧ OkF K n k f v H ∧ i < n ∧ j < n ∧ IsPair n (nz f) i j p ∧ R = IsV (.int (p : Int))
theorem ok_first_pair (T : Txt K mg) : FnOk P w K mg base CX0 5 T.first_pair.f T.first_pair.fd ["table", "one", "other"] (sp_first_pair K) := by
  refine T.first_pair.F.ok sc_first_pair (fun vs H Q E h => ?_) (fun cdv A outer s H vs Q E hr h => ?_)
  · obtain ⟨_, ⟨n, k, i, j, p, f, v, rfl, hv, hi, hj, hp, rfl⟩, q⟩ := h
    rfl
  · obtain ⟨_, ⟨n, k, i, j, p, f, v, rfl, hv, hi, hj, hp, rfl⟩, q⟩ := h
    refine ⟨_, (pss_cons (ps_expr (pe_call (ok_need_table T) (hr.mono (by decide)) (by rfl) T.need_table.g T.need_table.F.kp T.need_table.b .nil pass0 (pa_cons (pv 0) pa_nil)))
        (pss_cons (ps_expr (pe_call (ok_need_place T) (hr.mono (by decide)) (by rfl) T.need_place.g T.need_place.F.kp T.need_place.b .nil pass0 (pa_cons (pv 0) (pa_cons (pv 1) pa_nil))))
        (pss_cons (ps_expr (pe_call (ok_need_place T) (hr.mono (by decide)) (by rfl) T.need_place.g T.need_place.F.kp T.need_place.b .nil pass0 (pa_cons (pv 0) (pa_cons (pv 2) pa_nil))))
        (pss_cons (ps_expr (pe_call (ok_need_first T) (hr.mono (by decide)) (by rfl) T.need_first.g T.need_first.F.kp T.need_first.b .nil pass0 (pa_cons (pv 0) pa_nil)))
        (pss_one (ps_ret (pe_call (ok_pair_of T) (hr.mono (by decide)) (by rfl) T.pair_of.g T.pair_of.F.kp T.pair_of.b .nil pass0 (pa_cons (pe_call (ok_marks_up_to T) (hr.mono (by decide)) (by rfl) T.marks_up_to.g T.marks_up_to.F.kp T.marks_up_to.b .nil pass0 (pa_cons (pv 0) (pa_cons (pe_call (ok_first_of T) (hr.mono (by decide)) (by rfl) T.first_of.g T.first_of.F.kp T.first_of.b .nil pass0 (pa_cons (pv 0) pa_nil)) pa_nil))) (pa_cons (pv 1) (pa_cons (pv 2) pa_nil)))))))))), ?_⟩
    refine q_drop (v := .non) (ev_needtable hv.toOkT (ev_var rfl)) fun H1 e1 => ?_
    refine q_drop (v := .non) (ev_needplace (hv.mono e1).toOkT (ev_var rfl) (ev_var rfl) hi) fun H2 e2 => ?_
    refine q_drop (v := .non) (ev_needplace (hv.mono (e1.trans e2)).toOkT (ev_var rfl) (ev_var rfl) hj) fun H3 e3 => ?_
    refine q_drop (v := .non) (ev_needfirst (hv.mono ((e1.trans e2).trans e3)) (ev_var rfl)) fun H4 e4 => ?_
    have e14 := ((e1.trans e2).trans e3).trans e4
    refine s_retR (R := IsV (.int (p : Int))) (evr_call (ear_cons (evr_upto (hv.mono e14) (ev_var rfl) (ev_var rfl)) (me_list fun _ => mt_tab) fun H5 e5 => ear_cons (.is (ev_var rfl)) (mt_is _).e fun H6 e6 => ear_cons (.is (ev_var rfl)) (mt_is _).e fun H7 e7 => ear_nil) ?_) fun r H5 e5 => q r H5 (e14.trans e5)
    rintro vs H5 e5 ⟨x, xs, rfl, t1, y, ys, rfl, (t2 : y = _), z, zs, rfl, (t3 : z = _), rfl⟩
    subst t2 t3
    exact spR_of fun H6 e6 => ⟨n, k, i, j, p, nz f, x, rfl, hv.first, me_list (fun _ => mt_tab) _ _ _ e6 t1, hi, hj, hp, rfl⟩
def sp_first_pairs (K : PySem.W.Frag) : Sp := spR fun vs H R => ∃ (n k : Nat) (p : Nat → Nat → Nat) (f : Nat → Nat → Int) (v : V), vs = [v] ∧ OkF K n k f v H ∧ (∀ i j, i < n → j < n → IsPair n (nz f) i j (p i j)) ∧ R = Tab K n fun i j => (p i j : Int)
theorem ok_first_pairs (T : Txt K mg) : FnOk P w K mg base CX0 5 T.first_pairs.f T.first_pairs.fd ["table"] (sp_first_pairs K) := by
  refine T.first_pairs.F.ok sc_first_pairs (fun vs H Q E h => ?_) (fun cdv A outer s H vs Q E hr h => ?_)
  · obtain ⟨_, ⟨n, k, p, f, v, rfl, hv, hp, rfl⟩, q⟩ := h
    rfl
  · obtain ⟨_, ⟨n, k, p, f, v, rfl, hv, hp, rfl⟩, q⟩ := h
    refine ⟨_, (pss_cons (ps_expr (pe_call (ok_need_table T) (hr.mono (by decide)) (by rfl) T.need_table.g T.need_table.F.kp T.need_table.b .nil pass0 (pa_cons (pv 0) pa_nil)))
        (pss_cons (ps_expr (pe_call (ok_need_first T) (hr.mono (by decide)) (by rfl) T.need_first.g T.need_first.F.kp T.need_first.b .nil pass0 (pa_cons (pv 0) pa_nil)))
        (pss_cons (ps_set (i := 1) sc_first_pairs.nd rfl (by first | exact .inl rfl | exact .inr rfl) (pe_call (ok_marks_up_to T) (hr.mono (by decide)) (by rfl) T.marks_up_to.g T.marks_up_to.F.kp T.marks_up_to.b .nil pass0 (pa_cons (pv 0) (pa_cons (pe_call (ok_first_of T) (hr.mono (by decide)) (by rfl) T.first_of.g T.first_of.F.kp T.first_of.b .nil pass0 (pa_cons (pv 0) pa_nil)) pa_nil))))
        (pss_cons (ps_set (i := 2) sc_first_pairs.nd rfl (by first | exact .inl rfl | exact .inr rfl) (pe_call (ok_all_places T) (hr.mono (by decide)) (by rfl) T.all_places.g T.all_places.F.kp T.all_places.b .nil pass0 (pa_cons (pv 0) pa_nil)))
        (pss_one (ps_ret (pe_callTy (tup_K (K := K)) (by rfl) T.b_tuple (by decide +kernel) (pa_cons (pe_lc (own := [("one", 4)]) (g := gName 4) (tt := tYes) rfl sc_first_pairs.nd (pi_tupK (K := K) (pv 2)) (blkOk_by (by dsimp only [cxOf, envOfC]; decide +kernel)) (fun _ _ _ _ _ => (pg_name (i := 4) sc_first_pairs.nd rfl (by first | exact .inl rfl | exact .inr rfl))) (fun _ _ _ _ _ => pts_nil) (fun _ _ _ _ _ => (pe_callTy (tup_K (K := K)) (by rfl) T.b_tuple (by decide +kernel) (pa_cons (pe_lc (own := [("other", 3)]) (g := gName 3) (tt := tYes) rfl sc_first_pairs.nd (pi_tupK (K := K) (pv 2)) (blk1 ["table", "powers", "places", "other", "one"] (defScope s_first_pairs) (by decide +kernel)) (fun _ _ _ _ _ => (pg_name (i := 3) sc_first_pairs.nd rfl (by first | exact .inl rfl | exact .inr rfl))) (fun _ _ _ _ _ => pts_nil) (fun _ _ _ _ _ => (pe_call (ok_pair_of T) (hr.mono (by decide)) (by rfl) T.pair_of.g T.pair_of.F.kp T.pair_of.b .nil pass0 (pa_cons (pv 1) (pa_cons (pv 4) (pa_cons (pv 3) pa_nil)))))) pa_nil)))) pa_nil)))))))), ?_⟩
    have h6 := hv.six
    refine q_drop (v := .non) (ev_needtable hv.toOkT (ev_var rfl)) fun H1 e1 => ?_
    refine q_drop (v := .non) (ev_needfirst (hv.mono e1) (ev_var rfl)) fun H2 e2 => ?_
    have e12 := e1.trans e2
    refine q_asgR (evr_upto (hv.mono e12) (ev_var rfl) (ev_var rfl)) fun x H3 e3 t3 => ?_
    refine q_asgR (R := Row K n fun j => (j : Int)) (evr_callV (ea_cons (ev_var rfl) ea_nil) (spR_of fun H4 e => ⟨n, f, v, rfl, h6, (hv.mono ((e12.trans e3).trans e)).tab, rfl⟩)) fun y H4 e4 t4 => ?_
    refine s_retR (R := Tab K n fun i j => (p i j : Int)) (evr_tupOf (lcN (R := fun i => Row K n fun j => (p i j : Int)) (src_tup (.of (ev_var rfl) mt_row.e t4) fun _ => mt_is _) (fun _ => mt_row) (by omega) (fun _ => rfl) fun i z H5 hi e5 (hz : z = _) => ?_) fun _ => mt_row) fun r H5 e5 => q r H5 ((e12.trans e3).trans (e4.trans e5))
    subst hz
    refine evr_tupOf (lcN (R := fun j => IsV (.int (p i j : Int))) (src_tup (.of (ev_var rfl) mt_row.e (mt_row.e _ _ _ e5 t4)) fun _ => mt_is _) (fun _ => mt_is _) (by omega) (fun _ => rfl) fun j z H6 hj e6 (hz : z = _) => ?_) fun _ => mt_is _
    subst hz
    exact evr_callV (ea_cons (ev_var rfl) (ea_cons (ev_var rfl) (ea_cons (ev_var rfl) ea_nil))) (spR_of fun H7 e7 => ⟨n, k, i, j, p i j, nz f, x, rfl, hv.first, me_list (fun _ => mt_tab) _ _ _ ((e4.trans e5).trans (e6.trans e7)) t3, hi, hj, hp i j hi hj, rfl⟩)
def sp_first_power (K : PySem.W.Frag) : Sp := spR fun vs H R => ∃ (n k : Nat) (f : Nat → Nat → Int) (v : V), vs = [v] ∧ OkF K n k f v H ∧ R = IsV (.int (k : Int))
theorem ok_first_power (T : Txt K mg) : FnOk P w K mg base CX0 5 T.first_power.f T.first_power.fd ["table"] (sp_first_power K) := by
  refine T.first_power.F.ok sc_first_power (fun vs H Q E h => ?_) (fun cdv A outer s H vs Q E hr h => ?_)
  · obtain ⟨_, ⟨n, k, f, v, rfl, hv, rfl⟩, q⟩ := h
    rfl
  · obtain ⟨_, ⟨n, k, f, v, rfl, hv, rfl⟩, q⟩ := h
    refine ⟨_, (pss_cons (ps_expr (pe_call (ok_need_table T) (hr.mono (by decide)) (by rfl) T.need_table.g T.need_table.F.kp T.need_table.b .nil pass0 (pa_cons (pv 0) pa_nil)))
        (pss_one (ps_ret (pe_call (ok_first_of T) (hr.mono (by decide)) (by rfl) T.first_of.g T.first_of.F.kp T.first_of.b .nil pass0 (pa_cons (pv 0) pa_nil))))), ?_⟩
    refine q_drop (v := .non) (ev_needtable hv.toOkT (ev_var rfl)) fun H1 e1 => ?_
    exact s_ret (ev_firstof (hv.mono e1) (ev_var rfl)) fun H2 e2 => q _ _ (e1.trans e2) rfl
end
end K56
namespace K56
open PySem PySem.Spec PyProof.Rows L2 Evl

/-! ### tables as data; dicts of tables, further -/
def tabData (n : Nat) (f : Nat → Nat → Int) : PyData := .tuple ((List.range n).map fun i => .tuple ((List.range n).map fun j => .int (f i j)))
section
variable {K : PySem.W.Frag} {H : Hp}
theorem dp_map {S : Nat → V → Hp → Prop} {d : Nat → PyData} {rs : Nat → V} (h : ∀ i v, S i v H → Dp K H v (d i)) : ∀ l : List Nat, (∀ i ∈ l, S i (rs i) H) → DpAll K H (l.map rs) (l.map d)
  | [], _ => .nil
  | i :: l, hl => .cons (h i _ (hl i List.mem_cons_self)) (dp_map h l fun j hj => hl j (List.mem_cons_of_mem _ hj))
theorem dp_row {n : Nat} {f : Nat → Int} {v : V} (h : Row K n f v H) : Dp K H v (.tuple ((List.range n).map fun j => .int (f j))) := by
  obtain ⟨a, rfl, hs⟩ := row_seq h
  exact .tup hs (dp_ints (n := 0) f _)
theorem dp_tab {n : Nat} {f : Nat → Nat → Int} {v : V} (h : Tab K n f v H) : Dp K H v (tabData n f) := by
  obtain ⟨a, rs, rfl, hs, hr⟩ := h
  exact .tup hs (dp_map (S := fun i => Row K n (f i)) (fun i v h => dp_row h) _ fun i hi => hr i (List.mem_range.mp hi))
end
theorem lay_map {d : Nat → PyData} {m : Nat} (h : ∀ i, (d i).canLay0 = true ∧ (d i).depth ≤ m) : ∀ l : List Nat, PyData.canLayAll0 (l.map d) = true ∧ PyData.depthAll (l.map d) ≤ m
  | [] => by simp [PyData.canLayAll0, PyData.depthAll]
  | i :: l => by
    obtain ⟨h1, h2⟩ := lay_map h l
    obtain ⟨h3, h4⟩ := h i
    simp only [List.map_cons, PyData.canLayAll0, PyData.depthAll, h1, h3, Bool.and_self, true_and]
    omega
theorem lay_tab (n : Nat) (f : Nat → Nat → Int) : (tabData n f).canLay0 = true ∧ (tabData n f).depth ≤ 2 := by
  have row : ∀ g : Nat → Int, (PyData.tuple ((List.range n).map fun j => .int (g j))).canLay0 = true ∧ (PyData.tuple ((List.range n).map fun j => .int (g j))).depth ≤ 1 := fun g => by
    obtain ⟨h1, h2⟩ := lay_ints g (List.range n)
    simp only [PyData.canLay0, PyData.depth, h1, h2, true_and]
    omega
  obtain ⟨h1, h2⟩ := lay_map (d := fun i => PyData.tuple ((List.range n).map fun j => .int (f i j))) (m := 1) (fun i => row (f i)) (List.range n)
  unfold tabData
  simp only [PyData.canLay0, PyData.depth, h1, true_and]
  omega
theorem shaped_tab (n : Nat) (f : Nat → Nat → Int) : SeqAt.shaped (tabData n f) = true := by
  obtain ⟨h1, h2⟩ := lay_tab n f
  unfold SeqAt.shaped
  rw [h1, Bool.true_and]
  exact decide_eq_true (by omega)
theorem shaped_tabs (n : Nat) (fs : Nat → Nat → Nat → Int) (l : List Nat) : SeqAt.shaped (.list (l.map fun i => tabData n (fs i))) = true := by
  obtain ⟨h1, h2⟩ := lay_map (d := fun i => tabData n (fs i)) (m := 2) (fun i => lay_tab n (fs i)) l
  unfold SeqAt.shaped
  simp only [PyData.canLay0, PyData.depth, h1, Bool.true_and]
  exact decide_eq_true (by omega)
theorem eqv_map {d e : Nat → PyData} : ∀ l : List Nat, PyData.eqvAll (l.map d) (l.map e) = l.all fun i => PyData.eqv (d i) (e i)
  | [] => by simp [PyData.eqvAll]
  | i :: l => by
    simp only [List.map_cons, PyData.eqvAll, List.all_cons, eqv_map l]
theorem eqv_tab {n : Nat} {f g : Nat → Nat → Int} : PyData.eqv (tabData n f) (tabData n g) = true ↔ ∀ i j, i < n → j < n → f i j = g i j := by
  unfold tabData
  simp only [PyData.eqv, eqv_map, List.all_eq_true, List.mem_range, beq_iff_eq]
  exact ⟨fun h i j hi hj => h i hi j hj, fun h i hi j hj => h i j hi hj⟩
theorem b2_eq {a c : Nat → Nat → Bool} {i j : Nat} (h : b2 a i j = b2 c i j) : a i j = c i j := by
  unfold b2 at h
  cases x : a i j <;> cases y : c i j <;> rw [x, y] at h <;> first | rfl | exact absurd h (by decide)
theorem Tab.congr {K : PySem.W.Frag} {H : Hp} {n : Nat} {f g : Nat → Nat → Int} {v : V} (e : ∀ i j, i < n → j < n → f i j = g i j) (h : Tab K n f v H) : Tab K n g v H := by
  obtain ⟨a, rs, h1, h2, h3⟩ := h
  refine ⟨a, rs, h1, h2, fun i hi => ?_⟩
  obtain ⟨b, ss, q1, q2, q3⟩ := h3 i hi
  refine ⟨b, ss, q1, q2, fun j hj => ?_⟩
  have q3 : ss j = _ := q3 j hj
  rw [e i j hi hj] at q3
  exact q3
theorem DictN.congr {P : Program} {w : World} {K : PySem.W.Frag} {n m : Nat} {H : Hp} {d : Addr} {fs gs : Nat → Nat → Nat → Int} (e : ∀ i, i < m → fs i = gs i) (h : DictN P w K n H d m fs) : DictN P w K n H d m gs := by
  obtain ⟨o, es, ep, xs, h1, h2, h3, h4, h5, h6, h7, h8⟩ := h
  refine ⟨o, es, ep, xs, h1, h2, h3, h4, h5, h6, ?_, h8⟩
  rw [h7]
  exact List.map_congr_left fun i hi => by rw [e i (List.mem_range.mp hi)]
section
variable {K : PySem.W.Frag} {σ : L2.St} {H : Hp} {te : TE} {D : Ends} {tu tz : TS}
/-- an if whose answer is told by what is true of it -/
theorem q_whenR {p : Bool → Prop} (h : EvR te σ H fun v _ => ∃ b, v = .bl b ∧ p b) (h1 : p true → ∀ H1, Ex H H1 → tu { D with nx := tz D } σ H1) (h2 : p false → ∀ H1, Ex H H1 → tz D σ H1) : tSeq (tIfS (tB te) tu tNext) tz D σ H := h H (Ex.refl H) _ fun v H1 e ⟨b, hv, hp⟩ => ⟨b, hv, by
  cases b with
  | true => exact h1 hp H1 e
  | false => exact h2 hp H1 e⟩
end
theorem least_range {p : Nat → Bool} {L : Nat} (h : ∃ l, l < L ∧ p l = true) : ∃ j, j < L ∧ p j = true ∧ ∀ m, m < j → p m = false := by
  obtain ⟨l, h1, h2⟩ := h
  induction l using Nat.strongRecOn with
  | ind l ih =>
    by_cases q : ∃ m, m < l ∧ p m = true
    · obtain ⟨m, m1, m2⟩ := q
      exact ih m m1 (by omega) m2
    · exact ⟨l, h1, h2, fun m hm => by
        cases e : p m with
        | false => rfl
        | true => exact absurd ⟨m, hm, e⟩ q⟩
/-- where a power's marks stand among all -/
def placeOf (L at' k : Nat) : Nat := if k ≤ L then k - 1 else at' + (k - 1 - at') % (L - at')
theorem placeOf_lt {L at' k : Nat} (h1 : at' < L) (hk : 1 ≤ k) : placeOf L at' k < L := by
  unfold placeOf
  by_cases h : k ≤ L
  · rw [if_pos h]
    omega
  · rw [if_neg h]
    have := Nat.mod_lt (k - 1 - at') (show 0 < L - at' by omega)
    omega
theorem placeOf_eqn {n L at' k : Nat} {a : Nat → Nat → Bool} (h1 : at' < L) (e : Eqn n (pw n a L) (pw n a at')) : Eqn n (pw n a (placeOf L at' k)) (pw n a (k - 1)) := by
  unfold placeOf
  by_cases h : k ≤ L
  · rw [if_pos h]
    exact fun _ _ _ _ => rfl
  · rw [if_neg h]
    have := eqn_round e h1 (k - 1 - at')
    rw [show at' + (k - 1 - at') = k - 1 by omega] at this
    exact fun i j hi hj => (this i j hi hj).symm
section
variable {P : Program} {w : World} {K : PySem.W.Frag} {mg : Str → Option Value} {base : Heap}

def sp_rows_meet (K : PySem.W.Frag) : Sp := spR fun vs H R => ∃ (n : Nat) (a : Nat → Nat → Bool) (v : V), vs = [v] ∧ 1 ≤ n ∧ n ≤ 6 ∧ Tab K n (b2 a) v H ∧ R = fun r _ => ∃ b, r = .bl b ∧ (Fl n a → b = true)
theorem ok_rows_meet (T : Txt K mg) : FnOk P w K mg base CX0 1 T.rows_meet.f T.rows_meet.fd ["table"] (sp_rows_meet K) := by
  refine T.rows_meet.F.ok sc_rows_meet (fun vs H Q E h => ?_) (fun cdv A outer s H vs Q E hr h => ?_)
  · obtain ⟨_, ⟨n, a, v, rfl, h1, h6, hv, rfl⟩, q⟩ := h
    rfl
  · obtain ⟨_, ⟨n, a, v, rfl, h1, h6, hv, rfl⟩, q⟩ := h
    refine ⟨_, (pss_cons (ps_for PassesOwn.never rfl (pi_tupK (K := K) (pv 0)) (pg_name (i := 1) sc_rows_meet.nd rfl (by first | exact .inl rfl | exact .inr rfl)) (pss_one (ps_for PassesOwn.never rfl (pi_tupK (K := K) (pv 0)) (pg_name (i := 2) sc_rows_meet.nd rfl (by first | exact .inl rfl | exact .inr rfl)) (pss_one (ps_if (pt_not (pt_val (pe_callB (any_K (K := K)) (by rfl) T.b_any (by decide +kernel) (pa_cons (pe_lc (own := [("a", 3), ("b", 4)]) (g := gTup K 2 (gCons (gName 3) (gCons (gName 4) (gNil)))) (tt := tYes) rfl sc_rows_meet.nd (pi_zipAK (K := K) (by rfl) T.b_zip (pa_cons (pv 1) (pa_cons (pv 2) pa_nil))) (blkOk_by (by dsimp only [cxOf, envOfC]; decide +kernel)) (fun _ _ _ _ _ => (pg_tupK (K := K) (n := 2) rfl (pgs_cons (pg_name (i := 3) sc_rows_meet.nd rfl (by first | exact .inl rfl | exact .inr rfl)) (pgs_cons (pg_name (i := 4) sc_rows_meet.nd rfl (by first | exact .inl rfl | exact .inr rfl)) pgs_nil)))) (fun _ _ _ _ _ => pts_nil) (fun _ _ _ _ _ => (pe_cmpR op_gt (pe_op op_mul (pv 3) (pv 4)) pe_int (nomark _)))) pa_nil)))) (pss_one (ps_ret pe_bl)) pss_nil)))))
        (pss_one (ps_ret pe_bl))), ?_⟩
    refine q_forS (src_tup (.of (ev_var rfl) mt_tab.e hv) fun _ => mt_row) (fun H1 i σ' H' => Ex H1 H' ∧ ∃ y1 y2, σ' = [some v, y1, y2, none, none]) (fun H1 e1 => ⟨Ex.refl _, none, none, rfl⟩) (fun _ _ _ _ _ p => p.1) ?_ fun H1 σ' H' e1 ⟨x1, _⟩ => s_ret ev_c fun H2 e2 => q _ _ ((e1.trans x1).trans e2) ⟨true, rfl, fun _ => rfl⟩
    rintro H1 i x σ' H' H2 e1 hi ⟨x1, y1, y2, rfl⟩ e2 hx
    refine s_forS (src_tup (.of (ev_var rfl) mt_tab.e (mt_tab.e _ _ _ ((e1.trans x1).trans e2) hv)) fun _ => mt_row) (fun H3 i σ' H' => Ex H3 H' ∧ ∃ y2, σ' = [some v, some x, y2, none, none]) (fun H3 e3 => ⟨Ex.refl _, y2, rfl⟩) (fun _ _ _ _ _ p => p.1) ?_ fun H3 σ' H' e3 ⟨x3, y2, hσ⟩ => ⟨(x1.trans e2).trans (e3.trans x3), some x, y2, hσ⟩
    rintro H3 i' x' σ' H' H4 e3 hi' ⟨x3, y2, rfl⟩ e4 hx'
    have e24 := (e3.trans x3).trans e4
    refine s_when (b := !((List.range n).any fun j => decide (0 < b2 a i j * b2 a i' j))) (et_not (et_B (ev_any (f := fun j => decide (0 < b2 a i j * b2 a i' j)) (lcZ (f := fun j => .int (b2 a i j)) (g := fun j => .int (b2 a i' j)) (src_zipT (ev_var rfl) (mt_row.e _ _ _ e24 hx) (ev_var rfl) hx') (by omega) (fun _ _ => rfl) fun j H5 hj e5 => ?_)))) (fun hb H5 e5 => ?_) fun hb H5 e5 => ⟨x3.trans (e4.trans e5), some x', rfl⟩
    · have q1 := b2_pos a i j
      have q2 := b2_le a i j
      exact ev_op (ev_op (ev_var rfl) (ev_var rfl) (rv_I (.inl (by omega)))) ev_c rv_I0
    · refine s_ret ev_c fun H6 e6 => q _ _ (((e1.trans x1).trans e2).trans (e24.trans (e5.trans e6))) ⟨false, rfl, fun hf => ?_⟩
      have : ((List.range n).any fun j => decide (0 < b2 a i j * b2 a i' j)) = true := any_range.mpr ⟨0, by omega, decide_eq_true (by
        unfold b2
        rw [hf i 0 hi (by omega), hf i' 0 hi' (by omega)]
        decide)⟩
      rw [this] at hb
      cases hb
def sp_meeting (K : PySem.W.Frag) : Sp := spR fun vs H R => ∃ (n k : Nat) (f : Nat → Nat → Int) (v : V), vs = [v] ∧ OkF K n k f v H ∧ R = fun r _ => ∃ m : Nat, 1 ≤ m ∧ m ≤ k ∧ r = .int (m : Int)
theorem ok_meeting (T : Txt K mg) : FnOk P w K mg base CX0 5 T.meeting.f T.meeting.fd ["table"] (sp_meeting K) := by
  refine T.meeting.F.ok sc_meeting (fun vs H Q E h => ?_) (fun cdv A outer s H vs Q E hr h => ?_)
  · obtain ⟨_, ⟨n, k, f, v, rfl, hv, rfl⟩, q⟩ := h
    rfl
  · obtain ⟨_, ⟨n, k, f, v, rfl, hv, rfl⟩, q⟩ := h
    refine ⟨_, (pss_cons (ps_expr (pe_call (ok_need_table T) (hr.mono (by decide)) (by rfl) T.need_table.g T.need_table.F.kp T.need_table.b .nil pass0 (pa_cons (pv 0) pa_nil)))
        (pss_cons (ps_set (i := 1) sc_meeting.nd rfl (by first | exact .inl rfl | exact .inr rfl) (pe_call (ok_marked T) (hr.mono (by decide)) (by rfl) T.marked.g T.marked.F.kp T.marked.b .nil pass0 (pa_cons (pv 0) pa_nil)))
        (pss_cons (ps_set (i := 2) sc_meeting.nd rfl (by first | exact .inl rfl | exact .inr rfl) (pv 1))
        (pss_cons (ps_set (i := 3) sc_meeting.nd rfl (by first | exact .inl rfl | exact .inr rfl) pe_dnewN)
        (pss_cons (ps_while PassesOwn.never (pt_cmpR (op_notInN hr.units) (pv 2) (pv 3) (by rfl)) (pss_cons (ps_if (pt_val (pe_call (ok_rows_meet T) (hr.mono (by decide)) (by rfl) T.rows_meet.g T.rows_meet.F.kp T.rows_meet.b .nil pass0 (pa_cons (pv 2) pa_nil))) (pss_one (ps_ret (pe_op op_add (pe_callB call_lenN (by rfl) T.b_len (by decide +kernel) (pa_cons (pv 3) pa_nil)) pe_int))) pss_nil)
        (pss_cons (ps_asg pe_bl (pg_sub (pv 3) (pv 2) (set_dictN hr.units)))
        (pss_one (ps_set (i := 2) sc_meeting.nd rfl (by first | exact .inl rfl | exact .inr rfl) (pe_call (ok_marked T) (hr.mono (by decide)) (by rfl) T.marked.g T.marked.F.kp T.marked.b .nil pass0 (pa_cons (pe_call (ok_multiplied T) (hr.mono (by decide)) (by rfl) T.multiplied.g T.multiplied.F.kp T.multiplied.b .nil pass0 (pa_cons (pv 2) (pa_cons (pv 1) pa_nil))) pa_nil)))))))
        (pss_one (ps_ret pe_non))))))), ?_⟩
    have h6 := hv.six
    have hk := hv.first
    have lk := hv.le
    refine q_drop (v := .non) (ev_needtable hv.toOkT (ev_var rfl)) fun H1 e1 => ?_
    refine q_asgR (R := Tab K n (b2 (nz f))) (evr_callV (ea_cons (ev_var rfl) ea_nil) (spR_of fun H2 e => ⟨n, f, v, rfl, h6, (hv.mono (e1.trans e)).tab, rfl⟩)) fun hv' H2 e2 t2 => ?_
    refine q_asg (ev_var rfl) fun H3 e3 => ?_
    intro d φ hd hdn
    have hd0 : H d = none := fresh_back ((e1.trans e2).trans e3) hd
    have e4 : Ex H3 (upd H3 d (.ext φ)) := Ex.new hd
    refine q_while (fun m σ' H' => ∃ r fv, r < k ∧ m = k - r ∧ σ' = [some v, some hv', some fv, some (.ref d)] ∧ Ex H H' ∧ Tab K n (b2 (nz f)) hv' H' ∧ Tab K n (b2 (pw n (nz f) r)) fv H' ∧ DictN P w K n H' d r fun i => b2 (pw n (nz f) i)) k
      ⟨0, hv', by omega, rfl, rfl, ((e1.trans e2).trans e3).trans e4, mt_tab.e _ _ _ (e3.trans e4) t2, mt_tab.e _ _ _ (e3.trans e4) t2, hdn n _⟩ ?_
    rintro m σ' H' ⟨r, fv, hr', rfl, rfl, x1, x2, x3, x4⟩
    have hno : ∀ i, i < r → tabKey n (b2 (pw n (nz f) r)) ≠ tabKey n (b2 (pw n (nz f) i)) := fun i hi e => distinct hk hi hr' fun x y hx hy => b2_eq (tabKey_inj e.symm hx hy)
    refine ⟨true, et_test (ev_op (ev_var rfl) (ev_var rfl) fun H4 e Q' q' => ⟨n, r, d, _, _, rfl, mt_tab.e _ _ _ e x3, x4.mono e, hno, q' H4 (Ex.refl H4)⟩), fun _ H4 e5 => ⟨_, fun σ2 H5 h => h, ?_⟩, fun z => nomatch z⟩
    refine q_whenR (p := fun b => Fl n (pw n (nz f) r) → b = true) (evr_callV (ea_cons (ev_var rfl) ea_nil) (spR_of fun H5 e => ⟨n, _, fv, rfl, hv.one, h6, mt_tab.e _ _ _ (e5.trans e) x3, rfl⟩)) (fun _ H5 e6 => ?_) fun hf H5 e6 => ?_
    · refine s_ret (v := .int ((r : Int) + 1)) (ev_op (fun H6 e Q' q' => ⟨.ref d, rfl, n, r, d, _, rfl, x4.mono ((e5.trans e6).trans e), by omega, q' H6 (Ex.refl H6)⟩) ev_c rv_I0) fun H6 e7 => q _ _ (x1.trans ((e5.trans e6).trans e7)) ⟨r + 1, by omega, by omega, rfl⟩
    · have e56 := e5.trans e6
      refine ⟨.ref d, rfl, fv, rfl, n, r, d, _, _, true, rfl, rfl, mt_tab.e _ _ _ e56 x3, x4.mono e56, hno, by omega, fun φ' hd' ht => ?_⟩
      refine s_asgR (evr_step h6 (ev_var rfl) (mt_tab _ _ _ ht (mt_tab.e _ _ _ e56 x3)) (ev_var rfl) (mt_tab _ _ _ ht (mt_tab.e _ _ _ e56 x2))) fun fv' H6 e7 t7 => ?_
      refine ⟨k - (r + 1), by omega, r + 1, fv', ?_, rfl, rfl, (Ex.mut (x1.trans e56) hd0).trans e7, mt_tab.e _ _ _ e7 (mt_tab _ _ _ ht (mt_tab.e _ _ _ e56 x2)), t7, (hd'.congr fun i hi => ?_).mono e7⟩
      · by_cases z : r + 1 = k
        · subst z
          have := hf (by have := hk.2.1; rwa [Nat.add_sub_cancel] at this)
          cases this
        · omega
      · by_cases z : i < r
        · rw [if_pos z]
        · rw [if_neg z]
          have : i = r := by omega
          rw [this]
def sp_times_marks (K : PySem.W.Frag) : Sp := spR fun vs H R => ∃ (n : Nat) (a c : Nat → Nat → Bool) (u v : V), vs = [u, v] ∧ n ≤ 6 ∧ Tab K n (b2 a) u H ∧ Tab K n (b2 c) v H ∧ R = Tab K n (b2 fun i j => (List.range n).any fun l => a i l && c l j)
theorem ok_times_marks (T : Txt K mg) : FnOk P w K mg base CX0 1 T.times_marks.f T.times_marks.fd ["one", "other"] (sp_times_marks K) := by
  refine T.times_marks.F.ok sc_times_marks (fun vs H Q E h => ?_) (fun cdv A outer s H vs Q E hr h => ?_)
  · obtain ⟨_, ⟨n, a, c, u, v, rfl, h6, hu, hv, rfl⟩, q⟩ := h
    rfl
  · obtain ⟨_, ⟨n, a, c, u, v, rfl, h6, hu, hv, rfl⟩, q⟩ := h
    refine ⟨_, (pss_cons (ps_set (i := 2) sc_times_marks.nd rfl (by first | exact .inl rfl | exact .inr rfl) (pe_listRg rfl (by rfl) T.b_list (prg_1 (by rfl) T.b_range (pe_callB (len_K (K := K)) (by rfl) T.b_len (by decide +kernel) (pa_cons (pv 0) pa_nil)))))
        (pss_cons (ps_set (i := 3) sc_times_marks.nd rfl (by first | exact .inl rfl | exact .inr rfl) (pe_lst pa_nil))
        (pss_cons (ps_for PassesOwn.never rfl (pi_tupK (K := K) (pv 0)) (pg_name (i := 4) sc_times_marks.nd rfl (by first | exact .inl rfl | exact .inr rfl)) (pss_one (ps_expr (pe_bmK (K := K) PySem.F.plainAttrs_list PySem.F.slot_list_append PySem.F.type_list_append mt_append (pv 3) (pa_cons (pe_callTy (tup_K (K := K)) (by rfl) T.b_tuple (by decide +kernel) (pa_cons (pe_lc (own := [("j", 6)]) (g := gName 6) (tt := tYes) rfl sc_times_marks.nd (pi_listK (K := K) (pv 2)) (blkOk_by (by dsimp only [cxOf, envOfC]; decide +kernel)) (fun _ _ _ _ _ => (pg_name (i := 6) sc_times_marks.nd rfl (by first | exact .inl rfl | exact .inr rfl))) (fun _ _ _ _ _ => pts_nil) (fun _ _ _ _ _ => (pe_callTy call_int1 (by rfl) T.b_int (by decide +kernel) (pa_cons (pe_callB (any_K (K := K)) (by rfl) T.b_any (by decide +kernel) (pa_cons (pe_lc (own := [("k", 5)]) (g := gName 5) (tt := tYes) rfl sc_times_marks.nd (pi_listK (K := K) (pv 2)) (blk1 ["one", "other", "places", "found", "row", "k", "j"] (defScope s_times_marks) (by decide +kernel)) (fun _ _ _ _ _ => (pg_name (i := 5) sc_times_marks.nd rfl (by first | exact .inl rfl | exact .inr rfl))) (fun _ _ _ _ _ => pts_nil) (fun _ _ _ _ _ => (pe_cmpR op_ne (pe_op op_mul (pe_ix (ix_tupK (K := K)) (pv 4) (pv 5) (fun _ _ => rfl)) (pe_ix (ix_tupK (K := K)) (pe_ix (ix_tupK (K := K)) (pv 1) (pv 5) (fun _ _ => rfl)) (pv 6) (fun _ _ => rfl))) pe_int (nomark _)))) pa_nil)) pa_nil)))) pa_nil)) pa_nil)))))
        (pss_one (ps_ret (pe_callTy (tup_K (K := K)) (by rfl) T.b_tuple (by decide +kernel) (pa_cons (pv 3) pa_nil))))))), ?_⟩
    refine q_asgL (el_listRg (ev_lenT (ev_var rfl) hu) (by omega)) fun pl H1 hpl e1 hl1 => ?_
    refine q_asgL (xs := []) (el_lst ea_nil (show 0 ≤ 100000 by decide)) fun p H2 hp e2 h2 => ?_
    have e12 := e1.trans e2
    have hp0 : H p = none := fresh_back e1 hp
    have npl : pl ≠ p := fun z => by
      rw [z] at hl1
      rw [hl1] at hp
      cases hp
    obtain ⟨b, rs, rfl, hs, hr'⟩ := id hu
    refine q_forT (ev_var rfl) (ex_t e12 hs) (fun i σ' H' => ∃ y4 ts, σ' = [some (.ref b), some v, some (.ref pl), some (.ref p), y4, none, none] ∧ Ex H H' ∧ H' pl = some (.lst ((List.range n).map fun (j : Nat) => .int (j : Int))) ∧ H' p = some (.lst ((List.range i).map ts)) ∧ ∀ k, k < i → Row K n (fun j => b2 (fun i j => (List.range n).any fun l => a i l && c l j) k j) (ts k) H')
      (fun H3 e3 => ⟨none, fun _ => .non, rfl, e12.trans e3, (e2.trans e3) _ _ hl1, e3 _ _ h2, fun k hk => absurd hk (Nat.not_lt_zero k)⟩) (fun i σ' H' _ ⟨_, _, _, x1, _⟩ => ex_t x1 hs) ?_ ?_
    · rintro i x σ' H' hi ⟨y4, ts, rfl, x1, x2, x3, x4⟩
      have hin : i < n := by
        have := (List.getElem?_eq_some_iff.mp hi).1
        rw [List.length_map, List.length_range] at this
        exact this
      rw [get_range hin] at hi
      cases hi
      have hx := hr' i hin
      have hx : Row K n (b2 a i) (rs i) H := hx
      refine s_appR x3 (ev_var rfl) (evr_tupOf (lcN (R := fun j => IsV (.int (b2 (fun i j => (List.range n).any fun l => a i l && c l j) i j))) (src_list (S := fun j => IsV (.int (j : Int))) (ev_var rfl) (sq_of x2) (fun _ _ => rfl) fun _ => mt_is _) (fun _ => mt_is _) (by omega) (fun _ => rfl) fun j y H3 hj e3 (hy : y = _) => ?_) fun _ => mt_is _) (by rw [List.length_map, List.length_range]; omega) fun r H3 e3 t3 => ?_
      · subst hy
        refine .is (ev_is (ev_intB (ev_any (n := n) (f := fun l => !decide (V.int (b2 a i l * b2 c l j) = V.int 0)) (lcV (src_list (S := fun j => IsV (.int (j : Int))) (ev_var rfl) (ex_l e3 (sq_of x2)) (fun _ _ => rfl) fun _ => mt_is _) (by omega) (fun _ => rfl) fun l z H4 hl e4 (hz : z = _) => ?_))) ?_)
        · subst hz
          have e34 := x1.trans (e3.trans e4)
          refine ev_op (ev_op (evr_ixTV (ev_var rfl) (mt_row.e _ _ _ e34 hx) (mt_is _).e (ev_var rfl) hl).ev (ev_ix2 (ev_var rfl) (mt_tab.e _ _ _ e34 hv) (ev_var rfl) hl (ev_var rfl) hj) (rv_I (.inl ?_))) ev_c (rv_ne rfl)
          have q1 := b2_pos a i l
          have q2 := b2_le a i l
          omega
        · have : ((List.range n).any fun l => !decide (V.int (b2 a i l * b2 c l j) = V.int 0)) = (List.range n).any fun l => a i l && c l j := any_congr fun l hl => by
            rw [b2_mul]
            exact congrFun (congrFun (nz_b2 fun _ _ => a i l && c l j) 0) 0
          rw [this]
          rfl
      · have hx' := ext_lst (ys := (List.range i).map ts ++ [r]) (e3 _ _ x3)
        refine ⟨some (rs i), _, rfl, Ex.mut (x1.trans e3) hp0, by rw [upd_ne npl]; exact e3 _ _ x2, by rw [upd_same, range_snoc], snoc_all (S := fun k v => Row K n (fun j => b2 (fun i j => (List.range n).any fun l => a i l && c l j) k j) v _) (fun k hk => mt_row _ _ _ hx' (mt_row.e _ _ _ e3 (x4 k hk))) (mt_row _ _ _ hx' t3)⟩
    · rintro σ' H' ⟨y4, ts, rfl, x1, x2, x3, x4⟩
      have hz : ((List.range n).map rs).length = n := by rw [List.length_map, List.length_range]
      rw [hz] at x3 x4
      refine s_retR (R := Tab K n _) (fun H3 e3 Q' q' => ⟨.ref p, rfl, p, _, rfl, .inl ⟨sq_of (e3 _ _ x3), fun l hl => q' _ _ (Ex.new hl) ⟨l, ts, rfl, st_of upd_same, fun i hi => mt_row.e _ _ _ (e3.trans (Ex.new hl)) (x4 i hi)⟩⟩⟩) fun r H3 e3 => q r H3 (x1.trans e3)
def sp_courses (K : PySem.W.Frag) : Sp := spR fun vs H R => ∃ (n k : Nat) (f : Nat → Nat → Int) (v : V), vs = [v] ∧ OkF K n k f v H ∧ R = fun r H' => ∃ t p rs L at', r = .ref t ∧ SqT K H' t [.ref p, .int ((at' : Nat) : Int)] ∧ SqL K H' p ((List.range L).map rs) ∧ (∀ i, i < L → Tab K n (b2 (pw n (nz f) i)) (rs i) H') ∧ at' < L ∧ L ≤ k ∧ Eqn n (pw n (nz f) L) (pw n (nz f) at')
theorem ok_courses (T : Txt K mg) : FnOk P w K mg base CX0 2 T.courses.f T.courses.fd ["table"] (sp_courses K) := by
  refine T.courses.F.ok sc_courses (fun vs H Q E h => ?_) (fun cdv A outer s H vs Q E hr h => ?_)
  · obtain ⟨_, ⟨n, k, f, v, rfl, hv, rfl⟩, q⟩ := h
    rfl
  · obtain ⟨_, ⟨n, k, f, v, rfl, hv, rfl⟩, q⟩ := h
    refine ⟨_, (pss_cons (ps_set (i := 1) sc_courses.nd rfl (by first | exact .inl rfl | exact .inr rfl) (pe_call (ok_marked T) (hr.mono (by decide)) (by rfl) T.marked.g T.marked.F.kp T.marked.b .nil pass0 (pa_cons (pv 0) pa_nil)))
        (pss_cons (ps_set (i := 2) sc_courses.nd rfl (by first | exact .inl rfl | exact .inr rfl) (pe_lst pa_nil))
        (pss_cons (ps_set (i := 3) sc_courses.nd rfl (by first | exact .inl rfl | exact .inr rfl) (pv 1))
        (pss_cons (ps_while PassesOwn.never (pt_cmpR (op_notInD (hu65 hr)) (pv 3) (pv 2) (by rfl)) (pss_cons (ps_expr (pe_bmK (K := K) PySem.F.plainAttrs_list PySem.F.slot_list_append PySem.F.type_list_append mt_append (pv 2) (pa_cons (pv 3) pa_nil)))
        (pss_one (ps_set (i := 3) sc_courses.nd rfl (by first | exact .inl rfl | exact .inr rfl) (pe_call (ok_times_marks T) (hr.mono (by decide)) (by rfl) T.times_marks.g T.times_marks.F.kp T.times_marks.b .nil pass0 (pa_cons (pv 3) (pa_cons (pv 1) pa_nil)))))))
        (pss_one (ps_ret (pe_tup (pa_cons (pv 2) (pa_cons (pe_bmK (K := K) PySem.F.plainAttrs_list PySem.F.slot_list_index PySem.F.type_list_index (mt_indexD (hu65 hr)) (pv 2) (pa_cons (pv 3) pa_nil)) pa_nil))))))))), ?_⟩
    have h6 := hv.six
    have hk := hv.first
    have lk := hv.le
    refine q_asgR (R := Tab K n (b2 (nz f))) (evr_callV (ea_cons (ev_var rfl) ea_nil) (spR_of fun H2 e => ⟨n, f, v, rfl, h6, (hv.mono e).tab, rfl⟩)) fun hv' H1 e1 t1 => ?_
    refine q_asgL (xs := []) (el_lst ea_nil (show 0 ≤ 100000 by decide)) fun p H2 hp e2 h2 => ?_
    refine q_asg (ev_var rfl) fun H3 e3 => ?_
    have hp0 : H p = none := fresh_back e1 hp
    have e13 := (e1.trans e2).trans e3
    refine q_while (fun m σ' H' => ∃ L rs fv, L ≤ k ∧ m = k - L ∧ σ' = [some v, some hv', some (.ref p), some fv] ∧ Ex H H' ∧ Tab K n (b2 (nz f)) hv' H' ∧ Tab K n (b2 (pw n (nz f) L)) fv H' ∧ H' p = some (.lst ((List.range L).map rs)) ∧ ∀ i, i < L → Tab K n (b2 (pw n (nz f) i)) (rs i) H') k
      ⟨0, fun _ => .non, hv', Nat.zero_le _, rfl, rfl, e13, mt_tab.e _ _ _ (e2.trans e3) t1, mt_tab.e _ _ _ (e2.trans e3) t1, e3 _ _ h2, fun i hi => absurd hi (Nat.not_lt_zero i)⟩ ?_
    rintro m σ' H' ⟨L, rs, fv, hL, rfl, rfl, x1, x2, x3, x4, x5⟩
    have dps : ∀ {H4}, Ex H' H4 → Dp K H4 (.ref p) (.list ((List.range L).map fun i => tabData n (b2 (pw n (nz f) i)))) := fun e => .lst (ex_l e (sq_of x4)) (dp_map (S := fun i => Tab K n (b2 (pw n (nz f) i))) (fun i v h => dp_tab h) _ fun i hi => mt_tab.e _ _ _ e (x5 i (List.mem_range.mp hi)))
    refine ⟨!((List.range L).any fun i => PyData.eqv (tabData n (b2 (pw n (nz f) i))) (tabData n (b2 (pw n (nz f) L)))), et_test (ev_op (ev_var rfl) (ev_var rfl) fun H4 e Q' q' => ⟨_, _, dp_tab (mt_tab.e _ _ _ e x3), dps e, shaped_tab _ _, shaped_tabs _ _ _, by rw [List.any_map]; exact q' H4 (Ex.refl H4)⟩), fun hb H4 e4 => ⟨_, fun σ2 H5 h => h, ?_⟩, fun hb H4 e4 => ?_⟩
    · have nL : L < k := by
        by_cases z : L < k
        · exact z
        · have zk : L = k := by omega
          subst zk
          have : ((List.range L).any fun i => PyData.eqv (tabData n (b2 (pw n (nz f) i))) (tabData n (b2 (pw n (nz f) L)))) = true := any_range.mpr ⟨L - 1, by omega, eqv_tab.mpr fun i j hi hj => by
            unfold b2
            rw [hk.2.1 i j hi hj, full_stays hk.2.1 (show L - 1 ≤ L by omega) i j hi hj]⟩
          rw [this] at hb
          cases hb
      refine q_appR (e4 _ _ x4) (ev_var rfl) (.of (ev_var rfl) mt_tab.e (mt_tab.e _ _ _ e4 x3)) (by rw [List.length_map, List.length_range]; omega) fun r H5 e5 t5 => ?_
      have hx := ext_lst (ys := (List.range L).map rs ++ [r]) (e5 _ _ (e4 _ _ x4))
      have e45 := e4.trans e5
      refine s_asgR (evr_callV (ea_cons (ev_var rfl) (ea_cons (ev_var rfl) ea_nil)) (spR_of fun H6 e => ⟨n, pw n (nz f) L, nz f, fv, hv', rfl, h6, mt_tab.e _ _ _ e (mt_tab _ _ _ hx (mt_tab.e _ _ _ e45 x3)), mt_tab.e _ _ _ e (mt_tab _ _ _ hx (mt_tab.e _ _ _ e45 x2)), rfl⟩)) fun fv' H6 e6 t6 => ?_
      refine ⟨k - (L + 1), by omega, L + 1, _, fv', by omega, rfl, rfl, (Ex.mut (x1.trans e45) hp0).trans e6, mt_tab.e _ _ _ e6 (mt_tab _ _ _ hx (mt_tab.e _ _ _ e45 x2)), t6, e6 _ _ (by rw [upd_same, range_snoc]), snoc_all (S := fun i v => Tab K n (b2 (pw n (nz f) i)) v _) (fun i hi => mt_tab.e _ _ _ e6 (mt_tab _ _ _ hx (mt_tab.e _ _ _ e45 (x5 i hi)))) (mt_tab.e _ _ _ e6 (mt_tab _ _ _ hx t5))⟩
    · have hb : ((List.range L).any fun i => PyData.eqv (tabData n (b2 (pw n (nz f) i))) (tabData n (b2 (pw n (nz f) L)))) = true := by
        cases z : (List.range L).any fun i => PyData.eqv (tabData n (b2 (pw n (nz f) i))) (tabData n (b2 (pw n (nz f) L))) with
        | true => rfl
        | false =>
          rw [z] at hb
          cases hb
      obtain ⟨j, hj1, hj2, hj3⟩ := least_range (any_range.mp hb)
      have e14 := x1.trans e4
      refine s_retU (xs := [.ref p, .int (j : Int)]) (eu_tup (ea_cons (ev_var rfl) (ea_cons (fun H5 e5 Q' q' => ⟨.ref p, rfl, .inl ⟨rfl, _, ex_l (e4.trans e5) (sq_of x4)⟩, fv, rfl, p, fv, tabData n (b2 (pw n (nz f) L)), (List.range L).map fun i => tabData n (b2 (pw n (nz f) i)), j, tabData n (b2 (pw n (nz f) j)), rfl, rfl, dps (e4.trans e5), dp_tab (mt_tab.e _ _ _ (e4.trans e5) x3), shaped_tabs _ _ _, shaped_tab _ _, get_range hj1, hj2, fun m z hm hz => ?_, q' H5 (Ex.refl H5)⟩) ea_nil)) (show 2 ≤ 100000 by decide)) fun t H5 ht e5 h5 => q _ _ (e14.trans e5) ⟨t, p, rs, L, j, rfl, st_of h5, ex_l (e4.trans e5) (sq_of x4), fun i hi => mt_tab.e _ _ _ (e4.trans e5) (x5 i hi), hj1, hL, fun x y hx hy => (b2_eq (eqv_tab.mp hj2 x y hx hy)).symm⟩
      rw [get_range (by omega)] at hz
      cases hz
      exact hj3 m hm
def sp_need_number (K : PySem.W.Frag) : Sp := spR fun vs H R => ∃ k : Int, vs = [.int k] ∧ 1 ≤ k ∧ k ≤ 10 ^ 30 ∧ R = IsV .non
theorem ok_need_number (T : Txt K mg) : FnOk P w K mg base CX0 2 T.need_number.f T.need_number.fd ["k"] (sp_need_number K) := by
  refine T.need_number.F.ok sc_need_number (fun vs H Q E h => ?_) (fun cdv A outer s H vs Q E hr h => ?_)
  · obtain ⟨_, ⟨k, rfl, h1, h2, rfl⟩, q⟩ := h
    rfl
  · obtain ⟨_, ⟨k, rfl, h1, h2, rfl⟩, q⟩ := h
    refine ⟨_, (pss_one (ps_if (PW.pt (pw_or (pt_not (pt_val (pe_call (ok_is_whole T) (hr.mono (by decide)) (by rfl) T.is_whole.g T.is_whole.F.kp T.is_whole.b .nil pass0 (pa_cons (pv 0) pa_nil)))) (pw_or1 (pt_not (pt_chain op_le op_le pe_int (pv 0) (pe_glob (v := .int (10 ^ 30)) (by rfl) T.c_MOST_POWER.choose_spec ⟨_, rfl⟩)))))) (pss_one ps_never) pss_nil)), ?_⟩
    refine s_when (b := false) (et_is (et_or (et_not (et_B (evr_callV (ea_cons (ev_var rfl) ea_nil) (spR_of fun H1 e => ⟨k, rfl, rfl⟩)).ev)) fun _ => et_not (et_ev (ev_chain ev_c (ev_var rfl) rv_I0 ev_c rv_I0))) ?_) (fun z => nomatch z) fun _ H1 e1 => q _ _ e1 rfl
    rw [decide_eq_true h1, decide_eq_true h2]
    rfl
def sp_place_of (K : PySem.W.Frag) : Sp := spR fun vs H R => ∃ (p : Addr) (L at' k : Nat) (rs : Nat → V), vs = [.ref p, .int (at' : Int), .int (k : Int)] ∧ SqL K H p ((List.range L).map rs) ∧ at' < L ∧ 1 ≤ k ∧ R = IsV (.int (placeOf L at' k : Int))
theorem ok_place_of (T : Txt K mg) : FnOk P w K mg base CX0 1 T.place_of.f T.place_of.fd ["found", "at", "k"] (sp_place_of K) := by
  refine T.place_of.F.ok sc_place_of (fun vs H Q E h => ?_) (fun cdv A outer s H vs Q E hr h => ?_)
  · obtain ⟨_, ⟨p, L, at', k, rs, rfl, hl, ha, hk, rfl⟩, q⟩ := h
    rfl
  · obtain ⟨_, ⟨p, L, at', k, rs, rfl, hl, ha, hk, rfl⟩, q⟩ := h
    refine ⟨_, (pss_cons (ps_if (pt_cmpR op_le (pv 2) (pe_callB (len_K (K := K)) (by rfl) T.b_len (by decide +kernel) (pa_cons (pv 0) pa_nil)) (nomark _)) (pss_one (ps_ret (pe_op op_sub (pv 2) pe_int))) pss_nil)
        (pss_one (ps_ret (pe_op op_add (pv 1) (pe_op op_mod (pe_op op_sub (pe_op op_sub (pv 2) pe_int) (pv 1)) (pe_op op_sub (pe_callB (len_K (K := K)) (by rfl) T.b_len (by decide +kernel) (pa_cons (pv 0) pa_nil)) (pv 1))))))), ?_⟩
    have len : (((List.range L).map rs).length : Int) = (L : Int) := by rw [List.length_map, List.length_range]
    refine q_when (et_test (ev_op (ev_var rfl) (ev_is (ev_len (ev_var rfl) hl) (congrArg V.int len)) rv_I0)) (fun hb H1 e1 => ?_) fun hb H1 e1 => ?_
    · have hb := of_decide_eq_true hb
      refine s_ret (ev_op (ev_var rfl) ev_c rv_I0) fun H2 e2 => q _ _ (e1.trans e2) ?_
      show V.int _ = V.int _
      unfold placeOf
      rw [if_pos (show k ≤ L by omega)]
      congr 1
      omega
    · have hb := of_decide_eq_false hb
      refine s_ret (ev_op (ev_var rfl) (ev_op (ev_op (ev_op (ev_var rfl) ev_c rv_I0) (ev_var rfl) rv_I0) (ev_op (ev_is (ev_len (ev_var rfl) (ex_l e1 hl)) (congrArg V.int len)) (ev_var rfl) rv_I0) (rv_I (show (0 : Int) < (L : Int) - (at' : Int) by omega))) rv_I0) fun H2 e2 => q _ _ (e1.trans e2) ?_
      show V.int _ = V.int _
      unfold placeOf
      rw [if_neg (show ¬ k ≤ L by omega), show (k : Int) - 1 - (at' : Int) = ((k - 1 - at' : Nat) : Int) by omega, show (L : Int) - (at' : Int) = ((L - at' : Nat) : Int) by omega, ← Int.natCast_emod]
      congr 1
def sp_marks_of (K : PySem.W.Frag) : Sp := spR fun vs H R => ∃ (n k m : Nat) (f : Nat → Nat → Int) (v : V), vs = [v, .int (m : Int)] ∧ OkF K n k f v H ∧ 1 ≤ m ∧ m ≤ 10 ^ 30 ∧ R = Tab K n (b2 (pw n (nz f) (m - 1)))
theorem ok_marks_of (T : Txt K mg) : FnOk P w K mg base CX0 5 T.marks_of.f T.marks_of.fd ["table", "k"] (sp_marks_of K) := by
  refine T.marks_of.F.ok sc_marks_of (fun vs H Q E h => ?_) (fun cdv A outer s H vs Q E hr h => ?_)
  · obtain ⟨_, ⟨n, k, m, f, v, rfl, hv, h1, h2, rfl⟩, q⟩ := h
    rfl
  · obtain ⟨_, ⟨n, k, m, f, v, rfl, hv, h1, h2, rfl⟩, q⟩ := h
    refine ⟨_, (pss_cons (ps_expr (pe_call (ok_need_table T) (hr.mono (by decide)) (by rfl) T.need_table.g T.need_table.F.kp T.need_table.b .nil pass0 (pa_cons (pv 0) pa_nil)))
        (pss_cons (ps_expr (pe_call (ok_need_number T) (hr.mono (by decide)) (by rfl) T.need_number.g T.need_number.F.kp T.need_number.b .nil pass0 (pa_cons (pv 1) pa_nil)))
        (pss_cons (ps_asg (pe_call (ok_courses T) (hr.mono (by decide)) (by rfl) T.courses.g T.courses.F.kp T.courses.b .nil pass0 (pa_cons (pv 0) pa_nil)) (pg_tupK (K := K) (n := 2) rfl (pgs_cons (pg_name (i := 2) sc_marks_of.nd rfl (by first | exact .inl rfl | exact .inr rfl)) (pgs_cons (pg_name (i := 3) sc_marks_of.nd rfl (by first | exact .inl rfl | exact .inr rfl)) pgs_nil))))
        (pss_one (ps_ret (pe_ix (ix_listK (K := K)) (pv 2) (pe_call (ok_place_of T) (hr.mono (by decide)) (by rfl) T.place_of.g T.place_of.F.kp T.place_of.b .nil pass0 (pa_cons (pv 2) (pa_cons (pv 3) (pa_cons (pv 1) pa_nil)))) (fun _ _ => rfl))))))), ?_⟩
    refine q_drop (v := .non) (ev_needtable hv.toOkT (ev_var rfl)) fun H1 e1 => ?_
    refine q_drop (v := .non) (evr_callV (ea_cons (ev_var rfl) ea_nil) (spR_of fun H2 e => ⟨(m : Int), rfl, by omega, by omega, rfl⟩)).ev fun H2 e2 => ?_
    have e12 := e1.trans e2
    refine (evr_callV (ea_cons (ev_var rfl) ea_nil) (spR_of fun H3 e => ⟨n, k, f, v, rfl, hv.mono (e12.trans e), rfl⟩)) H2 (Ex.refl H2) _ fun r H3 e3 ⟨t, p, rs, L, at', hr1, ht, hl, hrs, hat, hL, hE⟩ => ?_
    refine ⟨t, _, hr1, ht, rfl, .ref p, _, rfl, .int (at' : Int), [], rfl, rfl, ?_⟩
    show tRet (tOp (rIxL K) (tVar 2) _) _ _ _
    refine s_retR (R := Tab K n (b2 (pw n (nz f) (m - 1)))) ?_ fun r H4 e4 hr => q r H4 ((e12.trans e3).trans e4) hr
    refine .of (v := rs (placeOf L at' m)) (ev_op (ev_var rfl) (evr_callV (ea_cons (ev_var rfl) (ea_cons (ev_var rfl) (ea_cons (ev_var rfl) ea_nil))) (spR_of fun H4 e => ⟨p, L, at', m, rs, rfl, ex_l e hl, hat, h1, rfl⟩)).ev (rv_ixL hl (at_range (placeOf_lt hat h1)))) mt_tab.e (Tab.congr (fun i j hi hj => ?_) (hrs _ (placeOf_lt hat h1)))
    have := placeOf_eqn (k := m) hat hE i j hi hj
    unfold b2
    rw [this]
end
end K56
namespace K56
open PySem PySem.Spec PyProof.Rows L2 Evl

/-! ### the law's pen: a list of two numbers at p; all else stays -/
def Pen (p : Addr) (H : Hp) : Prop := ∃ x c : Int, H p = some (.lst [.int x, .int c]) ∧ 0 ≤ x
def ExB (p : Addr) (H H' : Hp) : Prop := ∀ a o, a ≠ p → H a = some o → H' a = some o
theorem Pen.mono {p : Addr} {H H' : Hp} (h : Pen p H) (e : Ex H H') : Pen p H' := by
  obtain ⟨x, c, h1, h2⟩ := h
  exact ⟨x, c, e _ _ h1, h2⟩
theorem ex_B {p : Addr} {H H' : Hp} (e : Ex H H') : ExB p H H' := fun a o _ h => e a o h
theorem ExB.trans {p : Addr} {H H1 H2 : Hp} (a : ExB p H H1) (b : ExB p H1 H2) : ExB p H H2 := fun c o n h => b c o n (a c o n h)
theorem ExB.t {p : Addr} {H H' : Hp} (e : ExB p H H') (h : Pen p H) : ExT H H' := by
  obtain ⟨x, c, h1, h2⟩ := h
  exact ⟨fun a xs q => e a _ (ne_of q h1 (fun z => nomatch z)) q, fun a o u q => e a _ (ne_of q h1 (fun z => nomatch z)) q⟩
/-- all else stays, all that H0 knew where the pen is new -/
theorem ExB.ex {p : Addr} {H0 H H' : Hp} (e0 : Ex H0 H) (hp : H0 p = none) (e : ExB p H H') : Ex H0 H' := fun a o h => e a o (ne_of_none h hp) (e0 a o h)
/-- a new object written -/
theorem ExB.mut {p q : Addr} {H H' : Hp} {o : HO} (e : ExB p H H') (h : H q = none) : ExB p H (upd H' q o) := fun a u n ha => by
  rw [upd_ne (ne_of_none ha h)]
  exact e a u n ha
theorem ExB.fresh {p l : Addr} {H H' : Hp} (e : ExB p H H') (hp : Pen p H) (h : H' l = none) (hp' : Pen p H') : H l = none := by
  cases q : H l with
  | none => rfl
  | some o =>
    by_cases n : l = p
    · obtain ⟨x, c, h1, _⟩ := hp'
      rw [n, h1] at h
      cases h
    · rw [e l o n q] at h
      cases h
def sp_u_law_draw (_ : PySem.W.Frag) : Sp := fun vs H Q _ => ∃ (p : Addr) (m : Int), vs = [.ref p, .int m] ∧ 0 < m ∧ m ≤ 1000 ∧ Pen p H ∧ ∀ (r : Nat) H', (r : Int) < m → ExB p H H' → Pen p H' → Q (.int (r : Int)) H'
theorem rd_draw {K : PySem.W.Frag} {σ : L2.St} {H : Hp} {ta tb : TE} {E : XK} {Q : VK} {p : Addr} {m : Int} (ha : Ev ta σ H (.ref p)) (hb : Ev tb σ H (.int m)) (h1 : 0 < m) (h2 : m ≤ 1000) (hp : Pen p H) (q : ∀ (r : Nat) H', (r : Int) < m → ExB p H H' → Pen p H' → Q (.int (r : Int)) H') :
    tCall (sp_u_law_draw K) [] E (tCons ta (tCons tb tNil)) σ H Q := ha H (Ex.refl H) _ fun H1 e1 => hb H1 e1 _ fun H2 e2 => ⟨p, m, rfl, h1, h2, hp.mono (e1.trans e2), fun r H' hr e hp' => q r H' hr ((ex_B (e1.trans e2)).trans e) hp'⟩
def sizes : List Nat := [1, 2, 3, 4, 5, 3, 4, 2, 6, 5, 4, 3]
theorem sizes_at {r : Nat} (h : (r : Int) < 12) : ∃ n, sizes[r]? = some n ∧ 1 ≤ n ∧ n ≤ 6 := by
  have lt : r < sizes.length := by
    show r < 12
    omega
  have all : ∀ n ∈ sizes, 1 ≤ n ∧ n ≤ 6 := by decide
  exact ⟨sizes[r], List.getElem?_eq_getElem lt, all _ (List.getElem_mem lt)⟩
def oftens : List Nat := [2, 4, 9]
theorem oftens_at {r : Nat} (h : (r : Int) < 3) : ∃ n, oftens[r]? = some n ∧ 1 ≤ n ∧ n ≤ 9 := by
  have lt : r < oftens.length := by
    show r < 3
    omega
  have all : ∀ n ∈ oftens, 1 ≤ n ∧ n ≤ 9 := by decide
  exact ⟨oftens[r], List.getElem?_eq_getElem lt, all _ (List.getElem_mem lt)⟩
section
variable {P : Program} {w : World} {K : PySem.W.Frag} {mg : Str → Option Value} {base : Heap}

def sp_u_law_cell (K : PySem.W.Frag) : Sp := spR fun vs H R => ∃ (a : Addr) (ns : List Int), vs = [.ref a, .int 0] ∧ SqL K H a (ns.map V.int) ∧ ns.length ≤ 63 ∧ R = fun v _ => ∃ i : Int, v = .int i
theorem ok_u_law_cell (T : Txt K mg) : FnOk P w K mg base CX0 1 T.u_law_cell.f T.u_law_cell.fd ["_law_script", "_law_k"] (sp_u_law_cell K) := by
  refine T.u_law_cell.F.ok sc_u_law_cell (fun vs H Q E h => ?_) (fun cdv A outer s H vs Q E hr h => ?_)
  · obtain ⟨_, ⟨a, ns, rfl, hs, hl, rfl⟩, q⟩ := h
    rfl
  · obtain ⟨_, ⟨a, ns, rfl, hs, hl, rfl⟩, q⟩ := h
    refine ⟨_, (pss_cons (ps_if (pt_cmpR op_lt (pv 1) (pe_callB (len_K (K := K)) (by rfl) T.b_len (by decide +kernel) (pa_cons (pv 0) pa_nil)) (nomark _)) (pss_one (ps_ret (pe_ix (ix_listK (K := K)) (pv 0) (pv 1) (fun _ _ => rfl)))) pss_nil)
        (pss_one (ps_ret pe_int))), ?_⟩
    refine q_when (et_test (ev_op (ev_var rfl) (ev_len (ev_var rfl) hs) rv_I0)) (fun hb H1 e1 => ?_) fun _ H1 e1 => s_ret ev_c fun H2 e2 => q _ _ (e1.trans e2) ⟨0, rfl⟩
    have hb := of_decide_eq_true hb
    rw [List.length_map] at hb
    have h0 : 0 < ns.length := by omega
    exact s_ret (ev_op (ev_var rfl) (ev_var rfl) (rv_ixL (i := ((0 : Nat) : Int)) (v := .int ns[0]) (ex_l e1 hs) (atI_nat (by rw [List.getElem?_map, List.getElem?_eq_getElem h0]; rfl)))) fun H2 e2 => q _ _ (e1.trans e2) ⟨_, rfl⟩
def sp_u_law_pen (_ : PySem.W.Frag) : Sp := fun vs H Q _ => ∃ i : Int, vs = [.int i] ∧ ∀ p H', H p = none → Ex H H' → Pen p H' → Q (.ref p) H'
theorem ok_u_law_pen (T : Txt K mg) : FnOk P w K mg base CX0 1 T.u_law_pen.f T.u_law_pen.fd ["_law_cell_here"] (sp_u_law_pen K) := by
  refine T.u_law_pen.F.ok sc_u_law_pen (fun vs H Q E h => ?_) (fun cdv A outer s H vs Q E hr h => ?_)
  · obtain ⟨i, rfl, q⟩ := h
    rfl
  · obtain ⟨i, rfl, q⟩ := h
    refine ⟨_, (pss_cons (ps_set (i := 1) sc_u_law_pen.nd rfl (by first | exact .inl rfl | exact .inr rfl) (pe_callB (call_max2 rfl) (by rfl) T.b_max (by decide +kernel) (pa_cons (pv 0) (pa_cons (pe_op op_sub pe_int (pv 0)) pa_nil))))
        (pss_one (ps_ret (pe_lst (pa_cons (pv 1) (pa_cons (pe_callTy call_int1 (by rfl) T.b_int (by decide +kernel) (pa_cons (pe_cmpR op_ge (pv 1) (pe_op op_pow pe_int pe_int) (nomark _)) pa_nil)) pa_nil)))))), ?_⟩
    refine q_asg (ev_max2 (ev_var rfl) (ev_op ev_c (ev_var rfl) rv_I0)) fun H1 e1 => ?_
    refine s_retL (xs := [.int (if 0 - i > i then 0 - i else i), .int (if decide ((10 : Int) ^ 18 ≤ (if 0 - i > i then 0 - i else i)) then 1 else 0)]) (el_lst (ea_cons (ev_var rfl) (ea_cons (ev_intB (ev_op (ev_var rfl) (ev_op ev_c ev_c (rv_I ⟨by decide, by decide, by decide⟩)) rv_I0)) ea_nil)) (show 2 ≤ 100000 by decide)) fun p H2 hp e2 h2 => q p H2 (fresh_back e1 hp) (e1.trans e2) ⟨_, _, h2, ?_⟩
    split <;> omega
theorem ok_u_law_draw (T : Txt K mg) : FnOk P w K mg base CX0 1 T.u_law_draw.f T.u_law_draw.fd ["_law_pen_here", "_law_many"] (sp_u_law_draw K) := by
  refine T.u_law_draw.F.ok sc_u_law_draw (fun vs H Q E h => ?_) (fun cdv A outer s H vs Q E hr h => ?_)
  · obtain ⟨p, m, rfl, hm, hm2, ⟨x, c, hp, hx⟩, q⟩ := h
    rfl
  · obtain ⟨p, m, rfl, hm, hm2, ⟨x, c, hp, hx⟩, q⟩ := h
    refine ⟨_, (pss_cons (ps_if (pt_cmpR op_eq (pe_ix (ix_listK (K := K)) (pv 0) pe_int (fun _ _ => rfl)) pe_int (nomark _)) (pss_cons (ps_asg (pe_callB call_divmod (by rfl) T.b_divmod (by decide +kernel) (pa_cons (pe_ix (ix_listK (K := K)) (pv 0) pe_int (fun _ _ => rfl)) (pa_cons (pv 1) pa_nil))) (pg_tupK (K := K) (n := 2) rfl (pgs_cons (pg_name (i := 2) sc_u_law_draw.nd rfl (by first | exact .inl rfl | exact .inr rfl)) (pgs_cons (pg_name (i := 3) sc_u_law_draw.nd rfl (by first | exact .inl rfl | exact .inr rfl)) pgs_nil))))
        (pss_cons (ps_asg (pv 2) (pg_sub (pv 0) pe_int set_list))
        (pss_one (ps_ret (pv 3))))) pss_nil)
        (pss_cons (ps_set (i := 4) sc_u_law_draw.nd rfl (by first | exact .inl rfl | exact .inr rfl) (pe_op op_mod (pe_op op_mul (pe_op op_add (pe_op op_mod (pe_ix (ix_listK (K := K)) (pv 0) pe_int (fun _ _ => rfl)) pe_int) pe_int) pe_int) pe_int))
        (pss_cons (ps_set (i := 4) sc_u_law_draw.nd rfl (by first | exact .inl rfl | exact .inr rfl) (pe_op op_mod (pe_op op_add (pe_op op_mul (pv 4) (pv 4)) pe_int) pe_int))
        (pss_cons (ps_asg (pe_op op_mod (pe_op op_add (pe_op op_mul (pv 4) pe_int) pe_int) pe_int) (pg_sub (pv 0) pe_int set_list))
        (pss_one (ps_ret (pe_op op_mod (pe_op op_fdiv (pe_ix (ix_listK (K := K)) (pv 0) pe_int (fun _ _ => rfl)) pe_int) (pv 1)))))))), ?_⟩
    have i0 : ∀ {H' : Hp} {y z : Int}, H' p = some (.lst [.int y, .int z]) → Ev (tOp (rIxL K) (tVar 0) (tC (.int 0))) [some (.ref p), some (.int m), none, none, none] H' (.int y) := fun h => ev_op (ev_var rfl) ev_c (rv_ixL (i := ((0 : Nat) : Int)) (sq_of h) (atI_nat rfl))
    refine q_when (et_test (ev_op (ev_op (ev_var rfl) ev_c (rv_ixL (i := ((1 : Nat) : Int)) (v := .int c) (sq_of hp) (atI_nat rfl))) ev_c (rv_eq rfl))) (fun _ H1 e1 => ?_) fun _ H1 e1 => ?_
    · have hp1 := e1 _ _ hp
      refine (i0 hp1) H1 (Ex.refl H1) _ fun H2 e2 => ⟨.int m, rfl, x, m, rfl, ⟨hm, by omega⟩, fun t ht => ?_⟩
      have hp2 := e2 _ _ hp1
      have e3 : Ex H2 (upd H2 t (.tup [.int (x / m), .int (x % m)])) := Ex.new ht
      refine ⟨t, _, rfl, st_of upd_same, rfl, .int (x / m), [.int (x % m)], rfl, .int (x % m), [], rfl, rfl, ?_⟩
      refine q_setL (j := 0) (e3 _ _ hp2) (ev_var rfl) (ev_var rfl) ev_c (show 0 < 2 by decide) fun H4 e4 => ?_
      refine s_ret (ev_var rfl) fun H5 e5 => ?_
      have h0 : 0 ≤ x % m := Int.emod_nonneg _ (by omega)
      have h1 : x % m < m := Int.emod_lt_of_pos _ hm
      have := q (x % m).toNat H5 (by omega) (fun a o n ha => e5 _ _ (by rw [upd_ne n]; exact e4 _ _ (e3 _ _ (e2 _ _ (e1 _ _ ha))))) ⟨x / m, c, e5 _ _ upd_same, Int.ediv_nonneg hx (by omega)⟩
      rw [Int.toNat_of_nonneg h0] at this
      exact this
    · have hp1 := e1 _ _ hp
      have a1 := Int.emod_nonneg x (show (2147483647 : Int) ≠ 0 by decide)
      have a2 := Int.emod_lt_of_pos x (show (0 : Int) < 2147483647 by decide)
      refine q_asg (ev_op (ev_op (ev_op (ev_op (i0 hp1) ev_c (rv_I (show (0 : Int) < 2147483647 by decide))) ev_c rv_I0) ev_c (rv_I (.inr (by decide)))) ev_c (rv_I (show (0 : Int) < 2147483629 by decide))) fun H2 e2 => ?_
      generalize hs1 : (x % 2147483647 + 40503) * 69621 % 2147483629 = s1
      have b1 : 0 ≤ s1 := by rw [← hs1]; exact Int.emod_nonneg _ (by decide)
      have b2' : s1 < 2147483629 := by rw [← hs1]; exact Int.emod_lt_of_pos _ (by decide)
      refine q_asg (ev_op (ev_op (ev_op (ev_var rfl) (ev_var rfl) (rv_I (.inl (by omega)))) ev_c rv_I0) ev_c (rv_I (show (0 : Int) < 2147483587 by decide))) fun H3 e3 => ?_
      generalize hs2 : (s1 * s1 + 7817) % 2147483587 = s2
      have c1 : 0 ≤ s2 := by rw [← hs2]; exact Int.emod_nonneg _ (by decide)
      have c2 : s2 < 2147483587 := by rw [← hs2]; exact Int.emod_lt_of_pos _ (by decide)
      refine q_setL (j := 0) ((e2.trans e3) _ _ hp1) (ev_op (ev_op (ev_op (ev_var rfl) ev_c (rv_I (.inl (by omega)))) ev_c rv_I0) ev_c (rv_I (show (0 : Int) < 2147483629 by decide))) (ev_var rfl) ev_c (show 0 < 2 by decide) fun H4 e4 => ?_
      generalize hs3 : (s2 * 48271 + 11) % 2147483629 = s3
      have d1 : 0 ≤ s3 := by rw [← hs3]; exact Int.emod_nonneg _ (by decide)
      refine s_ret (ev_op (ev_op (ev_op (ev_var rfl) ev_c (rv_ixL (i := ((0 : Nat) : Int)) (v := .int s3) (sq_of upd_same) (atI_nat rfl))) ev_c (rv_I ⟨by decide, by decide⟩)) (ev_var rfl) (rv_I hm)) fun H5 e5 => ?_
      have h0 : 0 ≤ s3 / 32 % m := Int.emod_nonneg _ (by omega)
      have h1 : s3 / 32 % m < m := Int.emod_lt_of_pos _ hm
      have := q (s3 / 32 % m).toNat H5 (by omega) (fun a o n ha => e5 _ _ (by rw [upd_ne n]; exact e4 _ _ ((e2.trans e3) _ _ (e1 _ _ ha)))) ⟨s3, c, e5 _ _ upd_same, d1⟩
      rw [Int.toNat_of_nonneg h0] at this
      exact this
def sp_u_law_size (_ : PySem.W.Frag) : Sp := fun vs H Q _ => ∃ p : Addr, vs = [.ref p] ∧ Pen p H ∧ ∀ (n : Nat) H', 1 ≤ n → n ≤ 6 → ExB p H H' → Pen p H' → Q (.int (n : Int)) H'
theorem ok_u_law_size (T : Txt K mg) : FnOk P w K mg base CX0 2 T.u_law_size.f T.u_law_size.fd ["_law_pen_here"] (sp_u_law_size K) := by
  refine T.u_law_size.F.ok sc_u_law_size (fun vs H Q E h => ?_) (fun cdv A outer s H vs Q E hr h => ?_)
  · obtain ⟨p, rfl, hp, q⟩ := h
    rfl
  · obtain ⟨p, rfl, hp, q⟩ := h
    refine ⟨_, (pss_one (ps_ret (pe_ix (ix_listK (K := K)) (pe_lst (pa_cons pe_int (pa_cons pe_int (pa_cons pe_int (pa_cons pe_int (pa_cons pe_int (pa_cons pe_int (pa_cons pe_int (pa_cons pe_int (pa_cons pe_int (pa_cons pe_int (pa_cons pe_int (pa_cons pe_int pa_nil))))))))))))) (pe_call (ok_u_law_draw T) (hr.mono (by decide)) (by rfl) T.u_law_draw.g T.u_law_draw.F.kp T.u_law_draw.b .nil pass0 (pa_cons (pv 0) (pa_cons pe_int pa_nil))) (fun _ _ => rfl)))), ?_⟩
    refine ⟨show 12 ≤ sizeLine by decide, fun l hl => ?_⟩
    have e1 : Ex H (upd H l (.lst (sizes.map fun (n : Nat) => V.int (n : Int)))) := Ex.new hl
    refine rd_draw (ev_var rfl) ev_c (by decide) (by decide) (hp.mono e1) fun r H2 hr e2 hp2 => ?_
    have nlp : l ≠ p := fun z => by
      obtain ⟨x, c, h1, _⟩ := hp
      rw [z, h1] at hl
      cases hl
    obtain ⟨n, h1, h2, h3⟩ := sizes_at hr
    exact ⟨l, sizes.map fun (n : Nat) => V.int (n : Int), (r : Int), .int (n : Int), rfl, rfl, sq_of (e2 _ _ nlp upd_same), atI_nat (by rw [List.getElem?_map, h1]; rfl), q n H2 h2 h3 ((ex_B e1).trans e2) hp2⟩
def sp_u_law_order (K : PySem.W.Frag) : Sp := fun vs H Q _ => ∃ (p : Addr) (n : Nat), vs = [.ref p, .int (n : Int)] ∧ n ≤ 6 ∧ Pen p H ∧ ∀ (o : Nat → Nat) v H', ((List.range n).map o).Perm (List.range n) → OrdAt n o v H' → ExB p H H' → Pen p H' → Q v H'
theorem ok_u_law_order (T : Txt K mg) : FnOk P w K mg base CX0 2 T.u_law_order.f T.u_law_order.fd ["_law_pen_here", "_law_many"] (sp_u_law_order K) := by
  refine T.u_law_order.F.ok sc_u_law_order (fun vs H Q E h => ?_) (fun cdv A outer s H vs Q E hr h => ?_)
  · obtain ⟨p, n, rfl, hn, hp, q⟩ := h
    rfl
  · obtain ⟨p, n, rfl, hn, hp, q⟩ := h
    refine ⟨_, (pss_cons (ps_set (i := 2) sc_u_law_order.nd rfl (by first | exact .inl rfl | exact .inr rfl) (pe_lst pa_nil))
        (pss_cons (ps_for PassesOwn.never rfl (pi_range1 (by rfl) T.b_range (pa_cons (pv 1) pa_nil)) (pg_name (i := 3) sc_u_law_order.nd rfl (by first | exact .inl rfl | exact .inr rfl)) (pss_one (ps_expr (pe_bmK (K := K) PySem.F.plainAttrs_list PySem.F.slot_list_insert PySem.F.type_list_insert mt_insert (pv 2) (pa_cons (pe_call (ok_u_law_draw T) (hr.mono (by decide)) (by rfl) T.u_law_draw.g T.u_law_draw.F.kp T.u_law_draw.b .nil pass0 (pa_cons (pv 0) (pa_cons (pe_op op_add (pv 3) pe_int) pa_nil))) (pa_cons (pv 3) pa_nil))))))
        (pss_one (ps_ret (pe_callTy tup_F (by rfl) T.b_tuple (by decide +kernel) (pa_cons (pv 2) pa_nil)))))), ?_⟩
    refine q_asgL (xs := []) (el_lst ea_nil (show 0 ≤ 100000 by decide)) fun l H1 hl e1 h1 => ?_
    have nlp : p ≠ l := fun z => by
      obtain ⟨x, c, h1, _⟩ := hp
      rw [← z, h1] at hl
      cases hl
    refine q_forR1 (n := (n : Int)) (ea_cons (ev_var rfl) ea_nil) (by omega) (fun i σ' H' => ∃ y acc, σ' = [some (.ref p), some (.int (n : Int)), some (.ref l), y] ∧ ExB p H H' ∧ Pen p H' ∧ H' l = some (.lst (acc.map fun (k : Nat) => V.int (k : Int))) ∧ acc.Perm (List.range i))
      (fun H2 e2 => ⟨none, [], rfl, ex_B (e1.trans e2), hp.mono (e1.trans e2), e2 _ _ h1, List.Perm.refl _⟩) ?_ ?_
    · rintro i σ' H' hi ⟨y, acc, rfl, x1, x2, x3, x4⟩
      refine ⟨.ref l, rfl, .inl ⟨rfl, _, sq_of x3⟩, ?_⟩
      refine rd_draw (m := (i : Int) + 1) (ev_var rfl) (ev_op (ev_var rfl) ev_c rv_I0) (by omega) (by omega) x2 fun r H2 hr e2 hp2 => ?_
      refine ⟨.int (i : Int), rfl, l, _, (r : Int), .int (i : Int), rfl, rfl, e2 _ _ (fun z => nlp z.symm) x3, ?_, by omega, by omega, ?_⟩
      · rw [List.length_map, x4.length_eq, List.length_range]
        exact Nat.lt_of_le_of_lt (show i ≤ 1000 by omega) (by decide)
      · refine ⟨some (.int (i : Int)), acc.take r ++ i :: acc.drop r, rfl, (x1.trans e2).mut hl, ?_, ?_, ?_⟩
        · obtain ⟨x, c, q1, q2⟩ := hp2
          exact ⟨x, c, by rw [upd_ne nlp]; exact q1, q2⟩
        · rw [upd_same, Int.toNat_natCast, List.map_append, List.map_cons, List.map_take, List.map_drop, List.append_assoc]
          rfl
        · refine List.perm_middle.trans ?_
          rw [List.take_append_drop, List.range_succ]
          exact (List.Perm.cons i x4).trans (List.perm_append_singleton i (List.range i)).symm
    · rintro σ' H' ⟨y, acc, rfl, x1, x2, x3, x4⟩
      rw [Int.toNat_natCast] at x4
      have len : acc.length = n := by rw [x4.length_eq, List.length_range]
      have ha : acc = (List.range n).map fun i => acc.getD i 0 := len_get len
      refine ⟨.ref l, rfl, l, _, rfl, sq_of x3, fun t ob ht hd => q (fun i => acc.getD i 0) _ _ (by rw [← ha]; exact x4) ⟨t, ob, rfl, ?_, hd⟩ (x1.trans (ex_B (Ex.new ht))) (x2.mono (Ex.new ht))⟩
      rw [upd_same]
      congr 3
      have := congrArg (List.map fun (k : Nat) => V.int (k : Int)) ha
      rw [List.map_map] at this
      exact this
end
end K56
namespace K56
open PySem PySem.Spec PyProof.Rows L2 Evl

theorem set_range {n t : Nat} {f : Nat → V} {v : V} : ((List.range n).map f).set t v = (List.range n).map fun j => if j = t then v else f j := by
  apply List.ext_getElem?
  intro i
  rw [List.getElem?_set, List.length_map, List.length_range]
  by_cases hi : i < n
  · rw [get_range hi, get_range hi]
    by_cases h : t = i
    · subst h
      rw [if_pos rfl, if_pos hi, if_pos rfl]
    · rw [if_neg h, if_neg (fun e => h e.symm)]
  · have h1 : ((List.range n).map f)[i]? = none := List.getElem?_eq_none (by rw [List.length_map, List.length_range]; omega)
    have h2 : ((List.range n).map fun j => if j = t then v else f j)[i]? = none := List.getElem?_eq_none (by rw [List.length_map, List.length_range]; omega)
    rw [h1, h2]
    by_cases h : t = i
    · subst h
      rw [if_pos rfl, if_neg hi]
    · rw [if_neg h]
section
variable {K : PySem.W.Frag} {σ : L2.St} {H : Hp} {ta te : TE} {n : Nat} {D : Ends} {tz : TS} {v u : V}
theorem q_par {i j : Nat} {t : TA} (h : EvA t σ H [v, u]) (k : ∀ H1, Ex H H1 → tz D ((σ.set i (some v)).set j (some u)) H1) : tSeq (tPar i j t) tz D σ H := h H (Ex.refl H) _ fun H1 e => ⟨v, u, rfl, k H1 e⟩
theorem evr_tupL {c : Addr} {f : Nat → V} (h : Ev ta σ H (.ref c)) (hc : SqL K H c ((List.range n).map f)) : EvR (tCB (rTupOf K) (tCons ta tNil)) σ H (TAt K n fun j => IsV (f j)) := fun H1 e Q q =>
  h H1 e _ fun H2 e2 => ⟨c, _, rfl, .inl ⟨ex_l (e.trans e2) hc, fun l hl => q _ _ (e2.trans (Ex.new hl)) ⟨l, f, rfl, st_of upd_same, fun _ _ => rfl⟩⟩⟩
end
theorem tyes {σ : L2.St} {H : Hp} {A B : Hp → Prop} (h : A H) : tYes σ H fun b H3 => if b = true then A H3 else B H3 := by
  show if true = true then A H else B H
  rw [if_pos rfl]
  exact h
/-- a row of noughts and ones, drawn -/
theorem rd_row {K : PySem.W.Frag} {σ : L2.St} {H : Hp} {E : XK} {Q : VK} {p : Addr} {n m : Nat} (h0 : ∀ x, ((σ.set 5 none).set 5 (some x))[0]? = some (some (.ref p))) (h1 : σ[1]? = some (some (.int (n : Int)))) (h3 : ∀ x, ((σ.set 5 none).set 5 (some x))[3]? = some (some (.int (m : Int)))) (hn : n ≤ 6) (hm : 1 ≤ m ∧ m ≤ 9) (hp : Pen p H)
    (q : ∀ (D : Addr) (g : Nat → Int) H', H D = none → ExB p H H' → Pen p H' → H' D = some (.lst ((List.range n).map fun j => .int (g j))) → (∀ j : Nat, (0 : Int) ≤ g j) → Q (.ref D) H') :
    tLc (iRng1 (tCons (tVar 1) tNil)) (gName 5) tYes (tCB rInt1 (tCons (tOp rEq (tCall (sp_u_law_draw K) [] E (tCons (tVar 0) (tCons (tVar 3) tNil))) (tC (.int 1))) tNil)) [5] σ H Q := by
  have nz' : ((n : Nat) : Int).toNat = n := Int.toNat_natCast n
  refine ⟨.int (n : Int), h1, (n : Int), rfl, by omega, by omega, fun D hD => ?_⟩
  have npD : p ≠ D := fun z => by
    obtain ⟨x, c, h, _⟩ := hp
    rw [z, hD] at h
    cases h
  refine lc_range (lo := 0) (n := ((n : Nat) : Int).toNat) (fun i H' => ExB p H H' ∧ Pen p H' ∧ ∃ g : Nat → Int, H' D = some (.lst ((List.range i).map fun j => .int (g j))) ∧ ∀ j, 0 ≤ g j) ⟨ex_B (Ex.new hD), hp.mono (Ex.new hD), fun _ => 0, upd_same, fun _ => Int.le_refl _⟩ ?_ ?_
  · rintro i H' hi ⟨x1, x2, g, x3, x4⟩
    rw [nz'] at hi
    refine ⟨show List.set (List.set (List.set σ 5 none) 5 _) 5 none = List.set σ 5 none by rw [List.set_set, List.set_set], tyes ?_⟩
    refine rd_draw (m := (m : Int)) (ev_var (h0 _)) (ev_var (h3 _)) (by omega) (by omega) x2 fun r H2 hr e2 hp2 => ⟨rfl, .inr ⟨_, rfl, ?_⟩⟩
    have hD2 := e2 _ _ npD.symm x3
    refine ⟨_, hD2, Nat.lt_of_le_of_lt (show ((List.range i).map fun j => V.int (g j)).length ≤ 1000 by rw [List.length_map, List.length_range]; omega) (by decide), (x1.trans e2).mut hD, ?_, fun j => if j < i then g j else if decide (V.int (r : Int) = V.int 1) then 1 else 0, ?_, fun j => ?_⟩
    · obtain ⟨x, c, q1, q2⟩ := hp2
      exact ⟨x, c, by rw [upd_ne npD]; exact q1, q2⟩
    · rw [upd_same, range_snoc]
      congr 2
      refine map_range_congr fun j hj => ?_
      by_cases z : j < i
      · simp only [if_pos z]
      · simp only [if_neg z]
    · show 0 ≤ if j < i then g j else _
      split
      · exact x4 j
      · split <;> decide
  · rintro H' ⟨x1, x2, g, x3, x4⟩
    rw [nz'] at x3
    exact q D g H' hD x1 x2 x3 x4
/-- m rows of a table of n, each a list of its own, new since H0; the table's list at l -/
structure Grid (H0 : Hp) (l : Addr) (n m : Nat) (g : Nat → Nat → Int) (cs : Nat → Addr) (H : Hp) : Prop where
  rows : H l = some (.lst ((List.range m).map fun i => .ref (cs i)))
  row : ∀ i, i < m → H (cs i) = some (.lst ((List.range n).map fun j => .int (g i j)))
  newL : H0 l = none
  new : ∀ i, i < m → H0 (cs i) = none
  nl : ∀ i, i < m → cs i ≠ l
  inj : ∀ i j, i < m → j < m → i ≠ j → cs i ≠ cs j
theorem Grid.mono {H0 H H' : Hp} {p l : Addr} {n m : Nat} {g : Nat → Nat → Int} {cs : Nat → Addr} (G : Grid H0 l n m g cs H) (hp : Pen p H0) (e : ExB p H H') : Grid H0 l n m g cs H' := by
  have np : ∀ a, H0 a = none → a ≠ p := fun a h z => by
    obtain ⟨x, c, h1, _⟩ := hp
    rw [z, h1] at h
    cases h
  exact ⟨e _ _ (np _ G.newL) G.rows, fun i hi => e _ _ (np _ (G.new i hi)) (G.row i hi), G.newL, G.new, G.nl, G.inj⟩
def setG (g : Nat → Nat → Int) (h t : Nat) (z : Int) : Nat → Nat → Int := fun i j => if i = h then (if j = t then z else g i j) else g i j
theorem Grid.set {H0 H : Hp} {l : Addr} {n m h t : Nat} {g : Nat → Nat → Int} {cs : Nat → Addr} {z : Int} (G : Grid H0 l n m g cs H) (hh : h < m) : Grid H0 l n m (setG g h t z) cs (upd H (cs h) (.lst (((List.range n).map fun j => V.int (g h j)).set t (.int z)))) := by
  refine ⟨by rw [upd_ne (G.nl h hh).symm]; exact G.rows, fun i hi => ?_, G.newL, G.new, G.nl, G.inj⟩
  by_cases e : i = h
  · subst e
    rw [upd_same, set_range]
    congr 2
    refine map_range_congr fun j hj => ?_
    unfold setG
    rw [if_pos rfl]
    by_cases q : j = t
    · rw [if_pos q, if_pos q]
    · rw [if_neg q, if_neg q]
  · rw [upd_ne (G.inj i h hi hh e), G.row i hi]
    congr 2
    refine map_range_congr fun j hj => ?_
    unfold setG
    rw [if_neg e]
theorem setG_pos {g : Nat → Nat → Int} {h t : Nat} {z : Int} (hg : ∀ i j, 0 ≤ g i j) (hz : 0 ≤ z) : ∀ i j, 0 ≤ setG g h t z i j := fun i j => by
  unfold setG
  split
  · split
    · exact hz
    · exact hg i j
  · exact hg i j
theorem setG_one {g : Nat → Nat → Int} {h t : Nat} {z : Int} (hz : 1 ≤ z) {i j : Nat} (hg : 1 ≤ g i j) : 1 ≤ setG g h t z i j := by
  unfold setG
  split
  · split
    · exact hz
    · exact hg
  · exact hg
theorem setG_at {g : Nat → Nat → Int} {h t : Nat} {z : Int} : setG g h t z h t = z := by
  unfold setG
  rw [if_pos rfl, if_pos rfl]
section
variable {P : Program} {w : World} {K : PySem.W.Frag} {mg : Str → Option Value} {base : Heap}

def sp_u_law_good_table (K : PySem.W.Frag) : Sp := fun vs H Q _ => ∃ (p : Addr) (n : Nat), vs = [.ref p, .int (n : Int)] ∧ 1 ≤ n ∧ n ≤ 6 ∧ Pen p H ∧ ∀ k f v H', OkF K n k f v H' → ExB p H H' → Pen p H' → Q v H'
theorem ok_u_law_good_table (T : Txt K mg) : FnOk P w K mg base CX0 3 T.u_law_good_table.f T.u_law_good_table.fd ["_law_pen_here", "_law_size_here"] (sp_u_law_good_table K) := by
  refine T.u_law_good_table.F.ok sc_u_law_good_table (fun vs H Q E h => ?_) (fun cdv A outer s H vs Q E hr h => ?_)
  · obtain ⟨p, n, rfl, h1, h6, hp, q⟩ := h
    rfl
  · obtain ⟨p, n, rfl, h1, h6, hp, q⟩ := h
    refine ⟨_, (pss_cons (ps_set (i := 2) sc_u_law_good_table.nd rfl (by first | exact .inl rfl | exact .inr rfl) (pe_call (ok_u_law_order T) (hr.mono (by decide)) (by rfl) T.u_law_order.g T.u_law_order.F.kp T.u_law_order.b .nil pass0 (pa_cons (pv 0) (pa_cons (pv 1) pa_nil))))
        (pss_cons (ps_set (i := 3) sc_u_law_good_table.nd rfl (by first | exact .inl rfl | exact .inr rfl) (pe_ix (ix_listK (K := K)) (pe_lst (pa_cons pe_int (pa_cons pe_int (pa_cons pe_int pa_nil)))) (pe_call (ok_u_law_draw T) (hr.mono (by decide)) (by rfl) T.u_law_draw.g T.u_law_draw.F.kp T.u_law_draw.b .nil pass0 (pa_cons (pv 0) (pa_cons pe_int pa_nil))) (fun _ _ => rfl)))
        (pss_cons (ps_setLc (i := 4) (own := [("_law_one", 6)]) (g := gName 6) (tt := tYes) rfl sc_u_law_good_table.nd rfl rfl (sw_true rfl rfl rfl (by decide +kernel)) (pi_range1 (by rfl) T.b_range (pa_cons (pv 1) pa_nil)) (blkOk_by (by dsimp only [cxOf, envOfC]; decide +kernel)) (fun _ _ _ _ _ => (pg_name (i := 6) sc_u_law_good_table.nd rfl (by first | exact .inl rfl | exact .inr rfl))) (fun _ _ _ _ _ => pts_nil) (fun _ _ _ _ _ => (pe_lc (own := [("_law_other", 5)]) (g := gName 5) (tt := tYes) rfl sc_u_law_good_table.nd (pi_range1 (by rfl) T.b_range (pa_cons (pv 1) pa_nil)) (blk1 ["_law_pen_here", "_law_size_here", "_law_order_here", "_law_often", "_law_rows", "_law_other", "_law_one", "_law_at", "_law_here", "_law_there", "_law_row"] (defScope s_u_law_good_table) (by decide +kernel)) (fun _ _ _ _ _ => (pg_name (i := 5) sc_u_law_good_table.nd rfl (by first | exact .inl rfl | exact .inr rfl))) (fun _ _ _ _ _ => pts_nil) (fun _ _ _ _ _ => (pe_callTy call_int1 (by rfl) T.b_int (by decide +kernel) (pa_cons (pe_cmpR op_eq (pe_call (ok_u_law_draw T) (hr.mono (by decide)) (by rfl) T.u_law_draw.g T.u_law_draw.F.kp T.u_law_draw.b .nil pass0 (pa_cons (pv 0) (pa_cons (pv 3) pa_nil))) pe_int (nomark _)) pa_nil))))))
        (pss_cons (ps_for PassesOwn.never rfl (pi_range1 (by rfl) T.b_range (pa_cons (pv 1) pa_nil)) (pg_name (i := 7) sc_u_law_good_table.nd rfl (by first | exact .inl rfl | exact .inr rfl)) (pss_cons (ps_par (i := 8) (j := 9) (by rfl) sc_u_law_good_table.nd rfl rfl (by decide) rfl rfl (pa_cons (pe_ix (ix_tupK (K := K)) (pv 2) (pv 7) (fun _ _ => rfl)) (pa_cons (pe_ix (ix_tupK (K := K)) (pv 2) (pe_op op_mod (pe_op op_add (pv 7) pe_int) (pv 1)) (fun _ _ => rfl)) pa_nil)) (by rfl))
        (pss_one (ps_asg (pe_op op_add pe_int (pe_call (ok_u_law_draw T) (hr.mono (by decide)) (by rfl) T.u_law_draw.g T.u_law_draw.F.kp T.u_law_draw.b .nil pass0 (pa_cons (pv 0) (pa_cons pe_int pa_nil)))) (pg_sub (pe_ix (ix_listK (K := K)) (pv 4) (pv 8) (fun _ _ => rfl)) (pv 9) set_list)))))
        (pss_cons (ps_asg pe_int (pg_sub (pe_ix (ix_listK (K := K)) (pv 4) (pe_ix (ix_tupK (K := K)) (pv 2) (pe_un un_neg pe_int) (fun _ _ => rfl)) (fun _ _ => rfl)) (pe_ix (ix_tupK (K := K)) (pv 2) (pe_ix (ix_listK (K := K)) (pe_lst (pa_cons (pe_op op_mod pe_int (pv 1)) (pa_cons (pe_op op_sub (pv 1) pe_int) pa_nil))) (pe_call (ok_u_law_draw T) (hr.mono (by decide)) (by rfl) T.u_law_draw.g T.u_law_draw.F.kp T.u_law_draw.b .nil pass0 (pa_cons (pv 0) (pa_cons pe_int pa_nil))) (fun _ _ => rfl)) (fun _ _ => rfl)) set_list))
        (pss_one (ps_ret (pe_callTy (tup_K (K := K)) (by rfl) T.b_tuple (by decide +kernel) (pa_cons (pe_lc (own := [("_law_row", 10)]) (g := gName 10) (tt := tYes) rfl sc_u_law_good_table.nd (pi_listK (K := K) (pv 4)) (blkOk_by (by dsimp only [cxOf, envOfC]; decide +kernel)) (fun _ _ _ _ _ => (pg_name (i := 10) sc_u_law_good_table.nd rfl (by first | exact .inl rfl | exact .inr rfl))) (fun _ _ _ _ _ => pts_nil) (fun _ _ _ _ _ => (pe_callTy (tup_K (K := K)) (by rfl) T.b_tuple (by decide +kernel) (pa_cons (pv 10) pa_nil)))) pa_nil))))))))), ?_⟩
    have nz' : ((n : Nat) : Int).toNat = n := Int.toNat_natCast n
    have npf : ∀ {a}, H a = none → p ≠ a := fun h z => by
      obtain ⟨x, c, h1, _⟩ := hp
      rw [← z, h1] at h
      cases h
    -- the order
    refine ⟨.ref p, rfl, .int (n : Int), rfl, p, n, rfl, h6, hp, fun o ov H1 ho hov e1 hp1 => ?_⟩
    -- how often
    refine ⟨show 3 ≤ sizeLine by decide, fun lo hlo => ?_⟩
    have eo : Ex H1 (upd H1 lo (.lst (oftens.map fun (n : Nat) => V.int (n : Int)))) := Ex.new hlo
    refine rd_draw (ev_var rfl) ev_c (by decide) (by decide) (hp1.mono eo) fun r H2 hr e2 hp2 => ?_
    have nlo : lo ≠ p := fun z => by
      obtain ⟨x, c, h, _⟩ := hp1
      rw [z, h] at hlo
      cases hlo
    obtain ⟨m, m1, m2, m3⟩ := oftens_at hr
    refine ⟨lo, oftens.map fun (n : Nat) => V.int (n : Int), (r : Int), .int (m : Int), rfl, rfl, sq_of (e2 _ _ nlo upd_same), atI_nat (by rw [List.getElem?_map, m1]; rfl), ?_⟩
    have e02 : ExB p H H2 := (e1.trans (ex_B eo)).trans e2
    have hov2 : OrdAt n o ov H2 := mt_ord _ _ _ (((ex_B eo).trans e2).t hp1) hov
    -- the rows
    refine ⟨.int (n : Int), rfl, (n : Int), rfl, by omega, by omega, fun l hl => ?_⟩
    have hl0 : H l = none := e02.fresh hp hl hp2
    refine lc_range (lo := 0) (n := ((n : Nat) : Int).toNat) (fun i H' => ExB p H2 H' ∧ Pen p H' ∧ ∃ g cs, Grid H l n i g cs H' ∧ ∀ i j, 0 ≤ g i j)
      ⟨ex_B (Ex.new hl), hp2.mono (Ex.new hl), fun _ _ => 0, fun _ => l, ⟨upd_same, fun i hi => absurd hi (Nat.not_lt_zero i), hl0, fun i hi => absurd hi (Nat.not_lt_zero i), fun i hi => absurd hi (Nat.not_lt_zero i), fun i _ hi => absurd hi (Nat.not_lt_zero i)⟩, fun _ _ => Int.le_refl _⟩ ?_ ?_
    · rintro i H' hi ⟨x1, x2, g, cs, G, hg⟩
      rw [nz'] at hi
      refine ⟨rfl, tyes ?_⟩
      refine rd_row (p := p) (n := n) (m := m) (fun _ => rfl) rfl (fun _ => rfl) h6 ⟨m2, m3⟩ x2 fun d gr H3 hd e3 hp3 h3 hgr => ?_
      have hd0 : H d = none := (e02.trans x1).fresh hp hd x2
      have hl3 := e3 _ _ (npf hl0).symm G.rows
      have ndl : d ≠ l := fun z => by
        rw [z, G.rows] at hd
        cases hd
      refine ⟨_, hl3, Nat.lt_of_le_of_lt (show ((List.range i).map fun k => V.ref (cs k)).length ≤ 1000 by rw [List.length_map, List.length_range]; omega) (by decide), (x1.trans e3).mut hl, ?_, fun k => if k < i then g k else gr, fun k => if k < i then cs k else d, ⟨?_, ?_, hl0, ?_, ?_, ?_⟩, ?_⟩
      · obtain ⟨x, c, q1, q2⟩ := hp3
        exact ⟨x, c, by rw [upd_ne (npf hl0)]; exact q1, q2⟩
      · rw [upd_same, range_snoc]
        congr 2
        refine map_range_congr fun k hk => ?_
        by_cases z : k < i
        · rw [if_pos z, if_pos z]
        · rw [if_neg z, if_neg z]
      · intro k hk
        by_cases z : k < i
        · simp only [if_pos z]
          rw [upd_ne (G.nl k z)]
          exact e3 _ _ (npf (G.new k z)).symm (G.row k z)
        · simp only [if_neg z]
          rw [upd_ne ndl]
          exact h3
      · intro k hk
        by_cases z : k < i
        · simp only [if_pos z]
          exact G.new k z
        · simp only [if_neg z]
          exact hd0
      · intro k hk
        by_cases z : k < i
        · simp only [if_pos z]
          exact G.nl k z
        · simp only [if_neg z]
          exact ndl
      · intro k k' hk hk' hne
        have cd : ∀ k, k < i → cs k ≠ d := fun k hk z => by
          rw [← z, G.row k hk] at hd
          cases hd
        by_cases z : k < i
        · by_cases z' : k' < i
          · simp only [if_pos z, if_pos z']
            exact G.inj k k' z z' hne
          · simp only [if_pos z, if_neg z']
            exact cd k z
        · by_cases z' : k' < i
          · simp only [if_neg z, if_pos z']
            exact fun e => cd k' z' e.symm
          · omega
      · intro k j
        by_cases z : k < i
        · simp only [if_pos z]
          exact hg k j
        · simp only [if_neg z]
          exact hgr j
    rintro H3 ⟨x1, x2, g, cs, G, hg⟩
    rw [nz'] at G
    have hov3 : OrdAt n o ov H3 := mt_ord _ _ _ (x1.t hp2) hov2
    have e03 := e02.trans x1
    have olt : ∀ {i}, i < n → o i < n := fun h => ord_lt ho h
    -- the ring
    refine q_forR1 (n := (n : Int)) (ea_cons (ev_var rfl) ea_nil) (by omega) (fun i σ' H' => ∃ y7 y8 y9 g, σ' = [some (.ref p), some (.int (n : Int)), some ov, some (.int (m : Int)), some (.ref l), none, none, y7, y8, y9, none] ∧ ExB p H H' ∧ Pen p H' ∧ OrdAt n o ov H' ∧ Grid H l n n g cs H' ∧ (∀ i j, 0 ≤ g i j) ∧ ∀ t, t < i → t < n → 1 ≤ g (o t) (o ((t + 1) % n)))
      (fun H4 e4 => ⟨none, none, none, g, rfl, e03.trans (ex_B e4), x2.mono e4, mt_ord.e _ _ _ e4 hov3, G.mono hp (ex_B e4), hg, fun t ht => absurd ht (Nat.not_lt_zero t)⟩) ?_ ?_
    · rintro i σ' H' hi ⟨y7, y8, y9, g, rfl, z1, z2, z3, z4, z5, z6⟩
      have hin : i < n := by omega
      have hi2 : (i + 1) % n < n := Nat.mod_lt _ (by omega)
      have hrow := ord_row (K := K) z3
      refine q_par (v := .int (o i : Int)) (u := .int (o ((i + 1) % n) : Int)) (ea_cons (evr_ixTV (ev_var rfl) hrow (mt_is _).e (ev_var rfl) hin).ev (ea_cons (evr_ixTV (i := (i + 1) % n) (ev_var rfl) hrow (mt_is _).e (ev_is (ev_op (ev_op (ev_var rfl) ev_c rv_I0) (ev_var rfl) (rv_I (C := fun _ j => 0 < j) (show (0 : Int) < (n : Int) by omega))) ?_) hi2).ev ea_nil)) fun H4 e4 => ?_
      · rw [Int.natCast_emod]
        rfl
      · -- rows[here][there] = 1 + ..
        refine rd_draw (ev_var rfl) ev_c (by decide) (by decide) (z2.mono e4) fun r H5 hr e5 hp5 => ⟨1, (r : Int), rfl, rfl, ?_⟩
        have G5 := z4.mono hp ((ex_B e4).trans e5)
        refine ⟨.ref l, rfl, .int (o i : Int), rfl, l, _, (o i : Int), .ref (cs (o i)), rfl, rfl, sq_of G5.rows, at_range (olt hin), .int (o ((i + 1) % n) : Int), rfl, cs (o i), _, (o ((i + 1) % n) : Int), o ((i + 1) % n), rfl, rfl, G5.row _ (olt hin), Evl.ixN_nat (by rw [List.length_map, List.length_range]; exact olt hi2), ?_⟩
        have hc := G5.new _ (olt hin)
        have hx : ExT H5 (upd H5 (cs (o i)) (.lst (((List.range n).map fun j => V.int (g (o i) j)).set (o ((i + 1) % n)) (.int (1 + (r : Int)))))) := ext_lst (G5.row _ (olt hin))
        refine ⟨some (.int (i : Int)), some (.int (o i : Int)), some (.int (o ((i + 1) % n) : Int)), setG g (o i) (o ((i + 1) % n)) (1 + (r : Int)), rfl, (z1.trans ((ex_B e4).trans e5)).mut hc, ?_, mt_ord _ _ _ hx (mt_ord _ _ _ (((ex_B e4).trans e5).t z2) z3), G5.set (olt hin), setG_pos z5 (by omega), fun t ht htn => ?_⟩
        · obtain ⟨x, c, q1, q2⟩ := hp5
          exact ⟨x, c, by rw [upd_ne (npf hc)]; exact q1, q2⟩
        · by_cases z : t = i
          · subst z
            rw [setG_at]
            omega
          · exact setG_one (by omega) (z6 t (by omega) htn)
    · rintro σ' H' ⟨y7, y8, y9, g, rfl, z1, z2, z3, z4, z5, z6⟩
      rw [nz'] at z6
      have hn1 : n - 1 < n := by omega
      obtain ⟨po, ob, rfl, hpo, hod⟩ := id z3
      -- the arrow across: rows[order[-1]][order[..]] = 1
      refine ⟨.ref l, rfl, .ref po, rfl, 1, rfl, po, _, -1, .int (o (n - 1) : Int), rfl, rfl, .inl (.inr ⟨ob, hpo⟩), at_last h1 _, l, _, (o (n - 1) : Int), .ref (cs (o (n - 1))), rfl, rfl, sq_of z4.rows, at_range (olt hn1), .ref po, rfl, ?_⟩
      refine ⟨.int (n : Int), rfl, 1, (n : Int), rfl, rfl, show (0 : Int) < (n : Int) by omega, .int (n : Int), rfl, (n : Int), 1, rfl, rfl, show 2 ≤ sizeLine by decide, fun lc hlc => ?_⟩
      have e4 : Ex H' (upd H' lc (.lst [.int (1 % (n : Int)), .int ((n : Int) - 1)])) := Ex.new hlc
      have nlc : lc ≠ p := fun z => by
        obtain ⟨x, c, h, _⟩ := z2
        rw [z, h] at hlc
        cases hlc
      refine rd_draw (ev_var rfl) ev_c (by decide) (by decide) (z2.mono e4) fun r H5 hr e5 hp5 => ?_
      obtain ⟨c, hc, hat⟩ : ∃ c : Nat, (c = 1 % n ∨ c = n - 1) ∧ atI [V.int (1 % (n : Int)), V.int ((n : Int) - 1)] (r : Int) = some (.int (c : Int)) := by
        have : r = 0 ∨ r = 1 := by omega
        rcases this with rfl | rfl
        · exact ⟨1 % n, .inl rfl, (atI_nat rfl).trans (by rw [Int.natCast_emod]; rfl)⟩
        · exact ⟨n - 1, .inr rfl, (atI_nat rfl).trans (by rw [show (n : Int) - 1 = ((n - 1 : Nat) : Int) by omega])⟩
      have hcn : c < n := by
        rcases hc with rfl | rfl
        · exact Nat.mod_lt _ (by omega)
        · exact hn1
      have e45 := (ex_B e4).trans e5
      have hpo5 : H5 po = _ := (e45.t z2).2 _ _ _ hpo
      have G5 := z4.mono hp e45
      have hnw := G5.new _ (olt hn1)
      refine ⟨lc, _, (r : Int), .int (c : Int), rfl, rfl, sq_of (e5 _ _ nlc upd_same), hat, po, _, (c : Int), .int (o c : Int), rfl, rfl, .inl (.inr ⟨ob, hpo5⟩), at_range hcn, cs (o (n - 1)), _, (o c : Int), o c, rfl, rfl, G5.row _ (olt hn1), Evl.ixN_nat (by rw [List.length_map, List.length_range]; exact olt hcn), ?_⟩
      have G6 := G5.set (t := o c) (z := 1) (olt hn1)
      have z1' := (z1.trans e45).mut (o := .lst (((List.range n).map fun j => V.int (g (o (n - 1)) j)).set (o c) (.int 1))) hnw
      have hp6 : Pen p (upd H5 (cs (o (n - 1))) (.lst (((List.range n).map fun j => V.int (g (o (n - 1)) j)).set (o c) (.int 1)))) := by
        obtain ⟨x, c', q1, q2⟩ := hp5
        exact ⟨x, c', by rw [upd_ne (npf hnw)]; exact q1, q2⟩
      generalize upd H5 (cs (o (n - 1))) (.lst (((List.range n).map fun j => V.int (g (o (n - 1)) j)).set (o c) (.int 1))) = H6 at G6 z1' hp6
      have pos := setG_pos (h := o (n - 1)) (t := o c) (z := 1) z5 (by decide)
      have ring' : ∀ t, t < n → 1 ≤ setG g (o (n - 1)) (o c) 1 (o t) (o ((t + 1) % n)) := fun t ht => setG_one (by decide) (z6 t ht ht)
      have cross : setG g (o (n - 1)) (o c) 1 (o (n - 1)) (o c) = 1 := setG_at
      generalize setG g (o (n - 1)) (o c) 1 = f at G6 pos ring' cross
      obtain ⟨k, hk1, hk2⟩ := good_first (a := nz f) (o := o) h1 h6 hc (fun i hi => olt hi) (fun i hi => ord_onto ho hi) (fun i hi => nz_iff.mpr (by have := ring' i hi; omega)) (nz_iff.mpr (by rw [cross]; decide))
      refine s_retR (R := Tab K n f) (evr_tupOf (lcN (R := fun i => Row K n (f i)) (src_list (S := fun i => IsV (.ref (cs i))) (ev_var rfl) (sq_of G6.rows) (fun _ _ => rfl) fun _ => mt_is _) (fun _ => mt_row) (by omega) (fun _ => rfl) fun i x H7 hi e7 (hx : x = _) => ?_) fun _ => mt_row) fun v H7 e7 hv => q k f v H7 ⟨⟨h1, h6, hv, fun i j _ _ => pos i j⟩, hk2, hk1⟩ (z1'.trans (ex_B e7)) (hp6.mono e7)
      subst hx
      exact evr_tupL (ev_var rfl) (sq_of (e7 _ _ (G6.row i hi)))
end
end K56
namespace K56
open PySem PySem.Spec PyProof.Rows L2 Evl

theorem OkF.t {K : PySem.W.Frag} {n k : Nat} {f : Nat → Nat → Int} {v : V} {H H' : Hp} (h : OkF K n k f v H) (e : ExT H H') : OkF K n k f v H' := ⟨⟨h.one, h.six, mt_tab _ _ _ e h.tab, h.pos⟩, h.first, h.low⟩
theorem pairs_exist {n k : Nat} {a : Nat → Nat → Bool} (f : IsFirst n a k) : ∃ p : Nat → Nat → Nat, ∀ i j, i < n → j < n → IsPair n a i j (p i j) := by
  classical
  refine ⟨fun i j => if h : i < n ∧ j < n then Classical.choose (pair_exists f h.1 h.2) else 0, fun i j hi hj => ?_⟩
  have h : i < n ∧ j < n := ⟨hi, hj⟩
  simp only [dif_pos h]
  exact Classical.choose_spec (pair_exists f h.1 h.2)
theorem rows_exist {n k : Nat} {a : Nat → Nat → Bool} (f : IsFirst n a k) : ∃ r : Nat → Nat, ∀ i, i < n → IsRow n a i (r i) := by
  classical
  refine ⟨fun i => if h : i < n then Classical.choose (row_exists f h) else 0, fun i hi => ?_⟩
  simp only [dif_pos hi]
  exact Classical.choose_spec (row_exists f hi)
/-- M is the greatest of g below n -/
def IsMax (n : Nat) (g : Nat → Nat) (M : Nat) : Prop := (∃ j, j < n ∧ g j = M) ∧ ∀ j, j < n → g j ≤ M
theorem max_exists {g : Nat → Nat} : ∀ {n : Nat}, 1 ≤ n → ∃ M, IsMax n g M
  | 0, h => absurd h (by decide)
  | 1, _ => ⟨g 0, ⟨0, by decide, rfl⟩, fun j hj => by rw [show j = 0 by omega]; exact Nat.le_refl _⟩
  | n + 2, _ => by
    obtain ⟨M, ⟨j, hj, hM⟩, hle⟩ := max_exists (g := g) (n := n + 1) (by omega)
    by_cases h : g (n + 1) ≤ M
    · exact ⟨M, ⟨j, by omega, hM⟩, fun i hi => by
        by_cases z : i = n + 1
        · rw [z]
          exact h
        · exact hle i (by omega)⟩
    · exact ⟨g (n + 1), ⟨n + 1, by omega, rfl⟩, fun i hi => by
        by_cases z : i = n + 1
        · rw [z]
          exact Nat.le_refl _
        · have := hle i (by omega)
          omega⟩
theorem maxes_exist {g : Nat → Nat → Nat} {n : Nat} (h : 1 ≤ n) : ∃ M : Nat → Nat, ∀ i, IsMax n (g i) (M i) := by
  classical
  exact ⟨fun i => Classical.choose (max_exists (g := g i) h), fun i => Classical.choose_spec (max_exists (g := g i) h)⟩
theorem max_is {n M : Nat} {g : Nat → Nat} (h : IsMax n g M) {m : Int} (h1 : m ∈ (List.range n).map fun j => (g j : Int)) (h2 : ∀ y, y ∈ (List.range n).map (fun j => (g j : Int)) → y ≤ m) : m = (M : Int) := by
  obtain ⟨⟨j, hj, hM⟩, hle⟩ := h
  obtain ⟨i, hi, rfl⟩ := List.mem_map.mp h1
  have a1 := hle i (List.mem_range.mp hi)
  have a2 := h2 (g j : Int) (List.mem_map.mpr ⟨j, List.mem_range.mpr hj, rfl⟩)
  omega
theorem pair_name' {n : Nat} {a : Nat → Nat → Bool} {b : Nat → Nat} (hb : ∀ i, i < n → b i < n) (hs : ∀ i, i < n → ∃ i', i' < n ∧ b i' = i) {i j q : Nat} (hi : i < n) (hj : j < n) (h : IsPair n a (b i) (b j) q) : IsPair n (fun i j => a (b i) (b j)) i j q :=
  ⟨h.1, fun m hm => by rw [pw_name hb hs hi hj]; exact h.2.1 m hm, h.2.2.imp id fun z => by rw [pw_name hb hs hi hj]; exact z⟩
section
variable {K : PySem.W.Frag} {σ : L2.St} {H : Hp} {ta tb te : TE} {n M : Nat} {g : Nat → Nat} {D : Ends} {tz : TS} {v : V}
theorem ev_maxT (h : Ev ta σ H v) (hv : Row K n (fun j => (g j : Int)) v H) (hM : IsMax n g M) : Ev (tCB (rMaxT K) (tCons ta tNil)) σ H (.int (M : Int)) := fun H1 e Q q => h H1 e _ fun H2 e2 => by
  obtain ⟨a, rfl, hs⟩ := row_seq hv
  have pos : 0 < n := by
    obtain ⟨⟨j, hj, _⟩, _⟩ := hM
    omega
  refine ⟨a, (List.range n).map fun j => (g j : Int), rfl, ?_, by rw [List.length_map, List.length_range]; exact pos, fun m h1 h2 => ?_⟩
  · rw [List.map_map]
    exact ex_t (e.trans e2) hs
  · rw [max_is hM h1 h2]
    exact q H2 e2
theorem ev_maxL (h : EvL ta σ H ((List.range n).map fun j => V.int (g j : Int))) (hM : IsMax n g M) : Ev (tCB (rMax K) (tCons ta tNil)) σ H (.int (M : Int)) := fun H1 e Q q => h H1 e _ fun p H2 hp e2 h2 => by
  have pos : 0 < n := by
    obtain ⟨⟨j, hj, _⟩, _⟩ := hM
    omega
  refine ⟨p, (List.range n).map fun j => (g j : Int), rfl, ?_, by rw [List.length_map, List.length_range]; exact pos, fun m h1 h3 => ?_⟩
  · rw [List.map_map]
    exact sq_of h2
  · rw [max_is hM h1 h3]
    exact q H2 e2
theorem ev_maxV {p : Addr} (h : Ev ta σ H (.ref p)) (hp : SqL K H p ((List.range n).map fun j => V.int (g j : Int))) (hM : IsMax n g M) : Ev (tCB (rMax K) (tCons ta tNil)) σ H (.int (M : Int)) := fun H1 e Q q => h H1 e _ fun H2 e2 => by
  have pos : 0 < n := by
    obtain ⟨⟨j, hj, _⟩, _⟩ := hM
    omega
  refine ⟨p, (List.range n).map fun j => (g j : Int), rfl, ?_, by rw [List.length_map, List.length_range]; exact pos, fun m h1 h3 => ?_⟩
  · rw [List.map_map]
    exact ex_l (e.trans e2) hp
  · rw [max_is hM h1 h3]
    exact q H2 e2
theorem ev_maxIx {f : Nat → Nat → Nat} {m : Nat → Nat} {i : Nat} (ha : Ev ta σ H v) (hv : Tab K n (fun i j => (f i j : Int)) v H) (hb : Ev tb σ H (.int (i : Int))) (hi : i < n) (hM : IsMax n (f i) (m i)) : Ev (tCB (rMaxT K) (tCons (tOp (rIxT K) ta tb) tNil)) σ H (.int (m i : Int)) := by
  obtain ⟨x, h1, h2⟩ := ev_ixT ha hv hb hi
  exact ev_maxT (g := f i) h2 h1 hM
/-- two tables that are the same -/
theorem rv_tabs {f g : Nat → Nat → Int} {u v : V} (hu : Tab K n f u H) (hv : Tab K n g v H) (e : ∀ i j, i < n → j < n → f i j = g i j) : RV (rEqD K) u v H (.bl true) ∧ RV (rNeD K) u v H (.bl false) := by
  have eq := eqv_tab.mpr e
  constructor
  · intro H1 e1 Q q
    refine ⟨_, _, dp_tab (mt_tab.e _ _ _ e1 hu), dp_tab (mt_tab.e _ _ _ e1 hv), shaped_tab _ _, shaped_tab _ _, ?_⟩
    rw [eq]
    exact q H1 (Ex.refl H1)
  · intro H1 e1 Q q
    refine ⟨_, _, dp_tab (mt_tab.e _ _ _ e1 hu), dp_tab (mt_tab.e _ _ _ e1 hv), shaped_tab _ _, shaped_tab _ _, ?_⟩
    rw [eq]
    exact q H1 (Ex.refl H1)
theorem ev_eqTab {f g : Nat → Nat → Int} (ha : EvR ta σ H (Tab K n f)) (hb : ∀ H1, Ex H H1 → EvR tb σ H1 (Tab K n g)) (e : ∀ i j, i < n → j < n → f i j = g i j) : Ev (tOp (rEqD K) ta tb) σ H (.bl true) := fun H1 e1 Q q =>
  ha H1 e1 _ fun x H2 e2 hx => hb H2 (e1.trans e2) H2 (Ex.refl H2) _ fun y H3 e3 hy => (rv_tabs (mt_tab.e _ _ _ e3 hx) hy e).1 H3 (Ex.refl H3) Q fun H4 e4 => q H4 ((e2.trans e3).trans e4)
theorem ev_neTab {f g : Nat → Nat → Int} (ha : EvR ta σ H (Tab K n f)) (hb : ∀ H1, Ex H H1 → EvR tb σ H1 (Tab K n g)) (e : ∀ i j, i < n → j < n → f i j = g i j) : Ev (tOp (rNeD K) ta tb) σ H (.bl false) := fun H1 e1 Q q =>
  ha H1 e1 _ fun x H2 e2 hx => hb H2 (e1.trans e2) H2 (Ex.refl H2) _ fun y H3 e3 hy => (rv_tabs (mt_tab.e _ _ _ e3 hx) hy e).2 H3 (Ex.refl H3) Q fun H4 e4 => q H4 ((e2.trans e3).trans e4)
theorem q_par3 {i j l : Nat} {t : TA} {R : List V → Hp → Prop} (h : EvAR t σ H R) (k : ∀ vs H1, Ex H H1 → R vs H1 → ∃ x y z, vs = [x, y, z] ∧ tz D (((σ.set i (some x)).set j (some y)).set l (some z)) H1) : tSeq (tPar3 i j l t) tz D σ H := h H (Ex.refl H) _ k
/-- 1 <= b <= c, b told by what is true of it -/
theorem et_between {k : Nat} {tc : TE} (hb : EvR tb σ H fun v _ => ∃ m : Nat, 1 ≤ m ∧ m ≤ k ∧ v = .int (m : Int)) (hc : Ev tc σ H (.int (k : Int))) : EvT (fun σ H Q => tChain (rI0 fun i j => .bl (decide (i ≤ j))) (rI0 fun i j => .bl (decide (i ≤ j))) (tC (.int 1)) tb tc σ H fun v H1 => ∃ b, v = .bl b ∧ Q b H1) σ H true := fun H1 e Q q =>
  hb H1 e _ fun v H2 e2 ⟨m, m1, m2, hv⟩ => by
    subst hv
    refine ⟨1, (m : Int), rfl, rfl, true, by show V.bl (decide ((1 : Int) ≤ (m : Int))) = V.bl true; rw [decide_eq_true (show (1 : Int) ≤ m by omega)], ?_⟩
    show tc σ H2 _
    refine hc H2 (e.trans e2) _ fun H3 e3 => ⟨(m : Int), (k : Int), rfl, rfl, true, by show V.bl (decide ((m : Int) ≤ (k : Int))) = V.bl true; rw [decide_eq_true (show (m : Int) ≤ k by omega)], q H3 (e2.trans e3)⟩
end
section
variable {P : Program} {w : World} {K : PySem.W.Frag} {mg : Str → Option Value} {base : Heap}

theorem evr_pairs {n k : Nat} {f : Nat → Nat → Int} {p : Nat → Nat → Nat} {σ : L2.St} {H : Hp} {ta : TE} {E : XK} (ha : EvR ta σ H fun v H1 => OkF K n k f v H1) (hp : ∀ i j, i < n → j < n → IsPair n (nz f) i j (p i j)) : EvR (tCall (sp_first_pairs K) [] E (tCons ta tNil)) σ H (Tab K n fun i j => (p i j : Int)) :=
  evr_call1 ha fun x H1 e hx => spR_of fun H2 e2 => ⟨n, k, p, f, x, rfl, hx.mono e2, hp, rfl⟩
def sp_u_law_right (K : PySem.W.Frag) : Sp := spR fun vs H R => ∃ (n k : Nat) (f : Nat → Nat → Int) (o : Nat → Nat) (v u : V), vs = [v, u] ∧ OkF K n k f v H ∧ OrdAt n o u H ∧ ((List.range n).map o).Perm (List.range n) ∧ R = IsV (.bl true)
theorem ok_u_law_right (T : Txt K mg) : FnOk P w K mg base CX0 6 T.u_law_right.f T.u_law_right.fd ["_law_table", "_law_order_here"] (sp_u_law_right K) := by
  refine T.u_law_right.F.ok sc_u_law_right (fun vs H Q E h => ?_) (fun cdv A outer s H vs Q E hr h => ?_)
  · obtain ⟨_, ⟨n, k, f, o, v, u, rfl, hv, hu, ho, rfl⟩, q⟩ := h
    rfl
  · obtain ⟨_, ⟨n, k, f, o, v, u, rfl, hv, hu, ho, rfl⟩, q⟩ := h
    refine ⟨_, (pss_cons (ps_par3 (i := 2) (j := 3) (l := 4) (by rfl) sc_u_law_right.nd rfl rfl rfl (by decide) (by decide) (by decide) rfl rfl rfl (pa_cons (pe_callB (len_K (K := K)) (by rfl) T.b_len (by decide +kernel) (pa_cons (pv 0) pa_nil)) (pa_cons (pe_call (ok_first_power T) (hr.mono (by decide)) (by rfl) T.first_power.g T.first_power.F.kp T.first_power.b .nil pass0 (pa_cons (pv 0) pa_nil)) (pa_cons (pe_call (ok_first_pairs T) (hr.mono (by decide)) (by rfl) T.first_pairs.g T.first_pairs.F.kp T.first_pairs.b .nil pass0 (pa_cons (pv 0) pa_nil)) pa_nil))) (by rfl))
        (pss_cons (ps_setLc (i := 5) (own := [("_law_place", 6)]) (g := gName 6) (tt := tYes) rfl sc_u_law_right.nd rfl rfl (sw_true rfl rfl rfl (by decide +kernel)) (pi_range1 (by rfl) T.b_range (pa_cons (pv 2) pa_nil)) (blkOk_by (by dsimp only [cxOf, envOfC]; decide +kernel)) (fun _ _ _ _ _ => (pg_name (i := 6) sc_u_law_right.nd rfl (by first | exact .inl rfl | exact .inr rfl))) (fun _ _ _ _ _ => pts_nil) (fun _ _ _ _ _ => (pe_call (ok_first_row T) (hr.mono (by decide)) (by rfl) T.first_row.g T.first_row.F.kp T.first_row.b .nil pass0 (pa_cons (pv 0) (pa_cons (pv 6) pa_nil)))))
        (pss_cons (ps_if (PW.pt (pw_or (pt_cmpR op_ne (pe_callB (max_K (K := K)) (by rfl) T.b_max (by decide +kernel) (pa_cons (pe_lc (own := [("_law_row", 7)]) (g := gName 7) (tt := tYes) rfl sc_u_law_right.nd (pi_tupK (K := K) (pv 4)) (blkOk_by (by dsimp only [cxOf, envOfC]; decide +kernel)) (fun _ _ _ _ _ => (pg_name (i := 7) sc_u_law_right.nd rfl (by first | exact .inl rfl | exact .inr rfl))) (fun _ _ _ _ _ => pts_nil) (fun _ _ _ _ _ => (pe_callB (maxT_K (K := K)) (by rfl) T.b_max (by decide +kernel) (pa_cons (pv 7) pa_nil)))) pa_nil)) (pv 3) (nomark _)) (pw_or (pt_cmpR op_ne (pe_callB (max_K (K := K)) (by rfl) T.b_max (by decide +kernel) (pa_cons (pv 5) pa_nil)) (pv 3) (nomark _)) (pw_or1 (pt_not (pt_chain op_le op_le pe_int (pe_call (ok_meeting T) (hr.mono (by decide)) (by rfl) T.meeting.g T.meeting.F.kp T.meeting.b .nil pass0 (pa_cons (pv 0) pa_nil)) (pv 3))))))) (pss_one (ps_ret pe_bl)) pss_nil)
        (pss_cons (ps_for PassesOwn.never rfl (pi_range1 (by rfl) T.b_range (pa_cons (pv 2) pa_nil)) (pg_name (i := 8) sc_u_law_right.nd rfl (by first | exact .inl rfl | exact .inr rfl)) (pss_cons (ps_if (pt_cmpR op_gt (pe_ix (ix_listK (K := K)) (pv 5) (pv 8) (fun _ _ => rfl)) (pe_callB (maxT_K (K := K)) (by rfl) T.b_max (by decide +kernel) (pa_cons (pe_ix (ix_tupK (K := K)) (pv 4) (pv 8) (fun _ _ => rfl)) pa_nil)) (nomark _)) (pss_one (ps_ret pe_bl)) pss_nil)
        (pss_one (ps_for PassesOwn.never rfl (pi_range1 (by rfl) T.b_range (pa_cons (pv 2) pa_nil)) (pg_name (i := 9) sc_u_law_right.nd rfl (by first | exact .inl rfl | exact .inr rfl)) (pss_one (ps_if (PW.pt (pw_and (pt_cmpR op_gt (pe_ix (ix_tupK (K := K)) (pe_ix (ix_tupK (K := K)) (pv 0) (pv 8) (fun _ _ => rfl)) (pv 9) (fun _ _ => rfl)) pe_int (nomark _)) (pw_and1 (pt_cmpR op_gt (pe_ix (ix_listK (K := K)) (pv 5) (pv 8) (fun _ _ => rfl)) (pe_op op_add (pe_ix (ix_listK (K := K)) (pv 5) (pv 9) (fun _ _ => rfl)) pe_int) (nomark _))))) (pss_one (ps_ret pe_bl)) pss_nil))))))
        (pss_cons (ps_if (PW.pt (pw_or (pt_cmpR (op_neD hr.units) (pe_call (ok_first_pairs T) (hr.mono (by decide)) (by rfl) T.first_pairs.g T.first_pairs.F.kp T.first_pairs.b .nil pass0 (pa_cons (pe_call (ok_turned T) (hr.mono (by decide)) (by rfl) T.turned.g T.turned.F.kp T.turned.b .nil pass0 (pa_cons (pv 0) pa_nil)) pa_nil)) (pe_call (ok_turned T) (hr.mono (by decide)) (by rfl) T.turned.g T.turned.F.kp T.turned.b .nil pass0 (pa_cons (pv 4) pa_nil)) (nomark _)) (pw_or1 (pt_cmpR (op_neD hr.units) (pe_call (ok_first_pairs T) (hr.mono (by decide)) (by rfl) T.first_pairs.g T.first_pairs.F.kp T.first_pairs.b .nil pass0 (pa_cons (pe_call (ok_marks T) (hr.mono (by decide)) (by rfl) T.marks.g T.marks.F.kp T.marks.b .nil pass0 (pa_cons (pv 0) pa_nil)) pa_nil)) (pv 4) (nomark _))))) (pss_one (ps_ret pe_bl)) pss_nil)
        (pss_one (ps_ret (pe_cmpR (op_eqD hr.units) (pe_call (ok_first_pairs T) (hr.mono (by decide)) (by rfl) T.first_pairs.g T.first_pairs.F.kp T.first_pairs.b .nil pass0 (pa_cons (pe_call (ok_renamed T) (hr.mono (by decide)) (by rfl) T.renamed.g T.renamed.F.kp T.renamed.b .nil pass0 (pa_cons (pv 0) (pa_cons (pv 1) pa_nil))) pa_nil)) (pe_call (ok_renamed T) (hr.mono (by decide)) (by rfl) T.renamed.g T.renamed.F.kp T.renamed.b .nil pass0 (pa_cons (pv 4) (pa_cons (pv 1) pa_nil))) (nomark _))))))))), ?_⟩
    have h1 := hv.one
    have h6 := hv.six
    have hk := hv.first
    obtain ⟨p, hp⟩ := pairs_exist hk
    obtain ⟨r, hr'⟩ := rows_exist hk
    obtain ⟨M, hM⟩ := maxes_exist (g := p) h1
    have cols : ∀ i, i < n → M i ≤ k := fun i hi => by
      obtain ⟨⟨j, hj, e⟩, _⟩ := hM i
      rw [← e]
      exact pair_le hk hi hj (hp i j hi hj)
    have topP : IsMax n M k := by
      obtain ⟨i, j, hi, hj, e⟩ := pair_top h1 hk p hp
      refine ⟨⟨i, hi, ?_⟩, cols⟩
      have a1 := (hM i).2 j hj
      have a2 := cols i hi
      omega
    have topR : IsMax n (fun i => r i + 1) k := by
      obtain ⟨i, hi, e⟩ := row_top h1 hk r hr'
      exact ⟨⟨i, hi, e⟩, fun j hj => row_le hk hj (hr' j hj)⟩
    have m1 : ∀ i, i < n → 1 ≤ M i := fun i hi => by
      obtain ⟨⟨j, hj, e⟩, _⟩ := hM i
      rw [← e]
      exact (hp i j hi hj).1
    have posP : ∀ i j, i < n → j < n → (0 : Int) ≤ (p i j : Int) := fun i j _ _ => Int.natCast_nonneg _
    refine q_par3 (ear_cons (.is (ev_lenT (ev_var rfl) hv.tab)) (mt_is _).e fun H1 e1 => ear_cons (.is (v := .int (k : Int)) (evr_callV (ea_cons (ev_var rfl) ea_nil) (spR_of fun H2 e => ⟨n, k, f, v, rfl, hv.mono (e1.trans e), rfl⟩)).ev) (mt_is _).e fun H2 e2 => ear_cons (evr_pairs (.of (ev_var rfl) (fun _ _ _ e h => OkF.mono h e) (hv.mono (e1.trans e2))) hp) mt_tab.e fun _ _ => ear_nil) ?_
    rintro vs H1 e1 ⟨x, xs, rfl, (hx : x = _), y, ys, rfl, (hy : y = _), pv', zs, rfl, tp, rfl⟩
    subst hx hy
    refine ⟨_, _, pv', rfl, ?_⟩
    -- the rows
    refine q_asgL (xs := (List.range n).map fun i => .int ((r i + 1 : Nat) : Int)) (lcV (src_range (ea_cons (ev_var rfl) ea_nil) rfl (by omega)) (by omega) (fun _ => rfl) fun i x H2 hi e2 (hx : x = _) => ?_) fun l H2 hl e2 hl2 => ?_
    · subst hx
      exact (evr_callV (ea_cons (ev_var rfl) (ea_cons (ev_var rfl) ea_nil)) (spR_of fun H3 e => ⟨n, k, i, r i, f, v, rfl, hv.mono ((e1.trans e2).trans e), hi, hr' i hi, by rw [Int.natCast_add]; rfl⟩)).ev
    have e12 := e1.trans e2
    have tp2 := mt_tab.e _ _ _ e2 tp
    -- the greatest of the pairs', of the rows'; rows meet no later
    refine q_when (b := false) (et_is (et_or (et_test (ev_op (ev_maxL (g := M) (lcV (src_tup (.of (ev_var rfl) mt_tab.e tp2) fun _ => mt_row) (by omega) (fun _ => rfl) fun i x H3 hi e3 hx => ev_maxT (g := p i) (ev_var rfl) hx (hM i)) topP) (ev_var rfl) (rv_ne rfl))) fun _ => et_or (et_test (ev_op (ev_maxV (g := fun i => r i + 1) (ev_var rfl) (sq_of hl2) topR) (ev_var rfl) (rv_ne rfl))) fun _ => et_not (et_between (evr_callV (ea_cons (ev_var rfl) ea_nil) (spR_of fun H3 e => ⟨n, k, f, v, rfl, hv.mono (e12.trans e), rfl⟩)) (ev_var rfl))) ?_) (fun z => nomatch z) fun _ H3 e3 => ?_
    · rw [decide_eq_true rfl]
      rfl
    have e13 := e12.trans e3
    -- a row is full where all its pairs are; a place behind an arrow
    refine q_forS (src_range (ea_cons (ev_var rfl) ea_nil) rfl (by omega)) (fun H4 i σ' H' => Ex H4 H' ∧ ∃ y6 y7 y8 y9, σ' = [some v, some u, some (.int (n : Int)), some (.int (k : Int)), some pv', some (.ref l), y6, y7, y8, y9]) (fun H4 e4 => ⟨Ex.refl _, none, none, none, none, rfl⟩) (fun _ _ _ _ _ p => p.1) ?_ ?_
    · rintro H4 i x σ' H' H5 e4 hi ⟨x1, y6, y7, y8, y9, rfl⟩ e5 hx
      have hx : x = .int (i : Int) := hx
      subst hx
      have e35 := (e4.trans x1).trans e5
      have hl5 := (e3.trans e35) _ _ hl2
      have tp5 := mt_tab.e _ _ _ (e3.trans e35) tp2
      have hv5 := hv.mono (e13.trans e35)
      have mi := row_pairs (hr' i hi) (p i) (fun j hj => hp i j hi hj) (M i) (hM i).2 (m1 i hi)
      refine q_when (b := false) (et_is (et_test (ev_op (ev_op (ev_var rfl) (ev_var rfl) (rv_ixL (sq_of hl5) (at_range hi))) (ev_maxIx (ev_var rfl) tp5 (ev_var rfl) hi (hM i)) rv_I0)) ?_) (fun z => nomatch z) fun _ H6 e6 => ?_
      · exact decide_eq_false (by omega)
      refine s_forS (src_range (ea_cons (ev_var rfl) ea_nil) rfl (by omega)) (fun H7 j σ' H' => Ex H7 H' ∧ ∃ y9, σ' = [some v, some u, some (.int (n : Int)), some (.int (k : Int)), some pv', some (.ref l), y6, y7, some (.int (i : Int)), y9]) (fun H7 e7 => ⟨Ex.refl _, y9, rfl⟩) (fun _ _ _ _ _ p => p.1) ?_ fun H7 σ' H' e7 ⟨x7, y9, hσ⟩ => ⟨(x1.trans (e5.trans e6)).trans (e7.trans x7), y6, y7, _, y9, hσ⟩
      rintro H7 j x σ' H' H8 e7 hj ⟨x7, y9, rfl⟩ e8 hx
      have hx : x = .int (j : Int) := hx
      subst hx
      have e58 := e6.trans ((e7.trans x7).trans e8)
      have hl8 := e58 _ _ hl5
      have hv8 := hv5.mono e58
      refine s_when (b := false) (et_is (et_and (et_test (ev_op (ev_ix2 (ev_var rfl) hv8.tab (ev_var rfl) hi (ev_var rfl) hj) ev_c rv_I0)) fun _ => et_test (ev_op (ev_op (ev_var rfl) (ev_var rfl) (rv_ixL (sq_of hl8) (at_range hi))) (ev_op (ev_op (ev_var rfl) (ev_var rfl) (rv_ixL (sq_of hl8) (at_range hj))) ev_c rv_I0) rv_I0)) ?_) (fun z => nomatch z) fun _ H9 e9 => ⟨x7.trans (e8.trans e9), _, rfl⟩
      by_cases z : f i j = 0
      · rw [decide_eq_false (by omega)]
        rfl
      · have := row_arrow hj (nz_iff.mpr z) (hr' i hi) (hr' j hj)
        rw [Bool.and_eq_false_iff]
        exact .inr (decide_eq_false (by omega))
    · rintro H4 σ' H' e4 ⟨x1, y6, y7, y8, y9, rfl⟩
      have e3' := e3.trans (e4.trans x1)
      have hv' := hv.mono (e12.trans e3')
      have tp' := mt_tab.e _ _ _ e3' tp2
      have hu' := mt_ord.e _ _ _ (e12.trans e3') hu
      have okP : ∀ {H}, Tab K n (fun i j => (p i j : Int)) pv' H → OkT K n (fun i j => (p i j : Int)) pv' H := fun t => ⟨h1, h6, t, posP⟩
      have pP : ∀ i j, i < n → j < n → IsPair n (fun i j => nz f j i) i j (p j i) := fun i j hi hj => pair_turn (a := fun i j => nz f j i) (hp j i hj hi)
      refine q_when (b := false) (et_is (et_or (et_test (ev_neTab (f := fun i j => (p j i : Int)) (g := fun i j => (p j i : Int)) (evr_pairs (k := k) (f := fun i j => f j i) (p := fun i j => p j i) ((evr_callV (R := Tab K n fun i j => f j i) (ea_cons (ev_var rfl) ea_nil) (spR_of fun H5 e => ⟨n, f, v, rfl, (hv'.mono e).toOkT, rfl⟩)).imp fun w H5 e t => ⟨⟨h1, h6, t, fun i j hi hj => hv.pos j i hj hi⟩, first_turn hk, hv.low⟩) pP) (fun H5 e5 => evr_callV (ea_cons (ev_var rfl) ea_nil) (spR_of fun H6 e => ⟨n, fun i j => (p i j : Int), pv', rfl, okP (mt_tab.e _ _ _ (e5.trans e) tp'), rfl⟩)) fun _ _ _ _ => rfl)) fun _ => et_test (ev_neTab (f := fun i j => (p i j : Int)) (g := fun i j => (p i j : Int)) (evr_pairs (k := k) (f := b2 (nz f)) (p := p) ((evr_callV (R := Tab K n (b2 (nz f))) (ea_cons (ev_var rfl) ea_nil) (spR_of fun H5 e => ⟨n, f, v, rfl, (hv'.mono e).toOkT, rfl⟩)).imp fun w H5 e t => ⟨⟨h1, h6, t, fun i j _ _ => b2_pos _ i j⟩, by rw [nz_b2]; exact hk, hv.low⟩) (by rw [nz_b2]; exact hp)) (fun H5 e5 => .of (ev_var rfl) mt_tab.e (mt_tab.e _ _ _ e5 tp')) fun _ _ _ _ => rfl)) rfl) (fun z => nomatch z) fun _ H5 e5 => ?_
      have lt : ∀ i, i < n → backOf n o i < n := fun i hi => (back_lt ho hi).1
      have on : ∀ i, i < n → ∃ i', i' < n ∧ backOf n o i' = i := fun i hi => back_onto ho hi
      refine s_ret (v := .bl true) (ev_eqTab (f := fun i j => (p (backOf n o i) (backOf n o j) : Int)) (g := fun i j => (p (backOf n o i) (backOf n o j) : Int)) (evr_pairs (k := k) (f := fun i j => f (backOf n o i) (backOf n o j)) (p := fun i j => p (backOf n o i) (backOf n o j)) ((evr_callV (R := Tab K n fun i j => f (backOf n o i) (backOf n o j)) (ea_cons (ev_var rfl) (ea_cons (ev_var rfl) ea_nil)) (spR_of fun H6 e => ⟨n, f, o, v, u, rfl, (hv'.mono (e5.trans e)).toOkT, mt_ord.e _ _ _ (e5.trans e) hu', ho, rfl⟩)).imp fun w H6 e t => ⟨⟨h1, h6, t, fun i j hi hj => hv.pos _ _ (lt i hi) (lt j hj)⟩, first_name lt on hk, hv.low⟩) fun i j hi hj => pair_name' lt on hi hj (hp _ _ (lt i hi) (lt j hj))) (fun H6 e6 => evr_callV (ea_cons (ev_var rfl) (ea_cons (ev_var rfl) ea_nil)) (spR_of fun H7 e => ⟨n, fun i j => (p i j : Int), o, pv', u, rfl, okP (mt_tab.e _ _ _ (e5.trans (e6.trans e)) tp'), mt_ord.e _ _ _ (e5.trans (e6.trans e)) hu', ho, rfl⟩)) fun _ _ _ _ => rfl) fun H6 e6 => q _ _ ((e12.trans e3').trans (e5.trans e6)) rfl
end
end K56
namespace K56
open PySem PySem.Spec PyProof.Rows L2 Evl

theorem cut_ints (ns : List Int) (lo hi : Option Int) : ∃ js : List Int, cutV (ns.map V.int) lo hi = js.map V.int ∧ js.length ≤ ns.length := by
  refine ⟨(ns.drop (HT.sIx (ns.map V.int).length 0 lo)).take (HT.sIx (ns.map V.int).length (ns.map V.int).length hi - HT.sIx (ns.map V.int).length 0 lo), ?_, ?_⟩
  · unfold cutV
    rw [List.map_take, List.map_drop]
  · rw [List.length_take, List.length_drop]
    omega
/-- how far on the law looks -/
def fars (r1 r2 t : Nat) : Int := [(0 : Int), 1, (r1 : Int), (10 : Int) ^ (9 : Int).toNat + (r2 : Int)].getD t 0
theorem fars_at {r1 r2 t : Nat} (h1 : r1 < 30) (h2 : r2 < 99) (ht : t < 4) : ∃ m : Nat, fars r1 r2 t = (m : Int) ∧ m ≤ 1000000099 := by
  have : t = 0 ∨ t = 1 ∨ t = 2 ∨ t = 3 := by omega
  rcases this with rfl | rfl | rfl | rfl
  · exact ⟨0, rfl, by omega⟩
  · exact ⟨1, rfl, by omega⟩
  · exact ⟨r1, rfl, by omega⟩
  · exact ⟨1000000000 + r2, rfl, by omega⟩
section
variable {P : Program} {w : World} {K : PySem.W.Frag} {mg : Str → Option Value} {base : Heap}
theorem evl_start {σ : L2.St} {H : Hp} {a : Addr} {ns : List Int} (h0 : σ[0]? = some (some (.ref a))) (hs : SqL K H a (ns.map V.int)) (hl : ns.length ≤ 63) :
    ∃ N, ∀ E : XK, EvLR (tOp rCat (tLst (tCons (tCall (sp_u_law_cell K) [] E (tCons (tVar 0) (tCons (tC (.int 0)) tNil))) tNil)) (tSl (rSlL K) (tVar 0) (tPart (tC (.int 1))) (tPart (tC (.int 5))))) σ H N fun _ v _ => ∃ i : Int, v = .int i := by
  obtain ⟨js, hj, hjl⟩ := cut_ints ns (some 1) (some 5)
  refine ⟨js.length + 1, fun E H1 e1 Q q => ?_⟩
  have A : EvAR (tCons (tCall (sp_u_law_cell K) [] E (tCons (tVar 0) (tCons (tC (.int 0)) tNil))) tNil) σ H fun vs _ => ∃ i : Int, vs = [.int i] := fun H1 e1 Q q =>
    (evr_callV (R := fun v _ => ∃ i : Int, v = .int i) (ea_cons (ev_var h0) (ea_cons ev_c ea_nil)) (spR_of fun H2 e => ⟨a, ns, rfl, ex_l e hs, hl, rfl⟩) : EvR (tCall (sp_u_law_cell K) [] E (tCons (tVar 0) (tCons (tC (.int 0)) tNil))) σ H fun v _ => ∃ i : Int, v = .int i) H1 e1 _ fun v H2 e2 ⟨i, hv⟩ => q [v] H2 e2 ⟨i, by rw [hv]⟩
  have B : ∀ Q : VK, (∀ i l H3, H1 l = none → Ex H1 H3 → H3 l = some (.lst [.int i]) → Q (.ref l) H3) → tLst (tCons (tCall (sp_u_law_cell K) [] E (tCons (tVar 0) (tCons (tC (.int 0)) tNil))) tNil) σ H1 Q := fun Q q => A H1 e1 (fun xs H1 => xs.length ≤ sizeLine ∧ ∀ p, H1 p = none → Q (.ref p) (upd H1 p (.lst xs))) fun vs H2 e2 ⟨i, h⟩ => by
    subst h
    exact ⟨show 1 ≤ sizeLine by decide, fun l hl2 => q i l _ (fresh_back e2 hl2) (e2.trans (Ex.new hl2)) upd_same⟩
  refine B _ fun i l H3 hl2 e3 h3 => ?_
  refine (el_sl (ev_var h0) (eo_some ev_c) (eo_some ev_c) hs) _ (e1.trans e3) _ fun p H4 hp e4 h4 => ?_
  refine ⟨l, p, [.int i], _, rfl, rfl, e4 _ _ h3, h4, ?_, fun r hr => ?_⟩
  · rw [hj, List.length_map]
    exact sz_of (show 1 + js.length ≤ 100000 by omega)
  · have e5 : Ex H4 (upd H4 r (.lst ([.int i] ++ cutV (ns.map V.int) (some 1) (some 5)))) := Ex.new hr
    refine q r (fun t => .int ((i :: js).getD t 0)) _ (fresh_back (e3.trans e4) hr) (e3.trans (e4.trans e5)) ?_ fun _ _ => ⟨_, rfl⟩
    rw [upd_same, hj]
    have z : (i :: js).length = js.length + 1 := rfl
    have := congrArg (List.map V.int) (len_get (d := (0 : Int)) z)
    rw [List.map_map] at this
    exact congrArg (fun l => some (HO.lst l)) this

def spLaw (K : PySem.W.Frag) : Sp := fun vs H Q _ => ∃ (a : Addr) (ns : List Int), vs = [.ref a] ∧ SqL K H a (ns.map V.int) ∧ ns.length ≤ 63 ∧ ∀ H', Q (.bl true) H'
theorem ok_law (T : Txt K mg) {f : Addr} {fd : FuncData} (F : Fun K "law" "law" s_law f fd) : FnOk P w K mg base CX0 7 f fd ["_law_script"] (spLaw K) := by
  refine F.ok sc_law (fun vs H Q E h => ?_) (fun cdv A outer s H vs Q E hr h => ?_)
  · obtain ⟨a, ns, rfl, hs, hl, q⟩ := h
    rfl
  · obtain ⟨a, ns, rfl, hs, hl, q⟩ := h
    refine ⟨_, (pss_cons (ps_for PassesOwn.never rfl (pi_listK (K := K) (pe_op op_cat (pe_lst (pa_cons (pe_call (ok_u_law_cell T) (hr.mono (by decide)) (by rfl) T.u_law_cell.g T.u_law_cell.F.kp T.u_law_cell.b .nil pass0 (pa_cons (pv 0) (pa_cons pe_int pa_nil))) pa_nil)) (pe_slice sl_list (pv 0) (po_some pe_int) (po_some pe_int)))) (pg_name (i := 1) sc_law.nd rfl (by first | exact .inl rfl | exact .inr rfl)) (pss_cons (ps_set (i := 2) sc_law.nd rfl (by first | exact .inl rfl | exact .inr rfl) (pe_call (ok_u_law_pen T) (hr.mono (by decide)) (by rfl) T.u_law_pen.g T.u_law_pen.F.kp T.u_law_pen.b .nil pass0 (pa_cons (pv 1) pa_nil)))
        (pss_cons (ps_set (i := 3) sc_law.nd rfl (by first | exact .inl rfl | exact .inr rfl) (pe_call (ok_u_law_size T) (hr.mono (by decide)) (by rfl) T.u_law_size.g T.u_law_size.F.kp T.u_law_size.b .nil pass0 (pa_cons (pv 2) pa_nil)))
        (pss_cons (ps_set (i := 4) sc_law.nd rfl (by first | exact .inl rfl | exact .inr rfl) (pe_call (ok_u_law_good_table T) (hr.mono (by decide)) (by rfl) T.u_law_good_table.g T.u_law_good_table.F.kp T.u_law_good_table.b .nil pass0 (pa_cons (pv 2) (pa_cons (pv 3) pa_nil))))
        (pss_cons (ps_if (pt_not (pt_val (pe_call (ok_u_law_right T) (hr.mono (by decide)) (by rfl) T.u_law_right.g T.u_law_right.F.kp T.u_law_right.b .nil pass0 (pa_cons (pv 4) (pa_cons (pe_call (ok_u_law_order T) (hr.mono (by decide)) (by rfl) T.u_law_order.g T.u_law_order.F.kp T.u_law_order.b .nil pass0 (pa_cons (pv 2) (pa_cons (pv 3) pa_nil))) pa_nil))))) (pss_one (ps_ret pe_bl)) pss_nil)
        (pss_cons (ps_par (i := 5) (j := 6) (by rfl) sc_law.nd rfl rfl (by decide) rfl rfl (pa_cons (pe_call (ok_u_law_draw T) (hr.mono (by decide)) (by rfl) T.u_law_draw.g T.u_law_draw.F.kp T.u_law_draw.b .nil pass0 (pa_cons (pv 2) (pa_cons (pv 3) pa_nil))) (pa_cons (pe_call (ok_u_law_draw T) (hr.mono (by decide)) (by rfl) T.u_law_draw.g T.u_law_draw.F.kp T.u_law_draw.b .nil pass0 (pa_cons (pv 2) (pa_cons (pv 3) pa_nil))) pa_nil)) (by rfl))
        (pss_cons (ps_set (i := 7) sc_law.nd rfl (by first | exact .inl rfl | exact .inr rfl) (pe_call (ok_first_pair T) (hr.mono (by decide)) (by rfl) T.first_pair.g T.first_pair.F.kp T.first_pair.b .nil pass0 (pa_cons (pv 4) (pa_cons (pv 5) (pa_cons (pv 6) pa_nil)))))
        (pss_cons (ps_if (PW.pt (pw_and (pt_cmpR op_gt (pv 7) pe_int (nomark _)) (pw_and1 (pt_cmpR op_ne (pe_ix (ix_tupK (K := K)) (pe_ix (ix_tupK (K := K)) (pe_call (ok_marks_of T) (hr.mono (by decide)) (by rfl) T.marks_of.g T.marks_of.F.kp T.marks_of.b .nil pass0 (pa_cons (pv 4) (pa_cons (pe_op op_sub (pv 7) pe_int) pa_nil))) (pv 5) (fun _ _ => rfl)) (pv 6) (fun _ _ => rfl)) pe_int (nomark _))))) (pss_one (ps_ret pe_bl)) pss_nil)
        (pss_one (ps_for PassesOwn.never rfl (pi_listK (K := K) (pe_lst (pa_cons pe_int (pa_cons pe_int (pa_cons (pe_call (ok_u_law_draw T) (hr.mono (by decide)) (by rfl) T.u_law_draw.g T.u_law_draw.F.kp T.u_law_draw.b .nil pass0 (pa_cons (pv 2) (pa_cons pe_int pa_nil))) (pa_cons (pe_op op_add (pe_op op_pow pe_int pe_int) (pe_call (ok_u_law_draw T) (hr.mono (by decide)) (by rfl) T.u_law_draw.g T.u_law_draw.F.kp T.u_law_draw.b .nil pass0 (pa_cons (pv 2) (pa_cons pe_int pa_nil)))) pa_nil)))))) (pg_name (i := 8) sc_law.nd rfl (by first | exact .inl rfl | exact .inr rfl)) (pss_one (ps_if (pt_cmpR op_ne (pe_ix (ix_tupK (K := K)) (pe_ix (ix_tupK (K := K)) (pe_call (ok_marks_of T) (hr.mono (by decide)) (by rfl) T.marks_of.g T.marks_of.F.kp T.marks_of.b .nil pass0 (pa_cons (pv 4) (pa_cons (pe_op op_add (pv 7) (pv 8)) pa_nil))) (pv 5) (fun _ _ => rfl)) (pv 6) (fun _ _ => rfl)) pe_int (nomark _)) (pss_one (ps_ret pe_bl)) pss_nil))))))))))))
        (pss_one (ps_ret pe_bl))), ?_⟩
    obtain ⟨N, hN⟩ := evl_start (K := K) (σ := [some (.ref a), none, none, none, none, none, none, none, none]) (H := H) rfl hs hl
    refine q_forS (src_new (hN _) fun _ _ _ _ _ h => h) (fun H1 i σ' H' => Ex H1 H' ∧ ∃ y1 y2 y3 y4 y5 y6 y7 y8, σ' = [some (.ref a), y1, y2, y3, y4, y5, y6, y7, y8]) (fun H1 e1 => ⟨Ex.refl _, none, none, none, none, none, none, none, none, rfl⟩) (fun _ _ _ _ _ p => p.1) ?_ fun H1 σ' H' e1 ⟨x1, _⟩ => s_ret ev_c fun H2 e2 => q H2
    rintro H1 i x σ' H' H2 e1 hi ⟨x1, y1, y2, y3, y4, y5, y6, y7, y8, rfl⟩ e2 ⟨c, rfl⟩
    refine ⟨.int c, rfl, c, rfl, fun p H3 hp e3 hp3 => ?_⟩
    refine ⟨.ref p, rfl, p, rfl, hp3, fun n H4 h1 h6 b4 hp4 => ?_⟩
    refine ⟨.ref p, rfl, .int (n : Int), rfl, p, n, rfl, h1, h6, hp4, fun k g v H5 hv5 b5 hp5 => ?_⟩
    refine ⟨v, rfl, .ref p, rfl, .int (n : Int), rfl, p, n, rfl, h6, hp5, fun o u H6 ho hu b6 hp6 => ?_⟩
    have hv6 := hv5.t (b6.t hp5)
    refine (spR_of (R := IsV (.bl true)) fun H e => ⟨n, k, g, o, v, u, rfl, hv6.mono e, mt_ord.e _ _ _ e hu, ho, rfl⟩ : SpR (sp_u_law_right K) [v, u] H6 (IsV (.bl true))) H6 (Ex.refl _) _ (fun r H7 e7 (hr7 : r = _) => ?_) E
    subst hr7
    refine ⟨true, rfl, ?_⟩
    refine (if_neg (show ¬ ((!true) = true) by decide)).mpr ?_
    have hv7 := hv6.mono e7
    have hp7 := hp6.mono e7
    refine rd_draw (ev_var rfl) (ev_var rfl) (by omega) (by omega) hp7 fun i1 H8 hi1 b8 hp8 => rd_draw (ev_var rfl) (ev_var rfl) (by omega) (by omega) hp8 fun j1 H9 hj1 b9 hp9 => ⟨.int (i1 : Int), .int (j1 : Int), rfl, ?_⟩
    have hv9 := hv7.t ((b8.trans b9).t hp7)
    have hi : i1 < n := by omega
    have hj : j1 < n := by omega
    obtain ⟨q0, hq⟩ := pair_exists hv9.first hi hj
    have b39 : ExB p H3 H9 := ((((b4.trans b5).trans b6).trans (ex_B e7)).trans b8).trans b9
    have kle := hv9.le
    have qle := pair_le hv9.first hi hj hq
    refine q_asg (v := .int (q0 : Int)) (evr_callV (ea_cons (ev_var rfl) (ea_cons (ev_var rfl) (ea_cons (ev_var rfl) ea_nil))) (spR_of fun H e => ⟨n, k, i1, j1, q0, g, v, rfl, hv9.mono e, hi, hj, hq, rfl⟩)).ev fun H10 e10 => ?_
    have hv10 := hv9.mono e10
    have q1 := hq.1
    refine q_when (b := false) (et_is (et_and (et_test (ev_op (ev_var rfl) ev_c rv_I0)) fun hb => et_test (ev_op (evr_ix2 (f := b2 (pw n (nz g) (q0 - 1 - 1))) (evr_callV (ea_cons (ev_var rfl) (ea_cons (ev_is (w := .int ((q0 - 1 : Nat) : Int)) (ev_op (ev_var rfl) ev_c rv_I0) ?_) ea_nil)) (spR_of fun H e => ⟨n, k, q0 - 1, g, v, rfl, hv10.mono e, ?_, ?_, rfl⟩)) (ev_var rfl) hi (ev_var rfl) hj) ev_c (rv_ne rfl))) ?_) (fun z => nomatch z) fun _ H11 e11 => ?_
    · exact congrArg V.int (by omega)
    · have := of_decide_eq_true hb
      omega
    · exact Nat.le_trans (show q0 - 1 ≤ 100 by omega) (by decide)
    · rcases hq.2.2 with z | z
      · rw [decide_eq_false (by omega)]
        rfl
      · rw [Bool.and_eq_false_iff]
        refine .inr ?_
        unfold b2
        rw [show q0 - 1 - 1 = q0 - 2 by omega, z]
        rfl
    have hv11 := hv10.mono e11
    have hp11 := hp9.mono (e10.trans e11)
    have b311 := b39.trans (ex_B (e10.trans e11))
    refine rd_draw (ev_var rfl) ev_c (by decide) (by decide) hp11 fun r1 H12 hr1 b12 hp12 => ?_
    refine (ev_op ev_c ev_c (rv_I ⟨by decide, by decide, by decide⟩) : Ev (tOp (rI CPow fun i j => .int (i ^ j.toNat)) (tC (.int 10)) (tC (.int 9))) _ H12 (.int ((10 : Int) ^ (9 : Int).toNat))) H12 (Ex.refl _) _ fun H13 e13 => ?_
    refine rd_draw (ev_var rfl) ev_c (by decide) (by decide) (hp12.mono e13) fun r2 H14 hr2 b14 hp14 => ⟨(10 : Int) ^ (9 : Int).toNat, (r2 : Int), rfl, rfl, show 4 ≤ sizeLine by decide, fun l hl => ⟨l, rfl, ⟨_, sq_of upd_same⟩, ?_⟩⟩
    have h15 : SqL K (upd H14 l (.lst [.int 0, .int 1, .int (r1 : Int), .int ((10 : Int) ^ (9 : Int).toNat + (r2 : Int))])) l ((List.range 4).map fun t => V.int (fars r1 r2 t)) := sq_of upd_same
    have e15 : Ex H14 (upd H14 l (.lst [.int 0, .int 1, .int (r1 : Int), .int ((10 : Int) ^ (9 : Int).toNat + (r2 : Int))])) := Ex.new hl
    generalize upd H14 l (.lst [.int 0, .int 1, .int (r1 : Int), .int ((10 : Int) ^ (9 : Int).toNat + (r2 : Int))]) = H15 at h15 e15 ⊢
    have b1115 := ((b12.trans (ex_B e13)).trans b14).trans (ex_B e15)
    have hv15 := hv11.t (b1115.t hp11)
    refine for_it (walkR_list (S := fun t => IsV (.int (fars r1 r2 t))) h15 (fun _ _ => rfl) (fun _ => mt_is _)).w (fun t σ' H' => Ex H15 H' ∧ ∃ y8, σ' = [some (.ref a), some (.int c), some (.ref p), some (.int (n : Int)), some v, some (.int (i1 : Int)), some (.int (j1 : Int)), some (.int (q0 : Int)), y8]) ⟨Ex.refl _, y8, rfl⟩ (fun _ _ _ _ p => p.1) ?_ ?_
    · rintro t x σ' H' H'' ht ⟨x15, y8, rfl⟩ ⟨e16, hx⟩
      have hx : x = .int (fars r1 r2 t) := hx
      subst hx
      obtain ⟨m, hm, hm2⟩ := fars_at (r1 := r1) (r2 := r2) (by omega) (by omega) ht
      have hv16 := hv15.mono (x15.trans e16)
      refine s_when (b := false) (et_is (et_test (ev_op (evr_ix2 (f := b2 (pw n (nz g) (q0 + m - 1))) (evr_callV (ea_cons (ev_var rfl) (ea_cons (ev_is (w := .int ((q0 + m : Nat) : Int)) (ev_op (ev_var rfl) (ev_var rfl) rv_I0) ?_) ea_nil)) (spR_of fun H e => ⟨n, k, q0 + m, g, v, rfl, hv16.mono e, ?_, ?_, rfl⟩)) (ev_var rfl) hi (ev_var rfl) hj) ev_c (rv_ne rfl))) ?_) (fun z => nomatch z) fun _ H17 e17 => ⟨x15.trans (e16.trans e17), _, rfl⟩
      · rw [hm]
        rfl
      · omega
      · exact Nat.le_trans (show q0 + m ≤ 2000000000 by omega) (by decide)
      · unfold b2
        rw [hq.2.1 (q0 + m - 1) (by omega)]
        rfl
    · rintro σ' H' ⟨x15, y8, rfl⟩
      exact ⟨(x1.trans e2).trans (ExB.ex e3 hp ((b311.trans b1115).trans (ex_B x15))), _, _, _, _, _, _, _, _, rfl⟩
end
end K56
namespace K56
open PySem PySem.Spec PyProof.Rows L2
set_option maxHeartbeats 0 in
theorem all_mk {l : PySem.W.OpenLaw} {w : World} {K : PySem.W.Frag} {h : Heap} {mg : Str → Option Value} {fa : Addr} (X : K.In h) (G : h.Ns mainGlobals mg) (hfa : mg "law" = some (.ref fa))
    {f0 : Addr} {od0 an0 : Option Addr} {sl0 : Array (Option Value)} {oc0 kV0 dc0 pm0 cd0 ct0 : Value}
    (a0 : PySem.W.nsIn K mainGlobals "is_whole" = some (some (.ref f0))) (l0 : K.lookup f0 = some ⟨oc0, od0, .func (PySem.W.fnOf "is_whole" "is_whole" (defArgs s_is_whole) (defBody s_is_whole) (defScope s_is_whole) .none kV0 dc0 pm0 an0 cd0 ct0), sl0⟩) (c0 : PySem.W.codeIn K cd0 "is_whole" = true) (k0 : PySem.W.keepIn K (.ref f0) = true)
    {f1 : Addr} {od1 an1 : Option Addr} {sl1 : Array (Option Value)} {oc1 kV1 dc1 pm1 cd1 ct1 : Value}
    (a1 : PySem.W.nsIn K mainGlobals "is_within" = some (some (.ref f1))) (l1 : K.lookup f1 = some ⟨oc1, od1, .func (PySem.W.fnOf "is_within" "is_within" (defArgs s_is_within) (defBody s_is_within) (defScope s_is_within) .none kV1 dc1 pm1 an1 cd1 ct1), sl1⟩) (c1 : PySem.W.codeIn K cd1 "is_within" = true) (k1 : PySem.W.keepIn K (.ref f1) = true)
    {f2 : Addr} {od2 an2 : Option Addr} {sl2 : Array (Option Value)} {oc2 kV2 dc2 pm2 cd2 ct2 : Value}
    (a2 : PySem.W.nsIn K mainGlobals "is_line" = some (some (.ref f2))) (l2 : K.lookup f2 = some ⟨oc2, od2, .func (PySem.W.fnOf "is_line" "is_line" (defArgs s_is_line) (defBody s_is_line) (defScope s_is_line) .none kV2 dc2 pm2 an2 cd2 ct2), sl2⟩) (c2 : PySem.W.codeIn K cd2 "is_line" = true) (k2 : PySem.W.keepIn K (.ref f2) = true)
    {f3 : Addr} {od3 an3 : Option Addr} {sl3 : Array (Option Value)} {oc3 kV3 dc3 pm3 cd3 ct3 : Value}
    (a3 : PySem.W.nsIn K mainGlobals "a_table" = some (some (.ref f3))) (l3 : K.lookup f3 = some ⟨oc3, od3, .func (PySem.W.fnOf "a_table" "a_table" (defArgs s_a_table) (defBody s_a_table) (defScope s_a_table) .none kV3 dc3 pm3 an3 cd3 ct3), sl3⟩) (c3 : PySem.W.codeIn K cd3 "a_table" = true) (k3 : PySem.W.keepIn K (.ref f3) = true)
    {f4 : Addr} {od4 an4 : Option Addr} {sl4 : Array (Option Value)} {oc4 kV4 dc4 pm4 cd4 ct4 : Value}
    (a4 : PySem.W.nsIn K mainGlobals "need_table" = some (some (.ref f4))) (l4 : K.lookup f4 = some ⟨oc4, od4, .func (PySem.W.fnOf "need_table" "need_table" (defArgs s_need_table) (defBody s_need_table) (defScope s_need_table) .none kV4 dc4 pm4 an4 cd4 ct4), sl4⟩) (c4 : PySem.W.codeIn K cd4 "need_table" = true) (k4 : PySem.W.keepIn K (.ref f4) = true)
    {f5 : Addr} {od5 an5 : Option Addr} {sl5 : Array (Option Value)} {oc5 kV5 dc5 pm5 cd5 ct5 : Value}
    (a5 : PySem.W.nsIn K mainGlobals "need_place" = some (some (.ref f5))) (l5 : K.lookup f5 = some ⟨oc5, od5, .func (PySem.W.fnOf "need_place" "need_place" (defArgs s_need_place) (defBody s_need_place) (defScope s_need_place) .none kV5 dc5 pm5 an5 cd5 ct5), sl5⟩) (c5 : PySem.W.codeIn K cd5 "need_place" = true) (k5 : PySem.W.keepIn K (.ref f5) = true)
    {f6 : Addr} {od6 an6 : Option Addr} {sl6 : Array (Option Value)} {oc6 kV6 dc6 pm6 cd6 ct6 : Value}
    (a6 : PySem.W.nsIn K mainGlobals "all_places" = some (some (.ref f6))) (l6 : K.lookup f6 = some ⟨oc6, od6, .func (PySem.W.fnOf "all_places" "all_places" (defArgs s_all_places) (defBody s_all_places) (defScope s_all_places) .none kV6 dc6 pm6 an6 cd6 ct6), sl6⟩) (c6 : PySem.W.codeIn K cd6 "all_places" = true) (k6 : PySem.W.keepIn K (.ref f6) = true)
    {f7 : Addr} {od7 an7 : Option Addr} {sl7 : Array (Option Value)} {oc7 kV7 dc7 pm7 cd7 ct7 : Value}
    (a7 : PySem.W.nsIn K mainGlobals "multiplied" = some (some (.ref f7))) (l7 : K.lookup f7 = some ⟨oc7, od7, .func (PySem.W.fnOf "multiplied" "multiplied" (defArgs s_multiplied) (defBody s_multiplied) (defScope s_multiplied) .none kV7 dc7 pm7 an7 cd7 ct7), sl7⟩) (c7 : PySem.W.codeIn K cd7 "multiplied" = true) (k7 : PySem.W.keepIn K (.ref f7) = true)
    {f8 : Addr} {od8 an8 : Option Addr} {sl8 : Array (Option Value)} {oc8 kV8 dc8 pm8 cd8 ct8 : Value}
    (a8 : PySem.W.nsIn K mainGlobals "no_nought" = some (some (.ref f8))) (l8 : K.lookup f8 = some ⟨oc8, od8, .func (PySem.W.fnOf "no_nought" "no_nought" (defArgs s_no_nought) (defBody s_no_nought) (defScope s_no_nought) .none kV8 dc8 pm8 an8 cd8 ct8), sl8⟩) (c8 : PySem.W.codeIn K cd8 "no_nought" = true) (k8 : PySem.W.keepIn K (.ref f8) = true)
    {f9 : Addr} {od9 an9 : Option Addr} {sl9 : Array (Option Value)} {oc9 kV9 dc9 pm9 cd9 ct9 : Value}
    (a9 : PySem.W.nsIn K mainGlobals "marked" = some (some (.ref f9))) (l9 : K.lookup f9 = some ⟨oc9, od9, .func (PySem.W.fnOf "marked" "marked" (defArgs s_marked) (defBody s_marked) (defScope s_marked) .none kV9 dc9 pm9 an9 cd9 ct9), sl9⟩) (c9 : PySem.W.codeIn K cd9 "marked" = true) (k9 : PySem.W.keepIn K (.ref f9) = true)
    {f10 : Addr} {od10 an10 : Option Addr} {sl10 : Array (Option Value)} {oc10 kV10 dc10 pm10 cd10 ct10 : Value}
    (a10 : PySem.W.nsIn K mainGlobals "marks" = some (some (.ref f10))) (l10 : K.lookup f10 = some ⟨oc10, od10, .func (PySem.W.fnOf "marks" "marks" (defArgs s_marks) (defBody s_marks) (defScope s_marks) .none kV10 dc10 pm10 an10 cd10 ct10), sl10⟩) (c10 : PySem.W.codeIn K cd10 "marks" = true) (k10 : PySem.W.keepIn K (.ref f10) = true)
    {f11 : Addr} {od11 an11 : Option Addr} {sl11 : Array (Option Value)} {oc11 kV11 dc11 pm11 cd11 ct11 : Value}
    (a11 : PySem.W.nsIn K mainGlobals "turned" = some (some (.ref f11))) (l11 : K.lookup f11 = some ⟨oc11, od11, .func (PySem.W.fnOf "turned" "turned" (defArgs s_turned) (defBody s_turned) (defScope s_turned) .none kV11 dc11 pm11 an11 cd11 ct11), sl11⟩) (c11 : PySem.W.codeIn K cd11 "turned" = true) (k11 : PySem.W.keepIn K (.ref f11) = true)
    {f12 : Addr} {od12 an12 : Option Addr} {sl12 : Array (Option Value)} {oc12 kV12 dc12 pm12 cd12 ct12 : Value}
    (a12 : PySem.W.nsIn K mainGlobals "is_order" = some (some (.ref f12))) (l12 : K.lookup f12 = some ⟨oc12, od12, .func (PySem.W.fnOf "is_order" "is_order" (defArgs s_is_order) (defBody s_is_order) (defScope s_is_order) .none kV12 dc12 pm12 an12 cd12 ct12), sl12⟩) (c12 : PySem.W.codeIn K cd12 "is_order" = true) (k12 : PySem.W.keepIn K (.ref f12) = true)
    {f13 : Addr} {od13 an13 : Option Addr} {sl13 : Array (Option Value)} {oc13 kV13 dc13 pm13 cd13 ct13 : Value}
    (a13 : PySem.W.nsIn K mainGlobals "named_anew" = some (some (.ref f13))) (l13 : K.lookup f13 = some ⟨oc13, od13, .func (PySem.W.fnOf "named_anew" "named_anew" (defArgs s_named_anew) (defBody s_named_anew) (defScope s_named_anew) .none kV13 dc13 pm13 an13 cd13 ct13), sl13⟩) (c13 : PySem.W.codeIn K cd13 "named_anew" = true) (k13 : PySem.W.keepIn K (.ref f13) = true)
    {f14 : Addr} {od14 an14 : Option Addr} {sl14 : Array (Option Value)} {oc14 kV14 dc14 pm14 cd14 ct14 : Value}
    (a14 : PySem.W.nsIn K mainGlobals "renamed" = some (some (.ref f14))) (l14 : K.lookup f14 = some ⟨oc14, od14, .func (PySem.W.fnOf "renamed" "renamed" (defArgs s_renamed) (defBody s_renamed) (defScope s_renamed) .none kV14 dc14 pm14 an14 cd14 ct14), sl14⟩) (c14 : PySem.W.codeIn K cd14 "renamed" = true) (k14 : PySem.W.keepIn K (.ref f14) = true)
    {f15 : Addr} {od15 an15 : Option Addr} {sl15 : Array (Option Value)} {oc15 kV15 dc15 pm15 cd15 ct15 : Value}
    (a15 : PySem.W.nsIn K mainGlobals "first_of" = some (some (.ref f15))) (l15 : K.lookup f15 = some ⟨oc15, od15, .func (PySem.W.fnOf "first_of" "first_of" (defArgs s_first_of) (defBody s_first_of) (defScope s_first_of) .none kV15 dc15 pm15 an15 cd15 ct15), sl15⟩) (c15 : PySem.W.codeIn K cd15 "first_of" = true) (k15 : PySem.W.keepIn K (.ref f15) = true)
    {f16 : Addr} {od16 an16 : Option Addr} {sl16 : Array (Option Value)} {oc16 kV16 dc16 pm16 cd16 ct16 : Value}
    (a16 : PySem.W.nsIn K mainGlobals "need_first" = some (some (.ref f16))) (l16 : K.lookup f16 = some ⟨oc16, od16, .func (PySem.W.fnOf "need_first" "need_first" (defArgs s_need_first) (defBody s_need_first) (defScope s_need_first) .none kV16 dc16 pm16 an16 cd16 ct16), sl16⟩) (c16 : PySem.W.codeIn K cd16 "need_first" = true) (k16 : PySem.W.keepIn K (.ref f16) = true)
    {f17 : Addr} {od17 an17 : Option Addr} {sl17 : Array (Option Value)} {oc17 kV17 dc17 pm17 cd17 ct17 : Value}
    (a17 : PySem.W.nsIn K mainGlobals "marks_up_to" = some (some (.ref f17))) (l17 : K.lookup f17 = some ⟨oc17, od17, .func (PySem.W.fnOf "marks_up_to" "marks_up_to" (defArgs s_marks_up_to) (defBody s_marks_up_to) (defScope s_marks_up_to) .none kV17 dc17 pm17 an17 cd17 ct17), sl17⟩) (c17 : PySem.W.codeIn K cd17 "marks_up_to" = true) (k17 : PySem.W.keepIn K (.ref f17) = true)
    {f18 : Addr} {od18 an18 : Option Addr} {sl18 : Array (Option Value)} {oc18 kV18 dc18 pm18 cd18 ct18 : Value}
    (a18 : PySem.W.nsIn K mainGlobals "first_row" = some (some (.ref f18))) (l18 : K.lookup f18 = some ⟨oc18, od18, .func (PySem.W.fnOf "first_row" "first_row" (defArgs s_first_row) (defBody s_first_row) (defScope s_first_row) .none kV18 dc18 pm18 an18 cd18 ct18), sl18⟩) (c18 : PySem.W.codeIn K cd18 "first_row" = true) (k18 : PySem.W.keepIn K (.ref f18) = true)
    {f19 : Addr} {od19 an19 : Option Addr} {sl19 : Array (Option Value)} {oc19 kV19 dc19 pm19 cd19 ct19 : Value}
    (a19 : PySem.W.nsIn K mainGlobals "pair_of" = some (some (.ref f19))) (l19 : K.lookup f19 = some ⟨oc19, od19, .func (PySem.W.fnOf "pair_of" "pair_of" (defArgs s_pair_of) (defBody s_pair_of) (defScope s_pair_of) .none kV19 dc19 pm19 an19 cd19 ct19), sl19⟩) (c19 : PySem.W.codeIn K cd19 "pair_of" = true) (k19 : PySem.W.keepIn K (.ref f19) = true)
    {f20 : Addr} {od20 an20 : Option Addr} {sl20 : Array (Option Value)} {oc20 kV20 dc20 pm20 cd20 ct20 : Value}
    (a20 : PySem.W.nsIn K mainGlobals "first_pair" = some (some (.ref f20))) (l20 : K.lookup f20 = some ⟨oc20, od20, .func (PySem.W.fnOf "first_pair" "first_pair" (defArgs s_first_pair) (defBody s_first_pair) (defScope s_first_pair) .none kV20 dc20 pm20 an20 cd20 ct20), sl20⟩) (c20 : PySem.W.codeIn K cd20 "first_pair" = true) (k20 : PySem.W.keepIn K (.ref f20) = true)
    {f21 : Addr} {od21 an21 : Option Addr} {sl21 : Array (Option Value)} {oc21 kV21 dc21 pm21 cd21 ct21 : Value}
    (a21 : PySem.W.nsIn K mainGlobals "first_pairs" = some (some (.ref f21))) (l21 : K.lookup f21 = some ⟨oc21, od21, .func (PySem.W.fnOf "first_pairs" "first_pairs" (defArgs s_first_pairs) (defBody s_first_pairs) (defScope s_first_pairs) .none kV21 dc21 pm21 an21 cd21 ct21), sl21⟩) (c21 : PySem.W.codeIn K cd21 "first_pairs" = true) (k21 : PySem.W.keepIn K (.ref f21) = true)
    {f22 : Addr} {od22 an22 : Option Addr} {sl22 : Array (Option Value)} {oc22 kV22 dc22 pm22 cd22 ct22 : Value}
    (a22 : PySem.W.nsIn K mainGlobals "rows_meet" = some (some (.ref f22))) (l22 : K.lookup f22 = some ⟨oc22, od22, .func (PySem.W.fnOf "rows_meet" "rows_meet" (defArgs s_rows_meet) (defBody s_rows_meet) (defScope s_rows_meet) .none kV22 dc22 pm22 an22 cd22 ct22), sl22⟩) (c22 : PySem.W.codeIn K cd22 "rows_meet" = true) (k22 : PySem.W.keepIn K (.ref f22) = true)
    {f23 : Addr} {od23 an23 : Option Addr} {sl23 : Array (Option Value)} {oc23 kV23 dc23 pm23 cd23 ct23 : Value}
    (a23 : PySem.W.nsIn K mainGlobals "meeting" = some (some (.ref f23))) (l23 : K.lookup f23 = some ⟨oc23, od23, .func (PySem.W.fnOf "meeting" "meeting" (defArgs s_meeting) (defBody s_meeting) (defScope s_meeting) .none kV23 dc23 pm23 an23 cd23 ct23), sl23⟩) (c23 : PySem.W.codeIn K cd23 "meeting" = true) (k23 : PySem.W.keepIn K (.ref f23) = true)
    {f24 : Addr} {od24 an24 : Option Addr} {sl24 : Array (Option Value)} {oc24 kV24 dc24 pm24 cd24 ct24 : Value}
    (a24 : PySem.W.nsIn K mainGlobals "times_marks" = some (some (.ref f24))) (l24 : K.lookup f24 = some ⟨oc24, od24, .func (PySem.W.fnOf "times_marks" "times_marks" (defArgs s_times_marks) (defBody s_times_marks) (defScope s_times_marks) .none kV24 dc24 pm24 an24 cd24 ct24), sl24⟩) (c24 : PySem.W.codeIn K cd24 "times_marks" = true) (k24 : PySem.W.keepIn K (.ref f24) = true)
    {f25 : Addr} {od25 an25 : Option Addr} {sl25 : Array (Option Value)} {oc25 kV25 dc25 pm25 cd25 ct25 : Value}
    (a25 : PySem.W.nsIn K mainGlobals "courses" = some (some (.ref f25))) (l25 : K.lookup f25 = some ⟨oc25, od25, .func (PySem.W.fnOf "courses" "courses" (defArgs s_courses) (defBody s_courses) (defScope s_courses) .none kV25 dc25 pm25 an25 cd25 ct25), sl25⟩) (c25 : PySem.W.codeIn K cd25 "courses" = true) (k25 : PySem.W.keepIn K (.ref f25) = true)
    {f26 : Addr} {od26 an26 : Option Addr} {sl26 : Array (Option Value)} {oc26 kV26 dc26 pm26 cd26 ct26 : Value}
    (a26 : PySem.W.nsIn K mainGlobals "need_number" = some (some (.ref f26))) (l26 : K.lookup f26 = some ⟨oc26, od26, .func (PySem.W.fnOf "need_number" "need_number" (defArgs s_need_number) (defBody s_need_number) (defScope s_need_number) .none kV26 dc26 pm26 an26 cd26 ct26), sl26⟩) (c26 : PySem.W.codeIn K cd26 "need_number" = true) (k26 : PySem.W.keepIn K (.ref f26) = true)
    {f27 : Addr} {od27 an27 : Option Addr} {sl27 : Array (Option Value)} {oc27 kV27 dc27 pm27 cd27 ct27 : Value}
    (a27 : PySem.W.nsIn K mainGlobals "place_of" = some (some (.ref f27))) (l27 : K.lookup f27 = some ⟨oc27, od27, .func (PySem.W.fnOf "place_of" "place_of" (defArgs s_place_of) (defBody s_place_of) (defScope s_place_of) .none kV27 dc27 pm27 an27 cd27 ct27), sl27⟩) (c27 : PySem.W.codeIn K cd27 "place_of" = true) (k27 : PySem.W.keepIn K (.ref f27) = true)
    {f28 : Addr} {od28 an28 : Option Addr} {sl28 : Array (Option Value)} {oc28 kV28 dc28 pm28 cd28 ct28 : Value}
    (a28 : PySem.W.nsIn K mainGlobals "marks_of" = some (some (.ref f28))) (l28 : K.lookup f28 = some ⟨oc28, od28, .func (PySem.W.fnOf "marks_of" "marks_of" (defArgs s_marks_of) (defBody s_marks_of) (defScope s_marks_of) .none kV28 dc28 pm28 an28 cd28 ct28), sl28⟩) (c28 : PySem.W.codeIn K cd28 "marks_of" = true) (k28 : PySem.W.keepIn K (.ref f28) = true)
    {f29 : Addr} {od29 an29 : Option Addr} {sl29 : Array (Option Value)} {oc29 kV29 dc29 pm29 cd29 ct29 : Value}
    (a29 : PySem.W.nsIn K mainGlobals "first_power" = some (some (.ref f29))) (l29 : K.lookup f29 = some ⟨oc29, od29, .func (PySem.W.fnOf "first_power" "first_power" (defArgs s_first_power) (defBody s_first_power) (defScope s_first_power) .none kV29 dc29 pm29 an29 cd29 ct29), sl29⟩) (c29 : PySem.W.codeIn K cd29 "first_power" = true) (k29 : PySem.W.keepIn K (.ref f29) = true)
    {f30 : Addr} {od30 an30 : Option Addr} {sl30 : Array (Option Value)} {oc30 kV30 dc30 pm30 cd30 ct30 : Value}
    (a30 : PySem.W.nsIn K mainGlobals "_law_cell" = some (some (.ref f30))) (l30 : K.lookup f30 = some ⟨oc30, od30, .func (PySem.W.fnOf "_law_cell" "_law_cell" (defArgs s_u_law_cell) (defBody s_u_law_cell) (defScope s_u_law_cell) .none kV30 dc30 pm30 an30 cd30 ct30), sl30⟩) (c30 : PySem.W.codeIn K cd30 "_law_cell" = true) (k30 : PySem.W.keepIn K (.ref f30) = true)
    {f31 : Addr} {od31 an31 : Option Addr} {sl31 : Array (Option Value)} {oc31 kV31 dc31 pm31 cd31 ct31 : Value}
    (a31 : PySem.W.nsIn K mainGlobals "_law_pen" = some (some (.ref f31))) (l31 : K.lookup f31 = some ⟨oc31, od31, .func (PySem.W.fnOf "_law_pen" "_law_pen" (defArgs s_u_law_pen) (defBody s_u_law_pen) (defScope s_u_law_pen) .none kV31 dc31 pm31 an31 cd31 ct31), sl31⟩) (c31 : PySem.W.codeIn K cd31 "_law_pen" = true) (k31 : PySem.W.keepIn K (.ref f31) = true)
    {f32 : Addr} {od32 an32 : Option Addr} {sl32 : Array (Option Value)} {oc32 kV32 dc32 pm32 cd32 ct32 : Value}
    (a32 : PySem.W.nsIn K mainGlobals "_law_draw" = some (some (.ref f32))) (l32 : K.lookup f32 = some ⟨oc32, od32, .func (PySem.W.fnOf "_law_draw" "_law_draw" (defArgs s_u_law_draw) (defBody s_u_law_draw) (defScope s_u_law_draw) .none kV32 dc32 pm32 an32 cd32 ct32), sl32⟩) (c32 : PySem.W.codeIn K cd32 "_law_draw" = true) (k32 : PySem.W.keepIn K (.ref f32) = true)
    {f33 : Addr} {od33 an33 : Option Addr} {sl33 : Array (Option Value)} {oc33 kV33 dc33 pm33 cd33 ct33 : Value}
    (a33 : PySem.W.nsIn K mainGlobals "_law_size" = some (some (.ref f33))) (l33 : K.lookup f33 = some ⟨oc33, od33, .func (PySem.W.fnOf "_law_size" "_law_size" (defArgs s_u_law_size) (defBody s_u_law_size) (defScope s_u_law_size) .none kV33 dc33 pm33 an33 cd33 ct33), sl33⟩) (c33 : PySem.W.codeIn K cd33 "_law_size" = true) (k33 : PySem.W.keepIn K (.ref f33) = true)
    {f34 : Addr} {od34 an34 : Option Addr} {sl34 : Array (Option Value)} {oc34 kV34 dc34 pm34 cd34 ct34 : Value}
    (a34 : PySem.W.nsIn K mainGlobals "_law_order" = some (some (.ref f34))) (l34 : K.lookup f34 = some ⟨oc34, od34, .func (PySem.W.fnOf "_law_order" "_law_order" (defArgs s_u_law_order) (defBody s_u_law_order) (defScope s_u_law_order) .none kV34 dc34 pm34 an34 cd34 ct34), sl34⟩) (c34 : PySem.W.codeIn K cd34 "_law_order" = true) (k34 : PySem.W.keepIn K (.ref f34) = true)
    {f35 : Addr} {od35 an35 : Option Addr} {sl35 : Array (Option Value)} {oc35 kV35 dc35 pm35 cd35 ct35 : Value}
    (a35 : PySem.W.nsIn K mainGlobals "_law_good_table" = some (some (.ref f35))) (l35 : K.lookup f35 = some ⟨oc35, od35, .func (PySem.W.fnOf "_law_good_table" "_law_good_table" (defArgs s_u_law_good_table) (defBody s_u_law_good_table) (defScope s_u_law_good_table) .none kV35 dc35 pm35 an35 cd35 ct35), sl35⟩) (c35 : PySem.W.codeIn K cd35 "_law_good_table" = true) (k35 : PySem.W.keepIn K (.ref f35) = true)
    {f36 : Addr} {od36 an36 : Option Addr} {sl36 : Array (Option Value)} {oc36 kV36 dc36 pm36 cd36 ct36 : Value}
    (a36 : PySem.W.nsIn K mainGlobals "_law_right" = some (some (.ref f36))) (l36 : K.lookup f36 = some ⟨oc36, od36, .func (PySem.W.fnOf "_law_right" "_law_right" (defArgs s_u_law_right) (defBody s_u_law_right) (defScope s_u_law_right) .none kV36 dc36 pm36 an36 cd36 ct36), sl36⟩) (c36 : PySem.W.codeIn K cd36 "_law_right" = true) (k36 : PySem.W.keepIn K (.ref f36) = true)
    {f37 : Addr} {od37 an37 : Option Addr} {sl37 : Array (Option Value)} {oc37 kV37 dc37 pm37 cd37 ct37 : Value}
    (a37 : PySem.W.nsIn K mainGlobals "law" = some (some (.ref f37))) (l37 : K.lookup f37 = some ⟨oc37, od37, .func (PySem.W.fnOf "law" "law" (defArgs s_law) (defBody s_law) (defScope s_law) .none kV37 dc37 pm37 an37 cd37 ct37), sl37⟩) (c37 : PySem.W.codeIn K cd37 "law" = true) (k37 : PySem.W.keepIn K (.ref f37) = true)
    (z_isinstance : PySem.W.nsIn K mainGlobals "isinstance" = some none)
    (z_int : PySem.W.nsIn K mainGlobals "int" = some none)
    (z_bool : PySem.W.nsIn K mainGlobals "bool" = some none)
    (z_tuple : PySem.W.nsIn K mainGlobals "tuple" = some none)
    (z_len : PySem.W.nsIn K mainGlobals "len" = some none)
    (z_all : PySem.W.nsIn K mainGlobals "all" = some none)
    (z_range : PySem.W.nsIn K mainGlobals "range" = some none)
    (z_sum : PySem.W.nsIn K mainGlobals "sum" = some none)
    (z_zip : PySem.W.nsIn K mainGlobals "zip" = some none)
    (z_sorted : PySem.W.nsIn K mainGlobals "sorted" = some none)
    (z_list : PySem.W.nsIn K mainGlobals "list" = some none)
    (z_any : PySem.W.nsIn K mainGlobals "any" = some none)
    (z_enumerate : PySem.W.nsIn K mainGlobals "enumerate" = some none)
    (z_max : PySem.W.nsIn K mainGlobals "max" = some none)
    (z_divmod : PySem.W.nsIn K mainGlobals "divmod" = some none)
    {t_MOST_ROWS : Tok} (y_MOST_ROWS : PySem.W.nsIn K mainGlobals "MOST_ROWS" = some (some (.int (6) t_MOST_ROWS)))
    {t_MOST_POWER : Tok} (y_MOST_POWER : PySem.W.nsIn K mainGlobals "MOST_POWER" = some (some (.int (10 ^ 30) t_MOST_POWER)))
    : ∃ fd : FuncData, (∀ (s : Shared) (v : Value), BindsTo s fd ⟨[v], []⟩ [("_law_script", v)]) ∧ ∀ base : Heap, K.In base → base.Ns mainGlobals mg → FnOk l.prog w K mg base CX0 7 fa fd ["_law_script"] (spLaw K) := by
  have e := hfa.symm.trans (PySem.W.mg_of X G a37)
  cases e
  have T : Txt K mg := ⟨fnt_mk X G a0 l0 c0 k0 (fun _ _ _ _ _ _ us hl => match us, hl with | [_], _ => rfl),
    fnt_mk X G a1 l1 c1 k1 (fun _ _ _ _ _ _ us hl => match us, hl with | [_, _, _], _ => rfl),
    fnt_mk X G a2 l2 c2 k2 (fun _ _ _ _ _ _ us hl => match us, hl with | [_, _], _ => rfl),
    fnt_mk X G a3 l3 c3 k3 (fun _ _ _ _ _ _ us hl => match us, hl with | [_], _ => rfl),
    fnt_mk X G a4 l4 c4 k4 (fun _ _ _ _ _ _ us hl => match us, hl with | [_], _ => rfl),
    fnt_mk X G a5 l5 c5 k5 (fun _ _ _ _ _ _ us hl => match us, hl with | [_, _], _ => rfl),
    fnt_mk X G a6 l6 c6 k6 (fun _ _ _ _ _ _ us hl => match us, hl with | [_], _ => rfl),
    fnt_mk X G a7 l7 c7 k7 (fun _ _ _ _ _ _ us hl => match us, hl with | [_, _], _ => rfl),
    fnt_mk X G a8 l8 c8 k8 (fun _ _ _ _ _ _ us hl => match us, hl with | [_], _ => rfl),
    fnt_mk X G a9 l9 c9 k9 (fun _ _ _ _ _ _ us hl => match us, hl with | [_], _ => rfl),
    fnt_mk X G a10 l10 c10 k10 (fun _ _ _ _ _ _ us hl => match us, hl with | [_], _ => rfl),
    fnt_mk X G a11 l11 c11 k11 (fun _ _ _ _ _ _ us hl => match us, hl with | [_], _ => rfl),
    fnt_mk X G a12 l12 c12 k12 (fun _ _ _ _ _ _ us hl => match us, hl with | [_, _], _ => rfl),
    fnt_mk X G a13 l13 c13 k13 (fun _ _ _ _ _ _ us hl => match us, hl with | [_, _], _ => rfl),
    fnt_mk X G a14 l14 c14 k14 (fun _ _ _ _ _ _ us hl => match us, hl with | [_, _], _ => rfl),
    fnt_mk X G a15 l15 c15 k15 (fun _ _ _ _ _ _ us hl => match us, hl with | [_], _ => rfl),
    fnt_mk X G a16 l16 c16 k16 (fun _ _ _ _ _ _ us hl => match us, hl with | [_], _ => rfl),
    fnt_mk X G a17 l17 c17 k17 (fun _ _ _ _ _ _ us hl => match us, hl with | [_, _], _ => rfl),
    fnt_mk X G a18 l18 c18 k18 (fun _ _ _ _ _ _ us hl => match us, hl with | [_, _], _ => rfl),
    fnt_mk X G a19 l19 c19 k19 (fun _ _ _ _ _ _ us hl => match us, hl with | [_, _, _], _ => rfl),
    fnt_mk X G a20 l20 c20 k20 (fun _ _ _ _ _ _ us hl => match us, hl with | [_, _, _], _ => rfl),
    fnt_mk X G a21 l21 c21 k21 (fun _ _ _ _ _ _ us hl => match us, hl with | [_], _ => rfl),
    fnt_mk X G a22 l22 c22 k22 (fun _ _ _ _ _ _ us hl => match us, hl with | [_], _ => rfl),
    fnt_mk X G a23 l23 c23 k23 (fun _ _ _ _ _ _ us hl => match us, hl with | [_], _ => rfl),
    fnt_mk X G a24 l24 c24 k24 (fun _ _ _ _ _ _ us hl => match us, hl with | [_, _], _ => rfl),
    fnt_mk X G a25 l25 c25 k25 (fun _ _ _ _ _ _ us hl => match us, hl with | [_], _ => rfl),
    fnt_mk X G a26 l26 c26 k26 (fun _ _ _ _ _ _ us hl => match us, hl with | [_], _ => rfl),
    fnt_mk X G a27 l27 c27 k27 (fun _ _ _ _ _ _ us hl => match us, hl with | [_, _, _], _ => rfl),
    fnt_mk X G a28 l28 c28 k28 (fun _ _ _ _ _ _ us hl => match us, hl with | [_, _], _ => rfl),
    fnt_mk X G a29 l29 c29 k29 (fun _ _ _ _ _ _ us hl => match us, hl with | [_], _ => rfl),
    fnt_mk X G a30 l30 c30 k30 (fun _ _ _ _ _ _ us hl => match us, hl with | [_, _], _ => rfl),
    fnt_mk X G a31 l31 c31 k31 (fun _ _ _ _ _ _ us hl => match us, hl with | [_], _ => rfl),
    fnt_mk X G a32 l32 c32 k32 (fun _ _ _ _ _ _ us hl => match us, hl with | [_, _], _ => rfl),
    fnt_mk X G a33 l33 c33 k33 (fun _ _ _ _ _ _ us hl => match us, hl with | [_], _ => rfl),
    fnt_mk X G a34 l34 c34 k34 (fun _ _ _ _ _ _ us hl => match us, hl with | [_, _], _ => rfl),
    fnt_mk X G a35 l35 c35 k35 (fun _ _ _ _ _ _ us hl => match us, hl with | [_, _], _ => rfl),
    fnt_mk X G a36 l36 c36 k36 (fun _ _ _ _ _ _ us hl => match us, hl with | [_, _], _ => rfl),
    PySem.W.mg_none_of X G z_isinstance,
    PySem.W.mg_none_of X G z_int,
    PySem.W.mg_none_of X G z_bool,
    PySem.W.mg_none_of X G z_tuple,
    PySem.W.mg_none_of X G z_len,
    PySem.W.mg_none_of X G z_all,
    PySem.W.mg_none_of X G z_range,
    PySem.W.mg_none_of X G z_sum,
    PySem.W.mg_none_of X G z_zip,
    PySem.W.mg_none_of X G z_sorted,
    PySem.W.mg_none_of X G z_list,
    PySem.W.mg_none_of X G z_any,
    PySem.W.mg_none_of X G z_enumerate,
    PySem.W.mg_none_of X G z_max,
    PySem.W.mg_none_of X G z_divmod,
    ⟨_, PySem.W.mg_of X G y_MOST_ROWS⟩,
    ⟨_, PySem.W.mg_of X G y_MOST_POWER⟩⟩
  exact ⟨PySem.W.fnOf "law" "law" (defArgs s_law) (defBody s_law) (defScope s_law) .none kV37 dc37 pm37 an37 cd37 ct37, fun s v => .of_eq rfl, fun base _ _ => ok_law T (fun_mk (st := s_law) l37 c37 k37)⟩
end K56
open PySem PySem.W PyProof.Rows
set_option maxHeartbeats 0 in
theorem PySem.Challenge.cw_firstpowers_k56_whole_rows_and_pairs_holds : PySem.Challenge.rw_firstpowers_k56_whole_rows_and_pairs.Holds := by
  w_on; o_law; k_head; (case hw => w_witness2)
  k_fill
  refine L2.walk_of (l := PySem.Challenge.rw_firstpowers_k56_whole_rows_and_pairs) (n := 63) (k := 7) (x := "_law_script") (CX := fun _ => L2.CX0) (sp := fun w => K56.spLaw _) rfl (by decide) rfl ⟨rfl, by decide, by decide⟩ (fun w h Y => PySem.W.kIn_of Y) ?F (fun _ _ a ns hl _ hS => ⟨a, ns, rfl, hS, hl, fun _ => rfl⟩) (fun _ _ _ _ _ h => h)
  case F =>
    intro w mg fa h KX G hmg
    refine' K56.all_mk KX G hmg ?a0 ?l0 ?c0 ?k0 ?a1 ?l1 ?c1 ?k1 ?a2 ?l2 ?c2 ?k2 ?a3 ?l3 ?c3 ?k3 ?a4 ?l4 ?c4 ?k4 ?a5 ?l5 ?c5 ?k5 ?a6 ?l6 ?c6 ?k6 ?a7 ?l7 ?c7 ?k7 ?a8 ?l8 ?c8 ?k8 ?a9 ?l9 ?c9 ?k9 ?a10 ?l10 ?c10 ?k10 ?a11 ?l11 ?c11 ?k11 ?a12 ?l12 ?c12 ?k12 ?a13 ?l13 ?c13 ?k13 ?a14 ?l14 ?c14 ?k14 ?a15 ?l15 ?c15 ?k15 ?a16 ?l16 ?c16 ?k16 ?a17 ?l17 ?c17 ?k17 ?a18 ?l18 ?c18 ?k18 ?a19 ?l19 ?c19 ?k19 ?a20 ?l20 ?c20 ?k20 ?a21 ?l21 ?c21 ?k21 ?a22 ?l22 ?c22 ?k22 ?a23 ?l23 ?c23 ?k23 ?a24 ?l24 ?c24 ?k24 ?a25 ?l25 ?c25 ?k25 ?a26 ?l26 ?c26 ?k26 ?a27 ?l27 ?c27 ?k27 ?a28 ?l28 ?c28 ?k28 ?a29 ?l29 ?c29 ?k29 ?a30 ?l30 ?c30 ?k30 ?a31 ?l31 ?c31 ?k31 ?a32 ?l32 ?c32 ?k32 ?a33 ?l33 ?c33 ?k33 ?a34 ?l34 ?c34 ?k34 ?a35 ?l35 ?c35 ?k35 ?a36 ?l36 ?c36 ?k36 ?a37 ?l37 ?c37 ?k37 ?z_isinstance ?z_int ?z_bool ?z_tuple ?z_len ?z_all ?z_range ?z_sum ?z_zip ?z_sorted ?z_list ?z_any ?z_enumerate ?z_max ?z_divmod ?y_MOST_ROWS ?y_MOST_POWER
    (case a0 => k_is)
    (case l0 => k_is)
    (case c0 => k_is)
    (case k0 => k_is)
    (case a1 => k_is)
    (case l1 => k_is)
    (case c1 => k_is)
    (case k1 => k_is)
    (case a2 => k_is)
    (case l2 => k_is)
    (case c2 => k_is)
    (case k2 => k_is)
    (case a3 => k_is)
    (case l3 => k_is)
    (case c3 => k_is)
    (case k3 => k_is)
    (case a4 => k_is)
    (case l4 => k_is)
    (case c4 => k_is)
    (case k4 => k_is)
    (case a5 => k_is)
    (case l5 => k_is)
    (case c5 => k_is)
    (case k5 => k_is)
    (case a6 => k_is)
    (case l6 => k_is)
    (case c6 => k_is)
    (case k6 => k_is)
    (case a7 => k_is)
    (case l7 => k_is)
    (case c7 => k_is)
    (case k7 => k_is)
    (case a8 => k_is)
    (case l8 => k_is)
    (case c8 => k_is)
    (case k8 => k_is)
    (case a9 => k_is)
    (case l9 => k_is)
    (case c9 => k_is)
    (case k9 => k_is)
    (case a10 => k_is)
    (case l10 => k_is)
    (case c10 => k_is)
    (case k10 => k_is)
    (case a11 => k_is)
    (case l11 => k_is)
    (case c11 => k_is)
    (case k11 => k_is)
    (case a12 => k_is)
    (case l12 => k_is)
    (case c12 => k_is)
    (case k12 => k_is)
    (case a13 => k_is)
    (case l13 => k_is)
    (case c13 => k_is)
    (case k13 => k_is)
    (case a14 => k_is)
    (case l14 => k_is)
    (case c14 => k_is)
    (case k14 => k_is)
    (case a15 => k_is)
    (case l15 => k_is)
    (case c15 => k_is)
    (case k15 => k_is)
    (case a16 => k_is)
    (case l16 => k_is)
    (case c16 => k_is)
    (case k16 => k_is)
    (case a17 => k_is)
    (case l17 => k_is)
    (case c17 => k_is)
    (case k17 => k_is)
    (case a18 => k_is)
    (case l18 => k_is)
    (case c18 => k_is)
    (case k18 => k_is)
    (case a19 => k_is)
    (case l19 => k_is)
    (case c19 => k_is)
    (case k19 => k_is)
    (case a20 => k_is)
    (case l20 => k_is)
    (case c20 => k_is)
    (case k20 => k_is)
    (case a21 => k_is)
    (case l21 => k_is)
    (case c21 => k_is)
    (case k21 => k_is)
    (case a22 => k_is)
    (case l22 => k_is)
    (case c22 => k_is)
    (case k22 => k_is)
    (case a23 => k_is)
    (case l23 => k_is)
    (case c23 => k_is)
    (case k23 => k_is)
    (case a24 => k_is)
    (case l24 => k_is)
    (case c24 => k_is)
    (case k24 => k_is)
    (case a25 => k_is)
    (case l25 => k_is)
    (case c25 => k_is)
    (case k25 => k_is)
    (case a26 => k_is)
    (case l26 => k_is)
    (case c26 => k_is)
    (case k26 => k_is)
    (case a27 => k_is)
    (case l27 => k_is)
    (case c27 => k_is)
    (case k27 => k_is)
    (case a28 => k_is)
    (case l28 => k_is)
    (case c28 => k_is)
    (case k28 => k_is)
    (case a29 => k_is)
    (case l29 => k_is)
    (case c29 => k_is)
    (case k29 => k_is)
    (case a30 => k_is)
    (case l30 => k_is)
    (case c30 => k_is)
    (case k30 => k_is)
    (case a31 => k_is)
    (case l31 => k_is)
    (case c31 => k_is)
    (case k31 => k_is)
    (case a32 => k_is)
    (case l32 => k_is)
    (case c32 => k_is)
    (case k32 => k_is)
    (case a33 => k_is)
    (case l33 => k_is)
    (case c33 => k_is)
    (case k33 => k_is)
    (case a34 => k_is)
    (case l34 => k_is)
    (case c34 => k_is)
    (case k34 => k_is)
    (case a35 => k_is)
    (case l35 => k_is)
    (case c35 => k_is)
    (case k35 => k_is)
    (case a36 => k_is)
    (case l36 => k_is)
    (case c36 => k_is)
    (case k36 => k_is)
    (case a37 => k_is)
    (case l37 => k_is)
    (case c37 => k_is)
    (case k37 => k_is)
    (case z_isinstance => k_is)
    (case z_int => k_is)
    (case z_bool => k_is)
    (case z_tuple => k_is)
    (case z_len => k_is)
    (case z_all => k_is)
    (case z_range => k_is)
    (case z_sum => k_is)
    (case z_zip => k_is)
    (case z_sorted => k_is)
    (case z_list => k_is)
    (case z_any => k_is)
    (case z_enumerate => k_is)
    (case z_max => k_is)
    (case z_divmod => k_is)
    (case y_MOST_ROWS => k_is)
    (case y_MOST_POWER => k_is)
