import PyProof.Rows.All
import Wide.All
import OpenK.AllK
import Wide.FinOn
import HandS.ForMost
import HandS.Conv
import HandS.Codes
import HandS.Defaults
import HandS.MakeKw
import HandS.Property
import HandS.ClsMeth
import HandS.IsInst
import HandS.Wide
import HandS.WideMore
import HandS.Flow
import HandS.Zip
import HandS.Zip0
import HandS.Sort
import HandS.TupAny
import HandS.Steps
import HandS.Evl
import HandS.DictTup
import HandS.TupSets
import HandS.Small
import HandS.HeadNt
import HandS.Head0
import HandS.Head1
import HandS.Head2
import HandS.HeadEnd
import HandS.HeadHook1
import HandS.HeadHook2
import PySem.Challenge.RW_abacushead_k27_whole_tables_are_sound
import KE.DataMinMax
import HandS.SortKw
import KE.KAssignIn
import KE.GoesEnumKw
import HandS.DictSubView0
import HandS.SortRule
import KE.KDictSum
set_option Elab.async false
set_option linter.all false
set_option maxRecDepth 100000
set_option maxHeartbeats 0
/-! The text by places; each def's names by slot. Printed by gen_head.py. -/
namespace K27
open PySem PySem.Spec L2 PyProof.Rows
def top (i : Nat) : Stmt := PySem.Challenge.pw_abacushead_k27_whole_tables_are_sound.main.body.getD i (.Pass ⟨0, 0, 0, 0⟩)
abbrev s_is_integer : Stmt := top 1
abbrev s_is_between : Stmt := top 2
abbrev s_raised : Stmt := top 3
abbrev s_reduced : Stmt := top 4
abbrev s_at_place : Stmt := top 5
abbrev s_total : Stmt := top 6
abbrev s_negated : Stmt := top 7
abbrev s_floor_of : Stmt := top 8
abbrev s_is_pair : Stmt := top 17
abbrev s_is_number : Stmt := top 18
abbrev s_is_state : Stmt := top 20
abbrev s_require_state : Stmt := top 21
abbrev s_difference : Stmt := top 23
abbrev s_span : Stmt := top 24
abbrev s_digits_for : Stmt := top 25
abbrev s_Search_init : Stmt := inClass (top 26) 0
abbrev s_Search_next_layer : Stmt := inClass (top 26) 1
abbrev s_Search_additions : Stmt := inClass (top 26) 2
abbrev s_Search_places : Stmt := inClass (top 26) 3
abbrev s_Search_moves : Stmt := inClass (top 26) 4
abbrev s_Search_options : Stmt := inClass (top 26) 5
abbrev s_Search_cost : Stmt := inClass (top 26) 6
abbrev s_require_ends : Stmt := top 27
abbrev s_least_cost : Stmt := top 28
abbrev s_distance : Stmt := top 29
abbrev s_table_range : Stmt := top 31
abbrev s_floors : Stmt := top 32
abbrev s_make_table : Stmt := top 33
abbrev s_is_entry : Stmt := top 34
abbrev s_steps_valid : Stmt := top 35
abbrev s_ends_valid : Stmt := top 36
abbrev s_check_table : Stmt := top 37
abbrev s_is_end : Stmt := top 40
abbrev s_Row_init : Stmt := inClass (top 41) 2
abbrev s_Row_base : Stmt := inClass (top 41) 3
abbrev s_Row_move_cost : Stmt := inClass (top 41) 4
abbrev s_Row_add_cost : Stmt := inClass (top 41) 5
abbrev s_Row_lowest : Stmt := inClass (top 41) 8
abbrev s_Row_highest : Stmt := inClass (top 41) 9
abbrev s_Row_has_place : Stmt := inClass (top 41) 10
abbrev s_law_numbers : Stmt := top 43
abbrev s_law_power : Stmt := top 44
abbrev s_law_reduced : Stmt := top 45
abbrev s_law_spec : Stmt := top 49
abbrev s_law_row : Stmt := top 50
abbrev s_law_position : Stmt := top 51
abbrev s_law_next : Stmt := top 53
abbrev s_law_reach : Stmt := top 54
abbrev s_law_scaled : Stmt := top 55
abbrev s_law_plain : Stmt := top 56
abbrev s_law_written : Stmt := top 57
abbrev s_law_lowered : Stmt := top 58
abbrev s_law : Stmt := top 59
theorem sc_is_integer : FnScope ["value"] ["value"] (defScope s_is_integer) := ⟨rfl, rfl, rfl, by decide +kernel, rfl, by decide +kernel, by decide +kernel⟩
theorem sc_is_between : FnScope ["value", "least", "most"] ["value", "least", "most"] (defScope s_is_between) := ⟨rfl, rfl, rfl, by decide +kernel, rfl, by decide +kernel, by decide +kernel⟩
theorem sc_raised : FnScope ["base", "count", "result"] ["base", "count"] (defScope s_raised) := ⟨rfl, rfl, rfl, by decide +kernel, rfl, by decide +kernel, by decide +kernel⟩
theorem sc_reduced : FnScope ["base", "numerator", "exponent", "step", "divisor"] ["base", "numerator", "exponent"] (defScope s_reduced) := ⟨rfl, rfl, rfl, by decide +kernel, rfl, by decide +kernel, by decide +kernel⟩
theorem sc_at_place : FnScope ["base", "number", "place"] ["base", "number", "place"] (defScope s_at_place) := ⟨rfl, rfl, rfl, by decide +kernel, rfl, by decide +kernel, by decide +kernel⟩
theorem sc_total : FnScope ["base", "one", "other", "place", "number"] ["base", "one", "other"] (defScope s_total) := ⟨rfl, rfl, rfl, by decide +kernel, rfl, by decide +kernel, by decide +kernel⟩
theorem sc_negated : FnScope ["number"] ["number"] (defScope s_negated) := ⟨rfl, rfl, rfl, by decide +kernel, rfl, by decide +kernel, by decide +kernel⟩
theorem sc_floor_of : FnScope ["base", "number", "place"] ["base", "number", "place"] (defScope s_floor_of) := ⟨rfl, rfl, rfl, by decide +kernel, rfl, by decide +kernel, by decide +kernel⟩
theorem sc_is_pair : FnScope ["value"] ["value"] (defScope s_is_pair) := ⟨rfl, rfl, rfl, by decide +kernel, rfl, by decide +kernel, by decide +kernel⟩
theorem sc_is_number : FnScope ["base", "value", "numerator", "exponent"] ["base", "value"] (defScope s_is_number) := ⟨rfl, rfl, rfl, by decide +kernel, rfl, by decide +kernel, by decide +kernel⟩
theorem sc_is_state : FnScope ["row", "value"] ["row", "value"] (defScope s_is_state) := ⟨rfl, rfl, rfl, by decide +kernel, rfl, by decide +kernel, by decide +kernel⟩
theorem sc_require_state : FnScope ["row", "value"] ["row", "value"] (defScope s_require_state) := ⟨rfl, rfl, rfl, by decide +kernel, rfl, by decide +kernel, by decide +kernel⟩
theorem sc_difference : FnScope ["row", "start", "goal"] ["row", "start", "goal"] (defScope s_difference) := ⟨rfl, rfl, rfl, by decide +kernel, rfl, by decide +kernel, by decide +kernel⟩
theorem sc_span : FnScope ["row", "start", "goal", "number", "low", "top"] ["row", "start", "goal"] (defScope s_span) := ⟨rfl, rfl, rfl, by decide +kernel, rfl, by decide +kernel, by decide +kernel⟩
theorem sc_digits_for : FnScope ["base", "value", "rest"] ["base", "value"] (defScope s_digits_for) := ⟨rfl, rfl, rfl, by decide +kernel, rfl, by decide +kernel, by decide +kernel⟩
theorem sc_Search_init : FnScope ["self", "row", "start", "goal", "value", "place"] ["self", "row", "start", "goal"] (defScope s_Search_init) := ⟨rfl, rfl, rfl, by decide +kernel, rfl, by decide +kernel, by decide +kernel⟩
theorem sc_Search_next_layer : FnScope ["self", "layer", "base", "found", "value", "count", "digit", "before", "choice", "later", "more"] ["self", "layer"] (defScope s_Search_next_layer) := ⟨rfl, rfl, rfl, by decide +kernel, rfl, by decide +kernel, by decide +kernel⟩
theorem sc_Search_additions : FnScope ["self", "place", "value", "entry"] ["self", "place", "value"] (defScope s_Search_additions) := ⟨rfl, rfl, rfl, by decide +kernel, rfl, by decide +kernel, by decide +kernel⟩
theorem sc_Search_places : FnScope ["self"] ["self"] (defScope s_Search_places) := ⟨rfl, rfl, rfl, by decide +kernel, rfl, by decide +kernel, by decide +kernel⟩
theorem sc_Search_moves : FnScope ["self", "high"] ["self", "high"] (defScope s_Search_moves) := ⟨rfl, rfl, rfl, by decide +kernel, rfl, by decide +kernel, by decide +kernel⟩
theorem sc_Search_options : FnScope ["self", "found", "high", "value", "entry"] ["self"] (defScope s_Search_options) := ⟨rfl, rfl, rfl, by decide +kernel, rfl, by decide +kernel, by decide +kernel⟩
theorem sc_Search_cost : FnScope ["self", "option"] ["self", "option"] (defScope s_Search_cost) := ⟨rfl, rfl, rfl, by decide +kernel, rfl, by decide +kernel, by decide +kernel⟩
theorem sc_require_ends : FnScope ["row", "start", "goal"] ["row", "start", "goal"] (defScope s_require_ends) := ⟨rfl, rfl, rfl, by decide +kernel, rfl, by decide +kernel, by decide +kernel⟩
theorem sc_least_cost : FnScope ["row", "start", "goal", "search", "option"] ["row", "start", "goal"] (defScope s_least_cost) := ⟨rfl, rfl, rfl, by decide +kernel, rfl, by decide +kernel, by decide +kernel⟩
theorem sc_distance : FnScope ["row", "start", "goal"] ["row", "start", "goal"] (defScope s_distance) := ⟨rfl, rfl, rfl, by decide +kernel, rfl, by decide +kernel, by decide +kernel⟩
theorem sc_table_range : FnScope ["row", "start", "goal"] ["row", "start", "goal"] (defScope s_table_range) := ⟨rfl, rfl, rfl, by decide +kernel, rfl, by decide +kernel, by decide +kernel⟩
theorem sc_floors : FnScope ["row", "start", "goal", "number", "low", "top", "place"] ["row", "start", "goal"] (defScope s_floors) := ⟨rfl, rfl, rfl, by decide +kernel, rfl, by decide +kernel, by decide +kernel⟩
theorem sc_make_table : FnScope ["row", "start", "goal", "search", "low", "top", "rows", "index", "value", "counts", "one", "count"] ["row", "start", "goal"] (defScope s_make_table) := ⟨rfl, rfl, rfl, by decide +kernel, rfl, by decide +kernel, by decide +kernel⟩
theorem sc_is_entry : FnScope ["value", "one"] ["value"] (defScope s_is_entry) := ⟨rfl, rfl, rfl, by decide +kernel, rfl, by decide +kernel, by decide +kernel⟩
theorem sc_steps_valid : FnScope ["row", "value", "entry", "later", "entry_after", "base", "one", "cost", "digit", "after"] ["row", "value", "entry", "later", "entry_after"] (defScope s_steps_valid) := ⟨rfl, rfl, rfl, by decide +kernel, rfl, by decide +kernel, by decide +kernel⟩
theorem sc_ends_valid : FnScope ["row", "value", "entry", "moves", "bound", "one", "cost"] ["row", "value", "entry", "moves", "bound"] (defScope s_ends_valid) := ⟨rfl, rfl, rfl, by decide +kernel, rfl, by decide +kernel, by decide +kernel⟩
theorem sc_check_table : FnScope ["row", "start", "goal", "bound", "value", "values", "index", "low", "place", "moves", "entry"] ["row", "start", "goal", "bound", "value"] (defScope s_check_table) := ⟨rfl, rfl, rfl, by decide +kernel, rfl, by decide +kernel, by decide +kernel⟩
theorem sc_is_end : FnScope ["value"] ["value"] (defScope s_is_end) := ⟨rfl, rfl, rfl, by decide +kernel, rfl, by decide +kernel, by decide +kernel⟩
theorem sc_Row_init : FnScope ["self", "base", "move", "add", "first", "last"] ["self", "base", "move", "add", "first", "last"] (defScope s_Row_init) := ⟨rfl, rfl, rfl, by decide +kernel, rfl, by decide +kernel, by decide +kernel⟩
theorem sc_Row_base : FnScope ["self"] ["self"] (defScope s_Row_base) := ⟨rfl, rfl, rfl, by decide +kernel, rfl, by decide +kernel, by decide +kernel⟩
theorem sc_Row_move_cost : FnScope ["self"] ["self"] (defScope s_Row_move_cost) := ⟨rfl, rfl, rfl, by decide +kernel, rfl, by decide +kernel, by decide +kernel⟩
theorem sc_Row_add_cost : FnScope ["self"] ["self"] (defScope s_Row_add_cost) := ⟨rfl, rfl, rfl, by decide +kernel, rfl, by decide +kernel, by decide +kernel⟩
theorem sc_Row_lowest : FnScope ["self"] ["self"] (defScope s_Row_lowest) := ⟨rfl, rfl, rfl, by decide +kernel, rfl, by decide +kernel, by decide +kernel⟩
theorem sc_Row_highest : FnScope ["self"] ["self"] (defScope s_Row_highest) := ⟨rfl, rfl, rfl, by decide +kernel, rfl, by decide +kernel, by decide +kernel⟩
theorem sc_Row_has_place : FnScope ["self", "value"] ["self", "value"] (defScope s_Row_has_place) := ⟨rfl, rfl, rfl, by decide +kernel, rfl, by decide +kernel, by decide +kernel⟩
theorem sc_law_numbers : FnScope ["_law_cell", "_law_salt", "_law_sizes", "_law_number_here", "_law_left", "_law_result", "_law_k", "_law_one"] ["_law_cell", "_law_salt", "_law_sizes"] (defScope s_law_numbers) := ⟨rfl, rfl, rfl, by decide +kernel, rfl, by decide +kernel, by decide +kernel⟩
theorem sc_law_power : FnScope ["_law_base", "_law_count", "_law_result"] ["_law_base", "_law_count"] (defScope s_law_power) := ⟨rfl, rfl, rfl, by decide +kernel, rfl, by decide +kernel, by decide +kernel⟩
theorem sc_law_reduced : FnScope ["_law_base", "_law_numerator", "_law_exponent"] ["_law_base", "_law_numerator", "_law_exponent"] (defScope s_law_reduced) := ⟨rfl, rfl, rfl, by decide +kernel, rfl, by decide +kernel, by decide +kernel⟩
theorem sc_law_spec : FnScope ["_law_digits", "_law_base", "_law_lowest", "_law_highest"] ["_law_digits"] (defScope s_law_spec) := ⟨rfl, rfl, rfl, by decide +kernel, rfl, by decide +kernel, by decide +kernel⟩
theorem sc_law_row : FnScope ["_law_spec_here"] ["_law_spec_here"] (defScope s_law_row) := ⟨rfl, rfl, rfl, by decide +kernel, rfl, by decide +kernel, by decide +kernel⟩
theorem sc_law_position : FnScope ["_law_spec_here", "_law_digit", "_law_low", "_law_high"] ["_law_spec_here", "_law_digit"] (defScope s_law_position) := ⟨rfl, rfl, rfl, by decide +kernel, rfl, by decide +kernel, by decide +kernel⟩
theorem sc_law_next : FnScope ["_law_spec_here", "_law_state_here", "_law_base", "_law_step_cost", "_law_add_cost", "_law_lowest", "_law_highest", "_law_number_here", "_law_place", "_law_result", "_law_unit"] ["_law_spec_here", "_law_state_here"] (defScope s_law_next) := ⟨rfl, rfl, rfl, by decide +kernel, rfl, by decide +kernel, by decide +kernel⟩
theorem sc_law_reach : FnScope ["_law_spec_here", "_law_start", "_law_limit", "_law_costs", "_law_buckets", "_law_cost", "_law_state_here", "_law_later", "_law_more", "_law_k"] ["_law_spec_here", "_law_start", "_law_limit"] (defScope s_law_reach) := ⟨rfl, rfl, rfl, by decide +kernel, rfl, by decide +kernel, by decide +kernel⟩
theorem sc_law_scaled : FnScope ["_law_base", "_law_state_here"] ["_law_base", "_law_state_here"] (defScope s_law_scaled) := ⟨rfl, rfl, rfl, by decide +kernel, rfl, by decide +kernel, by decide +kernel⟩
theorem sc_law_plain : FnScope ["_law_base", "_law_units"] ["_law_base", "_law_units"] (defScope s_law_plain) := ⟨rfl, rfl, rfl, by decide +kernel, rfl, by decide +kernel, by decide +kernel⟩
theorem sc_law_written : FnScope ["_law_digits", "_law_many", "_law_rows", "_law_j", "_law_one", "_law_two"] ["_law_digits", "_law_many"] (defScope s_law_written) := ⟨rfl, rfl, rfl, by decide +kernel, rfl, by decide +kernel, by decide +kernel⟩
theorem sc_law_lowered : FnScope ["_law_table", "_law_digits", "_law_rows", "_law_j", "_law_entry", "_law_one"] ["_law_table", "_law_digits"] (defScope s_law_lowered) := ⟨rfl, rfl, rfl, by decide +kernel, rfl, by decide +kernel, by decide +kernel⟩
theorem sc_law : FnScope ["_law_script", "_law_k", "_law_cell", "_law_digits", "_law_spec_here", "_law_row_here", "_law_base", "_law_start", "_law_costs", "_law_states", "_law_j", "_law_goal", "_law_least", "_law_low", "_law_top", "_law_dear", "_law_tables", "_law_table", "_law_good", "_law_bound"] ["_law_script"] (defScope s_law) := ⟨rfl, rfl, rfl, by decide +kernel, rfl, by decide +kernel, by decide +kernel⟩
end K27

/-! The head by facts: what the top leaves. Printed by gen_head.py. -/
namespace K27
open PySem PySem.Spec L2 PyProof.Rows
/-- the getter of a property of a class of the module -/
def getAd (K : PySem.W.Frag) (c f : Str) : Addr := match PySem.W.recIn K (He.ma K (He.ga K c) f) "property" with
  | some (.ref g :: _) => g
  | _ => 0
def propB (K : PySem.W.Frag) (c f : Str) : Bool := He.eqO (PySem.W.findIn K (.ref (He.ga K c)) f) (some (some (.ref (He.ma K (He.ga K c) f)))) &&
  (He.eqO (PySem.W.specialIn K (.ref (He.ma K (He.ga K c) f)) "__get__") (some (some (.builtin "property.__get__"))) && (decide (PySem.W.takesIn K (.ref (He.ma K (He.ga K c) f)) = some true) &&
  (match PySem.W.recIn K (He.ma K (He.ga K c) f) "property" with
    | some (.ref _ :: _) => true
    | _ => false)))
theorem propB_ok {K : PySem.W.Frag} {c f : Str} (h : propB K c f = true) : PropOf K (He.ga K c) f (He.ma K (He.ga K c) f) (getAd K c f) := by
  unfold propB at h
  obtain ⟨h1, h⟩ := He.ba h
  obtain ⟨h2, h⟩ := He.ba h
  obtain ⟨h3, h4⟩ := He.ba h
  refine ⟨He.eqO_ok h1, He.eqO_ok h2, of_decide_eq_true h3, ?_⟩
  unfold getAd
  cases e : PySem.W.recIn K (He.ma K (He.ga K c) f) "property" with
  | none => rw [e] at h4; cases h4
  | some l =>
    cases l with
    | nil => rw [e] at h4; cases h4
    | cons v r =>
      cases v with
      | ref g => exact ⟨r, rfl⟩
      | _ => rw [e] at h4; cases h4
/-- a class's int constant -/
def cvalB (K : PySem.W.Frag) (c f : Str) (i : Int) : Bool := match PySem.W.findCls K (.ref (He.ga K c)) (.type "type") f with
  | some (.val (.int j _)) => decide (j = i)
  | _ => false
theorem cvalB_ok {K : PySem.W.Frag} {c f : Str} {i : Int} (h : cvalB K c f i = true) : ∃ u, ClX.CVal K (He.ga K c) (.type "type") f (.int i) u := by
  unfold cvalB at h
  cases e : PySem.W.findCls K (.ref (He.ga K c)) (.type "type") f with
  | none => (rw [e] at h; cases h)
  | some r =>
    cases r with
    | get _ _ _ _ => rw [e] at h; cases h
    | val v =>
      cases v with
      | int j t =>
        rw [e] at h
        have ej : j = i := of_decide_eq_true h
        exact ⟨.int j t, ⟨e, ⟨t, by rw [ej]⟩⟩⟩
      | _ => rw [e] at h; cases h
def creadB (K : PySem.W.Frag) (c : Str) : Bool := PySem.W.readsIn K (He.ga K c) (.type "type") && He.eqO (PySem.W.specialIn K (.ref (He.ga K c)) "__getattribute__") (some (some (.builtin "type.__getattribute__")))
theorem creadB_ok {K : PySem.W.Frag} {c : Str} (h : creadB K c = true) : ClX.CRead K (He.ga K c) (.type "type") := by
  obtain ⟨h1, h2⟩ := He.ba h
  exact ⟨h1, He.eqO_ok h2⟩
def exB (K : PySem.W.Frag) : Bool := (propB K "Row" "base" && (propB K "Row" "move_cost" && (propB K "Row" "add_cost" && (creadB K "Row" && (cvalB K "Row" "MIN_BASE" 2 && cvalB K "Row" "MAX_BASE" 36)))))
def d_is_integer : He5.DefA := ⟨fun K => He.fAd K ("is_integer", none), "is_integer", "is_integer", defArgs s_is_integer, defBody s_is_integer, defScope s_is_integer, [], []⟩
def d_is_between : He5.DefA := ⟨fun K => He.fAd K ("is_between", none), "is_between", "is_between", defArgs s_is_between, defBody s_is_between, defScope s_is_between, [], []⟩
def d_raised : He5.DefA := ⟨fun K => He.fAd K ("raised", none), "raised", "raised", defArgs s_raised, defBody s_raised, defScope s_raised, [], []⟩
def d_reduced : He5.DefA := ⟨fun K => He.fAd K ("reduced", none), "reduced", "reduced", defArgs s_reduced, defBody s_reduced, defScope s_reduced, [], []⟩
def d_at_place : He5.DefA := ⟨fun K => He.fAd K ("at_place", none), "at_place", "at_place", defArgs s_at_place, defBody s_at_place, defScope s_at_place, [], []⟩
def d_total : He5.DefA := ⟨fun K => He.fAd K ("total", none), "total", "total", defArgs s_total, defBody s_total, defScope s_total, [], []⟩
def d_negated : He5.DefA := ⟨fun K => He.fAd K ("negated", none), "negated", "negated", defArgs s_negated, defBody s_negated, defScope s_negated, [], []⟩
def d_floor_of : He5.DefA := ⟨fun K => He.fAd K ("floor_of", none), "floor_of", "floor_of", defArgs s_floor_of, defBody s_floor_of, defScope s_floor_of, [], []⟩
def d_is_pair : He5.DefA := ⟨fun K => He.fAd K ("is_pair", none), "is_pair", "is_pair", defArgs s_is_pair, defBody s_is_pair, defScope s_is_pair, [], []⟩
def d_is_number : He5.DefA := ⟨fun K => He.fAd K ("is_number", none), "is_number", "is_number", defArgs s_is_number, defBody s_is_number, defScope s_is_number, [], []⟩
def d_is_state : He5.DefA := ⟨fun K => He.fAd K ("is_state", none), "is_state", "is_state", defArgs s_is_state, defBody s_is_state, defScope s_is_state, [], []⟩
def d_require_state : He5.DefA := ⟨fun K => He.fAd K ("require_state", none), "require_state", "require_state", defArgs s_require_state, defBody s_require_state, defScope s_require_state, [], []⟩
def d_difference : He5.DefA := ⟨fun K => He.fAd K ("difference", none), "difference", "difference", defArgs s_difference, defBody s_difference, defScope s_difference, [], []⟩
def d_span : He5.DefA := ⟨fun K => He.fAd K ("span", none), "span", "span", defArgs s_span, defBody s_span, defScope s_span, [], []⟩
def d_digits_for : He5.DefA := ⟨fun K => He.fAd K ("digits_for", none), "digits_for", "digits_for", defArgs s_digits_for, defBody s_digits_for, defScope s_digits_for, [], []⟩
def d_Search_init : He5.DefA := ⟨fun K => He.fAd K ("Search", some "__init__"), "__init__", "Search.__init__", defArgs s_Search_init, defBody s_Search_init, defScope s_Search_init, [], []⟩
def d_Search_next_layer : He5.DefA := ⟨fun K => He.fAd K ("Search", some "next_layer"), "next_layer", "Search.next_layer", defArgs s_Search_next_layer, defBody s_Search_next_layer, defScope s_Search_next_layer, [], []⟩
def d_Search_additions : He5.DefA := ⟨fun K => He.fAd K ("Search", some "additions"), "additions", "Search.additions", defArgs s_Search_additions, defBody s_Search_additions, defScope s_Search_additions, [], []⟩
def d_Search_places : He5.DefA := ⟨fun K => He.fAd K ("Search", some "places"), "places", "Search.places", defArgs s_Search_places, defBody s_Search_places, defScope s_Search_places, [], []⟩
def d_Search_moves : He5.DefA := ⟨fun K => He.fAd K ("Search", some "moves"), "moves", "Search.moves", defArgs s_Search_moves, defBody s_Search_moves, defScope s_Search_moves, [], []⟩
def d_Search_options : He5.DefA := ⟨fun K => He.fAd K ("Search", some "options"), "options", "Search.options", defArgs s_Search_options, defBody s_Search_options, defScope s_Search_options, [], []⟩
def d_Search_cost : He5.DefA := ⟨fun K => He.fAd K ("Search", some "cost"), "cost", "Search.cost", defArgs s_Search_cost, defBody s_Search_cost, defScope s_Search_cost, [], []⟩
def d_require_ends : He5.DefA := ⟨fun K => He.fAd K ("require_ends", none), "require_ends", "require_ends", defArgs s_require_ends, defBody s_require_ends, defScope s_require_ends, [], []⟩
def d_least_cost : He5.DefA := ⟨fun K => He.fAd K ("least_cost", none), "least_cost", "least_cost", defArgs s_least_cost, defBody s_least_cost, defScope s_least_cost, [], []⟩
def d_distance : He5.DefA := ⟨fun K => He.fAd K ("distance", none), "distance", "distance", defArgs s_distance, defBody s_distance, defScope s_distance, [], []⟩
def d_table_range : He5.DefA := ⟨fun K => He.fAd K ("table_range", none), "table_range", "table_range", defArgs s_table_range, defBody s_table_range, defScope s_table_range, [], []⟩
def d_floors : He5.DefA := ⟨fun K => He.fAd K ("floors", none), "floors", "floors", defArgs s_floors, defBody s_floors, defScope s_floors, [], []⟩
def d_make_table : He5.DefA := ⟨fun K => He.fAd K ("make_table", none), "make_table", "make_table", defArgs s_make_table, defBody s_make_table, defScope s_make_table, [], []⟩
def d_is_entry : He5.DefA := ⟨fun K => He.fAd K ("is_entry", none), "is_entry", "is_entry", defArgs s_is_entry, defBody s_is_entry, defScope s_is_entry, [], []⟩
def d_steps_valid : He5.DefA := ⟨fun K => He.fAd K ("steps_valid", none), "steps_valid", "steps_valid", defArgs s_steps_valid, defBody s_steps_valid, defScope s_steps_valid, [], []⟩
def d_ends_valid : He5.DefA := ⟨fun K => He.fAd K ("ends_valid", none), "ends_valid", "ends_valid", defArgs s_ends_valid, defBody s_ends_valid, defScope s_ends_valid, [], []⟩
def d_check_table : He5.DefA := ⟨fun K => He.fAd K ("check_table", none), "check_table", "check_table", defArgs s_check_table, defBody s_check_table, defScope s_check_table, [], []⟩
def d_is_end : He5.DefA := ⟨fun K => He.fAd K ("is_end", none), "is_end", "is_end", defArgs s_is_end, defBody s_is_end, defScope s_is_end, [], []⟩
def d_Row_init : He5.DefA := ⟨fun K => He.fAd K ("Row", some "__init__"), "__init__", "Row.__init__", defArgs s_Row_init, defBody s_Row_init, defScope s_Row_init, [], [("move", .int 1), ("add", .int 1), ("first", .non), ("last", .non)]⟩
def d_Row_base : He5.DefA := ⟨fun K => getAd K "Row" "base", "base", "Row.base", defArgs s_Row_base, defBody s_Row_base, defScope s_Row_base, [], []⟩
def d_Row_move_cost : He5.DefA := ⟨fun K => getAd K "Row" "move_cost", "move_cost", "Row.move_cost", defArgs s_Row_move_cost, defBody s_Row_move_cost, defScope s_Row_move_cost, [], []⟩
def d_Row_add_cost : He5.DefA := ⟨fun K => getAd K "Row" "add_cost", "add_cost", "Row.add_cost", defArgs s_Row_add_cost, defBody s_Row_add_cost, defScope s_Row_add_cost, [], []⟩
def d_Row_lowest : He5.DefA := ⟨fun K => He.fAd K ("Row", some "lowest"), "lowest", "Row.lowest", defArgs s_Row_lowest, defBody s_Row_lowest, defScope s_Row_lowest, [], []⟩
def d_Row_highest : He5.DefA := ⟨fun K => He.fAd K ("Row", some "highest"), "highest", "Row.highest", defArgs s_Row_highest, defBody s_Row_highest, defScope s_Row_highest, [], []⟩
def d_Row_has_place : He5.DefA := ⟨fun K => He.fAd K ("Row", some "has_place"), "has_place", "Row.has_place", defArgs s_Row_has_place, defBody s_Row_has_place, defScope s_Row_has_place, [], []⟩
def d_law_numbers : He5.DefA := ⟨fun K => He.fAd K ("_law_numbers", none), "_law_numbers", "_law_numbers", defArgs s_law_numbers, defBody s_law_numbers, defScope s_law_numbers, [], []⟩
def d_law_power : He5.DefA := ⟨fun K => He.fAd K ("_law_power", none), "_law_power", "_law_power", defArgs s_law_power, defBody s_law_power, defScope s_law_power, [], []⟩
def d_law_reduced : He5.DefA := ⟨fun K => He.fAd K ("_law_reduced", none), "_law_reduced", "_law_reduced", defArgs s_law_reduced, defBody s_law_reduced, defScope s_law_reduced, [], []⟩
def d_law_spec : He5.DefA := ⟨fun K => He.fAd K ("_law_spec", none), "_law_spec", "_law_spec", defArgs s_law_spec, defBody s_law_spec, defScope s_law_spec, [], []⟩
def d_law_row : He5.DefA := ⟨fun K => He.fAd K ("_law_row", none), "_law_row", "_law_row", defArgs s_law_row, defBody s_law_row, defScope s_law_row, [], []⟩
def d_law_position : He5.DefA := ⟨fun K => He.fAd K ("_law_position", none), "_law_position", "_law_position", defArgs s_law_position, defBody s_law_position, defScope s_law_position, [], []⟩
def d_law_next : He5.DefA := ⟨fun K => He.fAd K ("_law_next", none), "_law_next", "_law_next", defArgs s_law_next, defBody s_law_next, defScope s_law_next, [], []⟩
def d_law_reach : He5.DefA := ⟨fun K => He.fAd K ("_law_reach", none), "_law_reach", "_law_reach", defArgs s_law_reach, defBody s_law_reach, defScope s_law_reach, [], []⟩
def d_law_scaled : He5.DefA := ⟨fun K => He.fAd K ("_law_scaled", none), "_law_scaled", "_law_scaled", defArgs s_law_scaled, defBody s_law_scaled, defScope s_law_scaled, [], []⟩
def d_law_plain : He5.DefA := ⟨fun K => He.fAd K ("_law_plain", none), "_law_plain", "_law_plain", defArgs s_law_plain, defBody s_law_plain, defScope s_law_plain, [], []⟩
def d_law_written : He5.DefA := ⟨fun K => He.fAd K ("_law_written", none), "_law_written", "_law_written", defArgs s_law_written, defBody s_law_written, defScope s_law_written, [], []⟩
def d_law_lowered : He5.DefA := ⟨fun K => He.fAd K ("_law_lowered", none), "_law_lowered", "_law_lowered", defArgs s_law_lowered, defBody s_law_lowered, defScope s_law_lowered, [], []⟩
def d_law : He5.DefA := ⟨fun K => He.fAd K ("law", none), "law", "law", defArgs s_law, defBody s_law, defScope s_law, [], []⟩
def fnl : List He5.DefA := [d_is_integer, d_is_between, d_raised, d_reduced, d_at_place, d_total, d_negated, d_floor_of, d_is_pair, d_is_number, d_is_state, d_require_state, d_difference, d_span, d_digits_for, d_Search_init, d_Search_next_layer, d_Search_additions, d_Search_places, d_Search_moves, d_Search_options, d_Search_cost, d_require_ends, d_least_cost, d_distance, d_table_range, d_floors, d_make_table, d_is_entry, d_steps_valid, d_ends_valid, d_check_table, d_is_end, d_Row_init, d_Row_base, d_Row_move_cost, d_Row_add_cost, d_Row_lowest, d_Row_highest, d_Row_has_place, d_law_numbers, d_law_power, d_law_reduced, d_law_spec, d_law_row, d_law_position, d_law_next, d_law_reach, d_law_scaled, d_law_plain, d_law_written, d_law_lowered, d_law]
def fal : List He.Fa := [.glo "is_integer",
  .glo "is_between",
  .glo "raised",
  .glo "reduced",
  .glo "at_place",
  .glo "total",
  .glo "negated",
  .glo "floor_of",
  .glo "is_pair",
  .glo "is_number",
  .glo "is_state",
  .glo "require_state",
  .glo "difference",
  .glo "span",
  .glo "digits_for",
  .glo "require_ends",
  .glo "least_cost",
  .glo "distance",
  .glo "table_range",
  .glo "floors",
  .glo "make_table",
  .glo "is_entry",
  .glo "steps_valid",
  .glo "ends_valid",
  .glo "check_table",
  .glo "is_end",
  .glo "_law_numbers",
  .glo "_law_power",
  .glo "_law_reduced",
  .glo "_law_spec",
  .glo "_law_row",
  .glo "_law_position",
  .glo "_law_next",
  .glo "_law_reach",
  .glo "_law_scaled",
  .glo "_law_plain",
  .glo "_law_written",
  .glo "_law_lowered",
  .glo "law",
  .glo "Search",
  .glo "Row",
  .free "isinstance",
  .free "int",
  .free "bool",
  .free "tuple",
  .free "list",
  .free "len",
  .free "abs",
  .free "min",
  .free "max",
  .free "range",
  .free "enumerate",
  .free "zip",
  .free "all",
  .free "sorted",
  .int "MAX_PLACE" 1000,
  .int "TOO_LONG" ((10 ^ 300 : Nat) : Int),
  .int "MAX_COST" 1000000,
  .cls "Search",
  .cls "Row",
  .noat "Search" "own_row",
  .noat "Search" "own_ends",
  .noat "Search" "own_low",
  .noat "Search" "own_top",
  .noat "Search" "own_layers",
  .noat "Row" "own_base",
  .noat "Row" "own_move",
  .noat "Row" "own_add",
  .noat "Row" "own_first",
  .noat "Row" "own_last",
  .meth "Search" "next_layer",
  .meth "Search" "additions",
  .meth "Search" "places",
  .meth "Search" "moves",
  .meth "Search" "options",
  .meth "Search" "cost",
  .meth "Row" "lowest",
  .meth "Row" "highest",
  .meth "Row" "has_place",
  .mkr "Search",
  .mkr "Row",
  .keep "Row",
  .keep "Search"]
/-! ### the Hook: the facts, the defs, and one Bool more -/
abbrev AlK : Type := He.AlD × Bool
def obsK (g : Addr → Option Obj) : AlK := (He5.obsA fal fnl (He.frG g (He5.asA g 6)), exB (He.frG g (He5.asA g 6)))
structure SaysK (K : PySem.W.Frag) : Prop where
  a : He5.SaysA fal fnl K
  x : exB K = true
def hk : PySem.W.Hook where
  α := AlK
  obs := fun s => obsK s.heap.get?
  val := fun _ => (He5.valA fnl, true)
  says := fun _ h => ∃ K : PySem.W.Frag, K.In h ∧ SaysK K
  of := fun _ _ e => ⟨_, He.frG_in, ⟨congrArg (fun z : AlK => z.1) e, congrArg (fun z : AlK => z.2) e⟩⟩
  keeps := fun _ _ _ ⟨F, hF, c⟩ k => ⟨F, PySem.W.Frag.In.keeps hF k, c⟩
abbrev R : PySem.W.OpenRow := PySem.W.OpenLaw.row PySem.Challenge.rw_abacushead_k27_whole_tables_are_sound
def ob (s : PySem.W.SharedT) : AlK := obsK (HandSHeadRun.getT s)
theorem ob_eq (s : PySem.W.SharedT) : ob s = hk.obs s.abs := by
  have e : HandSHeadRun.getT s = s.abs.heap.get? := funext (HandSHeadRun.getT_eq s)
  show obsK (HandSHeadRun.getT s) = obsK s.abs.heap.get?
  rw [e]
def loose0 : List Str := ["is_integer", "is_between", "raised", "reduced", "at_place", "total", "negated", "floor_of", "HeadError", "InvalidRow", "InvalidState", "InvalidLimit", "MAX_PLACE", "TOO_LONG", "is_pair", "is_number", "is_state", "require_state", "difference", "span", "digits_for", "Search", "require_ends", "least_cost", "distance", "table_range", "floors", "make_table", "is_entry", "steps_valid"]
def loose1 : List Str := ["ends_valid", "check_table", "MAX_COST", "is_end", "Row", "_law_numbers", "_law_power", "_law_reduced", "_law_sum", "_law_integer", "_law_number", "_law_spec", "_law_row", "_law_position", "_law_state", "_law_next", "_law_reach", "_law_scaled", "_law_plain", "_law_written", "_law_lowered"]
def loose : List Str := loose0 ++ loose1
theorem run (w : World) : HandSHeadRun.RunEq R (PySem.W.view R.prog [59]) hk ob 4000 loose w := by
  intro os
  kernel_rfl
end K27

/-! What a piece of the text does, told by what it evaluates to over all that is known of the heap. -/
namespace K27
open PySem PySem.Spec PyProof.Rows L2 Evl

/-! ### the widest readings -/
section
variable {X : Cx}
def wE (X : Cx) (e : Expr) : TE := fun σ H Q => ∀ pins s, Inv X pins σ H s → wpAny (model X.prog X.w) X.A (eval e X.env) (EP X pins σ Q) X.xe s
def wT (X : Cx) (e : Expr) : TT := fun σ H Q => ∀ pins s, Inv X pins σ H s → wpAny (model X.prog X.w) X.A (isTrue e X.env (eval e X.env)) (TP X pins σ Q) X.xe s
def wW (X : Cx) (e : Expr) : TT := fun σ H Q => ∀ whole pins s, Inv X pins σ H s → wpAny (model X.prog X.w) X.A (isTrue e X.env whole) (TP X pins σ Q) X.xe s
def wA (X : Cx) (es : List Expr) : TA := fun σ H Q => ∀ pos pins s, Inv X pins σ H s → wpAny (model X.prog X.w) X.A (spliced (backTo pos (starEach es X.env))) (AP X pins σ Q) X.xe s
def wS (X : Cx) (st : Stmt) : TS := fun D σ H => ∀ pins s, Inv X pins σ H s → wpAny (model X.prog X.w) X.A (exec st X.env) (SP X pins D) X.xe s
def wB (X : Cx) (sts : List Stmt) : TS := fun D σ H => ∀ pins s, Inv X pins σ H s → wpAny (model X.prog X.w) X.A (execs sts X.env) (SP X pins D) X.xe s
theorem pe_w {e : Expr} : PE X e (wE X e) := ⟨fun pins s _ _ _ I h => h pins s I⟩
theorem pt_w {e : Expr} : PT X e (wT X e) := ⟨fun pins s _ _ _ I h => h pins s I⟩
theorem pw_w {e : Expr} : PW X e (wW X e) := ⟨fun wh pins s _ _ _ I h => h wh pins s I⟩
theorem pa_w {es : List Expr} : PA X es (wA X es) := ⟨fun pos pins s _ _ _ I h => h pos pins s I⟩
theorem ps_w {st : Stmt} : PS X st (wS X st) := ⟨fun pins s _ _ _ I h => h pins s I⟩
theorem pb_w {sts : List Stmt} : PSs X sts (wB X sts) := ⟨fun pins s _ _ _ I h => h pins s I⟩
theorem to_wE {e : Expr} {t : TE} {σ : L2.St} {H : Hp} {Q : VK} (h : PE X e t) (k : t σ H Q) : wE X e σ H Q := fun pins s I => h.run pins s σ H Q I k
theorem to_wA {es : List Expr} {t : TA} {σ : L2.St} {H : Hp} {Q : List V → Hp → Prop} (h : PA X es t) (k : t σ H Q) : wA X es σ H Q := fun pos pins s I => h.run pos pins s σ H Q I k
theorem to_wS {st : Stmt} {t : TS} {σ : L2.St} {H : Hp} {D : Ends} (h : PS X st t) (k : t D σ H) : wS X st D σ H := fun pins s I => h.run pins s σ H D I k
theorem to_wB {sts : List Stmt} {t : TS} {σ : L2.St} {H : Hp} {D : Ends} (h : PSs X sts t) (k : t D σ H) : wB X sts D σ H := fun pins s I => h.run pins s σ H D I k
end

/-! ### evaluates to: a value; a new object; something with a property -/
abbrev EV (X : Cx) (e : Expr) (σ : L2.St) (H : Hp) (v : V) : Prop := Ev (wE X e) σ H v
abbrev ET (X : Cx) (e : Expr) (σ : L2.St) (H : Hp) (b : Bool) : Prop := EvT (wT X e) σ H b
abbrev EW (X : Cx) (e : Expr) (σ : L2.St) (H : Hp) (b : Bool) : Prop := EvT (wW X e) σ H b
abbrev EA (X : Cx) (es : List Expr) (σ : L2.St) (H : Hp) (vs : List V) : Prop := EvA (wA X es) σ H vs
/-- a new object o -/
def EN (X : Cx) (e : Expr) (σ : L2.St) (H : Hp) (o : HO) : Prop := ∀ H1, Ex H H1 → ∀ Q : VK, (∀ p H2, H1 p = none → Ex H1 H2 → H2 p = some o → Q (.ref p) H2) → wE X e σ H1 Q
/-- a value of which R holds -/
def ER (X : Cx) (e : Expr) (σ : L2.St) (H : Hp) (R : V → Hp → Prop) : Prop := ∀ H1, Ex H H1 → ∀ Q : VK, (∀ v H2, Ex H1 H2 → R v H2 → Q v H2) → wE X e σ H1 Q
/-- arguments of which R holds -/
def EAR (X : Cx) (es : List Expr) (σ : L2.St) (H : Hp) (R : List V → Hp → Prop) : Prop := ∀ H1, Ex H H1 → ∀ Q : List V → Hp → Prop, (∀ v H2, Ex H1 H2 → R v H2 → Q v H2) → wA X es σ H1 Q
/-- a block, over all that is known -/
def BL (X : Cx) (sts : List Stmt) (D : Ends) (σ : L2.St) (H : Hp) : Prop := ∀ H1, Ex H H1 → wB X sts D σ H1

section
variable {X : Cx} {σ : L2.St} {H H' : Hp} {v x y : V} {o : HO} {e a b c : Expr} {pos p1 p2 : Pos} {te : TE}

theorem ev_pe (h : PE X e te) (k : Ev te σ H v) : EV X e σ H v := fun H1 e1 Q q => to_wE h (k H1 e1 Q q)
theorem et_pt {tt : TT} {b : Bool} (h : PT X e tt) (k : EvT tt σ H b) : ET X e σ H b := fun H1 e1 Q q pins s I => h.run pins s σ H1 Q I (k H1 e1 Q q)
theorem ew_pw {tt : TT} {b : Bool} (h : PW X e tt) (k : EvT tt σ H b) : EW X e σ H b := fun H1 e1 Q q wh pins s I => h.run wh pins s σ H1 Q I (k H1 e1 Q q)
theorem et_pw {tt : TT} {b : Bool} (h : PW X e tt) (k : EvT tt σ H b) : ET X e σ H b := et_pt h.pt k
theorem EN.mono (x : Ex H H') (h : EN X e σ H o) : EN X e σ H' o := fun H1 e1 Q q => h H1 (x.trans e1) Q q
theorem ER.mono {R : V → Hp → Prop} (x : Ex H H') (h : ER X e σ H R) : ER X e σ H' R := fun H1 e1 Q q => h H1 (x.trans e1) Q q
theorem BL.mono {D : Ends} {sts : List Stmt} (x : Ex H H') (h : BL X sts D σ H) : BL X sts D σ H' := fun H1 e1 => h H1 (x.trans e1)
theorem ER.imp {R R' : V → Hp → Prop} (h : ER X e σ H R) (k : ∀ v H1, Ex H H1 → R v H1 → R' v H1) : ER X e σ H R' := fun H1 e1 Q q => h H1 e1 Q fun v H2 e2 r => q v H2 e2 (k v H2 (e1.trans e2) r)
theorem er_ev (h : EV X e σ H v) : ER X e σ H fun u _ => u = v := fun H1 e1 Q q => h H1 e1 Q fun H2 e2 => q v H2 e2 rfl
theorem er_en (h : EN X e σ H o) : ER X e σ H fun u H2 => ∃ p, u = .ref p ∧ H p = none ∧ H2 p = some o := fun H1 e1 Q q => h H1 e1 Q fun p H2 hp e2 h2 => q _ H2 e2 ⟨p, rfl, fresh_back e1 hp, h2⟩
theorem ev_er (h : ER X e σ H fun u _ => u = v) : EV X e σ H v := fun H1 e1 Q q => h H1 e1 Q fun u H2 e2 r => by rw [r]; exact q H2 e2
theorem ev_to {w : V} (h : EV X e σ H v) (k : v = w) : EV X e σ H w := k ▸ h

/-! names, constants -/
theorem ev_nm (i : Nat) {z : Str} (h : σ[i]? = some (some v)) (hN : X.N[i]? = some z := by rfl) (hv : Vis X.env.scope z := by first | exact Or.inl rfl | exact Or.inr (Or.inl rfl) | exact Or.inr (Or.inr rfl)) (hd : (z == ("__debug__" : Str)) = false := by decide)
    (hcd : (z == ("__classdict__" : Str)) = false := by decide) : EV X (.Name z pos) σ H v := ev_pe (pe_var hN hv hd hcd) (ev_var h)
theorem ev_int {i : Int} {j} : EV X (.Constant (.int i) j pos) σ H (.int i) := ev_pe pe_int ev_c
theorem ev_bl {b : Bool} {j} : EV X (.Constant (.bool b) j pos) σ H (.bl b) := ev_pe pe_bl ev_c
theorem ev_non {j} : EV X (.Constant .none j pos) σ H .non := ev_pe pe_non ev_c
theorem ev_gl {z : Str} {u : Value} (hg : Gl X z) (hm : X.mg z = some u) (r : RelV v u) (hd : (z == ("__debug__" : Str)) = false := by decide) : EV X (.Name z pos) σ H v := ev_pe (pe_glob hg hm r hd) ev_c
theorem ev_blt {z : Str} {u : Value} (hg : Gl X z) (hm : X.mg z = none) (hv : bootBuiltins z = some u) (r : RelV v u) (hn : z ≠ "__name__" := by decide) (hd : (z == ("__debug__" : Str)) = false := by decide) : EV X (.Name z pos) σ H v := ev_pe (pe_bltn hg hm hv r hn hd) ev_c

/-! whole numbers -/
variable {i j : Int}
theorem ev_add (ha : EV X a σ H (.int i)) (hb : EV X b σ H (.int j)) : EV X (.BinOp a .Add b pos) σ H (.int (i + j)) := ev_pe (pe_op op_add pe_w pe_w) (ev_op ha hb rv_I0)
theorem ev_sub (ha : EV X a σ H (.int i)) (hb : EV X b σ H (.int j)) : EV X (.BinOp a .Sub b pos) σ H (.int (i - j)) := ev_pe (pe_op op_sub pe_w pe_w) (ev_op ha hb rv_I0)
theorem ev_mul (ha : EV X a σ H (.int i)) (hb : EV X b σ H (.int j)) (hc : CMulW i j) : EV X (.BinOp a .Mult b pos) σ H (.int (i * j)) := ev_pe (pe_op op_mulW pe_w pe_w) (ev_op ha hb (rv_I hc))
theorem ev_mulS (ha : EV X a σ H (.int i)) (hb : EV X b σ H (.int j)) (hc : CMul i j) : EV X (.BinOp a .Mult b pos) σ H (.int (i * j)) := ev_pe (pe_op op_mul pe_w pe_w) (ev_op ha hb (rv_I hc))
theorem ev_mod (ha : EV X a σ H (.int i)) (hb : EV X b σ H (.int j)) (hc : 0 < j) : EV X (.BinOp a .Mod b pos) σ H (.int (i % j)) := ev_pe (pe_op op_mod pe_w pe_w) (ev_op ha hb (rv_I (C := fun _ j => 0 < j) hc))
theorem ev_fdiv (ha : EV X a σ H (.int i)) (hb : EV X b σ H (.int j)) (hc : CDivW i j) : EV X (.BinOp a .FloorDiv b pos) σ H (.int (i / j)) := ev_pe (pe_op op_fdivW pe_w pe_w) (ev_op ha hb (rv_I hc))
theorem ev_fdivS (ha : EV X a σ H (.int i)) (hb : EV X b σ H (.int j)) (hc : CDiv i j) : EV X (.BinOp a .FloorDiv b pos) σ H (.int (i / j)) := ev_pe (pe_op op_fdiv pe_w pe_w) (ev_op ha hb (rv_I hc))
theorem ev_pow (ha : EV X a σ H (.int i)) (hb : EV X b σ H (.int j)) (hc : CPow i j) : EV X (.BinOp a .Pow b pos) σ H (.int (i ^ j.toNat)) := ev_pe (pe_op op_pow pe_w pe_w) (ev_op ha hb (rv_I hc))
theorem ev_neg (ha : EV X a σ H (.int i)) : EV X (.UnaryOp .USub a pos) σ H (.int (-i)) := ev_pe (pe_un un_neg pe_w) (ev_un ha ru_neg)

/-! comparisons -/
theorem ev_lt (ha : EV X a σ H (.int i)) (hb : EV X b σ H (.int j)) : EV X (.Compare a [.Lt] [b] pos) σ H (.bl (decide (i < j))) := ev_pe (pe_cmpR op_lt pe_w pe_w (nomark _)) (ev_op ha hb rv_I0)
theorem ev_le (ha : EV X a σ H (.int i)) (hb : EV X b σ H (.int j)) : EV X (.Compare a [.LtE] [b] pos) σ H (.bl (decide (i ≤ j))) := ev_pe (pe_cmpR op_le pe_w pe_w (nomark _)) (ev_op ha hb rv_I0)
theorem ev_gt (ha : EV X a σ H (.int i)) (hb : EV X b σ H (.int j)) : EV X (.Compare a [.Gt] [b] pos) σ H (.bl (decide (j < i))) := ev_pe (pe_cmpR op_gt pe_w pe_w (nomark _)) (ev_op ha hb rv_I0)
theorem ev_ge (ha : EV X a σ H (.int i)) (hb : EV X b σ H (.int j)) : EV X (.Compare a [.GtE] [b] pos) σ H (.bl (decide (j ≤ i))) := ev_pe (pe_cmpR op_ge pe_w pe_w (nomark _)) (ev_op ha hb rv_I0)
theorem ev_eq (ha : EV X a σ H x) (hb : EV X b σ H y) (h : scal x y = true) : EV X (.Compare a [.Eq] [b] pos) σ H (.bl (decide (x = y))) := ev_pe (pe_cmpR op_eq pe_w pe_w (nomark _)) (ev_op ha hb (rv_eq h))
theorem ev_ne (ha : EV X a σ H x) (hb : EV X b σ H y) (h : scal x y = true) : EV X (.Compare a [.NotEq] [b] pos) σ H (.bl (!decide (x = y))) := ev_pe (pe_cmpR op_ne pe_w pe_w (nomark _)) (ev_op ha hb (rv_ne h))
theorem int_eqd : decide ((V.int i) = V.int j) = decide (i = j) := by
  by_cases h : i = j
  · subst h; simp
  · rw [decide_eq_false h, decide_eq_false fun q => h (V.int.inj q)]
theorem ev_eqI (ha : EV X a σ H (.int i)) (hb : EV X b σ H (.int j)) : EV X (.Compare a [.Eq] [b] pos) σ H (.bl (decide (i = j))) := ev_to (ev_eq ha hb rfl) (by rw [int_eqd])
theorem ev_neI (ha : EV X a σ H (.int i)) (hb : EV X b σ H (.int j)) : EV X (.Compare a [.NotEq] [b] pos) σ H (.bl (!decide (i = j))) := ev_to (ev_ne ha hb rfl) (by rw [int_eqd])
theorem ev_isN {k} (ha : EV X a σ H x) : EV X (.Compare a [.Is] [.Constant .none k p1] pos) σ H (.bl (decide (x = .non))) := ev_pe (pe_cmpR op_isN1 pe_w pe_non (nomark _)) (ev_op ha ev_c fun H1 _ _ q => ⟨rfl, q H1 (Ex.refl H1)⟩)
theorem ev_notN {k} (ha : EV X a σ H x) : EV X (.Compare a [.IsNot] [.Constant .none k p1] pos) σ H (.bl (!decide (x = .non))) := ev_pe (pe_cmpR op_notN1 pe_w pe_non (nomark _)) (ev_op ha ev_c fun H1 _ _ q => ⟨rfl, q H1 (Ex.refl H1)⟩)
/-- a ≤ b ≤ c -/
theorem ev_lele {k : Int} (ha : EV X a σ H (.int i)) (hb : EV X b σ H (.int j)) (hc : EV X c σ H (.int k)) (hm : lastMarks [.LtE, .LtE] [b, c] = false := by with_unfolding_all rfl) : EV X (.Compare a [.LtE, .LtE] [b, c] pos) σ H (.bl (decide (i ≤ j) && decide (j ≤ k))) :=
  ev_pe (pe_chain op_le op_le pe_w pe_w pe_w hm) fun H1 e1 Q q => ha H1 e1 _ fun H2 e2 => hb H2 (e1.trans e2) _ fun H3 e3 => ⟨i, j, rfl, rfl, decide (i ≤ j), rfl, by
    by_cases h : i ≤ j
    · rw [decide_eq_true h, if_pos rfl]
      rw [decide_eq_true h] at q
      exact hc H3 ((e1.trans e2).trans e3) _ fun H4 e4 => ⟨j, k, rfl, rfl, q H4 ((e2.trans e3).trans e4)⟩
    · rw [decide_eq_false h, if_neg Bool.false_ne_true]
      rw [decide_eq_false h] at q
      exact q H3 (e2.trans e3)⟩

/-! truth values -/
variable {k l : Bool}
theorem ev_one {op : BoolOp} (ha : EV X a σ H v) : EV X (.BoolOp op [a] pos) σ H v := ev_pe (pe_one pe_w) ha
theorem ev_and {rest : List Expr} (ha : EV X a σ H (.bl k)) (hb : k = true → EV X (.BoolOp .And (b :: rest) pos) σ H (.bl l)) : EV X (.BoolOp .And (a :: b :: rest) pos) σ H (.bl (k && l)) := ev_pe (pe_and pe_w pe_w) (ev_andV ha hb)
theorem ev_or {rest : List Expr} (ha : EV X a σ H (.bl k)) (hb : k = false → EV X (.BoolOp .Or (b :: rest) pos) σ H (.bl l)) : EV X (.BoolOp .Or (a :: b :: rest) pos) σ H (.bl (k || l)) := ev_pe (pe_or pe_w pe_w) (ev_orV ha hb)
theorem ev_not (ha : EV X a σ H (.bl k)) : EV X (.UnaryOp .Not a pos) σ H (.bl (!k)) := ev_pe (pe_not pe_w) (ev_notV ha)
theorem ev_ife (hc : ET X c σ H k) (h1 : k = true → EV X a σ H v) (h2 : k = false → EV X b σ H v) : EV X (.IfExp c a b pos) σ H v := ev_pe (pe_ifExp pt_w pe_w pe_w) (ev_if hc h1 h2)
theorem en_ife (hc : ET X c σ H k) (h1 : k = true → EN X a σ H o) (h2 : k = false → EN X b σ H o) : EN X (.IfExp c a b pos) σ H o := fun H1 e1 Q q => to_wE (pe_ifExp pt_w pe_w pe_w) (hc H1 e1 _ fun H2 e2 => by
  cases k with
  | true => exact h1 rfl H2 (e1.trans e2) Q fun p H3 hp e3 h3 => q p H3 (fresh_back e2 hp) (e2.trans e3) h3
  | false => exact h2 rfl H2 (e1.trans e2) Q fun p H3 hp e3 h3 => q p H3 (fresh_back e2 hp) (e2.trans e3) h3)
theorem er_ife {R : V → Hp → Prop} (hc : ET X c σ H k) (h1 : k = true → ER X a σ H R) (h2 : k = false → ER X b σ H R) : ER X (.IfExp c a b pos) σ H R := fun H1 e1 Q q => to_wE (pe_ifExp pt_w pe_w pe_w) (hc H1 e1 _ fun H2 e2 => by
  cases k with
  | true => exact h1 rfl H2 (e1.trans e2) Q fun v H3 e3 h3 => q v H3 (e2.trans e3) h3
  | false => exact h2 rfl H2 (e1.trans e2) Q fun v H3 e3 h3 => q v H3 (e2.trans e3) h3)
/-- tests -/
theorem et_cmp {op : CmpOp} (h : EV X (.Compare a [op] [b] pos) σ H (.bl k)) (he : ∀ whole, isTrue (.Compare a [op] [b] pos) X.env whole = (do let v ← whole; standAt (Expr.Compare a [op] [b] pos).pos; holding [v] (truthy v)) := by intro _; rfl) : ET X (.Compare a [op] [b] pos) σ H k := et_pt (pt_val pe_w he) (et_B h)
theorem et_val (h : EV X e σ H (.bl k)) (he : ∀ whole, isTrue e X.env whole = (do let v ← whole; standAt e.pos; holding [v] (truthy v)) := by intro _; rfl) : ET X e σ H k := et_pt (pt_val pe_w he) (et_B h)
theorem et_lt (ha : EV X a σ H (.int i)) (hb : EV X b σ H (.int j)) : ET X (.Compare a [.Lt] [b] pos) σ H (decide (i < j)) := et_pt (pt_cmpR op_lt pe_w pe_w (nomark _)) (et_test (ev_op ha hb rv_I0))
theorem et_le (ha : EV X a σ H (.int i)) (hb : EV X b σ H (.int j)) : ET X (.Compare a [.LtE] [b] pos) σ H (decide (i ≤ j)) := et_pt (pt_cmpR op_le pe_w pe_w (nomark _)) (et_test (ev_op ha hb rv_I0))
theorem et_gt (ha : EV X a σ H (.int i)) (hb : EV X b σ H (.int j)) : ET X (.Compare a [.Gt] [b] pos) σ H (decide (j < i)) := et_pt (pt_cmpR op_gt pe_w pe_w (nomark _)) (et_test (ev_op ha hb rv_I0))
theorem et_ge (ha : EV X a σ H (.int i)) (hb : EV X b σ H (.int j)) : ET X (.Compare a [.GtE] [b] pos) σ H (decide (j ≤ i)) := et_pt (pt_cmpR op_ge pe_w pe_w (nomark _)) (et_test (ev_op ha hb rv_I0))
theorem et_to {k l : Bool} (h : ET X e σ H k) (q : k = l) : ET X e σ H l := q ▸ h
theorem et_eq (ha : EV X a σ H x) (hb : EV X b σ H y) (h : scal x y = true) : ET X (.Compare a [.Eq] [b] pos) σ H (decide (x = y)) := et_pt (pt_cmpR op_eq pe_w pe_w (nomark _)) (et_test (ev_op ha hb (rv_eq h)))
theorem et_eqI (ha : EV X a σ H (.int i)) (hb : EV X b σ H (.int j)) : ET X (.Compare a [.Eq] [b] pos) σ H (decide (i = j)) := et_to (et_eq ha hb rfl) int_eqd
theorem et_ne (ha : EV X a σ H x) (hb : EV X b σ H y) (h : scal x y = true) : ET X (.Compare a [.NotEq] [b] pos) σ H (!decide (x = y)) := et_pt (pt_cmpR op_ne pe_w pe_w (nomark _)) (et_test (ev_op ha hb (rv_ne h)))
theorem et_neI (ha : EV X a σ H (.int i)) (hb : EV X b σ H (.int j)) : ET X (.Compare a [.NotEq] [b] pos) σ H (!decide (i = j)) := et_to (et_ne ha hb rfl) (by rw [int_eqd])
theorem et_isN {k} (ha : EV X a σ H x) : ET X (.Compare a [.Is] [.Constant .none k p1] pos) σ H (decide (x = .non)) := et_pt (pt_cmpR op_isN1 pe_w pe_non (nomark _)) (et_test (ev_op ha ev_c fun H1 _ _ q => ⟨rfl, q H1 (Ex.refl H1)⟩))
theorem et_notN {k} (ha : EV X a σ H x) : ET X (.Compare a [.IsNot] [.Constant .none k p1] pos) σ H (!decide (x = .non)) := et_pt (pt_cmpR op_notN1 pe_w pe_non (nomark _)) (et_test (ev_op ha ev_c fun H1 _ _ q => ⟨rfl, q H1 (Ex.refl H1)⟩))
theorem et_not (ha : ET X a σ H k) : ET X (.UnaryOp .Not a pos) σ H (!k) := et_pt (pt_not pt_w) (Evl.et_not ha)
theorem ew_and1 (ha : ET X a σ H k) : EW X (.BoolOp .And [a] pos) σ H k := ew_pw (pw_and1 pt_w) ha
theorem ew_or1 (ha : ET X a σ H k) : EW X (.BoolOp .Or [a] pos) σ H k := ew_pw (pw_or1 pt_w) ha
theorem ew_and {rest : List Expr} (ha : ET X a σ H k) (hb : k = true → EW X (.BoolOp .And (b :: rest) pos) σ H l) : EW X (.BoolOp .And (a :: b :: rest) pos) σ H (k && l) := ew_pw (pw_and pt_w pw_w) (Evl.et_and ha hb)
theorem ew_or {rest : List Expr} (ha : ET X a σ H k) (hb : k = false → EW X (.BoolOp .Or (b :: rest) pos) σ H l) : EW X (.BoolOp .Or (a :: b :: rest) pos) σ H (k || l) := ew_pw (pw_or pt_w pw_w) (Evl.et_or ha hb)
theorem et_ew {op : BoolOp} {es : List Expr} (h : EW X (.BoolOp op es pos) σ H k) : ET X (.BoolOp op es pos) σ H k := et_pw pw_w h

/-! arguments -/
theorem ea_nil' : EA X [] σ H [] := fun H1 e1 Q q => to_wA pa_nil (q H1 (Ex.refl H1))
theorem ea_cons' {es : List Expr} {vs : List V} (h : EV X e σ H v) (hr : EA X es σ H vs) (hst : starEach (e :: es) X.env = (false, eval e X.env) :: starEach es X.env := by rfl) : EA X (e :: es) σ H (v :: vs) := fun H1 e1 Q q => to_wA (pa_cons pe_w pa_w hst) (h H1 e1 _ fun H2 e2 => hr H2 (e1.trans e2) _ fun H3 e3 => q H3 (e2.trans e3))
theorem ear_ea {es : List Expr} {vs : List V} (h : EA X es σ H vs) : EAR X es σ H fun us _ => us = vs := fun H1 e1 Q q => h H1 e1 Q fun H2 e2 => q vs H2 e2 rfl
theorem ear_cons {es : List Expr} {R1 : V → Hp → Prop} {R : List V → Hp → Prop} (h : ER X e σ H R1) (hr : ∀ v H1, Ex H H1 → R1 v H1 → EAR X es σ H1 (fun vs H2 => R (v :: vs) H2)) (hst : starEach (e :: es) X.env = (false, eval e X.env) :: starEach es X.env := by rfl) : EAR X (e :: es) σ H R :=
  fun H1 e1 Q q => to_wA (pa_cons pe_w pa_w hst) (h H1 e1 _ fun v H2 e2 r => hr v H2 (e1.trans e2) r H2 (Ex.refl H2) _ fun vs H3 e3 r3 => q _ H3 (e2.trans e3) r3)
theorem ear_nil {R : List V → Hp → Prop} (h : ∀ H1, Ex H H1 → R [] H1) : EAR X [] σ H R := fun H1 e1 Q q => to_wA pa_nil (q [] H1 (Ex.refl H1) (h H1 e1))

/-! displays -/
end
end K27

/-! Displays, subscripts, fields, calls; blocks of statements; loops; comprehensions. -/
namespace K27
open PySem PySem.Spec PyProof.Rows L2 Evl C8
section
variable {X : Cx} {σ : L2.St} {H H' : Hp} {v x y : V} {o : HO} {e a b c : Expr} {es : List Expr} {pos p1 p2 apos : Pos} {te : TE} {D : Ends} {rest sts : List Stmt}

/-! ### displays, subscripts -/
theorem en_tup {n} {vs : List V} (h : EA X es σ H vs) (hl : vs.length ≤ 100000 := by simp) : EN X (.Tuple es n pos) σ H (.tup vs) := fun H1 e1 Q q => to_wE (pe_tup pa_w) (h H1 e1 _ fun H2 e2 => ⟨sz_of hl, fun p hp => q p _ (fresh_back e2 hp) (e2.trans (Ex.new hp)) upd_same⟩)
theorem en_lst {vs : List V} (h : EA X es σ H vs) (hl : vs.length ≤ 100000 := by simp) : EN X (.List es pos) σ H (.lst vs) := fun H1 e1 Q q => to_wE (pe_lst pa_w) (h H1 e1 _ fun H2 e2 => ⟨sz_of hl, fun p hp => q p _ (fresh_back e2 hp) (e2.trans (Ex.new hp)) upd_same⟩)
/-- a new tuple, a new list of what the parts give -/
theorem er_tup {n} {R : List V → Hp → Prop} (h : EAR X es σ H R) (hl : ∀ vs H1, R vs H1 → vs.length ≤ 100000) (hm : ∀ vs H1 H2, Ex H1 H2 → R vs H1 → R vs H2) :
    ER X (.Tuple es n pos) σ H fun u H2 => ∃ p vs, u = .ref p ∧ H p = none ∧ H2 p = some (.tup vs) ∧ R vs H2 := fun H1 e1 Q q => to_wE (pe_tup pa_w) (h H1 e1 _ fun vs H2 e2 r => ⟨sz_of (hl vs H2 r), fun p hp => q _ _ (e2.trans (Ex.new hp)) ⟨p, vs, rfl, fresh_back (e1.trans e2) hp, upd_same, hm _ _ _ (Ex.new hp) r⟩⟩)
theorem er_lst {R : List V → Hp → Prop} (h : EAR X es σ H R) (hl : ∀ vs H1, R vs H1 → vs.length ≤ 100000) (hm : ∀ vs H1 H2, Ex H1 H2 → R vs H1 → R vs H2) :
    ER X (.List es pos) σ H fun u H2 => ∃ p vs, u = .ref p ∧ H p = none ∧ H2 p = some (.lst vs) ∧ R vs H2 := fun H1 e1 Q q => to_wE (pe_lst pa_w) (h H1 e1 _ fun vs H2 e2 r => ⟨sz_of (hl vs H2 r), fun p hp => q _ _ (e2.trans (Ex.new hp)) ⟨p, vs, rfl, fresh_back (e1.trans e2) hp, upd_same, hm _ _ _ (Ex.new hp) r⟩⟩)
theorem ev_ixL {p : Addr} {xs : List V} {i : Int} (ha : EV X a σ H (.ref p)) (hb : EV X b σ H (.int i)) (h : SqL X.K H p xs) (hi : atI xs i = some v) (hs : PlainIx b := by exact fun _ _ => rfl) : EV X (.Subscript a b pos) σ H v := ev_pe (pe_ix ix_list pe_w pe_w hs) (ev_op ha hb (rv_ixL h hi))
theorem ev_ixT {p : Addr} {xs : List V} {i : Int} (ha : EV X a σ H (.ref p)) (hb : EV X b σ H (.int i)) (h : SqT X.K H p xs) (hi : atI xs i = some v) (hs : PlainIx b := by exact fun _ _ => rfl) : EV X (.Subscript a b pos) σ H v := ev_pe (pe_ix ix_tup pe_w pe_w hs) (ev_op ha hb (rv_ixT h hi))
/-- of what is not known but by a property -/
theorem er_ixL {R : V → Hp → Prop} {R' : V → Hp → Prop} {xs : List V} {i : Int} (ha : ER X a σ H R) (hr : ∀ u H1, Ex H H1 → R u H1 → ∃ p, u = .ref p ∧ ∃ xs, SqL X.K H1 p xs ∧ ∃ i, EV X b σ H1 (.int i) ∧ ∃ v, atI xs i = some v ∧ ∀ H2, Ex H1 H2 → R' v H2) (hs : PlainIx b := by exact fun _ _ => rfl) : ER X (.Subscript a b pos) σ H R' := fun H1 e1 Q q => to_wE (pe_ix ix_list pe_w pe_w hs) (ha H1 e1 _ fun u H2 e2 r => by
  obtain ⟨p, rfl, xs, h, i, hb, v, hi, z⟩ := hr u H2 (e1.trans e2) r
  exact hb H2 (Ex.refl H2) _ fun H3 e3 => ⟨p, xs, i, v, rfl, rfl, ex_l e3 h, hi, q v H3 (e2.trans e3) (z H3 e3)⟩)
theorem er_ixT {R : V → Hp → Prop} {R' : V → Hp → Prop} (ha : ER X a σ H R) (hr : ∀ u H1, Ex H H1 → R u H1 → ∃ p, u = .ref p ∧ ∃ xs, SqT X.K H1 p xs ∧ ∃ i, EV X b σ H1 (.int i) ∧ ∃ v, atI xs i = some v ∧ ∀ H2, Ex H1 H2 → R' v H2) (hs : PlainIx b := by exact fun _ _ => rfl) : ER X (.Subscript a b pos) σ H R' := fun H1 e1 Q q => to_wE (pe_ix ix_tup pe_w pe_w hs) (ha H1 e1 _ fun u H2 e2 r => by
  obtain ⟨p, rfl, xs, h, i, hb, v, hi, z⟩ := hr u H2 (e1.trans e2) r
  exact hb H2 (Ex.refl H2) _ fun H3 e3 => ⟨p, xs, i, v, rfl, rfl, ex_t e3 h, hi, q v H3 (e2.trans e3) (z H3 e3)⟩)
/-- the list | the index is evaluated, R tells both -/
theorem ev_ixL2 {i : Int} (ha : ER X a σ H fun u H1 => ∃ p xs, u = .ref p ∧ SqL X.K H1 p xs ∧ atI xs i = some v) (hb : EV X b σ H (.int i)) (hs : PlainIx b := by exact fun _ _ => rfl) : EV X (.Subscript a b pos) σ H v := fun H1 e1 Q q => to_wE (pe_ix ix_list pe_w pe_w hs) (ha H1 e1 _ fun u H2 e2 ⟨p, xs, ep, h, hi⟩ => by
  subst ep
  exact hb H2 (e1.trans e2) _ fun H3 e3 => ⟨p, xs, i, v, rfl, rfl, ex_l e3 h, hi, q H3 (e2.trans e3)⟩)
/-- a slice of a list: a new one -/
theorem en_slL {lo hi : Option Expr} {l u : Option Int} {p : Addr} {xs : List V} {tl th : TO} (he : EV X e σ H (.ref p)) (hS : SqL X.K H p xs) (pl : PO X lo tl) (pu : PO X hi th) (hl : EvO tl σ H l) (hu : EvO th σ H u) : EN X (.Subscript e (.Slice lo hi none p2) pos) σ H (.lst (cutV xs l u)) :=
  fun H1 e1 Q q => to_wE (pe_slice sl_list pe_w pl pu) (el_sl he hl hu hS H1 e1 Q q)
theorem er_slL {lo hi : Option Expr} {l u : Option Int} {tl th : TO} {R : List V → Hp → Prop} (he : ER X e σ H fun w H1 => ∃ p xs, w = .ref p ∧ SqL X.K H1 p xs ∧ R xs H1) (hm : ∀ xs H1 H2, Ex H1 H2 → R xs H1 → R xs H2) (pl : PO X lo tl) (pu : PO X hi th) (hl : EvO tl σ H l) (hu : EvO th σ H u) :
    ER X (.Subscript e (.Slice lo hi none p2) pos) σ H fun w H2 => ∃ p xs, w = .ref p ∧ H p = none ∧ H2 p = some (.lst (cutV xs l u)) ∧ R xs H2 :=
  fun H1 e1 Q q => to_wE (pe_slice sl_list pe_w pl pu) (he H1 e1 _ fun w H2 e2 ⟨p, xs, ep, hS, r⟩ => hl H2 (e1.trans e2) _ fun H3 e3 => hu H3 ((e1.trans e2).trans e3) _ fun H4 e4 => ⟨p, xs, ep, ex_l (e3.trans e4) hS, fun z hz => q _ _ (((e2.trans e3).trans e4).trans (Ex.new hz)) ⟨z, xs, rfl, fresh_back (((e1.trans e2).trans e3).trans e4) hz, upd_same, hm _ _ _ ((e3.trans e4).trans (Ex.new hz)) r⟩⟩)
/-! ### fields -/
theorem ev_fld {C dx r : Addr} {f : Str} {fs : List (Str × V)} (ha : EV X a σ H (.ref r)) (ho : H r = some (.ins C dx fs)) (hc : Cls X.K C) (hn : NoAttr X.K C f) (hl : fs.lookup f = some v) (hb : attributeBase a f X.env (eval a X.env) = eval a X.env := by rfl) : EV X (.Attribute a f pos) σ H v :=
  ev_pe (pe_fld pe_w hb) fun H1 e1 Q q => ha H1 e1 _ fun H2 e2 => ⟨r, C, dx, fs, v, rfl, e2 _ _ (e1 _ _ ho), hc, hn, hl, q H2 e2⟩
/-! ### calls of built-ins by values -/
theorem ev_cbB {z : Str} {id : String} {r : List V → Hp → VK → Prop} {vs : List V} (hc : CallR X (.builtin id) r) (hm : X.mg z = none) (hv : bootBuiltins z = some (.builtin id)) (ha : EA X (e :: es) σ H vs) (hr : ∀ H1, Ex H H1 → ∀ Q : VK, (∀ H2, Ex H1 H2 → Q v H2) → r vs H1 Q) (hg : Gl X z := by rfl) (hn : z ≠ "__name__" := by decide) (hdb : (z == ("__debug__" : Str)) = false := by decide)
    (he : starEach (e :: es) X.env = (false, eval e X.env) :: starEach es X.env := by rfl) (hpl : (backTo pos (starEach es X.env)).any (·.1) = false := by rfl) : EV X (.Call (.Name z p1) (e :: es) [] pos) σ H v :=
  ev_pe (pe_callB hc hg hm hv pa_w hn hdb he hpl) (ev_cb ha hr)
theorem ev_cbT {z : Str} {id : String} {r : List V → Hp → VK → Prop} {vs : List V} (hc : CallR X (.type id) r) (hm : X.mg z = none) (hv : bootBuiltins z = some (.type id)) (ha : EA X (e :: es) σ H vs) (hr : ∀ H1, Ex H H1 → ∀ Q : VK, (∀ H2, Ex H1 H2 → Q v H2) → r vs H1 Q) (hg : Gl X z := by rfl) (hn : z ≠ "__name__" := by decide) (hdb : (z == ("__debug__" : Str)) = false := by decide)
    (he : starEach (e :: es) X.env = (false, eval e X.env) :: starEach es X.env := by rfl) (hpl : (backTo pos (starEach es X.env)).any (·.1) = false := by rfl) : EV X (.Call (.Name z p1) (e :: es) [] pos) σ H v :=
  ev_pe (pe_callTy hc hg hm hv pa_w hn hdb he hpl) (ev_cb ha hr)
/-- .. by a property -/
theorem er_cbB {z : Str} {id : String} {r : List V → Hp → VK → Prop} {Ra : List V → Hp → Prop} {R : V → Hp → Prop} (hc : CallR X (.builtin id) r) (hm : X.mg z = none) (hv : bootBuiltins z = some (.builtin id)) (ha : EAR X (e :: es) σ H Ra) (hr : ∀ vs H1, Ex H H1 → Ra vs H1 → ∀ Q : VK, (∀ v H2, Ex H1 H2 → R v H2 → Q v H2) → r vs H1 Q) (hg : Gl X z := by rfl) (hn : z ≠ "__name__" := by decide) (hdb : (z == ("__debug__" : Str)) = false := by decide)
    (he : starEach (e :: es) X.env = (false, eval e X.env) :: starEach es X.env := by rfl) (hpl : (backTo pos (starEach es X.env)).any (·.1) = false := by rfl) : ER X (.Call (.Name z p1) (e :: es) [] pos) σ H R :=
  fun H1 e1 Q q => to_wE (pe_callB hc hg hm hv pa_w hn hdb he hpl) (ha H1 e1 _ fun vs H2 e2 ra => hr vs H2 (e1.trans e2) ra Q fun v H3 e3 r3 => q v H3 (e2.trans e3) r3)
theorem er_cbT {z : Str} {id : String} {r : List V → Hp → VK → Prop} {Ra : List V → Hp → Prop} {R : V → Hp → Prop} (hc : CallR X (.type id) r) (hm : X.mg z = none) (hv : bootBuiltins z = some (.type id)) (ha : EAR X (e :: es) σ H Ra) (hr : ∀ vs H1, Ex H H1 → Ra vs H1 → ∀ Q : VK, (∀ v H2, Ex H1 H2 → R v H2 → Q v H2) → r vs H1 Q) (hg : Gl X z := by rfl) (hn : z ≠ "__name__" := by decide) (hdb : (z == ("__debug__" : Str)) = false := by decide)
    (he : starEach (e :: es) X.env = (false, eval e X.env) :: starEach es X.env := by rfl) (hpl : (backTo pos (starEach es X.env)).any (·.1) = false := by rfl) : ER X (.Call (.Name z p1) (e :: es) [] pos) σ H R :=
  fun H1 e1 Q q => to_wE (pe_callTy hc hg hm hv pa_w hn hdb he hpl) (ha H1 e1 _ fun vs H2 e2 ra => hr vs H2 (e1.trans e2) ra Q fun v H3 e3 r3 => q v H3 (e2.trans e3) r3)
/-! ### promises: from arguments and heap to what holds of the result -/
/-- what a def asks and gives -/
abbrev Pre := List V → Hp → (V → Hp → Prop) → Prop
def spR (pre : Pre) : Sp := fun vs H Q _ => ∃ R, pre vs H R ∧ ∀ v H', Ex H H' → R v H' → Q v H'
theorem er_call {k : Nat} {j : Nat} {z : Str} {pre : Pre} {Ra : List V → Hp → Prop} {R : V → Hp → Prop} (cl : Cal X.prog X.w X.K X.mg X.base k z (spR pre) []) (hr : Room j X.A) (ha : EAR X (e :: es) σ H Ra) (hp : ∀ vs H1, Ex H H1 → Ra vs H1 → pre vs H1 R) (hk : k ≤ j := by decide) (hg : Gl X z := by rfl)
    (hdb : (z == ("__debug__" : Str)) = false := by decide) (he : starEach (e :: es) X.env = (false, eval e X.env) :: starEach es X.env := by rfl) (hpl : (backTo pos (starEach es X.env)).any (·.1) = false := by rfl) : ER X (.Call (.Name z p1) (e :: es) [] pos) σ H R :=
  fun H1 e1 Q q => to_wE (pe_c cl hr hk hg pa_w hdb he hpl) (ha H1 e1 _ fun vs H2 e2 ra => ⟨R, by rw [List.append_nil]; exact hp vs H2 (e1.trans e2) ra, fun v H3 e3 r3 => q v H3 (e2.trans e3) r3⟩)
theorem ev_call1 {k : Nat} {j : Nat} {z : Str} {pre : Pre} {vs : List V} (cl : Cal X.prog X.w X.K X.mg X.base k z (spR pre) []) (hr : Room j X.A) (ha : EA X (e :: es) σ H vs) (hp : ∀ H1, Ex H H1 → pre vs H1 (fun u _ => u = v)) (hk : k ≤ j := by decide) (hg : Gl X z := by rfl)
    (hdb : (z == ("__debug__" : Str)) = false := by decide) (he : starEach (e :: es) X.env = (false, eval e X.env) :: starEach es X.env := by rfl) (hpl : (backTo pos (starEach es X.env)).any (·.1) = false := by rfl) : EV X (.Call (.Name z p1) (e :: es) [] pos) σ H v :=
  ev_er (er_call cl hr (ear_ea ha) (fun us H1 e1 eu => by subst eu; exact hp H1 e1) hk hg hdb he hpl)
theorem er_call1 {k : Nat} {j : Nat} {z : Str} {pre : Pre} {vs : List V} {R : V → Hp → Prop} (cl : Cal X.prog X.w X.K X.mg X.base k z (spR pre) []) (hr : Room j X.A) (ha : EA X (e :: es) σ H vs) (hp : ∀ H1, Ex H H1 → pre vs H1 R) (hk : k ≤ j := by decide) (hg : Gl X z := by rfl)
    (hdb : (z == ("__debug__" : Str)) = false := by decide) (he : starEach (e :: es) X.env = (false, eval e X.env) :: starEach es X.env := by rfl) (hpl : (backTo pos (starEach es X.env)).any (·.1) = false := by rfl) : ER X (.Call (.Name z p1) (e :: es) [] pos) σ H R :=
  er_call cl hr (ear_ea ha) (fun us H1 e1 eu => by subst eu; exact hp H1 e1) hk hg hdb he hpl
/-- a method of an instance -/
theorem er_meth {k j : Nat} {C r dx : Addr} {fs : List (Str × V)} {m : Str} {pre : Pre} {Ra : List V → Hp → Prop} {R : V → Hp → Prop} {ob : Expr} {pl : Sem Bool} (cl : Met X.prog X.w X.K X.mg X.base k C m (spR pre) []) (hr : Room j X.A) (ho : EV X ob σ H (.ref r)) (hi : H r = some (.ins C dx fs)) (hf : fs.lookup m = none)
    (ha : EAR X (e :: es) σ H Ra) (hp : ∀ vs H1, Ex H H1 → Ra vs H1 → pre (.ref r :: vs) H1 R) (hk : k ≤ j := by decide) (hst : starEach (e :: es) X.env = (false, eval e X.env) :: starEach es X.env := by rfl) (hpl : (backTo pos (starEach es X.env)).any (·.1) = false := by rfl)
    (ht : eval (.Call (.Attribute ob m apos) (e :: es) [] pos) X.env = (do
      let ov ← eval ob X.env
      standAt apos.atName
      let (g, first) ← holding [ov] (getMethod ov m pl)
      callWith pos g first (backTo pos (starEach (e :: es) X.env)) (backToKw pos (keywordEach [] X.env))) := by rfl) : ER X (.Call (.Attribute ob m apos) (e :: es) [] pos) σ H R :=
  fun H1 e1 Q q => to_wE (pe_mt (pl := pl) cl hr hk pe_w pa_w hst hpl ht) (ho H1 e1 _ fun H2 e2 => ⟨r, dx, fs, rfl, e2 _ _ (e1 _ _ hi), hf, ha H2 (e1.trans e2) _ fun vs H3 e3 ra => ⟨R, by rw [List.append_nil]; exact hp vs H3 ((e1.trans e2).trans e3) ra, fun v H4 e4 r4 => q v H4 ((e2.trans e3).trans e4) r4⟩⟩)
theorem er_meth0 {k j : Nat} {C r dx : Addr} {fs : List (Str × V)} {m : Str} {pre : Pre} {R : V → Hp → Prop} {ob : Expr} {pl : Sem Bool} (cl : Met X.prog X.w X.K X.mg X.base k C m (spR pre) []) (hr : Room j X.A) (ho : EV X ob σ H (.ref r)) (hi : H r = some (.ins C dx fs)) (hf : fs.lookup m = none)
    (hp : ∀ H1, Ex H H1 → pre [.ref r] H1 R) (hk : k ≤ j := by decide)
    (ht : eval (.Call (.Attribute ob m apos) [] [] pos) X.env = (do
      let ov ← eval ob X.env
      standAt apos.atName
      let (g, first) ← holding [ov] (getMethod ov m pl)
      callWith pos g first [] []) := by rfl) : ER X (.Call (.Attribute ob m apos) [] [] pos) σ H R :=
  fun H1 e1 Q q => to_wE (pe_mt0 (pl := pl) cl hr hk pe_w ht) (ho H1 e1 _ fun H2 e2 => ⟨r, dx, fs, rfl, e2 _ _ (e1 _ _ hi), hf, ⟨R, hp H2 (e1.trans e2), fun v H4 e4 r4 => q v H4 (e2.trans e4) r4⟩⟩)

/-! ### blocks -/
/-- what is told holds, and may have grown -/
def up (P : L2.St → Hp → Prop) : L2.St → Hp → Prop := fun σ H => ∃ H0, Ex H0 H ∧ P σ H0
theorem bl_nil {P : L2.St → Hp → Prop} (hD : D.nx = up P) (h : P σ H) : BL X [] D σ H := fun H1 e1 => to_wB pss_nil (by show D.nx σ H1; rw [hD]; exact ⟨H, e1, h⟩)
theorem bl_nil' (h : ∀ H1, Ex H H1 → D.nx σ H1) : BL X [] D σ H := fun H1 e1 => to_wB pss_nil (h H1 e1)
abbrev nxt (D : Ends) (P : L2.St → Hp → Prop) : Ends := { D with nx := up P }
theorem up_bl {H1 : Hp} (h : up (fun σ' H' => BL X rest D σ' H') σ H1) : wB X rest D σ H1 := let ⟨_, e, z⟩ := h; z H1 e
theorem wS_nx {st : Stmt} {P Q : L2.St → Hp → Prop} (h : wS X st { D with nx := P } σ H) (k : ∀ σ' H', P σ' H' → Q σ' H') : wS X st { D with nx := Q } σ H := fun pins s I => thn (h pins s I) fun f s2 q => by
  cases f with
  | next =>
    obtain ⟨σ', H', I', q⟩ := q
    exact ⟨σ', H', I', k _ _ q⟩
  | brk => exact q
  | cont => exact q
  | ret u => exact q
/-- a statement, then the rest -/
theorem bl_st {st : Stmt} {t : TS} (h : PS X st t) (k : ∀ H1, Ex H H1 → t (nxt D fun σ' H' => BL X rest D σ' H') σ H1) : BL X (st :: rest) D σ H := fun H1 e1 =>
  to_wB (pss_cons ps_w pb_w) (wS_nx (to_wS h (k H1 e1)) fun _ _ z => up_bl z)
/-- a statement that is never come to -/
theorem bl_dead {sts : List Stmt} (h : False) : BL X sts D σ H := h.elim
/-! names -/
theorem bl_setR (i : Nat) {z : Str} {R : V → Hp → Prop} (nd : X.N.Nodup) (h : ER X e σ H R) (k : ∀ v H1, Ex H H1 → R v H1 → BL X rest D (σ.set i (some v)) H1) (hi : X.N[i]? = some z := by rfl) (hx : Loc X.env.scope z := by first | exact Or.inl rfl | exact Or.inr rfl)
    (hs : swapsWith e (some (.Name z p1)) pos.line X.env = pure false := by rfl) (hf : X.fn z = true ∨ X.env.scope.names.lookup z = some .local := by first | exact .inl rfl | exact .inr rfl) : BL X (.Assign [.Name z p1] e pos :: rest) D σ H :=
  bl_st (ps_set nd hi hx pe_w hs hf) fun H1 e1 => h H1 e1 _ fun v H2 e2 r => ⟨H2, Ex.refl _, k v H2 (e1.trans e2) r⟩
theorem bl_set (i : Nat) {z : Str} (nd : X.N.Nodup) (h : EV X e σ H v) (k : BL X rest D (σ.set i (some v)) H) (hi : X.N[i]? = some z := by rfl) (hx : Loc X.env.scope z := by first | exact Or.inl rfl | exact Or.inr rfl)
    (hs : swapsWith e (some (.Name z p1)) pos.line X.env = pure false := by rfl) (hf : X.fn z = true ∨ X.env.scope.names.lookup z = some .local := by first | exact .inl rfl | exact .inr rfl) : BL X (.Assign [.Name z p1] e pos :: rest) D σ H :=
  bl_st (ps_set nd hi hx pe_w hs hf) fun H1 e1 => h H1 e1 _ fun H2 e2 => ⟨H, e1.trans e2, k⟩
theorem bl_setN (i : Nat) {z : Str} (nd : X.N.Nodup) (h : EN X e σ H o) (k : ∀ p H1, H p = none → Ex H H1 → H1 p = some o → BL X rest D (σ.set i (some (.ref p))) H1) (hi : X.N[i]? = some z := by rfl) (hx : Loc X.env.scope z := by first | exact Or.inl rfl | exact Or.inr rfl)
    (hs : swapsWith e (some (.Name z p1)) pos.line X.env = pure false := by rfl) (hf : X.fn z = true ∨ X.env.scope.names.lookup z = some .local := by first | exact .inl rfl | exact .inr rfl) : BL X (.Assign [.Name z p1] e pos :: rest) D σ H :=
  bl_st (ps_set nd hi hx pe_w hs hf) fun H1 e1 => h H1 e1 _ fun p H2 hp e2 h2 => ⟨H2, Ex.refl _, k p H2 (fresh_back e1 hp) (e1.trans e2) h2⟩
/-- a, b = x, y -/
theorem bl_par (i j : Nat) {z w : Str} {px py pt : Pos} {kt k2 pt2} {R : List V → Hp → Prop} (nd : X.N.Nodup) (h : EAR X [a, b] σ H R) (k : ∀ u v H1, Ex H H1 → R [u, v] H1 → BL X rest D ((σ.set i (some u)).set j (some v)) H1) (hR : ∀ vs H1, R vs H1 → ∃ u v, vs = [u, v]) (hw : swappedStores [.Tuple [.Name z px, .Name w py] kt pt] (.Tuple [a, b] k2 pt2) X.env = pure (some [z, w]) := by rfl)
    (hij : i ≠ j := by decide) (hi : X.N[i]? = some z := by rfl) (hj : X.N[j]? = some w := by rfl) (hz : X.env.scope.names.lookup z = some .local := by rfl) (hw' : X.env.scope.names.lookup w = some .local := by rfl) (hc : X.calm = true := by rfl)
    (hs : swapsWithSole [.Tuple [.Name z px, .Name w py] kt pt] (.Tuple [a, b] k2 pt2) pos.line X.env = pure false := by rfl) : BL X (.Assign [.Tuple [.Name z px, .Name w py] kt pt] (.Tuple [a, b] k2 pt2) pos :: rest) D σ H :=
  bl_st (ps_par hc nd hi hj hij hz hw' pa_w hw hs) fun H1 e1 => h H1 e1 _ fun vs H2 e2 r => by
    obtain ⟨u, v, rfl⟩ := hR vs H2 r
    exact ⟨u, v, rfl, H2, Ex.refl _, k u v H2 (e1.trans e2) r⟩
theorem bl_par' (i j : Nat) {z w : Str} {px py pt : Pos} {kt k2 pt2} {u v : V} (nd : X.N.Nodup) (h1 : EV X a σ H u) (h2 : EV X b σ H v) (k : BL X rest D ((σ.set i (some u)).set j (some v)) H) (hw : swappedStores [.Tuple [.Name z px, .Name w py] kt pt] (.Tuple [a, b] k2 pt2) X.env = pure (some [z, w]) := by rfl)
    (hij : i ≠ j := by decide) (hi : X.N[i]? = some z := by rfl) (hj : X.N[j]? = some w := by rfl) (hz : X.env.scope.names.lookup z = some .local := by rfl) (hw' : X.env.scope.names.lookup w = some .local := by rfl) (hc : X.calm = true := by rfl)
    (hs : swapsWithSole [.Tuple [.Name z px, .Name w py] kt pt] (.Tuple [a, b] k2 pt2) pos.line X.env = pure false := by rfl) (s1 : starEach [a, b] X.env = (false, eval a X.env) :: starEach [b] X.env := by rfl) (s2 : starEach [b] X.env = (false, eval b X.env) :: starEach [] X.env := by rfl) : BL X (.Assign [.Tuple [.Name z px, .Name w py] kt pt] (.Tuple [a, b] k2 pt2) pos :: rest) D σ H :=
  bl_par i j nd (ear_ea (ea_cons' h1 (ea_cons' h2 ea_nil' s2) s1)) (fun u' v' H1 e1 q => by
    injection q with q1 q2
    injection q2 with q2 q3
    subst q1 q2
    exact k.mono e1) (fun vs H1 q => ⟨u, v, q⟩) hw hij hi hj hz hw' hc hs
/-- x op= e -/
theorem bl_aug (i : Nat) {z : Str} {op : Operator} {r : R2} (nd : X.N.Nodup) (ho : OpR X (inplaceOp op) r) (hx0 : σ[i]? = some (some x)) (h : EV X e σ H y) (hr : RV r x y H v) (k : BL X rest D (σ.set i (some v)) H) (hi : X.N[i]? = some z := by rfl) (hx : Loc X.env.scope z := by first | exact Or.inl rfl | exact Or.inr rfl)
    (hf : X.fn z = true ∨ X.env.scope.names.lookup z = some .local := by first | exact .inl rfl | exact .inr rfl) : BL X (.AugAssign (.Name z p1) op e pos :: rest) D σ H :=
  bl_st (ps_aug nd hi hx pe_w (ti := r) (fun pins s σ H x y v u Q I rx ry q => ho pins s σ H x y v u Q I rx ry q) hf) fun H1 e1 => ⟨x, hx0, h H1 e1 _ fun H2 e2 => hr H2 (e1.trans e2) _ fun H3 e3 => ⟨H, (e1.trans e2).trans e3, k⟩⟩
/-! return, if -/
theorem bl_retR {R : V → Hp → Prop} (h : ER X e σ H R) (k : ∀ v H1, Ex H H1 → R v H1 → D.rt v H1) : BL X (.Return (some e) pos :: rest) D σ H := fun H1 e1 =>
  to_wB (pss_cons (ps_ret pe_w) pb_w) (h H1 e1 _ fun v H2 e2 r => k v H2 (e1.trans e2) r)
theorem bl_ret (h : EV X e σ H v) (k : ∀ H1, Ex H H1 → D.rt v H1) : BL X (.Return (some e) pos :: rest) D σ H := fun H1 e1 =>
  to_wB (pss_cons (ps_ret pe_w) pb_w) (h H1 e1 _ fun H2 e2 => k H2 (e1.trans e2))
theorem bl_if {k : Bool} (h : ET X c σ H k) (h1 : k = true → BL X sts (nxt D fun σ' H' => BL X rest D σ' H') σ H) {els : List Stmt} (h2 : k = false → BL X els (nxt D fun σ' H' => BL X rest D σ' H') σ H) : BL X (.If c sts els pos :: rest) D σ H :=
  bl_st (ps_if pt_w pb_w pb_w) fun H1 e1 => h H1 e1 _ fun H2 e2 => by
    cases k with
    | true => exact h1 rfl H2 (e1.trans e2)
    | false => exact h2 rfl H2 (e1.trans e2)
/-- an if whose else is empty and not taken | taken and returning -/
theorem bl_when {k : Bool} (h : ET X c σ H k) (h1 : k = true → BL X sts (nxt D fun σ' H' => BL X rest D σ' H') σ H) (h2 : k = false → BL X rest D σ H) : BL X (.If c sts [] pos :: rest) D σ H := bl_if h h1 fun z => bl_nil rfl (h2 z)
/-- an if whose ways meet again -/
theorem bl_ifM {k : Bool} (Mid : L2.St → Hp → Prop) {els : List Stmt} (h : ET X c σ H k) (h1 : k = true → BL X sts (nxt D Mid) σ H) (h2 : k = false → BL X els (nxt D Mid) σ H) (hr : ∀ σ' H', Mid σ' H' → BL X rest D σ' H') : BL X (.If c sts els pos :: rest) D σ H :=
  bl_st (ps_if pt_w pb_w pb_w) fun H1 e1 => by
    have nx : ∀ {z : List Stmt} {H2 : Hp}, wB X z (nxt D Mid) σ H2 → wB X z (nxt D fun σ' H' => BL X rest D σ' H') σ H2 := fun {z H2} q pins s I => thn (q pins s I) fun f s2 q => by
      cases f with
      | next =>
        obtain ⟨σ', H', I', H0, e0, m⟩ := q
        exact ⟨σ', H', I', H0, e0, hr _ _ m⟩
      | brk => exact q
      | cont => exact q
      | ret u => exact q
    refine h H1 e1 _ fun H2 e2 => ?_
    cases k with
    | true => exact nx (h1 rfl H2 (e1.trans e2))
    | false => exact nx (h2 rfl H2 (e1.trans e2))
/-! while -/
theorem bl_while (W : Nat → L2.St → Hp → Prop) (m0 : Nat) (h0 : W m0 σ H)
    (hs : ∀ m σ' H', W m σ' H' → ∃ b, ET X c σ' H' b ∧ (b = true → BL X sts { D with nx := up fun σ2 H2 => ∃ m', m' < m ∧ W m' σ2 H2, ct := up fun σ2 H2 => ∃ m', m' < m ∧ W m' σ2 H2, bk := up fun σ2 H2 => BL X rest D σ2 H2 } σ' H') ∧ (b = false → BL X rest D σ' H'))
    (hp : PassesOwn (model X.prog X.w) X.A X.env X.xe := by exact PassesOwn.never) : BL X (.While c sts [] pos :: rest) D σ H :=
  bl_st (ps_while hp pt_w pb_w) fun H1 e1 => ⟨fun m => up (W m), ⟨m0, H, e1, h0⟩, fun m σ' H' ⟨H0, e0, w⟩ => by
    obtain ⟨b, hb, y1, y2⟩ := hs m σ' H0 w
    refine hb H' e0 _ fun H2 e2 => ?_
    cases b with
    | true => exact ⟨up fun σ2 H2 => ∃ m', m' < m ∧ W m' σ2 H2, fun σ2 H2 ⟨H3, e3, m', hm, w'⟩ => ⟨m', hm, H3, e3, w'⟩, y1 rfl H2 (e0.trans e2)⟩
    | false => exact ⟨H0, e0.trans e2, y2 rfl⟩⟩
end

/-! ### targets -/
section
variable {X : Cx} {σ σ' σ2 : L2.St} {H H' : Hp} {v x y : V} {tg : Expr} {tgs : List Expr} {pos : Pos}
def wG (X : Cx) (tg : Expr) : TG := fun v σ H Q => ∀ pins s u, Inv X pins σ H s → RelV v u → wpAny (model X.prog X.w) X.A (assign tg X.env u) (fun _ s' => ∃ σ' H', Inv X pins σ' H' s' ∧ Q σ' H') X.xe s
def wGs (X : Cx) (tgs : List Expr) : TGs := fun vs σ H Q => ∀ pins s us, Inv X pins σ H s → Vals vs us → wpAny (model X.prog X.w) X.A (assignInOrder ((assignEach tgs X.env).map (·.2)) us) (fun _ s' => ∃ σ' H', Inv X pins σ' H' s' ∧ Q σ' H') X.xe s
theorem pg_w : PG X tg (wG X tg) := ⟨fun pins s _ _ _ u _ I r h => h pins s u I r⟩
theorem pgs_w : PGs X tgs (wGs X tgs) := ⟨fun pins s _ _ _ us _ I r h => h pins s us I r⟩
theorem to_wG {t : TG} {Q : L2.St → Hp → Prop} (h : PG X tg t) (k : t v σ H Q) : wG X tg v σ H Q := fun pins s u I r => h.run pins s σ H v u Q I r k
theorem to_wGs {t : TGs} {vs : List V} {Q : L2.St → Hp → Prop} (h : PGs X tgs t) (k : t vs σ H Q) : wGs X tgs vs σ H Q := fun pins s us I r => h.run pins s σ H vs us Q I r k
/-- v goes to tg: the slots σ become σ' -/
def GT (X : Cx) (tg : Expr) (v : V) (σ : L2.St) (H : Hp) (σ' : L2.St) : Prop := ∀ H1, Ex H H1 → ∀ Q : L2.St → Hp → Prop, (∀ H2, Ex H1 H2 → Q σ' H2) → wG X tg v σ H1 Q
def GTs (X : Cx) (tgs : List Expr) (vs : List V) (σ : L2.St) (H : Hp) (σ' : L2.St) : Prop := ∀ H1, Ex H H1 → ∀ Q : L2.St → Hp → Prop, (∀ H2, Ex H1 H2 → Q σ' H2) → wGs X tgs vs σ H1 Q
theorem gt_nm (i : Nat) {z : Str} (nd : X.N.Nodup) (hi : X.N[i]? = some z := by rfl) (hx : Loc X.env.scope z := by first | exact Or.inl rfl | exact Or.inr rfl) (hf : X.fn z = true ∨ X.env.scope.names.lookup z = some .local := by first | exact .inl rfl | exact .inr rfl) : GT X (.Name z pos) v σ H (σ.set i (some v)) :=
  fun H1 _ Q q => to_wG (pg_name nd hi hx hf) (q H1 (Ex.refl H1))
theorem gts_nil : GTs X [] [] σ H σ := fun H1 _ Q q => to_wGs pgs_nil ⟨rfl, q H1 (Ex.refl H1)⟩
theorem gts_cons {vs : List V} (h : GT X tg v σ H σ') (hr : GTs X tgs vs σ' H σ2) (hs : (assignEach (tg :: tgs) X.env).map (·.2) = assign tg X.env :: (assignEach tgs X.env).map (·.2) := by rfl) : GTs X (tg :: tgs) (v :: vs) σ H σ2 :=
  fun H1 e1 Q q => to_wGs (pgs_cons pg_w pgs_w hs) ⟨v, vs, rfl, h H1 e1 _ fun H2 e2 => hr H2 (e1.trans e2) _ fun H3 e3 => q H3 (e2.trans e3)⟩
theorem gt_tup {p : Addr} {vs : List V} {k n : Nat} (hT : SqT X.K H p vs) (h : GTs X tgs vs σ H σ') (hl : vs.length = n := by rfl) (hn : (assignEach tgs X.env).length = n := by rfl) (hc : X.calm = true := by rfl) (hst : (assignEach tgs X.env).findIdx? (·.1) = none := by rfl) : GT X (.Tuple tgs k pos) (.ref p) σ H σ' :=
  fun H1 e1 Q q => to_wG (pg_tup hc pgs_w hn hst) ⟨p, vs, rfl, ex_t e1 hT, hl, h H1 e1 _ q⟩
end
section
variable {X : Cx} {σ : L2.St} {H : Hp} {v : V} {tg e : Expr} {pos : Pos} {D : Ends} {rest sts : List Stmt}
/-- tg = e, tg a tuple -/
theorem bl_unp {R : V → Hp → Prop} {tgs : List Expr} {kk : Nat} {tp : Pos} (h : ER X e σ H R) (k : ∀ v H1, Ex H H1 → R v H1 → ∃ σ', GT X (.Tuple tgs kk tp) v σ H1 σ' ∧ BL X rest D σ' H1) (hs : swapsWithSole [.Tuple tgs kk tp] e pos.line X.env = pure false := by rfl) (hw : swappedStores [.Tuple tgs kk tp] e X.env = pure none := by rfl)
    (h1 : (assignEach [.Tuple tgs kk tp] X.env).map (·.2) = [assign (.Tuple tgs kk tp) X.env] := by rfl) : BL X (.Assign [.Tuple tgs kk tp] e pos :: rest) D σ H :=
  bl_st (ps_asg pe_w pg_w hs hw h1) fun H1 e1 => h H1 e1 _ fun v H2 e2 r => by
    obtain ⟨σ', g, b⟩ := k v H2 (e1.trans e2) r
    exact g H2 (Ex.refl _) _ fun H3 e3 => ⟨H2, e3, b⟩
/-! ### for -/
abbrev lp (X : Cx) (rest : List Stmt) (D : Ends) (P : L2.St → Hp → Prop) : Ends := { D with nx := up P, ct := up P, bk := up fun σ2 H2 => BL X rest D σ2 H2 }
/-- over a list -/
theorem bl_forL {R : V → Hp → Prop} (he : ER X e σ H R)
    (k : ∀ u H1, Ex H H1 → R u H1 → ∃ (a : Addr) (xs : List V) (P : Nat → L2.St → Hp → Prop), u = .ref a ∧ SqL X.K H1 a xs ∧ P 0 σ H1 ∧ (∀ i σ' H', i ≤ xs.length → P i σ' H' → SqL X.K H' a xs) ∧
      (∀ i x σ' H', xs[i]? = some x → P i σ' H' → ∃ σ2, GT X tg x σ' H' σ2 ∧ BL X sts (lp X rest D (P (i + 1))) σ2 H') ∧ ∀ σ' H', P xs.length σ' H' → BL X rest D σ' H')
    (hc : X.calm = true := by rfl) (hp : PassesOwn (model X.prog X.w) X.A X.env X.xe := by exact PassesOwn.never) (hs : ∀ x, foldedSetIterable e X.env x = pure x := by intro _; rfl) : BL X (.For tg e sts [] pos :: rest) D σ H :=
  bl_st (ps_for hp hc (pi_list pe_w) pg_w pb_w hs) fun H1 e1 => he H1 e1 _ fun u H2 e2 r => by
    obtain ⟨a, xs, P, eu, hS, p0, hl, ht, hd⟩ := k u H2 (e1.trans e2) r
    subst eu
    exact ⟨a, rfl, ⟨xs, hS⟩, for_list (fun i => up (P i)) ⟨H2, Ex.refl _, p0⟩ (fun i σ' H' hi ⟨H0, e0, p⟩ => ex_l e0 (hl i σ' H0 hi p)) (fun i x σ' H' hx ⟨H0, e0, p⟩ => by
      obtain ⟨σ2, g, b⟩ := ht i x σ' H0 hx p
      exact g H' e0 _ fun H3 e3 => b H3 (e0.trans e3)) fun σ' H' ⟨H0, e0, p⟩ => ⟨H0, e0, hd σ' H0 p⟩⟩
/-- over range(a), range(a, b) -/
theorem bl_forR1 {a : Expr} {n : Int} {p pos' : Pos} (P : Nat → L2.St → Hp → Prop) (ha : EV X a σ H (.int n)) (hn : -(2 ^ 62) ≤ n ∧ n < 2 ^ 62) (hm : X.mg "range" = none) (p0 : P 0 σ H)
    (ht : ∀ (i : Nat) σ' H', (i : Int) < n → P i σ' H' → ∃ σ2, GT X tg (.int (i : Int)) σ' H' σ2 ∧ BL X sts (lp X rest D (P (i + 1))) σ2 H') (hd : ∀ σ' H', P n.toNat σ' H' → BL X rest D σ' H')
    (hg : Gl X "range" := by rfl) (hc : X.calm = true := by rfl) (hp : PassesOwn (model X.prog X.w) X.A X.env X.xe := by exact PassesOwn.never) (hst : starEach [a] X.env = [(false, eval a X.env)] := by rfl)
    (hs : ∀ x, foldedSetIterable (.Call (.Name "range" p) [a] [] pos') X.env x = pure x := by intro _; rfl) : BL X (.For tg (.Call (.Name "range" p) [a] [] pos') sts [] pos :: rest) D σ H :=
  bl_st (ps_for hp hc (pi_range1 hg hm pa_w hst) pg_w pb_w hs) fun H1 e1 => (ea_cons' ha ea_nil' hst) H1 e1 _ fun H2 e2 => ⟨n, rfl, hn.1, hn.2, for_range (lo := 0) (n := n.toNat) (fun i => up (P i)) ⟨H, e1.trans e2, p0⟩ (fun i σ' H' hi ⟨H0, e0, q⟩ => by
      obtain ⟨σ2, g, b⟩ := ht i σ' H0 (by omega) q
      rw [Int.zero_add]
      exact g H' e0 _ fun H3 e3 => b H3 (e0.trans e3)) fun σ' H' ⟨H0, e0, q⟩ => ⟨H0, e0, hd σ' H0 q⟩⟩
theorem bl_forR2 {a b : Expr} {l n : Int} {p pos' : Pos} (P : Nat → L2.St → Hp → Prop) (ha : EV X a σ H (.int l)) (hb : EV X b σ H (.int n)) (hn : -(2 ^ 62) ≤ l ∧ l < 2 ^ 62 ∧ -(2 ^ 62) ≤ n ∧ n < 2 ^ 62) (hm : X.mg "range" = none) (p0 : P 0 σ H)
    (ht : ∀ (i : Nat) σ' H', l + (i : Int) < n → P i σ' H' → ∃ σ2, GT X tg (.int (l + (i : Int))) σ' H' σ2 ∧ BL X sts (lp X rest D (P (i + 1))) σ2 H') (hd : ∀ σ' H', P (n - l).toNat σ' H' → BL X rest D σ' H')
    (hg : Gl X "range" := by rfl) (hc : X.calm = true := by rfl) (hp : PassesOwn (model X.prog X.w) X.A X.env X.xe := by exact PassesOwn.never) (hst : starEach [a, b] X.env = [(false, eval a X.env), (false, eval b X.env)] := by rfl) (hst2 : starEach [b] X.env = [(false, eval b X.env)] := by rfl)
    (hs : ∀ x, foldedSetIterable (.Call (.Name "range" p) [a, b] [] pos') X.env x = pure x := by intro _; rfl) : BL X (.For tg (.Call (.Name "range" p) [a, b] [] pos') sts [] pos :: rest) D σ H :=
  bl_st (ps_for hp hc (pi_range2 hg hm pa_w hst hst2) pg_w pb_w hs) fun H1 e1 => (ea_cons' ha (ea_cons' hb ea_nil' hst2) (hst.trans (congrArg _ hst2.symm))) H1 e1 _ fun H2 e2 => ⟨l, n, rfl, hn, for_range (lo := l) (n := (n - l).toNat) (fun i => up (P i)) ⟨H, e1.trans e2, p0⟩ (fun i σ' H' hi ⟨H0, e0, q⟩ => by
      obtain ⟨σ2, g, b⟩ := ht i σ' H0 (by omega) q
      exact g H' e0 _ fun H3 e3 => b H3 (e0.trans e3)) fun σ' H' ⟨H0, e0, q⟩ => ⟨H0, e0, hd σ' H0 q⟩⟩
/-- for i, x in enumerate(xs) -/
theorem bl_forE {a : Expr} {tgs : List Expr} {kk : Nat} {tp p pos' : Pos} {R : V → Hp → Prop} (he : ER X a σ H R) (hm : X.mg "enumerate" = none)
    (k : ∀ u H1, Ex H H1 → R u H1 → ∃ (a : Addr) (xs : List V) (P : Nat → L2.St → Hp → Prop), u = .ref a ∧ SqL X.K H1 a xs ∧ P 0 σ H1 ∧ (∀ i σ' H', i ≤ xs.length → P i σ' H' → SqL X.K H' a xs) ∧
      (∀ i x T σ' H', xs[i]? = some x → P i σ' H' → ∀ H2, Ex H' H2 → H2 T = some (.tup [.int (i : Nat), x]) → ∃ σ2, GT X (.Tuple tgs kk tp) (.ref T) σ' H2 σ2 ∧ BL X sts (lp X rest D (P (i + 1))) σ2 H2) ∧ ∀ σ' H', P xs.length σ' H' → BL X rest D σ' H')
    (hg : Gl X "enumerate" := by rfl) (hc : X.calm = true := by rfl) (hp : PassesOwn (model X.prog X.w) X.A X.env X.xe := by exact PassesOwn.never) (hst : starEach [a] X.env = [(false, eval a X.env)] := by rfl)
    (hs : ∀ x, foldedSetIterable (.Call (.Name "enumerate" p) [a] [] pos') X.env x = pure x := by intro _; rfl) : BL X (.For (.Tuple tgs kk tp) (.Call (.Name "enumerate" p) [a] [] pos') sts [] pos :: rest) D σ H :=
  bl_st (ps_for hp hc (pi_enum hg hm pa_w hst) pg_w pb_w hs) fun H1 e1 => (to_wA (pa_cons pe_w pa_nil hst) (he H1 e1 _ fun u H2 e2 r => by
    obtain ⟨a, xs, P, eu, hS, p0, hl, ht, hd⟩ := k u H2 (e1.trans e2) r
    subst eu
    refine ⟨a, xs, rfl, hS, fun i m σ' H' => m = xs.length - i ∧ i ≤ xs.length ∧ up (P i) σ' H', ⟨xs.length, by simp, Nat.zero_le _, H2, Ex.refl _, p0⟩, ?_⟩
    rintro i m σ' H' ⟨rfl, hi, H0, e0, q⟩
    have hS' := ex_l e0 (hl i σ' H0 hi q)
    by_cases hlt : i < xs.length
    · refine .inr ⟨⟨xs, xs[i], hS', by simp [hlt]⟩, up (P (i + 1)), fun σ2 H3 z => ⟨xs.length - (i + 1), by omega, rfl, hlt, z⟩, fun w H3 ⟨T, x, ew, hT, eH, hx⟩ => ?_⟩
      subst ew eH
      obtain ⟨σ2, g, b⟩ := ht i x T σ' H0 (hx xs hS') q (upd H' T (.tup [.int (i : Nat), x])) (e0.trans (Ex.new hT)) upd_same
      exact g _ (Ex.refl _) _ fun H4 e4 => b H4 e4
    · have ei : i = xs.length := by omega
      subst ei
      exact .inl ⟨⟨xs, hS', Nat.le_refl _⟩, H0, e0, hd σ' H0 q⟩))
end
end K27

/-! The head's facts by names. Printed by gen_facts.py. -/
namespace K27
open PySem PySem.Spec PyProof.Rows L2 Evl C8
/-- the world behind the top -/
structure Wd (K : PySem.W.Frag) (mg : Str → Option Value) : Prop where
  s : SaysK K
  h : ∃ h : Heap, K.In h ∧ h.Ns mainGlobals mg
section
variable {base : Heap} {mg : Str → Option Value} {K : PySem.W.Frag} {w : World} {P : Program}
theorem Wd.glo (W : Wd K mg) (i : Nat) {x : Str} (e : fal[i]? = some (.glo x) := by rfl) : mg x = some (.ref (He.ga K x)) := let ⟨_, X, G⟩ := W.h; He.glo_ok X G (W.s.a.fact i e)
theorem Wd.free (W : Wd K mg) (i : Nat) {x : Str} (e : fal[i]? = some (.free x) := by rfl) : mg x = none := let ⟨_, X, G⟩ := W.h; He.free_ok X G (W.s.a.fact i e)
theorem Wd.int (W : Wd K mg) (i : Nat) {x : Str} {n : Int} (e : fal[i]? = some (.int x n) := by rfl) : ∃ t, mg x = some (.int n t) := let ⟨_, X, G⟩ := W.h; He.int_ok X G (W.s.a.fact i e)
theorem Wd.cls (W : Wd K mg) (i : Nat) {x : Str} (e : fal[i]? = some (.cls x) := by rfl) : Cls K (He.ga K x) := He.cls_ok (W.s.a.fact i e)
theorem Wd.noat (W : Wd K mg) (i : Nat) {x f : Str} (e : fal[i]? = some (.noat x f) := by rfl) : NoAttr K (He.ga K x) f := He.noat_ok (W.s.a.fact i e)
theorem Wd.meth (W : Wd K mg) (i : Nat) {x f : Str} (e : fal[i]? = some (.meth x f) := by rfl) : Meth K (He.ga K x) f (He.ma K (He.ga K x) f) := He.meth_ok (W.s.a.fact i e)
theorem Wd.mkr (W : Wd K mg) (i : Nat) {x : Str} (e : fal[i]? = some (.mkr x) := by rfl) : Mk K (He.ga K x) (He.ma K (He.ga K x) "__init__") := He.mkr_ok (W.s.a.fact i e)
/-- a def of the module by its body -/
abbrev Cxx (P : Program) (w : World) (K : PySem.W.Frag) (mg : Str → Option Value) (base : Heap) (N : List Str) (qual : Str) (scope : Scope) (f : Addr) (cdv : Value) (A : Around) (outer : List Env) (s : Shared) (H : Hp) (E : XK) : Cx := (cxOf C8.CX0 P w K mg base N qual scope f cdv A outer s H E).nox
abbrev Dd (Q : VK) : Ends := { nx := fun _ H' => Q .non H', rt := Q }
theorem fnok_mk {x qual : Str} {pa : Arguments} {bd : List Stmt} {sc : Scope} {f : Addr} {fd : FuncData} {kws : List (Str × V)} {N ps : List Str} {k : Nat} {pre : Pre} (F : FunD K x qual pa bd sc [] kws f fd) (S : FnScope N ps sc) (len : ∀ vs H R, pre vs H R → vs.length = ps.length)
    (hb : ∀ (cdv : Value) (A : Around) (outer : List Env) (s : Shared) (H : Hp) (vs : List V) (Q : VK) (E : XK) (R : V → Hp → Prop), Room k (Cxx P w K mg base N qual sc f cdv A outer s H E).A → pre vs H R → (∀ v H', Ex H H' → R v H' → Q v H') →
      BL (Cxx P w K mg base N qual sc f cdv A outer s H E) bd (Dd Q) (start N vs) H) : FnOk P w K mg base C8.CX0 (k + 1) f fd ps (spR pre) :=
  F.ok S (fun vs H Q E ⟨R, h, _⟩ => len vs H R h) fun cdv A outer s H vs Q E hr ⟨R, h, q⟩ => ⟨_, PSs.nox pb_w, hb cdv A outer s H vs Q E R hr h q H (Ex.refl H)⟩
theorem cal_mk {x : Str} {pa : Arguments} {bd : List Stmt} {sc : Scope} {f : Addr} {N ps : List Str} {k : Nat} {pre : Pre} (hF : ∃ fd, FunD K x x pa bd sc [] [] f fd ∧ Binds K fd ps []) (hm : mg x = some (.ref f)) (S : FnScope N ps sc) (len : ∀ vs H R, pre vs H R → vs.length = ps.length)
    (hb : ∀ (cdv : Value) (A : Around) (outer : List Env) (s : Shared) (H : Hp) (vs : List V) (Q : VK) (E : XK) (R : V → Hp → Prop), Room k (Cxx P w K mg base N x sc f cdv A outer s H E).A → pre vs H R → (∀ v H', Ex H H' → R v H' → Q v H') →
      BL (Cxx P w K mg base N x sc f cdv A outer s H E) bd (Dd Q) (start N vs) H) : Cal P w K mg base (k + 1) x (spR pre) [] := by
  obtain ⟨fd, F, b⟩ := hF
  exact ⟨f, fd, ps, [], fnok_mk F S len hb, hm, F.kp, b, .nil⟩
theorem met_mk {x m qual : Str} {pa : Arguments} {bd : List Stmt} {sc : Scope} {N ps : List Str} {k : Nat} {pre : Pre} (hF : ∃ fd, FunD K m qual pa bd sc [] [] (He.ma K (He.ga K x) m) fd ∧ Binds K fd ps []) (c : Cls K (He.ga K x)) (hm : Meth K (He.ga K x) m (He.ma K (He.ga K x) m)) (S : FnScope N ps sc) (len : ∀ vs H R, pre vs H R → vs.length = ps.length)
    (hb : ∀ (cdv : Value) (A : Around) (outer : List Env) (s : Shared) (H : Hp) (vs : List V) (Q : VK) (E : XK) (R : V → Hp → Prop), Room k (Cxx P w K mg base N qual sc (He.ma K (He.ga K x) m) cdv A outer s H E).A → pre vs H R → (∀ v H', Ex H H' → R v H' → Q v H') →
      BL (Cxx P w K mg base N qual sc (He.ma K (He.ga K x) m) cdv A outer s H E) bd (Dd Q) (start N vs) H) : Met P w K mg base (k + 1) (He.ga K x) m (spR pre) [] := by
  obtain ⟨fd, F, b⟩ := hF
  exact ⟨_, fd, ps, [], c, hm, fnok_mk F S len hb, b, .nil⟩

theorem Wd.g_is_integer (W : Wd K mg) : mg "is_integer" = some (.ref (He.ga K "is_integer")) := W.glo 0
theorem Wd.g_is_between (W : Wd K mg) : mg "is_between" = some (.ref (He.ga K "is_between")) := W.glo 1
theorem Wd.g_raised (W : Wd K mg) : mg "raised" = some (.ref (He.ga K "raised")) := W.glo 2
theorem Wd.g_reduced (W : Wd K mg) : mg "reduced" = some (.ref (He.ga K "reduced")) := W.glo 3
theorem Wd.g_at_place (W : Wd K mg) : mg "at_place" = some (.ref (He.ga K "at_place")) := W.glo 4
theorem Wd.g_total (W : Wd K mg) : mg "total" = some (.ref (He.ga K "total")) := W.glo 5
theorem Wd.g_negated (W : Wd K mg) : mg "negated" = some (.ref (He.ga K "negated")) := W.glo 6
theorem Wd.g_floor_of (W : Wd K mg) : mg "floor_of" = some (.ref (He.ga K "floor_of")) := W.glo 7
theorem Wd.g_is_pair (W : Wd K mg) : mg "is_pair" = some (.ref (He.ga K "is_pair")) := W.glo 8
theorem Wd.g_is_number (W : Wd K mg) : mg "is_number" = some (.ref (He.ga K "is_number")) := W.glo 9
theorem Wd.g_is_state (W : Wd K mg) : mg "is_state" = some (.ref (He.ga K "is_state")) := W.glo 10
theorem Wd.g_require_state (W : Wd K mg) : mg "require_state" = some (.ref (He.ga K "require_state")) := W.glo 11
theorem Wd.g_difference (W : Wd K mg) : mg "difference" = some (.ref (He.ga K "difference")) := W.glo 12
theorem Wd.g_span (W : Wd K mg) : mg "span" = some (.ref (He.ga K "span")) := W.glo 13
theorem Wd.g_digits_for (W : Wd K mg) : mg "digits_for" = some (.ref (He.ga K "digits_for")) := W.glo 14
theorem Wd.g_require_ends (W : Wd K mg) : mg "require_ends" = some (.ref (He.ga K "require_ends")) := W.glo 15
theorem Wd.g_least_cost (W : Wd K mg) : mg "least_cost" = some (.ref (He.ga K "least_cost")) := W.glo 16
theorem Wd.g_distance (W : Wd K mg) : mg "distance" = some (.ref (He.ga K "distance")) := W.glo 17
theorem Wd.g_table_range (W : Wd K mg) : mg "table_range" = some (.ref (He.ga K "table_range")) := W.glo 18
theorem Wd.g_floors (W : Wd K mg) : mg "floors" = some (.ref (He.ga K "floors")) := W.glo 19
theorem Wd.g_make_table (W : Wd K mg) : mg "make_table" = some (.ref (He.ga K "make_table")) := W.glo 20
theorem Wd.g_is_entry (W : Wd K mg) : mg "is_entry" = some (.ref (He.ga K "is_entry")) := W.glo 21
theorem Wd.g_steps_valid (W : Wd K mg) : mg "steps_valid" = some (.ref (He.ga K "steps_valid")) := W.glo 22
theorem Wd.g_ends_valid (W : Wd K mg) : mg "ends_valid" = some (.ref (He.ga K "ends_valid")) := W.glo 23
theorem Wd.g_check_table (W : Wd K mg) : mg "check_table" = some (.ref (He.ga K "check_table")) := W.glo 24
theorem Wd.g_is_end (W : Wd K mg) : mg "is_end" = some (.ref (He.ga K "is_end")) := W.glo 25
theorem Wd.g__law_numbers (W : Wd K mg) : mg "_law_numbers" = some (.ref (He.ga K "_law_numbers")) := W.glo 26
theorem Wd.g__law_power (W : Wd K mg) : mg "_law_power" = some (.ref (He.ga K "_law_power")) := W.glo 27
theorem Wd.g__law_reduced (W : Wd K mg) : mg "_law_reduced" = some (.ref (He.ga K "_law_reduced")) := W.glo 28
theorem Wd.g__law_spec (W : Wd K mg) : mg "_law_spec" = some (.ref (He.ga K "_law_spec")) := W.glo 29
theorem Wd.g__law_row (W : Wd K mg) : mg "_law_row" = some (.ref (He.ga K "_law_row")) := W.glo 30
theorem Wd.g__law_position (W : Wd K mg) : mg "_law_position" = some (.ref (He.ga K "_law_position")) := W.glo 31
theorem Wd.g__law_next (W : Wd K mg) : mg "_law_next" = some (.ref (He.ga K "_law_next")) := W.glo 32
theorem Wd.g__law_reach (W : Wd K mg) : mg "_law_reach" = some (.ref (He.ga K "_law_reach")) := W.glo 33
theorem Wd.g__law_scaled (W : Wd K mg) : mg "_law_scaled" = some (.ref (He.ga K "_law_scaled")) := W.glo 34
theorem Wd.g__law_plain (W : Wd K mg) : mg "_law_plain" = some (.ref (He.ga K "_law_plain")) := W.glo 35
theorem Wd.g__law_written (W : Wd K mg) : mg "_law_written" = some (.ref (He.ga K "_law_written")) := W.glo 36
theorem Wd.g__law_lowered (W : Wd K mg) : mg "_law_lowered" = some (.ref (He.ga K "_law_lowered")) := W.glo 37
theorem Wd.g_law (W : Wd K mg) : mg "law" = some (.ref (He.ga K "law")) := W.glo 38
theorem Wd.g_Search (W : Wd K mg) : mg "Search" = some (.ref (He.ga K "Search")) := W.glo 39
theorem Wd.g_Row (W : Wd K mg) : mg "Row" = some (.ref (He.ga K "Row")) := W.glo 40
theorem Wd.n_isinstance (W : Wd K mg) : mg "isinstance" = none := W.free 41
theorem Wd.n_int (W : Wd K mg) : mg "int" = none := W.free 42
theorem Wd.n_bool (W : Wd K mg) : mg "bool" = none := W.free 43
theorem Wd.n_tuple (W : Wd K mg) : mg "tuple" = none := W.free 44
theorem Wd.n_list (W : Wd K mg) : mg "list" = none := W.free 45
theorem Wd.n_len (W : Wd K mg) : mg "len" = none := W.free 46
theorem Wd.n_abs (W : Wd K mg) : mg "abs" = none := W.free 47
theorem Wd.n_min (W : Wd K mg) : mg "min" = none := W.free 48
theorem Wd.n_max (W : Wd K mg) : mg "max" = none := W.free 49
theorem Wd.n_range (W : Wd K mg) : mg "range" = none := W.free 50
theorem Wd.n_enumerate (W : Wd K mg) : mg "enumerate" = none := W.free 51
theorem Wd.n_zip (W : Wd K mg) : mg "zip" = none := W.free 52
theorem Wd.n_all (W : Wd K mg) : mg "all" = none := W.free 53
theorem Wd.n_sorted (W : Wd K mg) : mg "sorted" = none := W.free 54
theorem Wd.i_MAX_PLACE (W : Wd K mg) : ∃ t, mg "MAX_PLACE" = some (.int (1000) t) := W.int 55
theorem Wd.i_TOO_LONG (W : Wd K mg) : ∃ t, mg "TOO_LONG" = some (.int (((10 ^ 300 : Nat) : Int)) t) := W.int 56
theorem Wd.i_MAX_COST (W : Wd K mg) : ∃ t, mg "MAX_COST" = some (.int (1000000) t) := W.int 57
theorem Wd.c_Search (W : Wd K mg) : Cls K (He.ga K "Search") := W.cls 58
theorem Wd.c_Row (W : Wd K mg) : Cls K (He.ga K "Row") := W.cls 59
theorem Wd.no_own_row (W : Wd K mg) : NoAttr K (He.ga K "Search") "own_row" := W.noat 60
theorem Wd.no_own_ends (W : Wd K mg) : NoAttr K (He.ga K "Search") "own_ends" := W.noat 61
theorem Wd.no_own_low (W : Wd K mg) : NoAttr K (He.ga K "Search") "own_low" := W.noat 62
theorem Wd.no_own_top (W : Wd K mg) : NoAttr K (He.ga K "Search") "own_top" := W.noat 63
theorem Wd.no_own_layers (W : Wd K mg) : NoAttr K (He.ga K "Search") "own_layers" := W.noat 64
theorem Wd.no_own_base (W : Wd K mg) : NoAttr K (He.ga K "Row") "own_base" := W.noat 65
theorem Wd.no_own_move (W : Wd K mg) : NoAttr K (He.ga K "Row") "own_move" := W.noat 66
theorem Wd.no_own_add (W : Wd K mg) : NoAttr K (He.ga K "Row") "own_add" := W.noat 67
theorem Wd.no_own_first (W : Wd K mg) : NoAttr K (He.ga K "Row") "own_first" := W.noat 68
theorem Wd.no_own_last (W : Wd K mg) : NoAttr K (He.ga K "Row") "own_last" := W.noat 69
theorem Wd.m_next_layer (W : Wd K mg) : Meth K (He.ga K "Search") "next_layer" (He.ma K (He.ga K "Search") "next_layer") := W.meth 70
theorem Wd.m_additions (W : Wd K mg) : Meth K (He.ga K "Search") "additions" (He.ma K (He.ga K "Search") "additions") := W.meth 71
theorem Wd.m_places (W : Wd K mg) : Meth K (He.ga K "Search") "places" (He.ma K (He.ga K "Search") "places") := W.meth 72
theorem Wd.m_moves (W : Wd K mg) : Meth K (He.ga K "Search") "moves" (He.ma K (He.ga K "Search") "moves") := W.meth 73
theorem Wd.m_options (W : Wd K mg) : Meth K (He.ga K "Search") "options" (He.ma K (He.ga K "Search") "options") := W.meth 74
theorem Wd.m_cost (W : Wd K mg) : Meth K (He.ga K "Search") "cost" (He.ma K (He.ga K "Search") "cost") := W.meth 75
theorem Wd.m_lowest (W : Wd K mg) : Meth K (He.ga K "Row") "lowest" (He.ma K (He.ga K "Row") "lowest") := W.meth 76
theorem Wd.m_highest (W : Wd K mg) : Meth K (He.ga K "Row") "highest" (He.ma K (He.ga K "Row") "highest") := W.meth 77
theorem Wd.m_has_place (W : Wd K mg) : Meth K (He.ga K "Row") "has_place" (He.ma K (He.ga K "Row") "has_place") := W.meth 78
theorem Wd.mk_Search (W : Wd K mg) : Mk K (He.ga K "Search") (He.ma K (He.ga K "Search") "__init__") := W.mkr 79
theorem Wd.mk_Row (W : Wd K mg) : Mk K (He.ga K "Row") (He.ma K (He.ga K "Row") "__init__") := W.mkr 80
theorem Wd.F_is_integer (W : Wd K mg) : ∃ fd, FunD K "is_integer" "is_integer" (defArgs s_is_integer) (defBody s_is_integer) (defScope s_is_integer) [] [] (He.ga K "is_integer") fd ∧ Binds K fd ["value"] [] := by
  obtain ⟨fd, F⟩ := W.s.a.def_ 0 (d := d_is_integer)
  exact ⟨fd, F, FunD.bindsN F fun _ _ _ _ _ _ us hl => match us, hl with | [_], _ => rfl⟩
theorem Wd.F_is_between (W : Wd K mg) : ∃ fd, FunD K "is_between" "is_between" (defArgs s_is_between) (defBody s_is_between) (defScope s_is_between) [] [] (He.ga K "is_between") fd ∧ Binds K fd ["value", "least", "most"] [] := by
  obtain ⟨fd, F⟩ := W.s.a.def_ 1 (d := d_is_between)
  exact ⟨fd, F, FunD.bindsN F fun _ _ _ _ _ _ us hl => match us, hl with | [_, _, _], _ => rfl⟩
theorem Wd.F_raised (W : Wd K mg) : ∃ fd, FunD K "raised" "raised" (defArgs s_raised) (defBody s_raised) (defScope s_raised) [] [] (He.ga K "raised") fd ∧ Binds K fd ["base", "count"] [] := by
  obtain ⟨fd, F⟩ := W.s.a.def_ 2 (d := d_raised)
  exact ⟨fd, F, FunD.bindsN F fun _ _ _ _ _ _ us hl => match us, hl with | [_, _], _ => rfl⟩
theorem Wd.F_reduced (W : Wd K mg) : ∃ fd, FunD K "reduced" "reduced" (defArgs s_reduced) (defBody s_reduced) (defScope s_reduced) [] [] (He.ga K "reduced") fd ∧ Binds K fd ["base", "numerator", "exponent"] [] := by
  obtain ⟨fd, F⟩ := W.s.a.def_ 3 (d := d_reduced)
  exact ⟨fd, F, FunD.bindsN F fun _ _ _ _ _ _ us hl => match us, hl with | [_, _, _], _ => rfl⟩
theorem Wd.F_at_place (W : Wd K mg) : ∃ fd, FunD K "at_place" "at_place" (defArgs s_at_place) (defBody s_at_place) (defScope s_at_place) [] [] (He.ga K "at_place") fd ∧ Binds K fd ["base", "number", "place"] [] := by
  obtain ⟨fd, F⟩ := W.s.a.def_ 4 (d := d_at_place)
  exact ⟨fd, F, FunD.bindsN F fun _ _ _ _ _ _ us hl => match us, hl with | [_, _, _], _ => rfl⟩
theorem Wd.F_total (W : Wd K mg) : ∃ fd, FunD K "total" "total" (defArgs s_total) (defBody s_total) (defScope s_total) [] [] (He.ga K "total") fd ∧ Binds K fd ["base", "one", "other"] [] := by
  obtain ⟨fd, F⟩ := W.s.a.def_ 5 (d := d_total)
  exact ⟨fd, F, FunD.bindsN F fun _ _ _ _ _ _ us hl => match us, hl with | [_, _, _], _ => rfl⟩
theorem Wd.F_negated (W : Wd K mg) : ∃ fd, FunD K "negated" "negated" (defArgs s_negated) (defBody s_negated) (defScope s_negated) [] [] (He.ga K "negated") fd ∧ Binds K fd ["number"] [] := by
  obtain ⟨fd, F⟩ := W.s.a.def_ 6 (d := d_negated)
  exact ⟨fd, F, FunD.bindsN F fun _ _ _ _ _ _ us hl => match us, hl with | [_], _ => rfl⟩
theorem Wd.F_floor_of (W : Wd K mg) : ∃ fd, FunD K "floor_of" "floor_of" (defArgs s_floor_of) (defBody s_floor_of) (defScope s_floor_of) [] [] (He.ga K "floor_of") fd ∧ Binds K fd ["base", "number", "place"] [] := by
  obtain ⟨fd, F⟩ := W.s.a.def_ 7 (d := d_floor_of)
  exact ⟨fd, F, FunD.bindsN F fun _ _ _ _ _ _ us hl => match us, hl with | [_, _, _], _ => rfl⟩
theorem Wd.F_is_pair (W : Wd K mg) : ∃ fd, FunD K "is_pair" "is_pair" (defArgs s_is_pair) (defBody s_is_pair) (defScope s_is_pair) [] [] (He.ga K "is_pair") fd ∧ Binds K fd ["value"] [] := by
  obtain ⟨fd, F⟩ := W.s.a.def_ 8 (d := d_is_pair)
  exact ⟨fd, F, FunD.bindsN F fun _ _ _ _ _ _ us hl => match us, hl with | [_], _ => rfl⟩
theorem Wd.F_is_number (W : Wd K mg) : ∃ fd, FunD K "is_number" "is_number" (defArgs s_is_number) (defBody s_is_number) (defScope s_is_number) [] [] (He.ga K "is_number") fd ∧ Binds K fd ["base", "value"] [] := by
  obtain ⟨fd, F⟩ := W.s.a.def_ 9 (d := d_is_number)
  exact ⟨fd, F, FunD.bindsN F fun _ _ _ _ _ _ us hl => match us, hl with | [_, _], _ => rfl⟩
theorem Wd.F_is_state (W : Wd K mg) : ∃ fd, FunD K "is_state" "is_state" (defArgs s_is_state) (defBody s_is_state) (defScope s_is_state) [] [] (He.ga K "is_state") fd ∧ Binds K fd ["row", "value"] [] := by
  obtain ⟨fd, F⟩ := W.s.a.def_ 10 (d := d_is_state)
  exact ⟨fd, F, FunD.bindsN F fun _ _ _ _ _ _ us hl => match us, hl with | [_, _], _ => rfl⟩
theorem Wd.F_require_state (W : Wd K mg) : ∃ fd, FunD K "require_state" "require_state" (defArgs s_require_state) (defBody s_require_state) (defScope s_require_state) [] [] (He.ga K "require_state") fd ∧ Binds K fd ["row", "value"] [] := by
  obtain ⟨fd, F⟩ := W.s.a.def_ 11 (d := d_require_state)
  exact ⟨fd, F, FunD.bindsN F fun _ _ _ _ _ _ us hl => match us, hl with | [_, _], _ => rfl⟩
theorem Wd.F_difference (W : Wd K mg) : ∃ fd, FunD K "difference" "difference" (defArgs s_difference) (defBody s_difference) (defScope s_difference) [] [] (He.ga K "difference") fd ∧ Binds K fd ["row", "start", "goal"] [] := by
  obtain ⟨fd, F⟩ := W.s.a.def_ 12 (d := d_difference)
  exact ⟨fd, F, FunD.bindsN F fun _ _ _ _ _ _ us hl => match us, hl with | [_, _, _], _ => rfl⟩
theorem Wd.F_span (W : Wd K mg) : ∃ fd, FunD K "span" "span" (defArgs s_span) (defBody s_span) (defScope s_span) [] [] (He.ga K "span") fd ∧ Binds K fd ["row", "start", "goal"] [] := by
  obtain ⟨fd, F⟩ := W.s.a.def_ 13 (d := d_span)
  exact ⟨fd, F, FunD.bindsN F fun _ _ _ _ _ _ us hl => match us, hl with | [_, _, _], _ => rfl⟩
theorem Wd.F_digits_for (W : Wd K mg) : ∃ fd, FunD K "digits_for" "digits_for" (defArgs s_digits_for) (defBody s_digits_for) (defScope s_digits_for) [] [] (He.ga K "digits_for") fd ∧ Binds K fd ["base", "value"] [] := by
  obtain ⟨fd, F⟩ := W.s.a.def_ 14 (d := d_digits_for)
  exact ⟨fd, F, FunD.bindsN F fun _ _ _ _ _ _ us hl => match us, hl with | [_, _], _ => rfl⟩
theorem Wd.F_Search_init (W : Wd K mg) : ∃ fd, FunD K "__init__" "Search.__init__" (defArgs s_Search_init) (defBody s_Search_init) (defScope s_Search_init) [] [] (He.ma K (He.ga K "Search") "__init__") fd ∧ Binds K fd ["self", "row", "start", "goal"] [] := by
  obtain ⟨fd, F⟩ := W.s.a.def_ 15 (d := d_Search_init)
  exact ⟨fd, F, FunD.bindsN F fun _ _ _ _ _ _ us hl => match us, hl with | [_, _, _, _], _ => rfl⟩
theorem Wd.F_Search_next_layer (W : Wd K mg) : ∃ fd, FunD K "next_layer" "Search.next_layer" (defArgs s_Search_next_layer) (defBody s_Search_next_layer) (defScope s_Search_next_layer) [] [] (He.ma K (He.ga K "Search") "next_layer") fd ∧ Binds K fd ["self", "layer"] [] := by
  obtain ⟨fd, F⟩ := W.s.a.def_ 16 (d := d_Search_next_layer)
  exact ⟨fd, F, FunD.bindsN F fun _ _ _ _ _ _ us hl => match us, hl with | [_, _], _ => rfl⟩
theorem Wd.F_Search_additions (W : Wd K mg) : ∃ fd, FunD K "additions" "Search.additions" (defArgs s_Search_additions) (defBody s_Search_additions) (defScope s_Search_additions) [] [] (He.ma K (He.ga K "Search") "additions") fd ∧ Binds K fd ["self", "place", "value"] [] := by
  obtain ⟨fd, F⟩ := W.s.a.def_ 17 (d := d_Search_additions)
  exact ⟨fd, F, FunD.bindsN F fun _ _ _ _ _ _ us hl => match us, hl with | [_, _, _], _ => rfl⟩
theorem Wd.F_Search_places (W : Wd K mg) : ∃ fd, FunD K "places" "Search.places" (defArgs s_Search_places) (defBody s_Search_places) (defScope s_Search_places) [] [] (He.ma K (He.ga K "Search") "places") fd ∧ Binds K fd ["self"] [] := by
  obtain ⟨fd, F⟩ := W.s.a.def_ 18 (d := d_Search_places)
  exact ⟨fd, F, FunD.bindsN F fun _ _ _ _ _ _ us hl => match us, hl with | [_], _ => rfl⟩
theorem Wd.F_Search_moves (W : Wd K mg) : ∃ fd, FunD K "moves" "Search.moves" (defArgs s_Search_moves) (defBody s_Search_moves) (defScope s_Search_moves) [] [] (He.ma K (He.ga K "Search") "moves") fd ∧ Binds K fd ["self", "high"] [] := by
  obtain ⟨fd, F⟩ := W.s.a.def_ 19 (d := d_Search_moves)
  exact ⟨fd, F, FunD.bindsN F fun _ _ _ _ _ _ us hl => match us, hl with | [_, _], _ => rfl⟩
theorem Wd.F_Search_options (W : Wd K mg) : ∃ fd, FunD K "options" "Search.options" (defArgs s_Search_options) (defBody s_Search_options) (defScope s_Search_options) [] [] (He.ma K (He.ga K "Search") "options") fd ∧ Binds K fd ["self"] [] := by
  obtain ⟨fd, F⟩ := W.s.a.def_ 20 (d := d_Search_options)
  exact ⟨fd, F, FunD.bindsN F fun _ _ _ _ _ _ us hl => match us, hl with | [_], _ => rfl⟩
theorem Wd.F_Search_cost (W : Wd K mg) : ∃ fd, FunD K "cost" "Search.cost" (defArgs s_Search_cost) (defBody s_Search_cost) (defScope s_Search_cost) [] [] (He.ma K (He.ga K "Search") "cost") fd ∧ Binds K fd ["self", "option"] [] := by
  obtain ⟨fd, F⟩ := W.s.a.def_ 21 (d := d_Search_cost)
  exact ⟨fd, F, FunD.bindsN F fun _ _ _ _ _ _ us hl => match us, hl with | [_, _], _ => rfl⟩
theorem Wd.F_require_ends (W : Wd K mg) : ∃ fd, FunD K "require_ends" "require_ends" (defArgs s_require_ends) (defBody s_require_ends) (defScope s_require_ends) [] [] (He.ga K "require_ends") fd ∧ Binds K fd ["row", "start", "goal"] [] := by
  obtain ⟨fd, F⟩ := W.s.a.def_ 22 (d := d_require_ends)
  exact ⟨fd, F, FunD.bindsN F fun _ _ _ _ _ _ us hl => match us, hl with | [_, _, _], _ => rfl⟩
theorem Wd.F_least_cost (W : Wd K mg) : ∃ fd, FunD K "least_cost" "least_cost" (defArgs s_least_cost) (defBody s_least_cost) (defScope s_least_cost) [] [] (He.ga K "least_cost") fd ∧ Binds K fd ["row", "start", "goal"] [] := by
  obtain ⟨fd, F⟩ := W.s.a.def_ 23 (d := d_least_cost)
  exact ⟨fd, F, FunD.bindsN F fun _ _ _ _ _ _ us hl => match us, hl with | [_, _, _], _ => rfl⟩
theorem Wd.F_distance (W : Wd K mg) : ∃ fd, FunD K "distance" "distance" (defArgs s_distance) (defBody s_distance) (defScope s_distance) [] [] (He.ga K "distance") fd ∧ Binds K fd ["row", "start", "goal"] [] := by
  obtain ⟨fd, F⟩ := W.s.a.def_ 24 (d := d_distance)
  exact ⟨fd, F, FunD.bindsN F fun _ _ _ _ _ _ us hl => match us, hl with | [_, _, _], _ => rfl⟩
theorem Wd.F_table_range (W : Wd K mg) : ∃ fd, FunD K "table_range" "table_range" (defArgs s_table_range) (defBody s_table_range) (defScope s_table_range) [] [] (He.ga K "table_range") fd ∧ Binds K fd ["row", "start", "goal"] [] := by
  obtain ⟨fd, F⟩ := W.s.a.def_ 25 (d := d_table_range)
  exact ⟨fd, F, FunD.bindsN F fun _ _ _ _ _ _ us hl => match us, hl with | [_, _, _], _ => rfl⟩
theorem Wd.F_floors (W : Wd K mg) : ∃ fd, FunD K "floors" "floors" (defArgs s_floors) (defBody s_floors) (defScope s_floors) [] [] (He.ga K "floors") fd ∧ Binds K fd ["row", "start", "goal"] [] := by
  obtain ⟨fd, F⟩ := W.s.a.def_ 26 (d := d_floors)
  exact ⟨fd, F, FunD.bindsN F fun _ _ _ _ _ _ us hl => match us, hl with | [_, _, _], _ => rfl⟩
theorem Wd.F_make_table (W : Wd K mg) : ∃ fd, FunD K "make_table" "make_table" (defArgs s_make_table) (defBody s_make_table) (defScope s_make_table) [] [] (He.ga K "make_table") fd ∧ Binds K fd ["row", "start", "goal"] [] := by
  obtain ⟨fd, F⟩ := W.s.a.def_ 27 (d := d_make_table)
  exact ⟨fd, F, FunD.bindsN F fun _ _ _ _ _ _ us hl => match us, hl with | [_, _, _], _ => rfl⟩
theorem Wd.F_is_entry (W : Wd K mg) : ∃ fd, FunD K "is_entry" "is_entry" (defArgs s_is_entry) (defBody s_is_entry) (defScope s_is_entry) [] [] (He.ga K "is_entry") fd ∧ Binds K fd ["value"] [] := by
  obtain ⟨fd, F⟩ := W.s.a.def_ 28 (d := d_is_entry)
  exact ⟨fd, F, FunD.bindsN F fun _ _ _ _ _ _ us hl => match us, hl with | [_], _ => rfl⟩
theorem Wd.F_steps_valid (W : Wd K mg) : ∃ fd, FunD K "steps_valid" "steps_valid" (defArgs s_steps_valid) (defBody s_steps_valid) (defScope s_steps_valid) [] [] (He.ga K "steps_valid") fd ∧ Binds K fd ["row", "value", "entry", "later", "entry_after"] [] := by
  obtain ⟨fd, F⟩ := W.s.a.def_ 29 (d := d_steps_valid)
  exact ⟨fd, F, FunD.bindsN F fun _ _ _ _ _ _ us hl => match us, hl with | [_, _, _, _, _], _ => rfl⟩
theorem Wd.F_ends_valid (W : Wd K mg) : ∃ fd, FunD K "ends_valid" "ends_valid" (defArgs s_ends_valid) (defBody s_ends_valid) (defScope s_ends_valid) [] [] (He.ga K "ends_valid") fd ∧ Binds K fd ["row", "value", "entry", "moves", "bound"] [] := by
  obtain ⟨fd, F⟩ := W.s.a.def_ 30 (d := d_ends_valid)
  exact ⟨fd, F, FunD.bindsN F fun _ _ _ _ _ _ us hl => match us, hl with | [_, _, _, _, _], _ => rfl⟩
theorem Wd.F_check_table (W : Wd K mg) : ∃ fd, FunD K "check_table" "check_table" (defArgs s_check_table) (defBody s_check_table) (defScope s_check_table) [] [] (He.ga K "check_table") fd ∧ Binds K fd ["row", "start", "goal", "bound", "value"] [] := by
  obtain ⟨fd, F⟩ := W.s.a.def_ 31 (d := d_check_table)
  exact ⟨fd, F, FunD.bindsN F fun _ _ _ _ _ _ us hl => match us, hl with | [_, _, _, _, _], _ => rfl⟩
theorem Wd.F_is_end (W : Wd K mg) : ∃ fd, FunD K "is_end" "is_end" (defArgs s_is_end) (defBody s_is_end) (defScope s_is_end) [] [] (He.ga K "is_end") fd ∧ Binds K fd ["value"] [] := by
  obtain ⟨fd, F⟩ := W.s.a.def_ 32 (d := d_is_end)
  exact ⟨fd, F, FunD.bindsN F fun _ _ _ _ _ _ us hl => match us, hl with | [_], _ => rfl⟩
theorem Wd.F_Row_init (W : Wd K mg) : ∃ fd, FunD K "__init__" "Row.__init__" (defArgs s_Row_init) (defBody s_Row_init) (defScope s_Row_init) [] (d_Row_init.kws K) (He.ma K (He.ga K "Row") "__init__") fd := W.s.a.def_ 33 (d := d_Row_init)
theorem Wd.F_Row_base (W : Wd K mg) : ∃ fd, FunD K "base" "Row.base" (defArgs s_Row_base) (defBody s_Row_base) (defScope s_Row_base) [] [] (getAd K "Row" "base") fd ∧ Binds K fd ["self"] [] := by
  obtain ⟨fd, F⟩ := W.s.a.def_ 34 (d := d_Row_base)
  exact ⟨fd, F, FunD.bindsN F fun _ _ _ _ _ _ us hl => match us, hl with | [_], _ => rfl⟩
theorem Wd.F_Row_move_cost (W : Wd K mg) : ∃ fd, FunD K "move_cost" "Row.move_cost" (defArgs s_Row_move_cost) (defBody s_Row_move_cost) (defScope s_Row_move_cost) [] [] (getAd K "Row" "move_cost") fd ∧ Binds K fd ["self"] [] := by
  obtain ⟨fd, F⟩ := W.s.a.def_ 35 (d := d_Row_move_cost)
  exact ⟨fd, F, FunD.bindsN F fun _ _ _ _ _ _ us hl => match us, hl with | [_], _ => rfl⟩
theorem Wd.F_Row_add_cost (W : Wd K mg) : ∃ fd, FunD K "add_cost" "Row.add_cost" (defArgs s_Row_add_cost) (defBody s_Row_add_cost) (defScope s_Row_add_cost) [] [] (getAd K "Row" "add_cost") fd ∧ Binds K fd ["self"] [] := by
  obtain ⟨fd, F⟩ := W.s.a.def_ 36 (d := d_Row_add_cost)
  exact ⟨fd, F, FunD.bindsN F fun _ _ _ _ _ _ us hl => match us, hl with | [_], _ => rfl⟩
theorem Wd.F_Row_lowest (W : Wd K mg) : ∃ fd, FunD K "lowest" "Row.lowest" (defArgs s_Row_lowest) (defBody s_Row_lowest) (defScope s_Row_lowest) [] [] (He.ma K (He.ga K "Row") "lowest") fd ∧ Binds K fd ["self"] [] := by
  obtain ⟨fd, F⟩ := W.s.a.def_ 37 (d := d_Row_lowest)
  exact ⟨fd, F, FunD.bindsN F fun _ _ _ _ _ _ us hl => match us, hl with | [_], _ => rfl⟩
theorem Wd.F_Row_highest (W : Wd K mg) : ∃ fd, FunD K "highest" "Row.highest" (defArgs s_Row_highest) (defBody s_Row_highest) (defScope s_Row_highest) [] [] (He.ma K (He.ga K "Row") "highest") fd ∧ Binds K fd ["self"] [] := by
  obtain ⟨fd, F⟩ := W.s.a.def_ 38 (d := d_Row_highest)
  exact ⟨fd, F, FunD.bindsN F fun _ _ _ _ _ _ us hl => match us, hl with | [_], _ => rfl⟩
theorem Wd.F_Row_has_place (W : Wd K mg) : ∃ fd, FunD K "has_place" "Row.has_place" (defArgs s_Row_has_place) (defBody s_Row_has_place) (defScope s_Row_has_place) [] [] (He.ma K (He.ga K "Row") "has_place") fd ∧ Binds K fd ["self", "value"] [] := by
  obtain ⟨fd, F⟩ := W.s.a.def_ 39 (d := d_Row_has_place)
  exact ⟨fd, F, FunD.bindsN F fun _ _ _ _ _ _ us hl => match us, hl with | [_, _], _ => rfl⟩
theorem Wd.F_law_numbers (W : Wd K mg) : ∃ fd, FunD K "_law_numbers" "_law_numbers" (defArgs s_law_numbers) (defBody s_law_numbers) (defScope s_law_numbers) [] [] (He.ga K "_law_numbers") fd ∧ Binds K fd ["_law_cell", "_law_salt", "_law_sizes"] [] := by
  obtain ⟨fd, F⟩ := W.s.a.def_ 40 (d := d_law_numbers)
  exact ⟨fd, F, FunD.bindsN F fun _ _ _ _ _ _ us hl => match us, hl with | [_, _, _], _ => rfl⟩
theorem Wd.F_law_power (W : Wd K mg) : ∃ fd, FunD K "_law_power" "_law_power" (defArgs s_law_power) (defBody s_law_power) (defScope s_law_power) [] [] (He.ga K "_law_power") fd ∧ Binds K fd ["_law_base", "_law_count"] [] := by
  obtain ⟨fd, F⟩ := W.s.a.def_ 41 (d := d_law_power)
  exact ⟨fd, F, FunD.bindsN F fun _ _ _ _ _ _ us hl => match us, hl with | [_, _], _ => rfl⟩
theorem Wd.F_law_reduced (W : Wd K mg) : ∃ fd, FunD K "_law_reduced" "_law_reduced" (defArgs s_law_reduced) (defBody s_law_reduced) (defScope s_law_reduced) [] [] (He.ga K "_law_reduced") fd ∧ Binds K fd ["_law_base", "_law_numerator", "_law_exponent"] [] := by
  obtain ⟨fd, F⟩ := W.s.a.def_ 42 (d := d_law_reduced)
  exact ⟨fd, F, FunD.bindsN F fun _ _ _ _ _ _ us hl => match us, hl with | [_, _, _], _ => rfl⟩
theorem Wd.F_law_spec (W : Wd K mg) : ∃ fd, FunD K "_law_spec" "_law_spec" (defArgs s_law_spec) (defBody s_law_spec) (defScope s_law_spec) [] [] (He.ga K "_law_spec") fd ∧ Binds K fd ["_law_digits"] [] := by
  obtain ⟨fd, F⟩ := W.s.a.def_ 43 (d := d_law_spec)
  exact ⟨fd, F, FunD.bindsN F fun _ _ _ _ _ _ us hl => match us, hl with | [_], _ => rfl⟩
theorem Wd.F_law_row (W : Wd K mg) : ∃ fd, FunD K "_law_row" "_law_row" (defArgs s_law_row) (defBody s_law_row) (defScope s_law_row) [] [] (He.ga K "_law_row") fd ∧ Binds K fd ["_law_spec_here"] [] := by
  obtain ⟨fd, F⟩ := W.s.a.def_ 44 (d := d_law_row)
  exact ⟨fd, F, FunD.bindsN F fun _ _ _ _ _ _ us hl => match us, hl with | [_], _ => rfl⟩
theorem Wd.F_law_position (W : Wd K mg) : ∃ fd, FunD K "_law_position" "_law_position" (defArgs s_law_position) (defBody s_law_position) (defScope s_law_position) [] [] (He.ga K "_law_position") fd ∧ Binds K fd ["_law_spec_here", "_law_digit"] [] := by
  obtain ⟨fd, F⟩ := W.s.a.def_ 45 (d := d_law_position)
  exact ⟨fd, F, FunD.bindsN F fun _ _ _ _ _ _ us hl => match us, hl with | [_, _], _ => rfl⟩
theorem Wd.F_law_next (W : Wd K mg) : ∃ fd, FunD K "_law_next" "_law_next" (defArgs s_law_next) (defBody s_law_next) (defScope s_law_next) [] [] (He.ga K "_law_next") fd ∧ Binds K fd ["_law_spec_here", "_law_state_here"] [] := by
  obtain ⟨fd, F⟩ := W.s.a.def_ 46 (d := d_law_next)
  exact ⟨fd, F, FunD.bindsN F fun _ _ _ _ _ _ us hl => match us, hl with | [_, _], _ => rfl⟩
theorem Wd.F_law_reach (W : Wd K mg) : ∃ fd, FunD K "_law_reach" "_law_reach" (defArgs s_law_reach) (defBody s_law_reach) (defScope s_law_reach) [] [] (He.ga K "_law_reach") fd ∧ Binds K fd ["_law_spec_here", "_law_start", "_law_limit"] [] := by
  obtain ⟨fd, F⟩ := W.s.a.def_ 47 (d := d_law_reach)
  exact ⟨fd, F, FunD.bindsN F fun _ _ _ _ _ _ us hl => match us, hl with | [_, _, _], _ => rfl⟩
theorem Wd.F_law_scaled (W : Wd K mg) : ∃ fd, FunD K "_law_scaled" "_law_scaled" (defArgs s_law_scaled) (defBody s_law_scaled) (defScope s_law_scaled) [] [] (He.ga K "_law_scaled") fd ∧ Binds K fd ["_law_base", "_law_state_here"] [] := by
  obtain ⟨fd, F⟩ := W.s.a.def_ 48 (d := d_law_scaled)
  exact ⟨fd, F, FunD.bindsN F fun _ _ _ _ _ _ us hl => match us, hl with | [_, _], _ => rfl⟩
theorem Wd.F_law_plain (W : Wd K mg) : ∃ fd, FunD K "_law_plain" "_law_plain" (defArgs s_law_plain) (defBody s_law_plain) (defScope s_law_plain) [] [] (He.ga K "_law_plain") fd ∧ Binds K fd ["_law_base", "_law_units"] [] := by
  obtain ⟨fd, F⟩ := W.s.a.def_ 49 (d := d_law_plain)
  exact ⟨fd, F, FunD.bindsN F fun _ _ _ _ _ _ us hl => match us, hl with | [_, _], _ => rfl⟩
theorem Wd.F_law_written (W : Wd K mg) : ∃ fd, FunD K "_law_written" "_law_written" (defArgs s_law_written) (defBody s_law_written) (defScope s_law_written) [] [] (He.ga K "_law_written") fd ∧ Binds K fd ["_law_digits", "_law_many"] [] := by
  obtain ⟨fd, F⟩ := W.s.a.def_ 50 (d := d_law_written)
  exact ⟨fd, F, FunD.bindsN F fun _ _ _ _ _ _ us hl => match us, hl with | [_, _], _ => rfl⟩
theorem Wd.F_law_lowered (W : Wd K mg) : ∃ fd, FunD K "_law_lowered" "_law_lowered" (defArgs s_law_lowered) (defBody s_law_lowered) (defScope s_law_lowered) [] [] (He.ga K "_law_lowered") fd ∧ Binds K fd ["_law_table", "_law_digits"] [] := by
  obtain ⟨fd, F⟩ := W.s.a.def_ 51 (d := d_law_lowered)
  exact ⟨fd, F, FunD.bindsN F fun _ _ _ _ _ _ us hl => match us, hl with | [_, _], _ => rfl⟩
theorem Wd.F_law (W : Wd K mg) : ∃ fd, FunD K "law" "law" (defArgs s_law) (defBody s_law) (defScope s_law) [] [] (He.ga K "law") fd ∧ Binds K fd ["_law_script"] [] := by
  obtain ⟨fd, F⟩ := W.s.a.def_ 52 (d := d_law)
  exact ⟨fd, F, FunD.bindsN F fun _ _ _ _ _ _ us hl => match us, hl with | [_], _ => rfl⟩
end
end K27

/-! The defs of arithmetic, one by one. -/
namespace K27
open PySem PySem.Spec PyProof.Rows L2 Evl C8
section
variable {base : Heap} {mg : Str → Option Value} {K : PySem.W.Frag} {w : World} {P : Program}

/-- isinstance(x, T) where the answer is known by the types' names -/
theorem ev_isi {X : Cx} {σ : L2.St} {H : Hp} {x : V} {t T : String} {r : Bool} {a : Expr} {z : Str} {pos p1 p2 : Pos} (hm : X.mg "isinstance" = none) (ha : EV X a σ H x) (hT : EV X (.Name z p2) σ H (.ty T)) (ty : ∀ H1, Ex H H1 → TyX X.K H1 x (.type t)) (k : kitB t T = some r)
    (hg : Gl X "isinstance" := by rfl) (s1 : starEach [a, .Name z p2] X.env = (false, eval a X.env) :: starEach [.Name z p2] X.env := by rfl) (s2 : starEach [.Name z p2] X.env = (false, eval (.Name z p2) X.env) :: starEach [] X.env := by rfl) (hpl : (backTo pos (starEach [.Name z p2] X.env)).any (·.1) = false := by rfl) :
    EV X (.Call (.Name "isinstance" p1) [a, .Name z p2] [] pos) σ H (.bl r) :=
  ev_cbB call_isi hm boot_isinstance (ea_cons' ha (ea_cons' hT ea_nil' s2) s1) (fun H1 e1 Q q => ⟨x, .ty T, .type t, .type T, r, rfl, .ty T, ty H1 e1, kit_ty k, q H1 (Ex.refl H1)⟩) hg (by decide) (by decide) s1 hpl
end

local macro_rules
  | `(tactic| walk_at "nm") => `(tactic| first | exact ev_nm 0 rfl | exact ev_nm 1 rfl | exact ev_nm 2 rfl | exact ev_nm 3 rfl | exact ev_nm 4 rfl | exact ev_nm 5 rfl | exact ev_nm 6 rfl | exact ev_nm 7 rfl | exact ev_nm 8 rfl | exact ev_nm 9 rfl | exact ev_nm 10 rfl | exact ev_nm 11 rfl | exact ev_nm 12 rfl | exact ev_nm 13 rfl | exact ev_nm 14 rfl | exact ev_nm 15 rfl | exact ev_nm 16 rfl | exact ev_nm 17 rfl | exact ev_nm 18 rfl | exact ev_nm 19 rfl)
local macro_rules
  | `(tactic| walk_at "ev") => `(tactic| first
    | with_reducible exact ev_int
    | with_reducible exact ev_bl
    | with_reducible exact ev_non
    | walk_at "nm"
    | (with_reducible refine ev_add ?_ ?_ <;> walk_at "ev")
    | (with_reducible refine ev_sub ?_ ?_ <;> walk_at "ev")
    | (with_reducible refine ev_neg ?_ <;> walk_at "ev")
    | skip)
section
variable {base : Heap} {mg : Str → Option Value} {K : PySem.W.Frag} {w : World} {P : Program}
def pr_is_integer : Pre := fun vs H R => ∃ i : Int, vs = [.int i] ∧ R = fun v _ => v = .bl true
theorem c_is_integer (W : Wd K mg) : Cal P w K mg base 1 "is_integer" (spR pr_is_integer) [] :=
  cal_mk W.F_is_integer W.g_is_integer sc_is_integer (fun vs H R ⟨_, e, _⟩ => by rw [e]; rfl) (by
    rintro cdv A outer s H vs Q E R hr ⟨i, rfl, rfl⟩ q
    refine bl_ret (v := .bl true) ?_ (fun H1 e1 => q _ H1 e1 rfl)
    refine ev_to (ev_and (ev_isi (t := "int") (T := "int") (r := true) W.n_isinstance (ev_nm 0 rfl) (ev_blt rfl W.n_int boot_int rfl) (fun _ _ => .base (.int _)) (by decide +kernel)) fun _ => ev_one (ev_not (ev_isi (t := "int") (T := "bool") (r := false) W.n_isinstance (ev_nm 0 rfl) (ev_blt rfl W.n_bool boot_bool rfl) (fun _ _ => .base (.int _)) (by decide +kernel)))) rfl)

def pr_is_between : Pre := fun vs H R => ∃ i l m : Int, vs = [.int i, .int l, .int m] ∧ R = fun v _ => v = .bl (decide (l ≤ i) && decide (i ≤ m))
theorem c_is_between (W : Wd K mg) : Cal P w K mg base 2 "is_between" (spR pr_is_between) [] :=
  cal_mk W.F_is_between W.g_is_between sc_is_between (fun vs H R ⟨_, _, _, e, _⟩ => by rw [e]; rfl) (by
    rintro cdv A outer s H vs Q E R hr ⟨i, l, m, rfl, rfl⟩ q
    refine bl_ret (v := .bl (decide (l ≤ i) && decide (i ≤ m))) ?_ (fun H1 e1 => q _ H1 e1 rfl)
    refine ev_to (ev_and (ev_call1 (v := .bl true) (c_is_integer W) hr (ea_cons' (ev_nm 0 rfl) ea_nil') (fun H1 e1 => ⟨i, rfl, rfl⟩)) fun _ => ev_one (ev_lele (ev_nm 1 rfl) (ev_nm 0 rfl) (ev_nm 2 rfl))) (by simp))

theorem iop_mulW' {X : Cx} : OpR X (inplaceOp .Mult) (rI CMulW fun i j => .int (i * j)) := opI fun _ _ _ _ _ _ _ hc q => imul_int q hc.ok
theorem pow_nat {b : Int} (h0 : 0 ≤ b) (hb : b < 2 ^ 6) (n : Nat) : (b ^ n).natAbs < 2 ^ (6 * n + 1) := by
  rw [Int.natAbs_pow]
  have h1 : b.natAbs ≤ 2 ^ 6 := by omega
  calc b.natAbs ^ n ≤ (2 ^ 6) ^ n := Nat.pow_le_pow_left h1 n
    _ = 2 ^ (6 * n) := (Nat.pow_mul ..).symm
    _ < 2 ^ (6 * n + 1) := Nat.pow_lt_pow_right (by omega) (by omega)
theorem mulw_pow {b : Int} (h0 : 0 ≤ b) (hb : b < 2 ^ 6) {m n : Nat} (hm : m ≤ 6000) (hn : n ≤ 6000) : CMulW (b ^ m) (b ^ n) := wide_mul (pow_nat h0 hb m) (pow_nat h0 hb n) (by omega) (by omega) (by omega)

def pr_raised : Pre := fun vs H R => ∃ (b : Int) (n : Nat), vs = [.int b, .int n] ∧ 0 ≤ b ∧ b < 2 ^ 6 ∧ n ≤ 3000 ∧ R = fun v _ => v = .int (b ^ n)
theorem c_raised (W : Wd K mg) : Cal P w K mg base 1 "raised" (spR pr_raised) [] :=
  cal_mk W.F_raised W.g_raised sc_raised (fun vs H R ⟨_, _, e, _⟩ => by rw [e]; rfl) (by
    rintro cdv A outer s H vs Q E R hr ⟨b, n, rfl, b0, b6, hn, rfl⟩ q
    refine bl_set 2 sc_raised.nd ev_int ?_
    refine bl_while (fun m σ' H' => ∃ (k a : Nat), σ' = [some (.int (b ^ k)), some (.int (m : Nat)), some (.int (b ^ a))] ∧ Ex H H' ∧ a + k * m = n ∧ k ≤ 6000) n ⟨1, 0, by simp [L2.start, Int.pow_succ], Ex.refl _, by omega, by omega⟩ ?_
    rintro m σ' H' ⟨k, a, rfl, e0, hs, hk⟩
    refine ⟨decide ((0 : Int) < (m : Int)), et_gt (ev_nm 1 rfl) ev_int, fun hb => ?_, fun hb => ?_⟩
    · have hm0 : 0 < m := by simpa using hb
      have hkn : k ≤ n := by
        have := Nat.le_mul_of_pos_right k hm0
        omega
      have hmm : m % 2 + 2 * (m / 2) = m := Nat.mod_add_div m 2
      refine bl_ifM (fun σ2 H2 => ∃ a', σ2 = [some (.int (b ^ k)), some (.int (m : Nat)), some (.int (b ^ a'))] ∧ Ex H H2 ∧ a' + (2 * k) * (m / 2) = n) (k := decide ((m : Int) % 2 = 1)) (et_eqI (ev_mod (ev_nm 1 rfl) ev_int (by decide)) ev_int) (fun ho => ?_) (fun ho => ?_) ?_
      · have ho' : m % 2 = 1 := by have := of_decide_eq_true ho; omega
        refine bl_aug 2 sc_raised.nd iop_mulW' rfl (ev_nm 0 rfl) (rv_I (mulw_pow b0 b6 (by omega) (by omega))) ?_
        refine bl_nil rfl ⟨a + k, by rw [← Int.pow_add]; rfl, e0, ?_⟩
        have : k * m = k * (m % 2) + 2 * k * (m / 2) := by
          conv => lhs; rw [← hmm, Nat.mul_add]
          rw [Nat.mul_comm 2 k, Nat.mul_assoc]
        rw [ho', Nat.mul_one] at this
        omega
      · have ho' : m % 2 = 0 := by have := of_decide_eq_false ho; omega
        refine bl_nil rfl ⟨a, rfl, e0, ?_⟩
        have : k * m = k * (m % 2) + 2 * k * (m / 2) := by
          conv => lhs; rw [← hmm, Nat.mul_add]
          rw [Nat.mul_comm 2 k, Nat.mul_assoc]
        rw [ho', Nat.mul_zero] at this
        omega
      · rintro σ2 H2 ⟨a', rfl, e2, hs2⟩
        refine bl_aug 0 sc_raised.nd iop_mulW' rfl (ev_nm 0 rfl) (rv_I (mulw_pow b0 b6 (by omega) (by omega))) ?_
        refine bl_aug 1 sc_raised.nd iop_fdiv rfl ev_int (rv_I (⟨by decide, by decide⟩ : CDiv (m : Int) 2)) ?_
        refine bl_nil rfl ⟨m / 2, by omega, 2 * k, a', ?_, e2, hs2, by omega⟩
        rw [← Int.pow_add, show k + k = 2 * k by omega]
        rfl
    · have hm0 : m = 0 := by have := of_decide_eq_false hb; omega
      subst hm0
      refine bl_ret (ev_nm 2 rfl) fun H1 e1 => q _ H1 (e0.trans e1) ?_
      rw [Nat.mul_zero, Nat.add_zero] at hs
      rw [hs])
end
end K27

/-! Comprehensions over what is known; min(list, default=d); arithmetic, further. -/
namespace K27
open PySem PySem.Spec PyProof.Rows L2 Evl C8

/-! ### comprehensions with one name of their own -/
section
variable {X : Cx}
def wEB (X : Cx) (scope : Scope) (e : Expr) : TE := fun σ H Q => ∀ (s : Shared) (H0 : Hp) (C : Addr) (cl : List (Str × Addr)) (fp : List Addr), wE (X.blk s H0 scope (compEnvC scope cl C X.env) fp) e σ H Q
def wTB (X : Cx) (scope : Scope) (e : Expr) : TT := fun σ H Q => ∀ (s : Shared) (H0 : Hp) (C : Addr) (cl : List (Str × Addr)) (fp : List Addr), wT (X.blk s H0 scope (compEnvC scope cl C X.env) fp) e σ H Q
theorem wipe1 {σ : L2.St} {i : Nat} (x : V) : wipe ((wipe σ [i]).set i (some x)) [i] = wipe σ [i] := by
  show ((σ.set i none).set i (some x)).set i none = σ.set i none
  rw [List.set_set, List.set_set]
variable {σ : L2.St} {H : Hp} {elt e a b : Expr} {ifs : List Expr} {z : Str} {scope : Scope} {pos p1 : Pos} {i : Nat} {tt : TT}
/-- in the block of a comprehension -/
abbrev EVB (X : Cx) (scope : Scope) (e : Expr) (σ : L2.St) (H : Hp) (v : V) : Prop := ∀ (s : Shared) (H0 : Hp) (C : Addr) (cl : List (Str × Addr)) (fp : List Addr), EV (X.blk s H0 scope (compEnvC scope cl C X.env) fp) e σ H v
abbrev ERB (X : Cx) (scope : Scope) (e : Expr) (σ : L2.St) (H : Hp) (R : V → Hp → Prop) : Prop := ∀ (s : Shared) (H0 : Hp) (C : Addr) (cl : List (Str × Addr)) (fp : List Addr), ER (X.blk s H0 scope (compEnvC scope cl C X.env) fp) e σ H R
abbrev ETB (X : Cx) (scope : Scope) (e : Expr) (σ : L2.St) (H : Hp) (k : Bool) : Prop := ∀ (s : Shared) (H0 : Hp) (C : Addr) (cl : List (Str × Addr)) (fp : List Addr), ET (X.blk s H0 scope (compEnvC scope cl C X.env) fp) e σ H k
theorem evb {v : V} (h : EVB X scope e σ H v) : Ev (wEB X scope e) σ H v := fun H1 e1 Q q s H0 C cl fp => h s H0 C cl fp H1 e1 Q q
theorem etb {k : Bool} (h : ETB X scope e σ H k) : EvT (wTB X scope e) σ H k := fun H1 e1 Q q s H0 C cl fp pins s' I => h s H0 C cl fp H1 e1 Q q pins s' I
theorem ev_yes : EvT tYes σ H true := fun H1 _ Q q => q H1 (Ex.refl H1)
abbrev PB (X : Cx) (scope : Scope) (ifs : List Expr) (tt : TT) : Prop := ∀ (s : Shared) (H : Hp) (C : Addr) (cl : List (Str × Addr)) (fp : List Addr), PTs (X.blk s H scope (compEnvC scope cl C X.env) fp) ifs tt
theorem pb_no : PB X scope [] tYes := fun _ _ _ _ _ => pts_nil
theorem pb_if : PB X scope [e] (wTB X scope e) := fun s H C cl fp => pts_one ⟨fun pins s' σ H' Q I h => h s H C cl fp pins s' I⟩
theorem blk_nm (nd : X.N.Nodup) (hi : X.N[i]? = some z) (hx : scope.names.lookup z = some .local) : ∀ (s : Shared) (H : Hp) (C : Addr) (cl : List (Str × Addr)) (fp : List Addr), PG (X.blk s H scope (compEnvC scope cl C X.env) fp) (.Name z p1) (gName i) :=
  fun s H C cl fp => pg_name (X := X.blk s H scope (compEnvC scope cl C X.env) fp) nd hi (.inl (lookup_relabel_local hx)) (.inr (lookup_relabel_local hx))
theorem blk_e {e : Expr} : ∀ (s : Shared) (H : Hp) (C : Addr) (cl : List (Str × Addr)) (fp : List Addr), PE (X.blk s H scope (compEnvC scope cl C X.env) fp) e (wEB X scope e) :=
  fun s H C cl fp => ⟨fun pins s' σ H' Q I h => h s H C cl fp pins s' I⟩
/-- [v i for the i-th if f i], over a list -/
theorem en_lcL {xs : List V} (f : Nat → Bool) (v : Nat → V) (he : ER X e σ H fun u H1 => ∃ p, u = .ref p ∧ SqL X.K H1 p xs) (hz : xs.length ≤ 40000) (nd : X.N.Nodup) (hb : PB X scope ifs tt)
    (ht : ∀ (j : Nat) (x : V) H1, Ex H H1 → xs[j]? = some x → EvT tt ((wipe σ [i]).set i (some x)) H1 (f j)) (hv : ∀ (j : Nat) (x : V) H1, Ex H H1 → xs[j]? = some x → f j = true → EVB X scope elt ((wipe σ [i]).set i (some x)) H1 (v j))
    (ok : BlkOk X.N X.env.scope scope [(z, i)] := by exact blkOk_by (by kernel_rfl)) (hi : X.N[i]? = some z := by rfl) (hx : scope.names.lookup z = some .local := by rfl) (hc : X.calm = true := by rfl) (hs : ∀ x, foldedSetIterable e X.env x = pure x := by intro _; rfl) :
    EN X (.ListComp elt [⟨.Name z p1, e, ifs, 0⟩] scope pos) σ H (.lst (given xs.length f v)) := fun H1 e1 Q q => to_wE (pe_lc hc nd (pi_list pe_w) ok (blk_nm nd hi hx) hb blk_e hs) (he H1 e1 _ fun u H2 e2 ⟨p, ep, hS⟩ => by
  subst ep
  exact ⟨p, rfl, ⟨xs, hS⟩, fun Dl hD => lc_list (xs := xs) (Cw H2 f v Dl) ⟨hD, Ex.new hD, upd_same⟩ (fun j H' _ c => ex_l c.2.1 hS) (fun j x H' hj c => ⟨wipe1 x, cw_turn c (by have := (List.getElem?_eq_some_iff.mp hj).1; omega) (ht j x H2 (e1.trans e2) hj) (fun hf => evb (hv j x H2 (e1.trans e2) hj hf))⟩)
    (fun H' c => q Dl H' (fresh_back e2 c.1) (e2.trans c.2.1) c.2.2)⟩)
theorem en_lcT {xs : List V} (f : Nat → Bool) (v : Nat → V) (he : ER X e σ H fun u H1 => ∃ p, u = .ref p ∧ SqT X.K H1 p xs) (hz : xs.length ≤ 40000) (nd : X.N.Nodup) (hb : PB X scope ifs tt)
    (ht : ∀ (j : Nat) (x : V) H1, Ex H H1 → xs[j]? = some x → EvT tt ((wipe σ [i]).set i (some x)) H1 (f j)) (hv : ∀ (j : Nat) (x : V) H1, Ex H H1 → xs[j]? = some x → f j = true → EVB X scope elt ((wipe σ [i]).set i (some x)) H1 (v j))
    (ok : BlkOk X.N X.env.scope scope [(z, i)] := by exact blkOk_by (by kernel_rfl)) (hi : X.N[i]? = some z := by rfl) (hx : scope.names.lookup z = some .local := by rfl) (hc : X.calm = true := by rfl) (hs : ∀ x, foldedSetIterable e X.env x = pure x := by intro _; rfl) :
    EN X (.ListComp elt [⟨.Name z p1, e, ifs, 0⟩] scope pos) σ H (.lst (given xs.length f v)) := fun H1 e1 Q q => to_wE (pe_lc hc nd (pi_tup pe_w) ok (blk_nm nd hi hx) hb blk_e hs) (he H1 e1 _ fun u H2 e2 ⟨p, ep, hS⟩ => by
  subst ep
  exact ⟨p, rfl, ⟨xs, hS⟩, fun Dl hD => lc_tup (xs := xs) (Cw H2 f v Dl) ⟨hD, Ex.new hD, upd_same⟩ (fun j H' _ c => ex_t c.2.1 hS) (fun j x H' hj c => ⟨wipe1 x, cw_turn c (by have := (List.getElem?_eq_some_iff.mp hj).1; omega) (ht j x H2 (e1.trans e2) hj) (fun hf => evb (hv j x H2 (e1.trans e2) hj hf))⟩)
    (fun H' c => q Dl H' (fresh_back e2 c.1) (e2.trans c.2.1) c.2.2)⟩)
theorem en_lcR2 {l n : Int} {p p2 : Pos} (f : Nat → Bool) (v : Nat → V) (ha : EV X a σ H (.int l)) (hb2 : EV X b σ H (.int n)) (hn : -100000 ≤ l ∧ n ≤ 100000 ∧ -100000 ≤ n ∧ l ≤ 100000 ∧ n - l ≤ 40000) (hm : X.mg "range" = none) (nd : X.N.Nodup) (hb : PB X scope ifs tt)
    (ht : ∀ (j : Nat) H1, Ex H H1 → l + (j : Int) < n → EvT tt ((wipe σ [i]).set i (some (.int (l + (j : Int))))) H1 (f j)) (hv : ∀ (j : Nat) H1, Ex H H1 → l + (j : Int) < n → f j = true → EVB X scope elt ((wipe σ [i]).set i (some (.int (l + (j : Int))))) H1 (v j))
    (ok : BlkOk X.N X.env.scope scope [(z, i)] := by exact blkOk_by (by kernel_rfl)) (hi : X.N[i]? = some z := by rfl) (hx : scope.names.lookup z = some .local := by rfl) (hc : X.calm = true := by rfl) (hg : Gl X "range" := by rfl)
    (hst : starEach [a, b] X.env = [(false, eval a X.env), (false, eval b X.env)] := by rfl) (hst2 : starEach [b] X.env = [(false, eval b X.env)] := by rfl)
    (hs : ∀ x, foldedSetIterable (.Call (.Name "range" p) [a, b] [] p2) X.env x = pure x := by intro _; rfl) :
    EN X (.ListComp elt [⟨.Name z p1, .Call (.Name "range" p) [a, b] [] p2, ifs, 0⟩] scope pos) σ H (.lst (given (n - l).toNat f v)) := fun H1 e1 Q q => to_wE (pe_lc hc nd (pi_range2 hg hm pa_w hst hst2) ok (blk_nm nd hi hx) hb blk_e hs) ((ea_cons' ha (ea_cons' hb2 ea_nil' hst2) (hst.trans (congrArg _ hst2.symm))) H1 e1 _ fun H2 e2 =>
  ⟨l, n, rfl, by omega, fun Dl hD => lc_range (lo := l) (n := (n - l).toNat) (Cw H2 f v Dl) ⟨hD, Ex.new hD, upd_same⟩ (fun j H' hj c => ⟨wipe1 _, cw_turn c (by omega) (ht j H2 (e1.trans e2) (by omega)) (fun hf => evb (hv j H2 (e1.trans e2) (by omega) hf))⟩)
    (fun H' c => q Dl H' (fresh_back e2 c.1) (e2.trans c.2.1) c.2.2)⟩)
end
/-! ### min(list of at most one int, default = d) -/
def rMinD (K : PySem.W.Frag) : List V → List V → Hp → VK → Prop := fun vs zs H Q => ∃ (a : Addr) (ns : List Int) (d : V), vs = [.ref a] ∧ zs = [d] ∧ SqL K H a (ns.map V.int) ∧ ((ns = [] ∧ Q d H) ∨ ∃ m, ns = [m] ∧ Q (.int m) H)
theorem cr_minD {X : Cx} (hc : X.calm = true) (hu : X.A.units + 64 < cLine) : CallRK X (.builtin "min") [Str.ofString "default"] (rMinD X.K) := by
  (intro pins s σ H vs zs us ws Q I r rz h)
  obtain ⟨a, ns, d, rfl, rfl, hs, hq⟩ := h
  (obtain ⟨its, rv, hl, _⟩ := I.list hs)
  obtain rfl := Vals.ref1 r
  (obtain ⟨w1, rfl, e1⟩ := vals1 rz)
  rcases hq with ⟨rfl, q⟩ | ⟨m, rfl, q⟩
  · cases rv
    refine PySem.W.min_list_default (xs := []) (as := []) (I.ok.hd hc) hl.isList .nil ⟨(fun x hx => nomatch hx), (fun x hx => nomatch hx)⟩ (by show X.A.units + 1 + 0 < _; omega) (fun _ h' tk hk => ⟨d, H, I.kept hk, e1, q⟩) (fun y ys i v h' tk bs e => nomatch e)
  · obtain ⟨u, rfl, t, rfl⟩ := vals1 rv
    refine PySem.W.min_list_default (xs := [.int m]) (as := []) (I.ok.hd hc) hl.isList (.cons (.int m t) .nil) ⟨fun x hx y hy => ?_, fun x hx => ?_⟩ (by show X.A.units + 1 + 0 < _; omega) (fun e => nomatch e) (fun y ys i v h' tk bs e hi hr hk => ?_)
    · rw [List.mem_singleton.mp hx, List.mem_singleton.mp hy]; rfl
    · rw [List.mem_singleton.mp hx]; exact fun z => nomatch z
    · have hv : v = .int m t := by
        have h0 := (List.getElem?_eq_some_iff.mp (show ([Value.int m t] : List Value)[i]? = some v by simpa using hi))
        obtain ⟨hi0, e0⟩ := h0
        have : i = 0 := by simpa using hi0
        subst this
        exact e0.symm
      subst hv
      exact ⟨.int m, H, I.kept hk, ⟨t, rfl⟩, q⟩
end K27

/-! reduced, at_place, negated, total, floor_of. -/
namespace K27
open PySem PySem.Spec PyProof.Rows L2 Evl C8
section
variable {base : Heap} {mg : Str → Option Value} {K : PySem.W.Frag} {w : World} {P : Program}

/-- what reduced gives -/
def RedOf (b n e n' e' : Int) : Prop := (n = 0 ∧ n' = 0 ∧ e' = 0) ∨ (n ≠ 0 ∧ n' ≠ 0 ∧ e ≤ e' ∧ n = n' * b ^ (e' - e).toNat ∧ n' % b ≠ 0)
/-- a new pair of ints -/
def IsPr (x y : Int) : V → Hp → Prop := fun v H => ∃ p, v = .ref p ∧ H p = some (.tup [.int x, .int y])

theorem ipos_pow {b : Int} (hb : 0 < b) (n : Nat) : 0 < b ^ n := Int.pow_pos hb
theorem divw_pow {i b : Int} (h0 : 0 < b) (hb : b < 2 ^ 6) {n : Nat} (hn : n ≤ 1400) : CDivW i (b ^ n) := wide_div (ipos_pow h0 n) (pow_nat (Int.le_of_lt h0) hb n) (by omega) (by omega)
theorem two_pow_le {b : Int} (hb : 2 ≤ b) (n : Nat) : ((2 ^ n : Nat) : Int) ≤ b ^ n := by
  induction n with
  | zero => simp
  | succ n ih =>
    have h0 : (0 : Int) ≤ ((2 ^ n : Nat) : Int) := Int.natCast_nonneg _
    calc ((2 ^ (n + 1) : Nat) : Int) = ((2 ^ n : Nat) : Int) * 2 := by rw [Nat.pow_succ]; simp
      _ ≤ b ^ n * b := Int.mul_le_mul ih hb (by omega) (by omega)
      _ = b ^ (n + 1) := (Int.pow_succ b n).symm
theorem step_bound {b n : Int} {k : Nat} (hb : 2 ≤ b) (h0 : n ≠ 0) (hd : n % b ^ k = 0) (hn : n.natAbs < 2 ^ 600) : k < 600 ∧ (n / b ^ k).natAbs ≤ n.natAbs ∧ n = n / b ^ k * b ^ k ∧ (0 < k → 2 * (n / b ^ k).natAbs ≤ n.natAbs) ∧ k < n.natAbs ∧ n / b ^ k ≠ 0 := by
  have e : n = n / b ^ k * b ^ k := (Int.ediv_mul_cancel (Int.dvd_of_emod_eq_zero hd)).symm
  have hq : n / b ^ k ≠ 0 := fun z => h0 (by rw [e, z, Int.zero_mul])
  have ea : n.natAbs = (n / b ^ k).natAbs * (b ^ k).natAbs := by
    conv => lhs; rw [e]
    exact Int.natAbs_mul _ _
  have h2 := two_pow_le hb k
  have h2' : 2 ^ k ≤ (b ^ k).natAbs := by omega
  have hq1 : 1 ≤ (n / b ^ k).natAbs := by omega
  have h3 : 2 ^ k ≤ n.natAbs := by
    rw [ea]
    calc 2 ^ k ≤ (b ^ k).natAbs := h2'
      _ = 1 * (b ^ k).natAbs := (Nat.one_mul _).symm
      _ ≤ _ := Nat.mul_le_mul_right _ hq1
  have hk : k < 600 := (Nat.pow_lt_pow_iff_right (by decide)).mp (Nat.lt_of_le_of_lt h3 hn)
  have hk2 : k < n.natAbs := Nat.lt_of_lt_of_le Nat.lt_two_pow_self h3
  refine ⟨hk, ?_, e, fun hk0 => ?_, hk2, hq⟩
  · rw [ea]
    exact Nat.le_mul_of_pos_right _ (Nat.lt_of_lt_of_le (Nat.two_pow_pos k) h2')
  · rw [ea, Nat.mul_comm 2]
    refine Nat.mul_le_mul_left _ (Nat.le_trans ?_ h2')
    calc 2 = 2 ^ 1 := rfl
      _ ≤ 2 ^ k := Nat.pow_le_pow_right (by decide) hk0

def pr_reduced : Pre := fun vs H R => ∃ b n e : Int, vs = [.int b, .int n, .int e] ∧ 2 ≤ b ∧ b < 2 ^ 6 ∧ n.natAbs < 2 ^ 600 ∧ R = fun v H' => ∃ n' e', IsPr n' e' v H' ∧ RedOf b n e n' e'
theorem c_reduced (W : Wd K mg) : Cal P w K mg base 2 "reduced" (spR pr_reduced) [] :=
  cal_mk W.F_reduced W.g_reduced sc_reduced (fun vs H R ⟨_, _, _, e, _⟩ => by rw [e]; rfl) (by
    rintro cdv A outer s H vs Q E R hr ⟨b, n, e, rfl, b2, b6, hn, rfl⟩ q
    refine bl_when (et_eqI (ev_nm 1 rfl) ev_int) (fun hz => ?_) (fun hz => ?_)
    · have hz' := of_decide_eq_true hz
      exact bl_retR (er_en (en_tup (ea_cons' ev_int (ea_cons' ev_int ea_nil')))) fun v H1 e1 ⟨p, ev, _, h1⟩ => q v H1 e1 ⟨0, 0, ⟨p, ev, h1⟩, .inl ⟨hz', rfl, rfl⟩⟩
    have hz' := of_decide_eq_false hz
    refine bl_set 3 sc_reduced.nd ev_int ?_
    refine bl_while (fun m σ' H' => ∃ (n1 e1 : Int) (k : Nat) (d : Option V), σ' = [some (.int b), some (.int n1), some (.int e1), some (.int k), d] ∧ Ex H H' ∧ m = 2 * n1.natAbs + k ∧ n1 ≠ 0 ∧ n1.natAbs < 2 ^ 600 ∧ e ≤ e1 ∧ n = n1 * b ^ (e1 - e).toNat ∧ k ≤ 1200 ∧ (k = 0 → n1 % b ≠ 0)) (2 * n.natAbs + 1)
      ⟨n, e, 1, none, rfl, Ex.refl _, rfl, hz', hn, Int.le_refl _, by simp, by decide, by omega⟩ ?_
    rintro m σ' H' ⟨n1, e1, k, d, rfl, e0, rfl, hn0, hn1, he, hnn, hk, hkz⟩
    refine ⟨decide ((0 : Int) < (k : Int)), et_gt (ev_nm 3 rfl) ev_int, fun hb => ?_, fun hb => ?_⟩
    · have hk0 : 0 < k := by simpa using hb
      refine bl_set (v := .int (b ^ k)) 4 sc_reduced.nd (ev_call1 (c_raised W) hr (ea_cons' (ev_nm 0 rfl) (ea_cons' (ev_nm 3 rfl) ea_nil')) fun H1 _ => ⟨b, k, rfl, by omega, b6, by omega, rfl⟩) ?_
      refine bl_if (et_eqI (ev_mod (ev_nm 1 rfl) (ev_nm 4 rfl) (ipos_pow (by omega) k)) ev_int) (fun hd => ?_) (fun hd => ?_)
      · have hd' := of_decide_eq_true hd
        obtain ⟨s1, s2, s3, s4, s5, s6⟩ := step_bound b2 hn0 hd' hn1
        refine bl_aug 1 sc_reduced.nd iop_fdivW rfl (ev_nm 4 rfl) (rv_I (divw_pow (by omega) b6 (by omega))) ?_
        refine bl_aug 2 sc_reduced.nd iop_add rfl (ev_nm 3 rfl) rv_I0 ?_
        refine bl_aug 3 sc_reduced.nd iop_mul rfl ev_int (rv_I (.inr ⟨by decide, by decide⟩)) ?_
        refine bl_nil rfl (bl_nil rfl ⟨2 * (n1 / b ^ k).natAbs + 2 * k, ?_, n1 / b ^ k, e1 + k, 2 * k, _, by rw [Int.mul_comm]; rfl, e0, rfl, s6, by omega, by omega, ?_, by omega, by omega⟩)
        · have := s4 hk0
          omega
        · rw [hnn, show (e1 + (k : Int) - e).toNat = k + (e1 - e).toNat by omega, Int.pow_add, ← Int.mul_assoc, ← s3]
      · have hd' := of_decide_eq_false hd
        refine bl_aug 3 sc_reduced.nd iop_fdiv rfl ev_int (rv_I (⟨by decide, by decide⟩ : CDiv (k : Int) 2)) ?_
        refine bl_nil rfl (bl_nil rfl ⟨2 * n1.natAbs + k / 2, by omega, n1, e1, k / 2, _, rfl, e0, rfl, hn0, hn1, he, hnn, by omega, fun hk2 => ?_⟩)
        have hk1 : k = 1 := by omega
        subst hk1
        rw [Int.pow_succ, Int.pow_zero, Int.one_mul] at hd'
        exact hd'
    · have hk0 : k = 0 := by have := of_decide_eq_false hb; omega
      refine bl_retR (er_en (en_tup (ea_cons' (ev_nm 1 rfl) (ea_cons' (ev_nm 2 rfl) ea_nil')))) fun v H1 e2 ⟨p, ev, _, h1⟩ => q v H1 (e0.trans e2) ⟨n1, e1, ⟨p, ev, h1⟩, .inr ⟨hz', hn0, he, hnn, hkz hk0⟩⟩)

/-- a number as it stands: a pair; its own form -/
def Norm (b n e : Int) : Prop := (n = 0 → e = 0) ∧ (n ≠ 0 → n % b ≠ 0) ∧ n.natAbs < 2 ^ 600 ∧ -1000 ≤ e ∧ e ≤ 1000
/-- a number divided by a place that is not above it -/
def atP (b n e p : Int) : Int := if n = 0 then 0 else n * b ^ (e - p).toNat
def pr_at_place : Pre := fun vs H R => ∃ (b n e p : Int) (a : Addr), vs = [.int b, .ref a, .int p] ∧ H a = some (.tup [.int n, .int e]) ∧ 2 ≤ b ∧ b < 2 ^ 6 ∧ n.natAbs < 2 ^ 600 ∧ (n ≠ 0 → p ≤ e ∧ e - p ≤ 3000) ∧ R = fun v _ => v = .int (atP b n e p)
theorem c_at_place (W : Wd K mg) : Cal P w K mg base 2 "at_place" (spR pr_at_place) [] :=
  cal_mk W.F_at_place W.g_at_place sc_at_place (fun vs H R ⟨_, _, _, _, _, e, _⟩ => by rw [e]; rfl) (by
    rintro cdv A outer s H vs Q E R hr ⟨b, n, e, p, a, rfl, ha, b2, b6, hn, hp, rfl⟩ q
    refine bl_ret (v := .int (atP b n e p)) ?_ fun H1 e1 => q _ H1 e1 rfl
    refine ev_ife (et_neI (ev_ixT (ev_nm 1 rfl) ev_int (st_of ha) (i := 0) rfl) ev_int) (fun hz => ?_) (fun hz => ?_)
    · have hz' : n ≠ 0 := by simpa using hz
      obtain ⟨h1, h2⟩ := hp hz'
      refine ev_to (ev_mul (j := b ^ (e - p).toNat) (ev_ixT (ev_nm 1 rfl) ev_int (st_of ha) (i := 0) rfl) (ev_call1 (c_raised W) hr (ea_cons' (ev_nm 0 rfl) (ea_cons' (ev_sub (ev_ixT (ev_nm 1 rfl) ev_int (st_of ha) (i := 1) rfl) (ev_nm 2 rfl)) ea_nil')) fun H1 _ => ⟨b, (e - p).toNat, by rw [Int.toNat_of_nonneg (by omega)], by omega, b6, by omega, rfl⟩) (wide_mul hn (pow_nat (by omega) b6 _) (by omega) (by omega) (by omega))) ?_
      unfold atP
      rw [if_neg hz']
    · have hz' : n = 0 := by simpa using hz
      refine ev_to ev_int ?_
      unfold atP
      rw [if_pos hz'])

def pr_negated : Pre := fun vs H R => ∃ (n e : Int) (a : Addr), vs = [.ref a] ∧ H a = some (.tup [.int n, .int e]) ∧ R = IsPr (-n) e
theorem c_negated (W : Wd K mg) : Cal P w K mg base 1 "negated" (spR pr_negated) [] :=
  cal_mk W.F_negated W.g_negated sc_negated (fun vs H R ⟨_, _, _, e, _⟩ => by rw [e]; rfl) (by
    rintro cdv A outer s H vs Q E R hr ⟨n, e, a, rfl, ha, rfl⟩ q
    exact bl_retR (er_en (en_tup (ea_cons' (ev_neg (ev_ixT (ev_nm 0 rfl) ev_int (st_of ha) (i := 0) rfl)) (ea_cons' (ev_ixT (ev_nm 0 rfl) ev_int (st_of ha) (i := 1) rfl) ea_nil')))) fun v H1 e1 ⟨p, ev, _, h1⟩ => q v H1 e1 ⟨p, ev, h1⟩)
end
end K27

/-! total, floor_of. -/
namespace K27
open PySem PySem.Spec PyProof.Rows L2 Evl C8
section
theorem ev_minD {X : Cx} {σ : L2.St} {H : Hp} {e c : Expr} {d v : V} {ns : List Int} {pos p1 kp : Pos} {j : Nat} (ha : EN X e σ H (.lst (ns.map V.int))) (hd : EV X c σ H d) (hv : (ns = [] ∧ v = d) ∨ ∃ m, ns = [m] ∧ v = .int m) (hm : X.mg "min" = none) (hr : Room j X.A) (hg : Gl X "min" := by rfl) (hc : X.calm = true := by rfl)
    (s1 : starEach [e] X.env = (false, eval e X.env) :: starEach [] X.env := by rfl) (he : backTo pos (starEach (e :: []) X.env) = (false, eval e X.env) :: backTo pos (starEach [] X.env) := by rfl) (hpl : (backTo pos (starEach (e :: []) X.env)).any (·.1) = false := by rfl)
    (hall : (backToKw pos (keywordEach [⟨some "default", c, kp⟩] X.env)).all (·.1.isSome) = true := by rfl) (hnone : (backToKw pos (keywordEach [⟨some "default", c, kp⟩] X.env)).any (·.1.isNone) = false := by rfl) (hks : (backToKw pos (keywordEach [⟨some "default", c, kp⟩] X.env)).filterMap (·.1) = [Str.ofString "default"] := by rfl) :
    EV X (.Call (.Name "min" p1) [e] [⟨some "default", c, kp⟩] pos) σ H v := fun H1 e1 Q q =>
  to_wE (pe_callBK (cr_minD hc hr.units) hg hm boot_min (pa_cons pe_w pa_nil s1) (pk_cons pe_w pk_nil) (by decide) (by decide) he hpl hall hnone hks) (ha H1 e1 _ fun p H2 hp e2 h2 => hd H2 (e1.trans e2) _ fun H3 e3 => ⟨p, ns, d, rfl, rfl, sq_of (e3 _ _ h2), by
    rcases hv with ⟨z, ev⟩ | ⟨m, z, ev⟩
    · exact .inl ⟨z, ev ▸ q H3 (e2.trans e3)⟩
    · exact .inr ⟨m, z, ev ▸ q H3 (e2.trans e3)⟩⟩)
theorem blkOk_sc {N ps : List Str} {sc scope : Scope} {own : List (Str × Nat)} (_ : FnScope N ps sc) (h : blkC N sc scope own = true) : BlkOk N sc scope own := blkOk_by h
variable {base : Heap} {mg : Str → Option Value} {K : PySem.W.Frag} {w : World} {P : Program}
theorem redOf_norm {b n e n' e' : Int} (hb : 2 ≤ b) (h : RedOf b n e n' e') (hn : n ≠ 0 → n % b ≠ 0) (hz : n = 0 → e = 0) : n' = n ∧ e' = e := by
  rcases h with ⟨h1, h2, h3⟩ | ⟨h1, h2, h3, h4, h5⟩
  · exact ⟨h2.trans h1.symm, h3.trans (hz h1).symm⟩
  · have hk : (e' - e).toNat = 0 := by
      cases hq : (e' - e).toNat with
      | zero => rfl
      | succ k =>
        rw [hq, Int.pow_succ, ← Int.mul_assoc] at h4
        exact absurd (by rw [h4]; exact Int.mul_emod_left _ _) (hn h1)
    rw [hk, Int.pow_zero, Int.mul_one] at h4
    exact ⟨h4.symm, by omega⟩
/-- one of two numbers is zero: their sum is the other -/
def pr_total : Pre := fun vs H R => ∃ (b n e n1 e1 n2 e2 : Int) (p1 p2 : Addr), vs = [.int b, .ref p1, .ref p2] ∧ H p1 = some (.tup [.int n1, .int e1]) ∧ H p2 = some (.tup [.int n2, .int e2]) ∧ 2 ≤ b ∧ b < 2 ^ 6 ∧ Norm b n e ∧ ((n1 = n ∧ e1 = e ∧ n2 = 0) ∨ (n2 = n ∧ e2 = e ∧ n1 = 0)) ∧ R = IsPr n e
theorem c_total (W : Wd K mg) : Cal P w K mg base 3 "total" (spR pr_total) [] :=
  cal_mk W.F_total W.g_total sc_total (fun vs H R ⟨_, _, _, _, _, _, _, _, _, e, _⟩ => by rw [e]; rfl) (by
    rintro cdv A outer s H vs Q E R hr ⟨b, n, e, n1, e1, n2, e2, a1, a2, rfl, h1, h2, b2, b6, ⟨z0, z1, z2, z3, z4⟩, hcase, rfl⟩ q
    have hb1 : n1.natAbs < 2 ^ 600 := by rcases hcase with ⟨h, _, _⟩ | ⟨_, _, h⟩ <;> rw [h] <;> first | exact z2 | decide
    have hb2 : n2.natAbs < 2 ^ 600 := by rcases hcase with ⟨_, _, h⟩ | ⟨h, _, _⟩ <;> rw [h] <;> first | exact z2 | decide
    refine bl_set (v := .int (if n = 0 then 0 else e)) 3 sc_total.nd (ev_minD (ns := if n = 0 then [] else [e]) (d := .int 0) ?_ ev_int ?_ W.n_min hr) ?_
    · have g : given 2 (fun j => !decide ((if j = 0 then n1 else n2) = 0)) (fun j => V.int (if j = 0 then e1 else e2)) = (if n = 0 then [] else [e]).map V.int := by
        unfold given
        rcases hcase with ⟨x1, x2, x3⟩ | ⟨x1, x2, x3⟩
        · subst x1 x2 x3
          by_cases hz : n1 = 0
          · simp [List.range, List.range.loop, hz]
          · simp [List.range, List.range.loop, hz]
        · subst x1 x2 x3
          by_cases hz : n2 = 0
          · simp [List.range, List.range.loop, hz]
          · simp [List.range, List.range.loop, hz]
      rw [← g]
      refine en_lcT (xs := [.ref a1, .ref a2]) (i := 4) _ _ ((er_en (en_tup (ea_cons' (ev_nm 1 rfl) (ea_cons' (ev_nm 2 rfl) ea_nil')))).imp fun u H1 _ ⟨p, eu, _, hp⟩ => ⟨p, eu, st_of hp⟩) (by simp) sc_total.nd pb_if (fun j x H1 x1 hx => etb fun _ _ _ _ _ => ?_) (fun j x H1 x1 hx hf _ _ _ _ _ => ?_) (ok := blkOk_by (by kernel_rfl))
      · match j, hx with
        | 0, hx =>
          cases hx
          exact et_neI (ev_ixT (ev_nm 4 rfl) ev_int (st_of (x1 _ _ h1)) (i := 0) rfl) ev_int
        | 1, hx =>
          cases hx
          exact et_neI (ev_ixT (ev_nm 4 rfl) ev_int (st_of (x1 _ _ h2)) (i := 0) rfl) ev_int
      · match j, hx with
        | 0, hx =>
          cases hx
          exact ev_ixT (ev_nm 4 rfl) ev_int (st_of (x1 _ _ h1)) (i := 1) rfl
        | 1, hx =>
          cases hx
          exact ev_ixT (ev_nm 4 rfl) ev_int (st_of (x1 _ _ h2)) (i := 1) rfl
    · by_cases hz : n = 0
      · exact .inl ⟨by rw [if_pos hz], by rw [if_pos hz]⟩
      · exact .inr ⟨e, by rw [if_neg hz], by rw [if_neg hz]⟩
    have es : atP b n1 e1 (if n = 0 then 0 else e) + atP b n2 e2 (if n = 0 then 0 else e) = n := by
      unfold atP
      rcases hcase with ⟨y1, y2, y3⟩ | ⟨y1, y2, y3⟩
      · subst y1 y2 y3
        by_cases hz : n1 = 0 <;> simp [hz]
      · subst y1 y2 y3
        by_cases hz : n2 = 0 <;> simp [hz]
    have ep : (if n = 0 then 0 else e) = e := by
      by_cases hz : n = 0
      · rw [if_pos hz, z0 hz]
      · rw [if_neg hz]
    refine bl_retR ((er_call1 (c_reduced W) hr (ea_cons' (ev_nm 0 rfl) (ea_cons' (ev_add (i := atP b n1 e1 (if n = 0 then 0 else e)) (j := atP b n2 e2 (if n = 0 then 0 else e))
      (ev_call1 (c_at_place W) hr (ea_cons' (ev_nm 0 rfl) (ea_cons' (ev_nm 1 rfl) (ea_cons' (ev_nm 3 rfl) ea_nil'))) fun H1 x1 => ⟨b, n1, e1, _, a1, rfl, x1 _ _ h1, b2, b6, hb1, fun hz => ?_, rfl⟩)
      (ev_call1 (c_at_place W) hr (ea_cons' (ev_nm 0 rfl) (ea_cons' (ev_nm 2 rfl) (ea_cons' (ev_nm 3 rfl) ea_nil'))) fun H1 x1 => ⟨b, n2, e2, _, a2, rfl, x1 _ _ h2, b2, b6, hb2, fun hz => ?_, rfl⟩)) (ea_cons' (ev_nm 3 rfl) ea_nil')))
        fun H1 x1 => ⟨b, _, _, rfl, b2, b6, by rw [es]; exact z2, rfl⟩).imp fun v H1 x1 ⟨n', e', hp, hr'⟩ => ?_) fun v H1 x1 r => q v H1 x1 r
    · rcases hcase with ⟨y1, y2, y3⟩ | ⟨y1, y2, y3⟩
      · rw [if_neg (by rw [← y1]; exact hz), y2]; omega
      · exact absurd y3 hz
    · rcases hcase with ⟨y1, y2, y3⟩ | ⟨y1, y2, y3⟩
      · exact absurd y3 hz
      · rw [if_neg (by rw [← y1]; exact hz), y2]; omega
    · rw [es, ep] at hr'
      obtain ⟨rfl, rfl⟩ := redOf_norm b2 hr' z1 z0
      exact hp)

/-- the floor of a number over a place -/
def flo (b n e p : Int) : Int := if p ≤ e then atP b n e p else n / b ^ (p - e).toNat
def pr_floor_of : Pre := fun vs H R => ∃ (b n e p : Int) (a : Addr), vs = [.int b, .ref a, .int p] ∧ H a = some (.tup [.int n, .int e]) ∧ 2 ≤ b ∧ b < 2 ^ 6 ∧ n.natAbs < 2 ^ 600 ∧ -300 ≤ e ∧ e ≤ 1000 ∧ -1000 ≤ p ∧ p ≤ 1000 ∧ R = fun v _ => v = .int (flo b n e p)
theorem c_floor_of (W : Wd K mg) : Cal P w K mg base 3 "floor_of" (spR pr_floor_of) [] :=
  cal_mk W.F_floor_of W.g_floor_of sc_floor_of (fun vs H R ⟨_, _, _, _, _, e, _⟩ => by rw [e]; rfl) (by
    rintro cdv A outer s H vs Q E R hr ⟨b, n, e, p, a, rfl, ha, b2, b6, hn, e1, e2, p1, p2, rfl⟩ q
    refine bl_when (et_ge (ev_ixT (ev_nm 1 rfl) ev_int (st_of ha) (i := 1) rfl) (ev_nm 2 rfl)) (fun hz => ?_) (fun hz => ?_)
    · have hz' := of_decide_eq_true hz
      refine bl_ret (v := .int (flo b n e p)) (ev_to (ev_call1 (c_at_place W) hr (ea_cons' (ev_nm 0 rfl) (ea_cons' (ev_nm 1 rfl) (ea_cons' (ev_nm 2 rfl) ea_nil'))) fun H1 x1 => ⟨b, n, e, p, a, rfl, x1 _ _ ha, b2, b6, hn, fun _ => ⟨hz', by omega⟩, rfl⟩) ?_) fun H1 x1 => q _ H1 x1 rfl
      unfold flo
      rw [if_pos hz']
    · have hz' := of_decide_eq_false hz
      refine bl_ret (v := .int (flo b n e p)) (ev_to (ev_fdiv (j := b ^ (p - e).toNat) (ev_ixT (ev_nm 1 rfl) ev_int (st_of ha) (i := 0) rfl) (ev_call1 (c_raised W) hr (ea_cons' (ev_nm 0 rfl) (ea_cons' (ev_sub (ev_nm 2 rfl) (ev_ixT (ev_nm 1 rfl) ev_int (st_of ha) (i := 1) rfl)) ea_nil')) fun H1 x1 => ⟨b, (p - e).toNat, by rw [Int.toNat_of_nonneg (by omega)], by omega, b6, by omega, rfl⟩) (divw_pow (by omega) b6 (by omega))) ?_) fun H1 x1 => q _ H1 x1 rfl
      unfold flo
      rw [if_neg hz'])
end
end K27

/-! Rows, numbers, states. -/
namespace K27
open PySem PySem.Spec PyProof.Rows L2 Evl C8

/-! ### properties -/
structure Prp (P : Program) (w : World) (K : PySem.W.Frag) (mg : Str → Option Value) (base : Heap) (k : Nat) (C : Addr) (f : Str) (pre : Pre) : Prop where
  ex : ∃ (p g : Addr) (fd : FuncData), PropOf K C f p g ∧ Cls K C ∧ FnOk P w K mg base C8.CX0 k g fd ["self"] (spR pre) ∧ Binds K fd ["self"] []
theorem ev_prop {X : Cx} {σ : L2.St} {H : Hp} {v : V} {a : Expr} {pos : Pos} {k j : Nat} {C r dx : Addr} {fs : List (Str × V)} {f : Str} {pre : Pre} (pr : Prp X.prog X.w X.K X.mg X.base k C f pre) (hr : Room j X.A) (ha : EV X a σ H (.ref r)) (hi : H r = some (.ins C dx fs)) (hp : ∀ H1, Ex H H1 → pre [.ref r] H1 (fun u _ => u = v)) (hk : k + 1 ≤ j := by decide)
    (hb : attributeBase a f X.env (eval a X.env) = eval a X.env := by rfl) : EV X (.Attribute a f pos) σ H v := by
  obtain ⟨p, g, fd, hP, c, F, b⟩ := pr.ex
  exact fun H1 e1 Q q => to_wE (pe_prop pe_w c hP F (hr.mono hk) b .nil (E := fun _ _ _ => False) C8.pass0 hb) (ha H1 e1 _ fun H2 e2 => ⟨r, dx, fs, rfl, e2 _ _ (e1 _ _ hi), _, hp H2 (e1.trans e2), fun u H3 e3 er => by rw [er]; exact q H3 (e2.trans e3)⟩)

/-! ### the data of a row -/
def oV : Option Int → V
  | none => .non
  | some i => .int i
def rowF (b mv ad : Int) (fi la : Option Int) : List (Str × V) := [("own_base", .int b), ("own_move", .int mv), ("own_add", .int ad), ("own_first", oV fi), ("own_last", oV la)]
/-- a row that is one: its base, its costs, its ends -/
structure RowOk (b mv ad : Int) (fi la : Option Int) : Prop where
  b2 : 2 ≤ b
  b6 : b < 2 ^ 6
  mv1 : 1 ≤ mv
  mv2 : mv ≤ 1000000
  ad1 : 1 ≤ ad
  ad2 : ad ≤ 1000000
  fi0 : ∀ i, fi = some i → -1000 ≤ i ∧ i ≤ 1000
  la0 : ∀ i, la = some i → -1000 ≤ i ∧ i ≤ 1000
def IsRow (K : PySem.W.Frag) (H : Hp) (r : Addr) (b mv ad : Int) (fi la : Option Int) : Prop := RowOk b mv ad fi la ∧ ∃ dx, H r = some (.ins (He.ga K "Row") dx (rowF b mv ad fi la))
theorem IsRow.ex {K : PySem.W.Frag} {H H' : Hp} {r : Addr} {b mv ad : Int} {fi la : Option Int} (e : Ex H H') (h : IsRow K H r b mv ad fi la) : IsRow K H' r b mv ad fi la := let ⟨o, dx, z⟩ := h; ⟨o, dx, e _ _ z⟩
def loR (fi : Option Int) : Int := fi.getD (-1000)
def hiR (la : Option Int) : Int := la.getD 1000
section
variable {base : Heap} {mg : Str → Option Value} {K : PySem.W.Frag} {w : World} {P : Program}
theorem W_props (W : Wd K mg) : propB K "Row" "base" = true ∧ propB K "Row" "move_cost" = true ∧ propB K "Row" "add_cost" = true ∧ creadB K "Row" = true ∧ cvalB K "Row" "MIN_BASE" 2 = true ∧ cvalB K "Row" "MAX_BASE" 36 = true := by
  have h := W.s.x
  unfold exB at h
  (simp only [Bool.and_eq_true] at h)
  exact h
def pr_getI (g : Int → Int → Int → Int) : Pre := fun vs H R => ∃ (r : Addr) (b mv ad : Int) (fi la : Option Int) (K : PySem.W.Frag), vs = [.ref r] ∧ IsRow K H r b mv ad fi la ∧ R = fun v _ => v = .int (g b mv ad)
def pr_rowI (K : PySem.W.Frag) (g : Int → Int → Int → Option Int → Option Int → Int) : Pre := fun vs H R => ∃ (r : Addr) (b mv ad : Int) (fi la : Option Int), vs = [.ref r] ∧ IsRow K H r b mv ad fi la ∧ R = fun v _ => v = .int (g b mv ad fi la)
theorem p_base (W : Wd K mg) : Prp P w K mg base 1 (He.ga K "Row") "base" (pr_rowI K fun b _ _ _ _ => b) := by
  obtain ⟨fd, F, b⟩ := W.F_Row_base
  refine ⟨_, _, fd, propB_ok (W_props W).1, W.c_Row, fnok_mk F sc_Row_base (fun vs H R ⟨_, _, _, _, _, _, e, _⟩ => by rw [e]; rfl) ?_, b⟩
  rintro cdv A outer s H vs Q E R hr ⟨r, b, mv, ad, fi, la, rfl, ⟨o, dx, hI⟩, rfl⟩ q
  exact bl_ret (ev_fld (ev_nm 0 rfl) hI W.c_Row W.no_own_base rfl) fun H1 e1 => q _ H1 e1 rfl
theorem p_move (W : Wd K mg) : Prp P w K mg base 1 (He.ga K "Row") "move_cost" (pr_rowI K fun _ mv _ _ _ => mv) := by
  obtain ⟨fd, F, b⟩ := W.F_Row_move_cost
  refine ⟨_, _, fd, propB_ok (W_props W).2.1, W.c_Row, fnok_mk F sc_Row_move_cost (fun vs H R ⟨_, _, _, _, _, _, e, _⟩ => by rw [e]; rfl) ?_, b⟩
  rintro cdv A outer s H vs Q E R hr ⟨r, b, mv, ad, fi, la, rfl, ⟨o, dx, hI⟩, rfl⟩ q
  exact bl_ret (ev_fld (ev_nm 0 rfl) hI W.c_Row W.no_own_move rfl) fun H1 e1 => q _ H1 e1 rfl
theorem p_add (W : Wd K mg) : Prp P w K mg base 1 (He.ga K "Row") "add_cost" (pr_rowI K fun _ _ ad _ _ => ad) := by
  obtain ⟨fd, F, b⟩ := W.F_Row_add_cost
  refine ⟨_, _, fd, propB_ok (W_props W).2.2.1, W.c_Row, fnok_mk F sc_Row_add_cost (fun vs H R ⟨_, _, _, _, _, _, e, _⟩ => by rw [e]; rfl) ?_, b⟩
  rintro cdv A outer s H vs Q E R hr ⟨r, b, mv, ad, fi, la, rfl, ⟨o, dx, hI⟩, rfl⟩ q
  exact bl_ret (ev_fld (ev_nm 0 rfl) hI W.c_Row W.no_own_add rfl) fun H1 e1 => q _ H1 e1 rfl
theorem ev_maxP (W : Wd K mg) {X : Cx} {σ : L2.St} {H : Hp} {pos : Pos} (hm : X.mg = mg) (hg : Gl X "MAX_PLACE") : EV X (.Name "MAX_PLACE" pos) σ H (.int 1000) := by
  obtain ⟨t, e⟩ := W.i_MAX_PLACE
  exact ev_gl hg (by rw [hm]; exact e) ⟨t, rfl⟩
theorem oV_non (o : Option Int) : decide (oV o = .non) = o.isNone := by cases o <;> rfl
theorem m_lowest (W : Wd K mg) : Met P w K mg base 1 (He.ga K "Row") "lowest" (spR (pr_rowI K fun _ _ _ fi _ => loR fi)) [] :=
  met_mk W.F_Row_lowest W.c_Row W.m_lowest sc_Row_lowest (fun vs H R ⟨_, _, _, _, _, _, e, _⟩ => by rw [e]; rfl) (by
    rintro cdv A outer s H vs Q E R hr ⟨r, b, mv, ad, fi, la, rfl, ⟨o, dx, hI⟩, rfl⟩ q
    refine bl_ret (v := .int (loR fi)) (ev_ife (et_isN (x := oV fi) (ev_fld (ev_nm 0 rfl) hI W.c_Row W.no_own_first rfl)) (fun hz => ?_) (fun hz => ?_)) fun H1 e1 => q _ H1 e1 rfl
    · cases fi with
      | none => exact ev_neg (ev_maxP W rfl rfl)
      | some i => cases hz
    · cases fi with
      | none => cases hz
      | some i => exact ev_fld (ev_nm 0 rfl) hI W.c_Row W.no_own_first rfl)
theorem m_highest (W : Wd K mg) : Met P w K mg base 1 (He.ga K "Row") "highest" (spR (pr_rowI K fun _ _ _ _ la => hiR la)) [] :=
  met_mk W.F_Row_highest W.c_Row W.m_highest sc_Row_highest (fun vs H R ⟨_, _, _, _, _, _, e, _⟩ => by rw [e]; rfl) (by
    rintro cdv A outer s H vs Q E R hr ⟨r, b, mv, ad, fi, la, rfl, ⟨o, dx, hI⟩, rfl⟩ q
    refine bl_ret (v := .int (hiR la)) (ev_ife (et_isN (x := oV la) (ev_fld (ev_nm 0 rfl) hI W.c_Row W.no_own_last rfl)) (fun hz => ?_) (fun hz => ?_)) fun H1 e1 => q _ H1 e1 rfl
    · cases la with
      | none => exact ev_maxP W rfl rfl
      | some i => cases hz
    · cases la with
      | none => cases hz
      | some i => exact ev_fld (ev_nm 0 rfl) hI W.c_Row W.no_own_last rfl)
def pr_has_place (K : PySem.W.Frag) : Pre := fun vs H R => ∃ (r : Addr) (b mv ad : Int) (fi la : Option Int) (i : Int), vs = [.ref r, .int i] ∧ IsRow K H r b mv ad fi la ∧ R = fun v _ => v = .bl (decide (loR fi ≤ i) && decide (i ≤ hiR la))
theorem m_has_place (W : Wd K mg) : Met P w K mg base 3 (He.ga K "Row") "has_place" (spR (pr_has_place K)) [] :=
  met_mk W.F_Row_has_place W.c_Row W.m_has_place sc_Row_has_place (fun vs H R ⟨_, _, _, _, _, _, _, e, _⟩ => by rw [e]; rfl) (by
    rintro cdv A outer s H vs Q E R hr ⟨r, b, mv, ad, fi, la, i, rfl, hR, rfl⟩ q
    obtain ⟨o, dx, hI⟩ := id hR
    refine bl_ret (ev_call1 (c_is_between W) hr (ea_cons' (ev_nm 1 rfl) (ea_cons' (v := .int (loR fi)) (ev_er (er_meth0 (m_lowest W) hr (ev_nm 0 rfl) hI rfl fun H1 e1 => ⟨r, b, mv, ad, fi, la, rfl, hR.ex e1, rfl⟩)) (ea_cons' (v := .int (hiR la)) (ev_er (er_meth0 (m_highest W) hr (ev_nm 0 rfl) hI rfl fun H1 e1 => ⟨r, b, mv, ad, fi, la, rfl, hR.ex e1, rfl⟩)) ea_nil')))
      fun H1 e1 => ⟨i, loR fi, hiR la, rfl, rfl⟩) fun H1 e1 => q _ H1 e1 rfl)
end
end K27

/-! Fields stored; numbers and states. -/
namespace K27
open PySem PySem.Spec PyProof.Rows L2 Evl C8
section
variable {X : Cx} {σ : L2.St} {H H' : Hp} {y : V} {e o : Expr} {pos p1 : Pos} {D : Ends} {rest : List Stmt} {a C dx : Addr} {fs : List (Str × V)} {f : Str}
theorem ex_upd {a : Addr} {o : HO} (e : Ex H H') : Ex (upd H a o) (upd H' a o) := fun b u h => by
  by_cases hb : b = a
  · subst hb; rw [upd_same] at h ⊢; exact h
  · rw [upd_ne hb] at h ⊢; exact e _ _ h
/-- o.f = e -/
theorem bl_fldR {R : V → Hp → Prop} (hv : ER X e σ H R) (ha : EV X o σ H (.ref a)) (ho : H a = some (.ins C dx fs)) (hc : Cls X.K C) (hn : NoAttr X.K C f) (hl : fs.length < 1000) (k : ∀ y H1, Ex H H1 → R y H1 → BL X rest D σ (upd H1 a (.ins C dx (putF f y fs))))
    (hs : swapsWith e (some (.Attribute o f p1)) pos.line X.env = pure false := by rfl) : BL X (.Assign [.Attribute o f p1] e pos :: rest) D σ H :=
  bl_st (ps_fld pe_w pe_w hs) fun H1 e1 => hv H1 e1 _ fun y H2 e2 r => ha H2 (e1.trans e2) _ fun H3 e3 => ⟨a, C, dx, fs, rfl, e3 _ _ (e2 _ _ (e1 _ _ ho)), hc, hn, hl, _, ex_upd e3, k y H2 (e1.trans e2) r⟩
theorem bl_fld (hv : EV X e σ H y) (ha : EV X o σ H (.ref a)) (ho : H a = some (.ins C dx fs)) (hc : Cls X.K C) (hn : NoAttr X.K C f) (hl : fs.length < 1000) (k : BL X rest D σ (upd H a (.ins C dx (putF f y fs))))
    (hs : swapsWith e (some (.Attribute o f p1)) pos.line X.env = pure false := by rfl) : BL X (.Assign [.Attribute o f p1] e pos :: rest) D σ H :=
  bl_fldR (er_ev hv) ha ho hc hn hl (fun u H1 e1 eu => by rw [eu]; exact k.mono (ex_upd e1)) hs
/-- a class's constant -/
theorem ev_cval {v : V} {mc : Value} {u : Value} (ha : EV X e σ H (.ref C)) (r : ClX.CRead X.K C mc) (c : ClX.CVal X.K C mc f v u) (hb : attributeBase e f X.env (eval e X.env) = eval e X.env := by rfl) : EV X (.Attribute e f pos) σ H v :=
  ev_pe (ClX.pe_cval pe_w hb) fun H1 e1 Q q => ha H1 e1 _ fun H2 e2 => ⟨C, mc, v, u, rfl, r, c, q H2 e2⟩
end
section
variable {base : Heap} {mg : Str → Option Value} {K : PySem.W.Frag} {w : World} {P : Program}
def pr_is_pair : Pre := fun vs H R => ∃ (a : Addr) (x y : V), vs = [.ref a] ∧ H a = some (.tup [x, y]) ∧ R = fun v _ => v = .bl true
theorem c_is_pair (W : Wd K mg) : Cal P w K mg base 1 "is_pair" (spR pr_is_pair) [] :=
  cal_mk W.F_is_pair W.g_is_pair sc_is_pair (fun vs H R ⟨_, _, _, e, _⟩ => by rw [e]; rfl) (by
    rintro cdv A outer s H vs Q E R hr ⟨a, x, y, rfl, ha, rfl⟩ q
    refine bl_ret (v := .bl true) (ev_to (ev_and (ev_isi (t := "tuple") (T := "tuple") (r := true) W.n_isinstance (ev_nm 0 rfl) (ev_blt rfl W.n_tuple boot_tuple rfl) (fun H1 e1 => .base (.tup (e1 _ _ ha))) (by decide +kernel)) fun _ => ev_one (ev_eqI (i := 2) (ev_cbB call_len_seq W.n_len boot_len (ea_cons' (ev_nm 0 rfl) ea_nil') (fun H1 e1 Q q => ⟨a, [x, y], rfl, .inr (st_of (e1 _ _ ha)), q H1 (Ex.refl H1)⟩)) ev_int)) rfl) fun H1 e1 => q _ H1 e1 rfl)

theorem big_lt {n : Int} (h : n.natAbs < 2 ^ 600) : (if n < 0 then -n else n) < (((10 : Nat) ^ 300 : Nat) : Int) := by
  have h1 : (2 : Nat) ^ 600 ≤ 10 ^ 300 := by decide +kernel
  split <;> omega
def pr_is_number : Pre := fun vs H R => ∃ (b n e : Int) (a : Addr), vs = [.int b, .ref a] ∧ H a = some (.tup [.int n, .int e]) ∧ 2 ≤ b ∧ Norm b n e ∧ R = fun v _ => v = .bl true
theorem c_is_number (W : Wd K mg) : Cal P w K mg base 3 "is_number" (spR pr_is_number) [] :=
  cal_mk W.F_is_number W.g_is_number sc_is_number (fun vs H R ⟨_, _, _, _, e, _⟩ => by rw [e]; rfl) (by
    rintro cdv A outer s H vs Q E R hr ⟨b, n, e, a, rfl, ha, b2, ⟨z0, z1, z2, z3, z4⟩, rfl⟩ q
    have ih : ∀ (j : Nat) (y : V), ([V.int n, V.int e] : List V)[j]? = some y → True := fun _ _ _ => trivial
    refine bl_when (k := false) (et_to (et_ew (ew_or (k := false) (et_to (et_not (k := true) (et_val (ev_call1 (c_is_pair W) hr (ea_cons' (ev_nm 1 rfl) ea_nil') fun H1 e1 => ⟨a, _, _, rfl, e1 _ _ ha, rfl⟩))) rfl)
      (fun _ => ew_or (k := false) (et_to (et_not (k := true) (et_val (ev_call1 (c_is_integer W) hr (ea_cons' (ev_ixT (ev_nm 1 rfl) ev_int (st_of ha) (i := 0) rfl) ea_nil') fun H1 e1 => ⟨n, rfl, rfl⟩))) rfl)
      (fun _ => ew_or1 (k := false) (et_to (et_not (k := true) (et_val (ev_call1 (c_is_between W) hr (ea_cons' (ev_ixT (ev_nm 1 rfl) ev_int (st_of ha) (i := 1) rfl) (ea_cons' (ev_neg (ev_maxP W rfl rfl)) (ea_cons' (ev_maxP W rfl rfl) ea_nil'))) fun H1 e1 => ⟨e, -1000, 1000, rfl, by
        rw [decide_eq_true z3, decide_eq_true z4]; rfl⟩))) rfl))))) rfl) (fun z => nomatch z) fun _ => ?_
    refine bl_unp (er_ev (ev_nm 1 rfl)) fun v H1 e1 ev => ?_
    subst ev
    refine ⟨_, gt_tup (st_of (e1 _ _ ha)) (gts_cons (gt_nm 2 sc_is_number.nd) (gts_cons (gt_nm 3 sc_is_number.nd) gts_nil)), ?_⟩
    refine bl_when (et_eqI (ev_nm 2 rfl) ev_int) (fun hz => ?_) (fun hz => ?_)
    · have hz' := of_decide_eq_true hz
      refine bl_ret (v := .bl true) (ev_to (ev_eqI (ev_nm 3 rfl) ev_int) (by rw [z0 hz']; rfl)) fun H2 e2 => q _ H2 (e1.trans e2) rfl
    · have hz' := of_decide_eq_false hz
      obtain ⟨t, eT⟩ := W.i_TOO_LONG
      refine bl_ret (v := .bl true) (ev_to (ev_and (ev_lt (ev_cbB call_abs W.n_abs boot_abs (ea_cons' (ev_nm 2 rfl) ea_nil') (fun H1 e1 Q q => ⟨n, rfl, q H1 (Ex.refl H1)⟩)) (ev_gl rfl eT ⟨t, rfl⟩)) fun _ => ev_one (ev_neI (ev_mod (ev_nm 2 rfl) (ev_nm 0 rfl) (by omega)) ev_int)) ?_) fun H2 e2 => q _ H2 (e1.trans e2) rfl
      rw [decide_eq_true (big_lt z2), decide_eq_false (z1 hz')]
      rfl)

/-- a state as it stands -/
def IsSt (H : Hp) (a : Addr) (n e p : Int) : Prop := ∃ q, H a = some (.tup [.ref q, .int p]) ∧ H q = some (.tup [.int n, .int e])
theorem IsSt.ex {H H' : Hp} {a : Addr} {n e p : Int} (x : Ex H H') (h : IsSt H a n e p) : IsSt H' a n e p := let ⟨q, h1, h2⟩ := h; ⟨q, x _ _ h1, x _ _ h2⟩
/-- .. that is one of the row -/
structure StOk (b : Int) (fi la : Option Int) (n e p : Int) : Prop where
  nm : Norm b n e
  lo : loR fi ≤ p
  hi : p ≤ hiR la
  ex : n ≠ 0 → loR fi ≤ e
def pr_is_state (K : PySem.W.Frag) : Pre := fun vs H R => ∃ (r a : Addr) (b mv ad : Int) (fi la : Option Int) (n e p : Int), vs = [.ref r, .ref a] ∧ IsRow K H r b mv ad fi la ∧ IsSt H a n e p ∧ StOk b fi la n e p ∧ R = fun v _ => v = .bl true
theorem c_is_state (W : Wd K mg) : Cal P w K mg base 4 "is_state" (spR (pr_is_state K)) [] :=
  cal_mk W.F_is_state W.g_is_state sc_is_state (fun vs H R ⟨_, _, _, _, _, _, _, _, _, _, e, _⟩ => by rw [e]; rfl) (by
    rintro cdv A outer s H vs Q E R hr ⟨r, a, b, mv, ad, fi, la, n, e, p, rfl, hR, ⟨qa, h1, h2⟩, ⟨nm, lo, hi, hx⟩, rfl⟩ q
    obtain ⟨ro, dx, hI⟩ := id hR
    refine bl_when (k := false) (et_to (et_ew (ew_or (k := false) (et_to (et_not (k := true) (et_val (ev_call1 (c_is_pair W) hr (ea_cons' (ev_nm 1 rfl) ea_nil') fun H1 e1 => ⟨a, _, _, rfl, e1 _ _ h1, rfl⟩))) rfl)
      (fun _ => ew_or (k := false) (et_to (et_not (k := true) (et_val (ev_call1 (c_is_number W) hr (ea_cons' (v := .int b) (ev_prop (p_base W) hr (ev_nm 0 rfl) hI fun H1 e1 => ⟨r, b, mv, ad, fi, la, rfl, hR.ex e1, rfl⟩) (ea_cons' (ev_ixT (ev_nm 1 rfl) ev_int (st_of h1) (i := 0) rfl) ea_nil')) fun H1 e1 => ⟨b, n, e, qa, rfl, e1 _ _ h2, ro.b2, nm, rfl⟩))) rfl)
      (fun _ => ew_or1 (k := false) (et_to (et_not (k := true) (et_val (ev_er (er_meth (m_has_place W) hr (ev_nm 0 rfl) hI rfl (ear_ea (ea_cons' (ev_ixT (ev_nm 1 rfl) ev_int (st_of h1) (i := 1) rfl) ea_nil')) fun vs H1 e1 ev => ⟨r, b, mv, ad, fi, la, p, by rw [ev], hR.ex e1, by
        rw [decide_eq_true lo, decide_eq_true hi]; rfl⟩)))) rfl))))) rfl) (fun z => nomatch z) fun _ => ?_
    refine bl_ret (v := .bl true) (ev_to (ev_or (k := decide (n = 0)) (l := decide (loR fi ≤ e)) (ev_eqI (ev_ixT (ev_ixT (ev_nm 1 rfl) ev_int (st_of h1) (i := 0) rfl) ev_int (st_of h2) (i := 0) rfl) ev_int) fun hz => ev_one (ev_ge (ev_ixT (ev_ixT (ev_nm 1 rfl) ev_int (st_of h1) (i := 0) rfl) ev_int (st_of h2) (i := 1) rfl) (ev_er (er_meth0 (m_lowest W) hr (ev_nm 0 rfl) hI rfl fun H1 e1 => ⟨r, b, mv, ad, fi, la, rfl, hR.ex e1, rfl⟩)))) ?_) fun H1 e1 => q _ H1 e1 rfl
    by_cases hz : n = 0
    · rw [decide_eq_true hz]; rfl
    · rw [decide_eq_false hz, decide_eq_true (hx hz)]; rfl)
def pr_require_state (K : PySem.W.Frag) : Pre := fun vs H R => ∃ (r a : Addr) (b mv ad : Int) (fi la : Option Int) (n e p : Int), vs = [.ref r, .ref a] ∧ IsRow K H r b mv ad fi la ∧ IsSt H a n e p ∧ StOk b fi la n e p ∧ R = fun v _ => v = .non
theorem c_require_state (W : Wd K mg) : Cal P w K mg base 5 "require_state" (spR (pr_require_state K)) [] :=
  cal_mk W.F_require_state W.g_require_state sc_require_state (fun vs H R ⟨_, _, _, _, _, _, _, _, _, _, e, _⟩ => by rw [e]; rfl) (by
    rintro cdv A outer s H vs Q E R hr ⟨r, a, b, mv, ad, fi, la, n, e, p, rfl, hR, hS, hO, rfl⟩ q
    refine bl_when (k := false) (et_to (et_not (k := true) (et_val (ev_call1 (c_is_state W) hr (ea_cons' (ev_nm 0 rfl) (ea_cons' (ev_nm 1 rfl) ea_nil')) fun H1 e1 => ⟨r, a, b, mv, ad, fi, la, n, e, p, rfl, hR.ex e1, hS.ex e1, hO, rfl⟩))) rfl) (fun z => nomatch z) fun _ => ?_
    exact bl_nil' fun H1 e1 => q _ H1 e1 rfl)
theorem bl_exprR {X : Cx} {σ : L2.St} {H : Hp} {e : Expr} {pos : Pos} {D : Ends} {rest : List Stmt} {R : V → Hp → Prop} (h : ER X e σ H R) (k : ∀ v H1, Ex H H1 → R v H1 → BL X rest D σ H1) (hs : swapsWith e none pos.line X.env = pure false := by rfl) : BL X (.Expr e pos :: rest) D σ H :=
  bl_st (ps_expr pe_w hs) fun H1 e1 => h H1 e1 _ fun v H2 e2 r => ⟨H2, Ex.refl _, k v H2 (e1.trans e2) r⟩
def pr_require_ends (K : PySem.W.Frag) : Pre := fun vs H R => ∃ (r a a' : Addr) (b mv ad : Int) (fi la : Option Int) (n e p n' e' p' : Int), vs = [.ref r, .ref a, .ref a'] ∧ IsRow K H r b mv ad fi la ∧ IsSt H a n e p ∧ StOk b fi la n e p ∧ IsSt H a' n' e' p' ∧ StOk b fi la n' e' p' ∧ R = fun v _ => v = .non
theorem c_require_ends (W : Wd K mg) : Cal P w K mg base 6 "require_ends" (spR (pr_require_ends K)) [] :=
  cal_mk W.F_require_ends W.g_require_ends sc_require_ends (fun vs H R ⟨_, _, _, _, _, _, _, _, _, _, _, _, _, _, e, _⟩ => by rw [e]; rfl) (by
    rintro cdv A outer s H vs Q E R hr ⟨r, a, a', b, mv, ad, fi, la, n, e, p, n', e', p', rfl, hR, hS, hO, hS', hO', rfl⟩ q
    refine bl_exprR (er_call1 (c_require_state W) hr (ea_cons' (ev_nm 0 rfl) (ea_cons' (ev_nm 1 rfl) ea_nil')) fun H1 e1 => ⟨r, a, b, mv, ad, fi, la, n, e, p, rfl, hR.ex e1, hS.ex e1, hO, rfl⟩) fun v H1 e1 _ => ?_
    refine bl_exprR (er_call1 (c_require_state W) hr (ea_cons' (ev_nm 0 rfl) (ea_cons' (ev_nm 2 rfl) ea_nil')) fun H2 e2 => ⟨r, a', b, mv, ad, fi, la, n', e', p', rfl, hR.ex (e1.trans e2), hS'.ex (e1.trans e2), hO', rfl⟩) fun v H2 e2 _ => ?_
    exact bl_nil' fun H3 e3 => q _ H3 ((e1.trans e2).trans e3) rfl)
end
end K27

/-! difference, span, digits_for. -/
namespace K27
open PySem PySem.Spec PyProof.Rows L2 Evl C8
section
theorem et_notin {X : Cx} {σ : L2.St} {H : Hp} {a : Expr} {es : List Expr} {n : Nat} {pos p1 : Pos} {x : V} {xs : List V} (ha : EV X a σ H x) (hb : EN X (.Tuple es n p1) σ H (.tup xs)) (hx : flatV x = true) (hf : xs.all flatV = true) (hm : behindInMarks .NotIn (.Tuple es n p1) = false := by with_unfolding_all rfl) :
    ET X (.Compare a [.NotIn] [.Tuple es n p1] pos) σ H (!inV x xs) := et_pt (pt_cmpR op_notIn_seq pe_w pe_w hm) (et_test (ev_niU (K := X.K) ha hb hx hf))
variable {base : Heap} {mg : Str → Option Value} {K : PySem.W.Frag} {w : World} {P : Program}
/-- the difference (n, e) of two states one of which shows zero -/
def DiffOf (n0 e0 n1 e1 n e : Int) : Prop := (n1 = n ∧ e1 = e ∧ n0 = 0) ∨ (-n0 = n ∧ e0 = e ∧ n1 = 0)
/-- two states of a row, their difference -/
structure Two (K : PySem.W.Frag) (H : Hp) (r a a' : Addr) (b mv ad : Int) (fi la : Option Int) (p p' n e : Int) : Prop where
  row : IsRow K H r b mv ad fi la
  st : ∃ n0 e0 n1 e1, IsSt H a n0 e0 p ∧ IsSt H a' n1 e1 p' ∧ DiffOf n0 e0 n1 e1 n e ∧ StOk b fi la n0 e0 p ∧ StOk b fi la n1 e1 p'
  nm : Norm b n e
  lo : loR fi ≤ p ∧ p ≤ hiR la ∧ loR fi ≤ p' ∧ p' ≤ hiR la
  ex : n ≠ 0 → loR fi ≤ e
  sm : -300 ≤ e ∧ e ≤ 300 ∧ -300 ≤ p ∧ p ≤ 300 ∧ -300 ≤ p' ∧ p' ≤ 300
theorem Two.exx {K : PySem.W.Frag} {H H' : Hp} {r a a' : Addr} {b mv ad : Int} {fi la : Option Int} {p p' n e : Int} (x : Ex H H') (t : Two K H r a a' b mv ad fi la p p' n e) : Two K H' r a a' b mv ad fi la p p' n e :=
  let ⟨n0, e0, n1, e1, h1, h2, h3, h4, h5⟩ := t.st
  ⟨t.row.ex x, ⟨n0, e0, n1, e1, h1.ex x, h2.ex x, h3, h4, h5⟩, t.nm, t.lo, t.ex, t.sm⟩
def pr_difference (K : PySem.W.Frag) : Pre := fun vs H R => ∃ (r a a' : Addr) (b mv ad : Int) (fi la : Option Int) (p p' n e : Int), vs = [.ref r, .ref a, .ref a'] ∧ Two K H r a a' b mv ad fi la p p' n e ∧ R = IsPr n e
theorem c_difference (W : Wd K mg) : Cal P w K mg base 4 "difference" (spR (pr_difference K)) [] :=
  cal_mk W.F_difference W.g_difference sc_difference (fun vs H R ⟨_, _, _, _, _, _, _, _, _, _, _, _, e, _⟩ => by rw [e]; rfl) (by
    rintro cdv A outer s H vs Q E R hr ⟨r, a, a', b, mv, ad, fi, la, p, p', n, e, rfl, T, rfl⟩ q
    obtain ⟨n0, e0, n1, e1, ⟨q0, h0, h0'⟩, ⟨q1, h1, h1'⟩, hd, o0, o1⟩ := T.st
    obtain ⟨ro, dx, hI⟩ := T.row
    refine bl_retR (er_call (c_total W) hr (Ra := fun vs H2 => ∃ pn, vs = [.int b, .ref q1, .ref pn] ∧ H2 pn = some (.tup [.int (-n0), .int e0])) (ear_cons (er_ev (v := .int b) (ev_prop (p_base W) hr (ev_nm 0 rfl) hI fun H1 x1 => ⟨r, b, mv, ad, fi, la, rfl, ⟨ro, dx, x1 _ _ hI⟩, rfl⟩)) fun v H1 x1 ev => ear_cons (er_ev (v := .ref q1) (ev_ixT (ev_nm 2 rfl) ev_int (st_of (x1 _ _ h1)) (i := 0) rfl)) fun v' H2 x2 ev' =>
      ear_cons (er_call1 (c_negated W) hr (ea_cons' (ev_ixT (ev_nm 1 rfl) ev_int (st_of ((x1.trans x2) _ _ h0)) (i := 0) rfl) ea_nil') fun H3 x3 => ⟨n0, e0, q0, rfl, ((x1.trans x2).trans x3) _ _ h0', rfl⟩) fun v'' H3 x3 ⟨pn, ep, hp⟩ => ear_nil fun H4 x4 => ⟨pn, by rw [ev, ev', ep], x4 _ _ hp⟩) fun vs H1 x1 ⟨pn, evs, hp⟩ => ?_) fun v H1 x1 r => q v H1 x1 r
    refine ⟨b, n, e, n1, e1, -n0, e0, q1, pn, evs, x1 _ _ h1', hp, ro.b2, ro.b6, T.nm, ?_, rfl⟩
    rcases hd with ⟨y1, y2, y3⟩ | ⟨y1, y2, y3⟩
    · exact .inl ⟨y1, y2, by rw [y3]; rfl⟩
    · exact .inr ⟨y1, y2, y3⟩)

/-- the lowest place -/
def lowF (p p' n e : Int) : Int := if n = 0 then min p p' else min (min p p') e
/-- the last place -/
structure TopIs (hi : Int) (f : Int → Int) (l t : Int) : Prop where
  ge : l ≤ t
  le : t ≤ hi
  end_ : t = hi ∨ f t = -1 ∨ f t = 0
  mid : ∀ s, l ≤ s → s < t → f s ≠ -1 ∧ f s ≠ 0
theorem TopIs.uniq {hi : Int} {f : Int → Int} {l t t' : Int} (a : TopIs hi f l t) (b : TopIs hi f l t') : t = t' := by
  have h : ∀ {t t' : Int}, TopIs hi f l t → TopIs hi f l t' → ¬ t < t' := fun {t t'} a b hlt => by
    obtain ⟨h1, h2⟩ := b.mid t a.ge hlt
    rcases a.end_ with z | z | z
    · have := b.le; omega
    · exact h1 z
    · exact h2 z
  have h1 := h a b
  have h2 := h b a
  omega
/-- the table's range -/
def SpanIs (b : Int) (la : Option Int) (p p' n e l t : Int) : Prop := l = lowF p p' n e ∧ TopIs (hiR la) (flo b n e) (max p p') t
def pr_span (K : PySem.W.Frag) : Pre := fun vs H R => ∃ (r a a' : Addr) (b mv ad : Int) (fi la : Option Int) (p p' n e : Int), vs = [.ref r, .ref a, .ref a'] ∧ Two K H r a a' b mv ad fi la p p' n e ∧ R = fun v H' => ∃ l t, IsPr l t v H' ∧ SpanIs b la p p' n e l t
theorem min2 (i j : Int) : (if j < i then j else i) = min i j := by
  rw [Int.min_def]; split <;> split <;> omega
theorem max2 (i j : Int) : (if j > i then j else i) = max i j := by
  rw [Int.max_def]; split <;> split <;> omega
theorem hi_le {b mv ad : Int} {fi la : Option Int} (o : RowOk b mv ad fi la) : -1000 ≤ hiR la ∧ hiR la ≤ 1000 ∧ -1000 ≤ loR fi ∧ loR fi ≤ 1000 := by
  refine ⟨?_, ?_, ?_, ?_⟩
  · cases la with
    | none => decide
    | some i => exact (o.la0 i rfl).1
  · cases la with
    | none => decide
    | some i => exact (o.la0 i rfl).2
  · cases fi with
    | none => decide
    | some i => exact (o.fi0 i rfl).1
  · cases fi with
    | none => decide
    | some i => exact (o.fi0 i rfl).2
theorem ev_min2 {X : Cx} {σ : L2.St} {H : Hp} {a b : Expr} {pos p1 : Pos} {i j : Int} (ha : EV X a σ H (.int i)) (hb : EV X b σ H (.int j)) (hm : X.mg "min" = none) (hc : X.calm = true := by rfl) (hg : Gl X "min" := by rfl)
    (s1 : starEach [a, b] X.env = (false, eval a X.env) :: starEach [b] X.env := by rfl) (s2 : starEach [b] X.env = (false, eval b X.env) :: starEach [] X.env := by rfl) (hpl : (backTo pos (starEach [b] X.env)).any (·.1) = false := by rfl) : EV X (.Call (.Name "min" p1) [a, b] [] pos) σ H (.int (min i j)) :=
  ev_cbB (call_min2 hc) hm boot_min (ea_cons' ha (ea_cons' hb ea_nil' s2) s1) (fun H1 e1 Q q => ⟨i, j, rfl, by rw [min2]; exact q H1 (Ex.refl H1)⟩) hg (by decide) (by decide) s1 hpl
theorem ev_max2' {X : Cx} {σ : L2.St} {H : Hp} {a b : Expr} {pos p1 : Pos} {i j : Int} (ha : EV X a σ H (.int i)) (hb : EV X b σ H (.int j)) (hm : X.mg "max" = none) (hc : X.calm = true := by rfl) (hg : Gl X "max" := by rfl)
    (s1 : starEach [a, b] X.env = (false, eval a X.env) :: starEach [b] X.env := by rfl) (s2 : starEach [b] X.env = (false, eval b X.env) :: starEach [] X.env := by rfl) (hpl : (backTo pos (starEach [b] X.env)).any (·.1) = false := by rfl) : EV X (.Call (.Name "max" p1) [a, b] [] pos) σ H (.int (max i j)) :=
  ev_cbB (call_max2 hc) hm boot_max (ea_cons' ha (ea_cons' hb ea_nil' s2) s1) (fun H1 e1 Q q => ⟨i, j, rfl, by rw [max2]; exact q H1 (Ex.refl H1)⟩) hg (by decide) (by decide) s1 hpl
theorem ev_abs {X : Cx} {σ : L2.St} {H : Hp} {a : Expr} {pos p1 : Pos} {i : Int} (ha : EV X a σ H (.int i)) (hm : X.mg "abs" = none) (hg : Gl X "abs" := by rfl)
    (s1 : starEach [a] X.env = (false, eval a X.env) :: starEach [] X.env := by rfl) (hpl : (backTo pos (starEach [] X.env)).any (·.1) = false := by rfl) : EV X (.Call (.Name "abs" p1) [a] [] pos) σ H (.int (i.natAbs : Int)) :=
  ev_cbB call_abs hm boot_abs (ea_cons' ha ea_nil' s1) (fun H1 e1 Q q => ⟨i, rfl, by rw [show (if i < 0 then -i else i) = (i.natAbs : Int) by split <;> omega]; exact q H1 (Ex.refl H1)⟩) hg (by decide) (by decide) s1 hpl
theorem c_span (W : Wd K mg) : Cal P w K mg base 5 "span" (spR (pr_span K)) [] :=
  cal_mk W.F_span W.g_span sc_span (fun vs H R ⟨_, _, _, _, _, _, _, _, _, _, _, _, e, _⟩ => by rw [e]; rfl) (by
    rintro cdv A outer s H vs Q E R hr ⟨r, a, a', b, mv, ad, fi, la, p, p', n, e, rfl, T, rfl⟩ q
    obtain ⟨n0, e0, n1, e1, ⟨q0, h0, h0'⟩, ⟨q1, h1, h1'⟩, hd, o0, o1⟩ := T.st
    obtain ⟨ro, dx, hI⟩ := T.row
    obtain ⟨k1, k2, k3, k4⟩ := hi_le ro
    obtain ⟨m1, m2, m3, m4⟩ := T.lo
    refine bl_setR 3 sc_span.nd (er_call1 (c_difference W) hr (ea_cons' (ev_nm 0 rfl) (ea_cons' (ev_nm 1 rfl) (ea_cons' (ev_nm 2 rfl) ea_nil'))) fun H1 x1 => ⟨r, a, a', b, mv, ad, fi, la, p, p', n, e, rfl, T.exx x1, rfl⟩) fun v H1 x1 ⟨pn, ev, hn⟩ => ?_
    subst ev
    refine bl_par' 4 5 sc_span.nd (ev_min2 (i := p) (j := p') (ev_ixT (ev_nm 1 rfl) ev_int (st_of (x1 _ _ h0)) (i := 1) rfl) (ev_ixT (ev_nm 2 rfl) ev_int (st_of (x1 _ _ h1)) (i := 1) rfl) W.n_min) (ev_max2' (i := p) (j := p') (ev_ixT (ev_nm 1 rfl) ev_int (st_of (x1 _ _ h0)) (i := 1) rfl) (ev_ixT (ev_nm 2 rfl) ev_int (st_of (x1 _ _ h1)) (i := 1) rfl) W.n_max) ?_
    refine bl_ifM (fun σ2 H2 => σ2 = [some (.ref r), some (.ref a), some (.ref a'), some (.ref pn), some (.int (lowF p p' n e)), some (.int (max p p'))] ∧ Ex H1 H2) (k := !decide (n = 0)) (et_neI (ev_ixT (ev_nm 3 rfl) ev_int (st_of hn) (i := 0) rfl) ev_int) (fun hz => ?_) (fun hz => ?_) ?_
    · have hz' : n ≠ 0 := by simpa using hz
      refine bl_set 4 sc_span.nd (ev_min2 (ev_nm 4 rfl) (ev_ixT (ev_nm 3 rfl) ev_int (st_of hn) (i := 1) rfl) W.n_min) (bl_nil rfl ⟨?_, Ex.refl _⟩)
      unfold lowF
      rw [if_neg hz']
      rfl
    · have hz' : n = 0 := by simpa using hz
      refine bl_nil rfl ⟨?_, Ex.refl _⟩
      unfold lowF
      rw [if_pos hz']
      rfl
    rintro σ2 H2 ⟨rfl, x2⟩
    refine bl_while (fun m σ' H' => ∃ t : Int, σ' = [some (.ref r), some (.ref a), some (.ref a'), some (.ref pn), some (.int (lowF p p' n e)), some (.int t)] ∧ Ex H2 H' ∧ m = (hiR la - t).toNat ∧ max p p' ≤ t ∧ t ≤ hiR la ∧ ∀ s, max p p' ≤ s → s < t → flo b n e s ≠ -1 ∧ flo b n e s ≠ 0) (hiR la - max p p').toNat
      ⟨max p p', rfl, Ex.refl _, rfl, Int.le_refl _, by omega, fun s h1 h2 => by omega⟩ ?_
    rintro m σ' H' ⟨t, rfl, x3, rfl, t1, t2, tm⟩
    have xx : Ex H H' := (x1.trans x2).trans x3
    refine ⟨decide (t < hiR la) && !(inV (.int (flo b n e t)) [.int (-1), .int 0]), et_ew (ew_and (et_lt (ev_nm 5 rfl) (ev_er (er_meth0 (m_highest W) hr (ev_nm 0 rfl) (xx _ _ hI) rfl fun H1 e1 => ⟨r, b, mv, ad, fi, la, rfl, T.row.ex (xx.trans e1), rfl⟩))) fun hlt => ew_and1 (et_notin (ev_call1 (c_floor_of W) hr (ea_cons' (v := .int b) (ev_prop (p_base W) hr (ev_nm 0 rfl) (xx _ _ hI) fun H1 x1 => ⟨r, b, mv, ad, fi, la, rfl, T.row.ex (xx.trans x1), rfl⟩) (ea_cons' (ev_nm 3 rfl) (ea_cons' (ev_nm 5 rfl) ea_nil'))) fun H4 x4 => ⟨b, n, e, t, pn, rfl, ((x2.trans x3).trans x4) _ _ hn, ro.b2, ro.b6, T.nm.2.2.1, T.sm.1, by have := T.sm; omega, by omega, by omega, rfl⟩) (en_tup (ea_cons' (ev_neg ev_int) (ea_cons' ev_int ea_nil'))) rfl rfl)), fun hb => ?_, fun hb => ?_⟩
    · simp only [Bool.and_eq_true, Bool.not_eq_true', decide_eq_true_eq] at hb
      obtain ⟨hb1, hb2⟩ := hb
      have hb3 : flo b n e t ≠ -1 ∧ flo b n e t ≠ 0 := by
        constructor
        · intro z; rw [z] at hb2; revert hb2; decide
        · intro z; rw [z] at hb2; revert hb2; decide
      refine bl_aug 5 sc_span.nd iop_add rfl ev_int rv_I0 (bl_nil rfl ⟨(hiR la - (t + 1)).toNat, by omega, t + 1, rfl, x3, rfl, by omega, by omega, fun s h1 h2 => ?_⟩)
      by_cases hs : s = t
      · rw [hs]; exact hb3
      · exact tm s h1 (by omega)
    · refine bl_retR (er_en (en_tup (ea_cons' (ev_nm 4 rfl) (ea_cons' (ev_nm 5 rfl) ea_nil')))) fun v H4 x4 ⟨pp, ev, _, hp⟩ => q v H4 (xx.trans x4) ⟨_, _, ⟨pp, ev, hp⟩, rfl, t1, t2, ?_, tm⟩
      simp only [Bool.and_eq_false_iff, Bool.not_eq_false', decide_eq_false_iff_not] at hb
      rcases hb with z | z
      · exact .inl (by omega)
      · right
        unfold inV at z
        simp only [List.any_cons, List.any_nil, Bool.or_false, Bool.or_eq_true] at z
        rcases z with z | z
        · left
          have := (by simpa [eqV] using z : (-1 : Int) = flo b n e t)
          exact this.symm
        · right
          have := (by simpa [eqV] using z : (0 : Int) = flo b n e t)
          exact this.symm)
/-- the digits -/
def dgs (b x : Int) : List Int := if x % b = 0 then [0] else [x % b, x % b - b]
def pr_digits_for : Pre := fun vs H R => ∃ (b x : Int), vs = [.int b, .int x] ∧ 0 < b ∧ R = fun v H' => ∃ p, v = .ref p ∧ H' p = some (.lst ((dgs b x).map V.int))
theorem c_digits_for (W : Wd K mg) : Cal P w K mg base 1 "digits_for" (spR pr_digits_for) [] :=
  cal_mk W.F_digits_for W.g_digits_for sc_digits_for (fun vs H R ⟨_, _, e, _⟩ => by rw [e]; rfl) (by
    rintro cdv A outer s H vs Q E R hr ⟨b, x, rfl, hb, rfl⟩ q
    refine bl_set 2 sc_digits_for.nd (ev_mod (ev_nm 1 rfl) (ev_nm 0 rfl) hb) ?_
    refine bl_retR (er_en (o := .lst ((dgs b x).map V.int)) (en_ife (et_eqI (ev_nm 2 rfl) ev_int) (fun hz => ?_) (fun hz => ?_))) fun v H1 x1 ⟨p, ev, _, hp⟩ => q v H1 x1 ⟨p, ev, hp⟩
    · have hz' := of_decide_eq_true hz
      unfold dgs
      rw [if_pos hz']
      exact en_lst (ea_cons' ev_int ea_nil')
    · have hz' := of_decide_eq_false hz
      unfold dgs
      rw [if_neg hz']
      exact en_lst (ea_cons' (ev_nm 2 rfl) (ea_cons' (ev_sub (ev_nm 2 rfl) (ev_nm 0 rfl)) ea_nil')))
end
end K27

/-! Dicts; the layers of a search. -/
namespace K27
open PySem PySem.Spec PyProof.Rows L2 Evl C8
/-! ### dicts with int keys -/
section
variable {X : Cx} {σ : L2.St} {H H' : Hp} {v y : V} {e o i : Expr} {pos p1 : Pos} {D : Ends} {rest sts : List Stmt} {a d : Addr} {kvs : List (Key × V)} {k : Key} {j : Nat}
theorem en_dnew : EN X (.Dict [] [] pos) σ H (.dK []) := fun H1 e1 Q q => to_wE pe_dnewK fun p hp => q p _ hp (Ex.new hp) upd_same
theorem et_dnotin (hk : EV X i σ H (kV k)) (ho : EV X o σ H (.ref a)) (h : H a = some (.dK kvs)) (hr : Room j X.A) (hb : behindInMarks .NotIn o = false := by first | exact nobehind _ (by decide) (by decide) | rfl) : ET X (.Compare i [.NotIn] [o] pos) σ H (!(valV kvs k).isSome) :=
  et_pt (pt_cmp (pc_dnotin (hu_of hr) pe_w pe_w) hb) fun H1 e1 Q q => hk H1 e1 _ fun H2 e2 => ho H2 (e1.trans e2) _ fun H3 e3 => ⟨a, _, rfl, DGet.k (((e1.trans e2).trans e3) _ _ h), _, rfl, q H3 (e2.trans e3)⟩
theorem ev_dget (ho : EV X o σ H (.ref a)) (hk : EV X i σ H (kV k)) (h : H a = some (.dK kvs)) (hv : valV kvs k = some v) (hr : Room j X.A) (hs : NoSl i := by exact fun _ _ => rfl) : EV X (.Subscript o i pos) σ H v :=
  ev_pe (pe_dget (hu_of hr) pe_w pe_w hs) fun H1 e1 Q q => ho H1 e1 _ fun H2 e2 => hk H2 (e1.trans e2) _ fun H3 e3 => ⟨a, v, rfl, hv ▸ DGet.k (((e1.trans e2).trans e3) _ _ h), q H3 (e2.trans e3)⟩
/-- d[k] = e -/
theorem bl_dput {R : V → Hp → Prop} (hv : ER X e σ H R) (ho : EV X o σ H (.ref a)) (hk : EV X i σ H (kV k)) (h : H a = some (.dK kvs)) (hl : kvs.length < 100000) (hr : Room j X.A) (kk : ∀ v H1, Ex H H1 → R v H1 → BL X rest D σ (upd H1 a (.dK (putK kvs k v))))
    (hs : swapsWith e (some (.Subscript o i p1)) pos.line X.env = pure false := by rfl) : BL X (.Assign [.Subscript o i p1] e pos :: rest) D σ H :=
  bl_st (ps_dput (hu_of hr) pe_w pe_w pe_w hs) fun H1 e1 => hv H1 e1 _ fun v H2 e2 r => ho H2 (e1.trans e2) _ fun H3 e3 => hk H3 ((e1.trans e2).trans e3) _ fun H4 e4 =>
    ⟨a, _, rfl, DPut.k ((((e1.trans e2).trans e3).trans e4) _ _ h) (sz_lt hl), _, ex_upd (e3.trans e4), kk v H2 (e1.trans e2) r⟩
theorem ex_unlock {od : Obj} {u : HO} (h : H d = some u) (x : Ex (upd H d (.frz od u)) H') : Ex H (upd H' d u) := fun b w hb => by
  by_cases e : b = d
  · subst e; rw [upd_same]; rw [h] at hb; exact hb
  · rw [upd_ne e]; exact x b w (by rw [upd_ne e]; exact hb)
/-- for k, v in d.items(), d not written within -/
theorem bl_forI {tgs : List Expr} {kk : Nat} {tp cp ap : Pos} (hd : H d = some (.dK kvs)) (he : ∀ od, EV X e σ (upd H d (.frz od (.dK kvs))) (.ref d)) (P : Obj → Nat → L2.St → Hp → Prop) (p0 : ∀ od, P od 0 σ (upd H d (.frz od (.dK kvs))))
    (hl : ∀ od i σ' H', P od i σ' H' → H' d = some (.frz od (.dK kvs)))
    (ht : ∀ od i k v T σ' H', kvs[i]? = some (k, v) → P od i σ' H' → ∀ H2, Ex H' H2 → H2 T = some (.tup [kV k, v]) → ∃ σ2, GT X (.Tuple tgs kk tp) (.ref T) σ' H2 σ2 ∧ BL X sts { nx := up (P od (i + 1)), rt := fun _ _ => False, ct := up (P od (i + 1)) } σ2 H2)
    (hdn : ∀ od σ' H', P od kvs.length σ' H' → BL X rest D σ' (upd H' d (.dK kvs)))
    (hc : X.calm = true := by rfl) (hp : PassesOwn (model X.prog X.w) X.A X.env X.xe := by exact PassesOwn.never) (hbase : attributeBase e "items" X.env (eval e X.env) = eval e X.env := by rfl) (hline : (ap.endLine == cp.line) = true := by rfl)
    (hs : ∀ x, foldedSetIterable (.Call (.Attribute e "items" ap) [] [] cp) X.env x = pure x := by intro _; rfl) : BL X (.For (.Tuple tgs kk tp) (.Call (.Attribute e "items" ap) [] [] cp) sts [] pos :: rest) D σ H :=
  bl_st (ps_lock (ps_for hp hc (pi_items pe_w hbase hline) pg_w pb_w hs)) fun H1 e1 => ⟨d, .dK kvs, e1 _ _ hd, trivial, fun od => he od (upd H1 d (.frz od (.dK kvs))) (ex_upd e1) _ fun H2 e2 => ⟨d, od, kvs, rfl, e2 _ _ upd_same, by
    refine ⟨fun i m σ' H' => m = kvs.length - i ∧ i ≤ kvs.length ∧ up (P od i) σ' H', ⟨kvs.length, by simp, Nat.zero_le _, _, (ex_upd e1).trans e2, p0 od⟩, ?_⟩
    rintro i m σ' H' ⟨rfl, hi, H0, e0, q⟩
    have hd' := e0 _ _ (hl od i σ' H0 q)
    by_cases hlt : i < kvs.length
    · refine .inr ⟨⟨hd', hlt⟩, up (P od (i + 1)), fun σ2 H3 z => ⟨kvs.length - (i + 1), by omega, rfl, hlt, z⟩, fun w H3 ⟨T, k, v, hkv, ew, hT, eH⟩ => ?_⟩
      subst ew eH
      obtain ⟨σ2, g, b⟩ := ht od i k v T σ' H0 hkv q (upd H' T (.tup [kV k, v])) (e0.trans (Ex.new hT)) upd_same
      refine g _ (Ex.refl _) _ fun H4 e4 => ?_
      have b4 := b H4 e4
      exact fun pins s I => thn (b4 pins s I) fun f s2 z => by
        cases f with
        | next => exact z
        | cont => exact z
        | brk => obtain ⟨_, _, _, z⟩ := z; exact z.elim
        | ret u => obtain ⟨_, _, _, _, _, z⟩ := z; exact z.elim
    · have ei : i = kvs.length := by omega
      subst ei
      exact .inl ⟨⟨hd', Nat.le_refl _⟩, hd', _, ex_upd e0, hdn od σ' H0 q⟩⟩⟩
end
/-! ### a layer: remainders with their least counts, in the order of their coming -/
def lkM (L : List (Int × Int)) (k : Int) : Option Int := (L.find? fun q => decide (q.1 = k)).map (·.2)
def repM (L : List (Int × Int)) (k c : Int) : List (Int × Int) := L.map fun q => if q.1 = k then (q.1, c) else q
def putM (L : List (Int × Int)) (k c : Int) : List (Int × Int) := match lkM L k with
  | none => L ++ [(k, c)]
  | some c0 => if c < c0 then repM L k c else L
def LayRel (H : Hp) (kvs : List (Key × V)) (L : List (Int × Int)) : Prop := Paired (fun (kv : Key × V) (q : Int × Int) => kv.1 = Sum.inl q.1 ∧ ∃ t x y, kv.2 = .ref t ∧ H t = some (.tup [.int q.2, x, y])) kvs L
theorem LayRel.mono {H H' : Hp} {kvs : List (Key × V)} {L : List (Int × Int)} (e : Ex H H') (h : LayRel H kvs L) : LayRel H' kvs L := Paired.mapP h fun _ _ ⟨h1, t, x, y, h2, h3⟩ => ⟨h1, t, x, y, h2, e _ _ h3⟩
theorem LayRel.upd {H : Hp} {kvs : List (Key × V)} {L : List (Int × Int)} {a : Addr} {o : HO} (ha : ∀ vs, H a ≠ some (.tup vs)) (h : LayRel H kvs L) : LayRel (L2.upd H a o) kvs L := Paired.mapP h fun _ _ ⟨h1, t, x, y, h2, h3⟩ => ⟨h1, t, x, y, h2, by
  rw [upd_ne fun z => ha _ (z ▸ h3)]; exact h3⟩
theorem LayRel.len {H : Hp} {kvs : List (Key × V)} {L : List (Int × Int)} (h : LayRel H kvs L) : kvs.length = L.length := Paired.length h
theorem LayRel.getN {H : Hp} {k : Int} : ∀ {kvs : List (Key × V)} {L : List (Int × Int)}, LayRel H kvs L → lkM L k = none → valV kvs (Sum.inl k) = none
  | _, _, .nil, _ => rfl
  | kv :: kvs, q :: L, .cons ⟨h1, _⟩ r, h => by
    by_cases e : q.1 = k
    · simp [lkM, List.find?_cons, e] at h
    · have h' : lkM L k = none := by simpa [lkM, List.find?_cons, e] using h
      rw [valV_neg (by rw [h1]; exact fun z => e (Sum.inl.inj z))]
      exact LayRel.getN r h'
theorem LayRel.getS {H : Hp} {k c : Int} : ∀ {kvs : List (Key × V)} {L : List (Int × Int)}, LayRel H kvs L → lkM L k = some c → ∃ t x y, valV kvs (Sum.inl k) = some (.ref t) ∧ H t = some (.tup [.int c, x, y])
  | _, _, .nil, h => nomatch h
  | kv :: kvs, q :: L, .cons ⟨h1, t, x, y, h2, h3⟩ r, h => by
    by_cases e : q.1 = k
    · have h' : q.2 = c := by simpa [lkM, List.find?_cons, e] using h
      exact ⟨t, x, y, by rw [valV_pos (by rw [h1, e]), h2], h' ▸ h3⟩
    · have h' : lkM L k = some c := by simpa [lkM, List.find?_cons, e] using h
      obtain ⟨t, x, y, z1, z2⟩ := LayRel.getS r h'
      exact ⟨t, x, y, by rw [valV_neg (by rw [h1]; exact fun z => e (Sum.inl.inj z))]; exact z1, z2⟩
theorem LayRel.snoc {H : Hp} {k c : Int} {t : Addr} {x y : V} (ht : H t = some (.tup [.int c, x, y])) : ∀ {kvs : List (Key × V)} {L : List (Int × Int)}, LayRel H kvs L → LayRel H (kvs ++ [(Sum.inl k, .ref t)]) (L ++ [(k, c)])
  | _, _, .nil => .cons ⟨rfl, t, x, y, rfl, ht⟩ .nil
  | _ :: _, _ :: _, .cons h r => .cons h (LayRel.snoc ht r)
theorem LayRel.rep {H : Hp} {k c : Int} {t : Addr} {x y : V} (ht : H t = some (.tup [.int c, x, y])) : ∀ {kvs : List (Key × V)} {L : List (Int × Int)}, LayRel H kvs L → LayRel H (kvs.map fun kv => if kv.1 = Sum.inl k then (kv.1, .ref t) else kv) (repM L k c)
  | _, _, .nil => .nil
  | kv :: kvs, q :: L, .cons h r => by
    refine Paired.cons ?_ (LayRel.rep ht r)
    obtain ⟨h1, h2⟩ := h
    dsimp only
    by_cases e : q.1 = k
    · rw [if_pos (by rw [h1, e]), if_pos e]
      exact ⟨h1, t, x, y, rfl, ht⟩
    · rw [if_neg (by rw [h1]; exact fun z => e (Sum.inl.inj z)), if_neg e]
      exact ⟨h1, h2⟩
theorem LayRel.put {H : Hp} {k c : Int} {t : Addr} {x y : V} {kvs : List (Key × V)} {L : List (Int × Int)} (ht : H t = some (.tup [.int c, x, y])) (h : LayRel H kvs L) (hlt : ∀ c0, lkM L k = some c0 → c < c0) : LayRel H (putK kvs (Sum.inl k) (.ref t)) (putM L k c) := by
  unfold putM
  cases e : lkM L k with
  | none =>
    rw [putK_new _ (h.getN e)]
    exact h.snoc ht
  | some c0 =>
    obtain ⟨t0, x0, y0, z1, _⟩ := h.getS e
    show LayRel H _ (if c < c0 then repM L k c else L)
    rw [if_pos (hlt c0 e)]
    unfold putK
    rw [if_pos (by rw [valV_any, z1]; rfl)]
    exact h.rep ht
theorem putM_len (L : List (Int × Int)) (k c : Int) : (putM L k c).length ≤ L.length + 1 := by
  unfold putM
  cases lkM L k with
  | none => simp
  | some c0 =>
    show (if c < c0 then repM L k c else L).length ≤ _
    split
    · simp [repM]
    · omega
def IsLay (H : Hp) (d : Addr) (L : List (Int × Int)) : Prop := ∃ kvs, H d = some (.dK kvs) ∧ LayRel H kvs L
theorem IsLay.ex {H H' : Hp} {d : Addr} {L : List (Int × Int)} (e : Ex H H') (h : IsLay H d L) : IsLay H' d L := let ⟨k, h1, h2⟩ := h; ⟨k, e _ _ h1, h2.mono e⟩
/-- one remainder's digits -/
def digM (b : Int) (acc : List (Int × Int)) (q : Int × Int) : List (Int × Int) := (dgs b q.1).foldl (fun acc d => putM acc ((q.1 - d) / b) (q.2 + (d.natAbs : Int))) acc
/-- the next layer -/
def nextM (b : Int) (L : List (Int × Int)) : List (Int × Int) := L.foldl (digM b) []
theorem foldl_take {α β : Type} (f : β → α → β) (xs : List α) (a : β) {i : Nat} {x : α} (h : xs[i]? = some x) : (xs.take (i + 1)).foldl f a = f ((xs.take i).foldl f a) x := by
  rw [List.take_succ, h, List.foldl_append]
  rfl
theorem dgs_len (b x : Int) : (dgs b x).length ≤ 2 := by unfold dgs; split <;> simp
end K27

/-! Search.next_layer. -/
namespace K27
open PySem PySem.Spec PyProof.Rows L2 Evl C8
section
variable {base : Heap} {mg : Str → Option Value} {K : PySem.W.Frag} {w : World} {P : Program}
theorem nextM_take (b : Int) (L : List (Int × Int)) (i : Nat) : ((L.take i).foldl (digM b) []).length ≤ 2 * i := by
  have key : ∀ (M acc : List (Int × Int)), (M.foldl (digM b) acc).length ≤ acc.length + 2 * M.length := by
    intro M
    induction M with
    | nil => intro acc; simp
    | cons q M ih =>
      intro acc
      have h1 := ih (digM b acc q)
      have h2 : (digM b acc q).length ≤ acc.length + 2 := by
        unfold digM
        have h3 : ∀ (ds : List Int) (acc : List (Int × Int)), (ds.foldl (fun acc d => putM acc ((q.1 - d) / b) (q.2 + (d.natAbs : Int))) acc).length ≤ acc.length + ds.length := by
          intro ds
          induction ds with
          | nil => intro acc; simp
          | cons d ds ih2 =>
            intro acc
            have h4 := ih2 (putM acc ((q.1 - d) / b) (q.2 + (d.natAbs : Int)))
            have h5 := putM_len acc ((q.1 - d) / b) (q.2 + (d.natAbs : Int))
            (simp only [List.foldl_cons, List.length_cons])
            omega
        have h6 := h3 (dgs b q.1) acc
        have h7 := dgs_len b q.1
        omega
      (simp only [List.foldl_cons, List.length_cons])
      omega
  have h := key (L.take i) []
  have h2 : (L.take i).length ≤ i := List.length_take_le i L
  simp only [List.length_nil] at h
  omega
theorem digs_len (b : Int) (q : Int × Int) (ds : List Int) (acc : List (Int × Int)) : (ds.foldl (fun acc d => putM acc ((q.1 - d) / b) (q.2 + (d.natAbs : Int))) acc).length ≤ acc.length + ds.length := by
  induction ds generalizing acc with
  | nil => simp
  | cons d ds ih2 =>
    have h4 := ih2 (putM acc ((q.1 - d) / b) (q.2 + (d.natAbs : Int)))
    have h5 := putM_len acc ((q.1 - d) / b) (q.2 + (d.natAbs : Int))
    (simp only [List.foldl_cons, List.length_cons])
    omega
theorem putM_keep {L : List (Int × Int)} {k c c0 : Int} (e : lkM L k = some c0) (h : ¬ c < c0) : putM L k c = L := by
  unfold putM
  rw [e]
  exact if_neg h
theorem paired_get {α β : Type} {F : α → β → Prop} : ∀ {xs : List α} {ys : List β} {i : Nat} {x : α}, Paired F xs ys → xs[i]? = some x → ∃ y, ys[i]? = some y ∧ F x y
  | _, _, _, _, .nil, h => by simp at h
  | _ :: _, y :: _, 0, _, .cons h _, e => by
    have : _ = _ := Option.some.inj e
    exact ⟨y, rfl, this ▸ h⟩
  | _ :: xs, _ :: ys, i + 1, x, .cons _ r, e => by
    obtain ⟨y, h1, h2⟩ := paired_get (i := i) (x := x) r (by simpa using e)
    exact ⟨y, by simpa using h1, h2⟩

def pr_next_layer (K : PySem.W.Frag) : Pre := fun vs H R => ∃ (s d r dx : Addr) (fs : List (Str × V)) (b mv ad : Int) (fi la : Option Int) (L : List (Int × Int)), vs = [.ref s, .ref d] ∧ H s = some (.ins (He.ga K "Search") dx fs) ∧ fs.lookup ("own_row" : Str) = some (V.ref r) ∧ IsRow K H r b mv ad fi la ∧ IsLay H d L ∧ L.length ≤ 2 ∧ R = fun v H' => ∃ p, v = .ref p ∧ IsLay H' p (nextM b L)
theorem m_next_layer (W : Wd K mg) : Met P w K mg base 3 (He.ga K "Search") "next_layer" (spR (pr_next_layer K)) [] :=
  met_mk W.F_Search_next_layer W.c_Search W.m_next_layer sc_Search_next_layer (fun vs H R ⟨_, _, _, _, _, _, _, _, _, _, _, e, _⟩ => by rw [e]; rfl) (by
    rintro cdv A outer s H vs Q E R hr ⟨sf, d, r, dx, fs, b, mv, ad, fi, la, L, rfl, hs, hrow, hR, ⟨kvs, hd, hL⟩, hlen, rfl⟩ q
    obtain ⟨ro, rdx, hI⟩ := id hR
    refine bl_set (v := .int b) 2 sc_Search_next_layer.nd (ev_prop (p_base W) hr (ev_fld (ev_nm 0 rfl) hs W.c_Search W.no_own_row hrow) hI fun H1 x1 => ⟨r, b, mv, ad, fi, la, rfl, hR.ex x1, rfl⟩) ?_
    refine bl_setN 3 sc_Search_next_layer.nd en_dnew fun fp H1 hfp x1 h1 => ?_
    have nfd : fp ≠ d := fun z => by rw [z, hd] at hfp; cases hfp
    have hd1 : H1 d = some (.dK kvs) := x1 _ _ hd
    let Pin : Obj → Hp → List (Int × Int) → Prop := fun od H' M => Ex (upd H d (.frz od (.dK kvs))) H' ∧ ∃ kf, H' fp = some (.dK kf) ∧ LayRel H' kf M
    refine bl_forI hd1 (fun od => ev_nm 1 rfl) (fun od i σ' H' => ∃ y4 y5 y6 y7 y8 y9 y10, σ' = [some (.ref sf), some (.ref d), some (.int b), some (.ref fp), y4, y5, y6, y7, y8, y9, y10] ∧ Pin od H' ((L.take i).foldl (digM b) []))
      (fun od => ⟨_, _, _, _, _, _, _, rfl, ex_upd x1, [], by rw [upd_ne nfd]; exact h1, .nil⟩) (fun od i σ' H' ⟨_, _, _, _, _, _, _, _, x2, _⟩ => x2 _ _ upd_same) ?_ ?_
    · rintro od i k v T σ' H' hkv ⟨y4, y5, y6, y7, y8, y9, y10, rfl, x2, kf, hf, hM⟩ H2 e2 hT
      obtain ⟨⟨qv, qc⟩, hq, hk, t, tx, ty, hv, ht⟩ := paired_get hL hkv
      subst hk hv
      have htd : t ≠ d := fun z => by rw [z, hd] at ht; cases ht
      have ht2 : H2 t = some (.tup [.int qc, tx, ty]) := e2 _ _ (x2 _ _ (by rw [upd_ne htd]; exact ht))
      refine ⟨_, gt_tup (st_of hT) (gts_cons (gt_nm 4 sc_Search_next_layer.nd) (gts_cons (gt_tup (st_of ht2) (gts_cons (gt_nm 5 sc_Search_next_layer.nd) (gts_cons (gt_nm 6 sc_Search_next_layer.nd) (gts_cons (gt_nm 7 sc_Search_next_layer.nd) gts_nil)))) gts_nil)), ?_⟩
      refine bl_forL (er_call1 (c_digits_for W) hr (ea_cons' (ev_nm 2 rfl) (ea_cons' (v := .int qv) (ev_nm 4 rfl) ea_nil')) fun H3 e3 => ⟨b, qv, rfl, by have := ro.b2; omega, rfl⟩) fun u H3 e3 ⟨da, eu, hda⟩ => ?_
      have hf3 : H3 fp = some (.dK kf) := e3 _ _ (e2 _ _ hf)
      refine ⟨da, _, fun j σ2 H4 => ∃ z8 z9 z10, σ2 = [some (.ref sf), some (.ref d), some (.int b), some (.ref fp), some (.int qv), some (.int qc), some tx, some ty, z8, z9, z10] ∧ H4 da = some (.lst ((dgs b qv).map V.int)) ∧ Pin od H4 (((dgs b qv).take j).foldl (fun acc d => putM acc ((qv - d) / b) (qc + (d.natAbs : Int))) ((L.take i).foldl (digM b) [])), eu, sq_of hda, ⟨y8, y9, y10, rfl, hda, (x2.trans e2).trans e3, kf, hf3, hM.mono (e2.trans e3)⟩, fun j σ2 H4 _ ⟨_, _, _, _, h4, _⟩ => sq_of h4, ?_, ?_⟩
      · rintro j x σ2 H4 hx ⟨z8, z9, z10, rfl, h4, x4, kg, hg, hG⟩
        obtain ⟨c, hc, rfl⟩ : ∃ c, (dgs b qv)[j]? = some c ∧ x = V.int c := by
          rw [List.getElem?_map] at hx
          cases e : (dgs b qv)[j]? with
          | none => rw [e] at hx; cases hx
          | some c => rw [e] at hx; exact ⟨c, rfl, (Option.some.inj hx).symm⟩
        refine ⟨_, gt_nm 8 sc_Search_next_layer.nd, ?_⟩
        refine bl_set 9 sc_Search_next_layer.nd (ev_fdivS (ev_sub (i := qv) (j := c) (ev_nm 4 rfl) (ev_nm 8 rfl)) (ev_nm 2 rfl) (⟨by have := ro.b2; omega, by have := ro.b6; omega⟩ : CDiv (qv - c) b)) ?_
        refine bl_set 10 sc_Search_next_layer.nd (ev_add (i := qc) (ev_nm 5 rfl) (ev_abs (i := c) (ev_nm 8 rfl) W.n_abs)) ?_
        have hlenG : kg.length < 100000 := by
          have h1 := hG.len
          have h2 := digs_len b (qv, qc) ((dgs b qv).take j) ((L.take i).foldl (digM b) [])
          have h3 := nextM_take b L i
          have h4' : ((dgs b qv).take j).length ≤ 2 := Nat.le_trans (by simp; omega) (dgs_len b qv)
          have h5 : i < L.length := by have := (List.getElem?_eq_some_iff.mp hq).1; exact this
          simp only at h2
          omega
        have hacc : ((dgs b qv).take (j + 1)).foldl (fun acc d => putM acc ((qv - d) / b) (qc + (d.natAbs : Int))) ((L.take i).foldl (digM b) []) = putM (((dgs b qv).take j).foldl (fun acc d => putM acc ((qv - d) / b) (qc + (d.natAbs : Int))) ((L.take i).foldl (digM b) [])) ((qv - c) / b) (qc + (c.natAbs : Int)) := foldl_take _ _ _ hc
        have nfa : fp ≠ da := ne_of hg h4 (by intro z; cases z)
        have hfl : ∀ vs, H4 fp ≠ some (.tup vs) := fun vs z => by rw [hg] at z; cases z
        have put : (∀ c0, lkM (((dgs b qv).take j).foldl (fun acc d => putM acc ((qv - d) / b) (qc + (d.natAbs : Int))) ((L.take i).foldl (digM b) [])) ((qv - c) / b) = some c0 → qc + (c.natAbs : Int) < c0) →
            ∀ u H5, Ex H4 H5 → (∃ p, u = .ref p ∧ H4 p = none ∧ H5 p = some (.tup [.int (qc + (c.natAbs : Int)), .int c, .int qv])) → Pin od (upd H5 fp (.dK (putK kg (Sum.inl ((qv - c) / b)) u))) (putM (((dgs b qv).take j).foldl (fun acc d => putM acc ((qv - d) / b) (qc + (d.natAbs : Int))) ((L.take i).foldl (digM b) [])) ((qv - c) / b) (qc + (c.natAbs : Int))) := by
          rintro hlt u H5 e5 ⟨p, rfl, hp0, hp⟩
          have nfp : H5 fp = some (.dK kg) := e5 _ _ hg
          refine ⟨Ex.mut (x4.trans e5) (by rw [upd_ne nfd]; exact hfp), _, upd_same, LayRel.upd (fun vs z => by rw [nfp] at z; cases z) ((hG.mono e5).put hp hlt)⟩
        refine bl_if (k := !(valV kg (Sum.inl ((qv - c) / b))).isSome || (match lkM (((dgs b qv).take j).foldl (fun acc d => putM acc ((qv - d) / b) (qc + (d.natAbs : Int))) ((L.take i).foldl (digM b) [])) ((qv - c) / b) with | none => false | some c0 => decide (qc + (c.natAbs : Int) < c0)))
          (et_ew (ew_or (et_dnotin (k := Sum.inl ((qv - c) / b)) (ev_nm 9 rfl) (ev_nm 3 rfl) hg hr) fun hin => ew_or1 ?_)) (fun hb => ?_) (fun hb => ?_)
        · cases e : lkM (((dgs b qv).take j).foldl (fun acc d => putM acc ((qv - d) / b) (qc + (d.natAbs : Int))) ((L.take i).foldl (digM b) [])) ((qv - c) / b) with
          | none => rw [hG.getN e] at hin; cases hin
          | some c0 =>
            obtain ⟨t0, x0, y0, z1, z2⟩ := hG.getS e
            exact et_lt (ev_nm 10 rfl) (ev_ixT (ev_dget (k := Sum.inl ((qv - c) / b)) (ev_nm 3 rfl) (ev_nm 9 rfl) hg z1 hr) ev_int (st_of z2) (i := 0) rfl)
        · refine bl_dput (k := Sum.inl ((qv - c) / b)) (er_en (en_tup (ea_cons' (ev_nm 10 rfl) (ea_cons' (ev_nm 8 rfl) (ea_cons' (ev_nm 4 rfl) ea_nil'))))) (ev_nm 3 rfl) (ev_nm 9 rfl) hg hlenG hr fun u H5 e5 hu => bl_nil rfl (bl_nil rfl ⟨_, _, _, rfl, ?_, ?_⟩)
          · rw [upd_ne nfa.symm]; exact e5 _ _ h4
          · rw [hacc]
            refine put (fun c0 hc0 => ?_) u H5 e5 hu
            rw [hc0] at hb
            obtain ⟨t0, x0, y0, z1, z2⟩ := hG.getS hc0
            rw [z1] at hb
            simpa using hb
        · refine bl_nil rfl (bl_nil rfl ⟨_, _, _, rfl, h4, x4, kg, hg, ?_⟩)
          rw [hacc]
          simp only [Bool.or_eq_false_iff, Bool.not_eq_false'] at hb
          obtain ⟨hb1, hb2⟩ := hb
          cases e : lkM (((dgs b qv).take j).foldl (fun acc d => putM acc ((qv - d) / b) (qc + (d.natAbs : Int))) ((L.take i).foldl (digM b) [])) ((qv - c) / b) with
          | none => rw [hG.getN e] at hb1; cases hb1
          | some c0 =>
            rw [e] at hb2
            rw [putM_keep e (of_decide_eq_false hb2)]
            exact hG
      · rintro σ2 H4 ⟨z8, z9, z10, rfl, h4, pin⟩
        refine bl_nil rfl ⟨_, _, _, _, _, _, _, rfl, ?_⟩
        rw [foldl_take (digM b) L [] hq]
        rw [List.length_map, List.take_length] at pin
        exact pin
    · rintro od σ' H' ⟨y4, y5, y6, y7, y8, y9, y10, rfl, x2, kf, hf, hM⟩
      rw [hL.len, List.take_length] at hM
      have x5 : Ex H (upd H' d (.dK kvs)) := ex_unlock hd x2
      refine bl_ret (v := .ref fp) (ev_nm 3 rfl) fun H6 x6 => q _ H6 (x5.trans x6) ⟨fp, rfl, IsLay.ex x6 ⟨kf, by rw [upd_ne nfd]; exact hf, LayRel.upd (fun vs z => ?_) hM⟩⟩
      have := x2 _ _ (upd_same (H := H) (a := d) (o := .frz od (.dK kvs)))
      rw [this] at z
      cases z)
end
end K27

/-! The layers' shapes: plain arithmetic. -/
namespace K27
open PySem PySem.Spec PyProof.Rows L2 Evl C8
theorem lk1 (v f : Int) : lkM [(v, f)] v = some f := by simp [lkM]
theorem lk1n {v k : Int} (f : Int) (h : v ≠ k) : lkM [(v, f)] k = none := by simp [lkM, h]
theorem lk2a (v f w g : Int) : lkM [(v, f), (w, g)] v = some f := by simp [lkM]
theorem lk2b {v w : Int} (f g : Int) (h : v ≠ w) : lkM [(v, f), (w, g)] w = some g := by simp [lkM, List.find?_cons, h]
theorem lk2n {v w k : Int} (f g : Int) (h : v ≠ k) (h2 : w ≠ k) : lkM [(v, f), (w, g)] k = none := by simp [lkM, List.find?_cons, h, h2]
theorem put0 (k c : Int) : putM [] k c = [(k, c)] := rfl
theorem put1n {v k : Int} (f c : Int) (h : v ≠ k) : putM [(v, f)] k c = [(v, f), (k, c)] := by unfold putM; rw [lk1n f h]; rfl
theorem put1 (v f c : Int) : putM [(v, f)] v c = [(v, min f c)] := by
  unfold putM
  rw [lk1]
  show (if c < f then repM [(v, f)] v c else [(v, f)]) = _
  by_cases h : c < f
  · rw [if_pos h]; simp [repM]; omega
  · rw [if_neg h]; simp; omega
theorem put2a {v w : Int} (f g c : Int) (h : v ≠ w) : putM [(v, f), (w, g)] v c = [(v, min f c), (w, g)] := by
  unfold putM
  rw [lk2a]
  show (if c < f then repM [(v, f), (w, g)] v c else _) = _
  by_cases hc : c < f
  · rw [if_pos hc]
    have h' : ¬ w = v := fun z => h z.symm
    simp [repM, h']; omega
  · rw [if_neg hc]; simp; omega
theorem put2b {v w : Int} (f g c : Int) (h : v ≠ w) : putM [(v, f), (w, g)] w c = [(v, f), (w, min g c)] := by
  unfold putM
  rw [lk2b f g h]
  show (if c < g then repM [(v, f), (w, g)] w c else _) = _
  by_cases hc : c < g
  · rw [if_pos hc]
    simp [repM, h]; omega
  · rw [if_neg hc]; simp; omega
theorem q_lo {b v : Int} : (v - v % b) / b = v / b := by
  have h := Int.mul_ediv_add_emod v b
  by_cases hb : b = 0
  · subst hb; simp
  · rw [show v - v % b = v / b * b by rw [Int.mul_comm]; omega, Int.mul_ediv_cancel _ hb]
theorem q_hi {b v : Int} (hb : 0 < b) : (v - (v % b - b)) / b = v / b + 1 := by
  have h := Int.mul_ediv_add_emod v b
  rw [show v - (v % b - b) = (v / b + 1) * b by rw [Int.add_mul, Int.mul_comm (v / b)]; omega, Int.mul_ediv_cancel _ (by omega)]
/-- the next quotient and rest -/
theorem succ_div {b v : Int} (hb : 2 ≤ b) : (v % b = b - 1 ∧ (v + 1) / b = v / b + 1 ∧ (v + 1) % b = 0) ∨ (v % b < b - 1 ∧ (v + 1) / b = v / b ∧ (v + 1) % b = v % b + 1) := by
  have h := Int.mul_ediv_add_emod v b
  have h0 := Int.emod_nonneg v (show b ≠ 0 by omega)
  have h1 := Int.emod_lt_of_pos v (show 0 < b by omega)
  by_cases e : v % b = b - 1
  · left
    have e2 : v + 1 = (v / b + 1) * b := by rw [Int.add_mul, Int.mul_comm (v / b)]; omega
    refine ⟨e, ?_, ?_⟩
    · rw [e2, Int.mul_ediv_cancel _ (by omega)]
    · rw [e2, Int.mul_emod_left]
  · right
    have e2 : v + 1 = (v % b + 1) + b * (v / b) := by omega
    refine ⟨by omega, ?_, ?_⟩
    · rw [e2, Int.add_mul_ediv_left _ _ (by omega), Int.ediv_eq_zero_of_lt (by omega) (by omega), Int.zero_add]
    · rw [e2, Int.add_mul_emod_self_left, Int.emod_eq_of_lt (by omega) (by omega)]
theorem abs_nn {x : Int} (h : 0 ≤ x) : (x.natAbs : Int) = x := by omega
theorem abs_np {x : Int} (h : x ≤ 0) : (x.natAbs : Int) = -x := by omega
theorem digM0 {b v f : Int} (acc) (h : v % b = 0) : digM b acc (v, f) = putM acc (v / b) f := by
  unfold digM dgs
  rw [if_pos h]
  simp only [List.foldl_cons, List.foldl_nil, Int.sub_zero]
  congr 1
  simp
theorem digM1 {b v f : Int} (acc) (hb : 2 ≤ b) (h : v % b ≠ 0) : digM b acc (v, f) = putM (putM acc (v / b) (f + v % b)) (v / b + 1) (f + (b - v % b)) := by
  have h0 := Int.emod_nonneg v (show b ≠ 0 by omega)
  have h1 := Int.emod_lt_of_pos v (show 0 < b by omega)
  unfold digM dgs
  rw [if_neg h]
  simp only [List.foldl_cons, List.foldl_nil]
  rw [q_lo, q_hi (by omega), abs_nn h0, abs_np (by omega), Int.neg_sub]
theorem next1 {b v f : Int} (hb : 2 ≤ b) : nextM b [(v, f)] = if v % b = 0 then [(v / b, f)] else [(v / b, f + v % b), (v / b + 1, f + (b - v % b))] := by
  unfold nextM
  simp only [List.foldl_cons, List.foldl_nil]
  by_cases h : v % b = 0
  · rw [if_pos h, digM0 _ h]; rfl
  · rw [if_neg h, digM1 _ hb h, put0, put1n _ _ (by omega)]
theorem next2 {b v f g : Int} (hb : 2 ≤ b) : nextM b [(v, f), (v + 1, g)] = if v % b = 0 then [(v / b, min f (g + 1)), (v / b + 1, g + (b - 1))] else if v % b = b - 1 then [(v / b, f + v % b), (v / b + 1, min (f + 1) g)] else [(v / b, min (f + v % b) (g + (v % b + 1))), (v / b + 1, min (f + (b - v % b)) (g + (b - (v % b + 1))))] := by
  have e : nextM b [(v, f), (v + 1, g)] = digM b (nextM b [(v, f)]) (v + 1, g) := rfl
  rw [e, next1 hb]
  have h0 := Int.emod_nonneg v (show b ≠ 0 by omega)
  by_cases h : v % b = 0
  · rw [if_pos h, if_pos h]
    rcases succ_div (v := v) hb with ⟨z, _, _⟩ | ⟨z1, z2, z3⟩
    · omega
    · rw [digM1 _ hb (by omega), z2, z3, h, put1, put1n _ _ (by omega)]
      simp
  · rw [if_neg h, if_neg h]
    rcases succ_div (v := v) hb with ⟨z1, z2, z3⟩ | ⟨z1, z2, z3⟩
    · rw [if_pos z1, digM0 _ z3, z2, put2b _ _ _ (by omega), z1, show b - (b - 1) = 1 by omega]
    · rw [if_neg (by omega), digM1 _ hb (by omega), z2, z3, put2a _ _ _ (by omega), put2b _ _ _ (by omega)]
def layM (b X0 : Int) : Nat → List (Int × Int)
  | 0 => [(X0, 0)]
  | k + 1 => nextM b (layM b X0 k)
theorem div_pow_succ {b X : Int} (hb : 0 < b) (k : Nat) : X / b ^ (k + 1) = X / b ^ k / b := by
  rw [Int.pow_succ, Int.ediv_ediv_of_nonneg (Int.le_of_lt (Int.pow_pos hb))]
theorem layM_shape {b X : Int} (hb : 2 ≤ b) : ∀ k, (∃ f, layM b X k = [(X / b ^ k, f)]) ∨ ∃ f g, layM b X k = [(X / b ^ k, f), (X / b ^ k + 1, g)]
  | 0 => .inl ⟨0, by simp [layM]⟩
  | k + 1 => by
    rw [div_pow_succ (by omega)]
    rcases layM_shape hb k with ⟨f, e⟩ | ⟨f, g, e⟩
    · show (∃ f, nextM b (layM b X k) = _) ∨ ∃ f g, nextM b (layM b X k) = _
      rw [e, next1 hb]
      by_cases h : X / b ^ k % b = 0
      · rw [if_pos h]; exact .inl ⟨_, rfl⟩
      · rw [if_neg h]; exact .inr ⟨_, _, rfl⟩
    · show (∃ f, nextM b (layM b X k) = _) ∨ ∃ f g, nextM b (layM b X k) = _
      rw [e, next2 hb]
      by_cases h : X / b ^ k % b = 0
      · rw [if_pos h]; exact .inr ⟨_, _, rfl⟩
      · rw [if_neg h]
        by_cases h2 : X / b ^ k % b = b - 1
        · rw [if_pos h2]; exact .inr ⟨_, _, rfl⟩
        · rw [if_neg h2]; exact .inr ⟨_, _, rfl⟩
theorem layM_len {b X : Int} (hb : 2 ≤ b) (k : Nat) : (layM b X k).length ≤ 2 := by
  rcases layM_shape (X := X) hb k with ⟨f, e⟩ | ⟨f, g, e⟩ <;> rw [e] <;> simp
end K27

/-! Search: made, asked. -/
namespace K27
open PySem PySem.Spec PyProof.Rows L2 Evl C8
section
variable {X : Cx} {σ : L2.St} {H H' : Hp} {v x y : V} {e o o2 : Expr} {f f2 : Str} {pos p1 p2 tp : Pos} {D : Ends} {rest sts : List Stmt} {a d C dx : Addr} {fs : List (Str × V)} {ta : TE}
def gAttr (K : PySem.W.Frag) (ta : TE) (f : Str) : TG := fun v σ H Q => ta σ H fun x H1 => ∃ a C dx fs, x = .ref a ∧ H1 a = some (.ins C dx fs) ∧ Cls K C ∧ NoAttr K C f ∧ fs.length < 1000 ∧ Q σ (upd H1 a (.ins C dx (putF f v fs)))
theorem pg_attr (ha : PE X o ta) : PG X (.Attribute o f pos) (gAttr X.K ta f) := by
  (refine ⟨fun pins s σ H v u Q I r h => ?_⟩)
  refine PySem.W.kas_attr (thn (ha.run pins s σ H _ I h) fun ov s2 ⟨x, H2, I2, rx, a, C, dx, fs, ex, ea, c, n, l, q2⟩ => ?_)
  subst ex
  (obtain rfl : ov = Value.ref a := rx)
  exact setattr_ok I2 ea c n l r fun s3 I3 => ⟨σ, _, I3, q2⟩
/-- o.f, o.f2 = e -/
theorem bl_fld2 {R : V → Hp → Prop} {kk : Nat} (h : ER X e σ H R) (ha : ∀ H1, Ex H H1 → EV X o σ H1 (.ref a)) (ho : H a = some (.ins C dx fs)) (hc : Cls X.K C) (hn : NoAttr X.K C f) (hn2 : NoAttr X.K C f2) (hl : fs.length < 900) (hl2 : ∀ y, (putF f y fs).length < 1000)
    (ha2 : ∀ H1 y, Ex H H1 → EV X o2 σ (upd H1 a (.ins C dx (putF f y fs))) (.ref a))
    (k : ∀ v H1, Ex H H1 → R v H1 → ∃ p x y, v = .ref p ∧ H1 p = some (.tup [x, y]) ∧ BL X rest D σ (upd H1 a (.ins C dx (putF f2 y (putF f x fs)))))
    (hcm : X.calm = true := by rfl) (hs : swapsWithSole [.Tuple [.Attribute o f p1, .Attribute o2 f2 p2] kk tp] e pos.line X.env = pure false := by rfl) (hw : swappedStores [.Tuple [.Attribute o f p1, .Attribute o2 f2 p2] kk tp] e X.env = pure none := by rfl)
    (h1 : (assignEach [.Tuple [.Attribute o f p1, .Attribute o2 f2 p2] kk tp] X.env).map (·.2) = [assign (.Tuple [.Attribute o f p1, .Attribute o2 f2 p2] kk tp) X.env] := by rfl)
    (hn0 : (assignEach [.Attribute o f p1, .Attribute o2 f2 p2] X.env).length = 2 := by rfl) (hst : (assignEach [.Attribute o f p1, .Attribute o2 f2 p2] X.env).findIdx? (·.1) = none := by rfl)
    (hs1 : (assignEach [.Attribute o f p1, .Attribute o2 f2 p2] X.env).map (·.2) = assign (.Attribute o f p1) X.env :: (assignEach [.Attribute o2 f2 p2] X.env).map (·.2) := by rfl) (hs2 : (assignEach [.Attribute o2 f2 p2] X.env).map (·.2) = assign (.Attribute o2 f2 p2) X.env :: (assignEach [] X.env).map (·.2) := by rfl) :
    BL X (.Assign [.Tuple [.Attribute o f p1, .Attribute o2 f2 p2] kk tp] e pos :: rest) D σ H :=
  bl_st (ps_asg pe_w (pg_tup hcm (pgs_cons (pg_attr pe_w) (pgs_cons (pg_attr pe_w) pgs_nil hs2) hs1) hn0 hst) hs hw h1) fun H1 e1 => h H1 e1 _ fun v H2 e2 r => by
    obtain ⟨p, x, y, ev, hp, b⟩ := k v H2 (e1.trans e2) r
    subst ev
    refine ⟨p, [x, y], rfl, st_of hp, rfl, x, [y], rfl, ha H2 (e1.trans e2) H2 (Ex.refl _) _ fun H3 e3 => ⟨a, C, dx, fs, rfl, e3 _ _ ((e1.trans e2) _ _ ho), hc, hn, by omega, y, [], rfl, ?_⟩⟩
    refine ha2 H2 x (e1.trans e2) _ (ex_upd e3) _ fun H4 e4 => ⟨a, C, dx, putF f x fs, rfl, e4 _ _ upd_same, hc, hn2, hl2 x, rfl, _, ?_, b⟩
    have := ex_upd (a := a) (o := HO.ins C dx (putF f2 y (putF f x fs))) (e3.trans (fun b' w hb' => hb'))
    intro b' w hb'
    by_cases e : b' = a
    · subst e; rw [upd_same] at hb' ⊢; exact hb'
    · rw [upd_ne e] at hb' ⊢
      exact e4 _ _ (by rw [upd_ne e]; exact e3 _ _ hb')
/-- a dict written with one int key and a tuple -/
theorem er_disp1 {kE vE : Expr} {k : Key} {vs : List V} (hk : EV X kE σ H (kV k)) (hv : EN X vE σ H (.tup vs)) : ER X (.Dict [some kE] [vE] pos) σ H fun u H2 => ∃ p t, u = .ref p ∧ H p = none ∧ H2 p = some (.dK [(k, .ref t)]) ∧ H2 t = some (.tup vs) := fun H1 e1 Q q =>
  to_wE (pe_disp (pps_cons pe_w pe_w pps_nil) rfl rfl (fun z => nomatch z) (by simp)) fun p hp => hk _ (e1.trans (Ex.new hp)) _ fun H2 e2 => hv H2 ((e1.trans (Ex.new hp)).trans e2) _ fun t H3 ht e3 h3t => by
    have h3 : H3 p = some (.dK []) := e3 _ _ (e2 _ _ upd_same)
    refine ⟨h3, [(k, .ref t)], rfl, by simp, ?_⟩
    refine q _ _ (Ex.mut (((Ex.new hp).trans e2).trans e3) hp) ⟨p, t, rfl, fresh_back e1 hp, upd_same, ?_⟩
    rw [upd_ne (ne_of h3t h3 (by intro z; cases z))]
    exact h3t
end
section
variable {X : Cx} {σ : L2.St} {H : Hp} {e o : Expr} {pos ap cp : Pos} {D : Ends} {rest : List Stmt} {l : Addr} {xs : List V}
/-- o.append(e) -/
theorem bl_appR {R : V → Hp → Prop} (ho : EV X o σ H (.ref l)) (hl : H l = some (.lst xs)) (hv : ER X e σ H R) (hz : xs.length < 100000) (k : ∀ v H1, Ex H H1 → R v H1 → BL X rest D σ (upd H1 l (.lst (xs ++ [v]))))
    (hs0 : swapsWith (.Call (.Attribute o "append" ap) [e] [] cp) none pos.line X.env = pure false := by rfl) (hbase : attributeBase o "append" X.env (eval o X.env) = eval o X.env := by rfl)
    (hfew : ((backTo cp (starEach (e :: []) X.env)).all (fun x => !x.1) && (backToKw cp (keywordEach [] X.env)).all (fun x => x.1.isSome) && decide ((e :: []).length + ([] : List Keyword).length + (if ([] : List Keyword).isEmpty then 0 else 1) < 30)) = true := by rfl)
    (hline : (ap.endLine == cp.line) = true := by rfl) (hs : starEach (e :: []) X.env = (false, eval e X.env) :: starEach [] X.env := by rfl) (hplain : (backTo cp (starEach [] X.env)).any (·.1) = false := by rfl) :
    BL X (.Expr (.Call (.Attribute o "append" ap) [e] [] cp) pos :: rest) D σ H :=
  bl_st (ps_expr (pe_bm PySem.F.plainAttrs_list PySem.F.slot_list_append PySem.F.type_list_append mt_append pe_w (pa_cons pe_w pa_nil hs) hbase hfew hline hs hplain) hs0) fun H1 e1 => ho H1 e1 _ fun H2 e2 =>
    ⟨Or.inl ⟨rfl, xs, sq_of (e2 _ _ (e1 _ _ hl))⟩, hv H2 (e1.trans e2) _ fun v H3 e3 r => ⟨l, xs, v, rfl, rfl, e3 _ _ (e2 _ _ (e1 _ _ hl)), sz_lt hz, _, Ex.refl _, k v H3 ((e1.trans e2).trans e3) r⟩⟩
end
theorem IsLay.upd {H : Hp} {d a : Addr} {o : HO} {L : List (Int × Int)} (h : IsLay H d L) (hd : ∀ kvs, H a ≠ some (.dK kvs)) (ht : ∀ vs, H a ≠ some (.tup vs)) : IsLay (L2.upd H a o) d L := by
  obtain ⟨kvs, h1, h2⟩ := h
  exact ⟨kvs, by rw [upd_ne fun z => hd _ (z ▸ h1)]; exact h1, LayRel.upd ht h2⟩
def searchF (r E : Addr) (l t : Int) (ls : Addr) : List (Str × V) := [("own_row", .ref r), ("own_ends", .ref E), ("own_low", .int l), ("own_top", .int t), ("own_layers", .ref ls)]
theorem putF_ne {f g : Str} {v x : V} {r : List (Str × V)} (h : ¬ g = f) : putF f v ((g, x) :: r) = (g, x) :: putF f v r := by
  show (if g = f then (g, v) :: r else (g, x) :: putF f v r) = _
  exact if_neg h
theorem sF1 (r : Addr) : putF "own_row" (.ref r) [] = [(("own_row" : Str), V.ref r)] := rfl
theorem sF2 (r E : Addr) : putF "own_ends" (.ref E) [(("own_row" : Str), V.ref r)] = [(("own_row" : Str), V.ref r), ("own_ends", .ref E)] := by
  rw [putF_ne (by decide +kernel)]; rfl
theorem sF3 (r E : Addr) (l t : V) : putF "own_top" t (putF "own_low" l [(("own_row" : Str), V.ref r), ("own_ends", .ref E)]) = [(("own_row" : Str), V.ref r), ("own_ends", .ref E), ("own_low", l), ("own_top", t)] := by
  rw [putF_ne (by decide +kernel), putF_ne (by decide +kernel), putF_ne (by decide +kernel), putF_ne (by decide +kernel)]
  show (("own_row" : Str), V.ref r) :: ("own_ends", V.ref E) :: putF "own_top" t [("own_low", l)] = _
  rw [putF_ne (by decide +kernel)]; rfl
theorem sF4 (r E ls : Addr) (l t : Int) : putF "own_layers" (.ref ls) [(("own_row" : Str), V.ref r), ("own_ends", .ref E), ("own_low", .int l), ("own_top", .int t)] = searchF r E l t ls := by
  rw [putF_ne (by decide +kernel), putF_ne (by decide +kernel), putF_ne (by decide +kernel), putF_ne (by decide +kernel)]; rfl
/-! ### a search as it stands -/
/-- the layers so far -/
def LaysAt (H : Hp) (ls : Addr) (b X0 : Int) (n : Nat) : Prop := ∃ ds : List Addr, H ls = some (.lst (ds.map V.ref)) ∧ ds.length = n ∧ ∀ (j : Nat) d, ds[j]? = some d → IsLay H d (layM b X0 j)
theorem LaysAt.ex {H H' : Hp} {ls : Addr} {b X0 : Int} {n : Nat} (e : Ex H H') (h : LaysAt H ls b X0 n) : LaysAt H' ls b X0 n := let ⟨ds, h1, h2, h3⟩ := h; ⟨ds, e _ _ h1, h2, fun j d hd => (h3 j d hd).ex e⟩
/-- a finished search: the row, both positions, the range, the layers from X0 on -/
def IsSrch (K : PySem.W.Frag) (H : Hp) (x : Addr) (b mv ad : Int) (fi la : Option Int) (p p' l t X0 : Int) : Prop := ∃ r E dx ls, H x = some (.ins (He.ga K "Search") dx (searchF r E l t ls)) ∧ IsRow K H r b mv ad fi la ∧ H E = some (.tup [.int p, .int p']) ∧ LaysAt H ls b X0 ((t - l).toNat + 1)
theorem IsSrch.ex {K : PySem.W.Frag} {H H' : Hp} {x : Addr} {b mv ad : Int} {fi la : Option Int} {p p' l t X0 : Int} (e : Ex H H') (h : IsSrch K H x b mv ad fi la p p' l t X0) : IsSrch K H' x b mv ad fi la p p' l t X0 :=
  let ⟨r, E, dx, ls, h1, h2, h3, h4⟩ := h; ⟨r, E, dx, ls, e _ _ h1, h2.ex e, e _ _ h3, h4.ex e⟩
section
variable {base : Heap} {mg : Str → Option Value} {K : PySem.W.Frag} {w : World} {P : Program}
/-- Search.__init__, at a new instance x over what was known (H0) -/
def spSearch (K : PySem.W.Frag) : Sp := fun vs H Q _ => ∃ (H0 : Hp) (x dx r a a' : Addr) (b mv ad : Int) (fi la : Option Int) (p p' n e : Int), vs = [.ref x, .ref r, .ref a, .ref a'] ∧ Ex H0 H ∧ H0 x = none ∧ H x = some (.ins (He.ga K "Search") dx []) ∧ Two K H0 r a a' b mv ad fi la p p' n e ∧
  ∀ H', Ex H0 H' → (∃ l t, SpanIs b la p p' n e l t ∧ IsSrch K H' x b mv ad fi la p p' l t (atP b n e l)) → Q .non H'
theorem low_le {p p' n e : Int} : lowF p p' n e ≤ min p p' := by unfold lowF; split <;> omega
theorem low_le_e {p p' n e : Int} (h : n ≠ 0) : lowF p p' n e ≤ e := by unfold lowF; rw [if_neg h]; omega
theorem low_ge {p p' n e m : Int} (h1 : m ≤ p) (h2 : m ≤ p') (h3 : n ≠ 0 → m ≤ e) : m ≤ lowF p p' n e := by
  unfold lowF
  split
  · omega
  · rename_i z; have := h3 z; omega
theorem lay0 {H : Hp} {d t : Addr} {X0 : Int} {x y : V} (hd : H d = some (.dK [(Sum.inl X0, .ref t)])) (ht : H t = some (.tup [.int 0, x, y])) (b : Int) : IsLay H d (layM b X0 0) := ⟨_, hd, .cons ⟨rfl, t, x, y, rfl, ht⟩ .nil⟩
theorem ok_search (W : Wd K mg) {fd : FuncData} (F : FunD K "__init__" "Search.__init__" (defArgs s_Search_init) (defBody s_Search_init) (defScope s_Search_init) [] [] (He.ma K (He.ga K "Search") "__init__") fd) : FnOk P w K mg base C8.CX0 6 (He.ma K (He.ga K "Search") "__init__") fd ["self", "row", "start", "goal"] (spSearch K) := by
  refine F.ok sc_Search_init (fun vs H Q E ⟨_, _, _, _, _, _, _, _, _, _, _, _, _, _, _, e, _⟩ => by rw [e]; rfl) fun cdv A outer s H vs Q E hr hsp => ⟨_, PSs.nox pb_w, ?_⟩
  obtain ⟨H0, x, dx, r, a, a', b, mv, ad, fi, la, p, p', n, e, rfl, x0, hx0, hx, T, q⟩ := hsp
  have hr : Room 5 (Cxx P w K mg base ["self", "row", "start", "goal", "value", "place"] "Search.__init__" (defScope s_Search_init) (He.ma K (He.ga K "Search") "__init__") cdv A outer s H E).A := hr
  refine (?_ : BL (Cxx P w K mg base ["self", "row", "start", "goal", "value", "place"] "Search.__init__" (defScope s_Search_init) (He.ma K (He.ga K "Search") "__init__") cdv A outer s H E) (defBody s_Search_init) (Dd Q) (start ["self", "row", "start", "goal", "value", "place"] [.ref x, .ref r, .ref a, .ref a']) H) H (Ex.refl H)
  obtain ⟨n0, e0, n1, e1, ⟨q0, h0, h0'⟩, ⟨q1, h1, h1'⟩, hd, o0, o1⟩ := T.st
  obtain ⟨ro, rdx, hI⟩ := id T.row
  obtain ⟨k1, k2, k3, k4⟩ := hi_le ro
  have b0 := ro.b2
  obtain ⟨m1, m2, m3, m4⟩ := T.lo
  obtain ⟨g1, g2, g3, g4, g5, g6⟩ := T.sm
  refine bl_fld (ev_nm 1 rfl) (ev_nm 0 rfl) hx W.c_Search W.no_own_row (by simp) ?_
  rw [sF1]
  have xa : Ex H0 (upd H x (.ins (He.ga K "Search") dx [("own_row", .ref r)])) := Ex.mut x0 hx0
  refine bl_fldR (er_en (en_tup (ea_cons' (v := .int p) (ev_ixT (ev_nm 2 rfl) ev_int (st_of (xa _ _ h0)) (i := 1) rfl) (ea_cons' (v := .int p') (ev_ixT (ev_nm 3 rfl) ev_int (st_of (xa _ _ h1)) (i := 1) rfl) ea_nil')))) (ev_nm 0 rfl) upd_same W.c_Search W.no_own_ends (by simp) ?_
  rintro y H1 x1 ⟨Ed, rfl, hE0, hE⟩
  rw [sF2]
  have nxE : Ed ≠ x := fun z => by rw [z, upd_same] at hE0; cases hE0
  have xb : Ex H0 (upd H1 x (.ins (He.ga K "Search") dx [("own_row", .ref r), ("own_ends", .ref Ed)])) := Ex.mut (xa.trans x1) hx0
  have hEb : upd H1 x (.ins (He.ga K "Search") dx [("own_row", .ref r), ("own_ends", .ref Ed)]) Ed = some (.tup [.int p, .int p']) := by rw [upd_ne nxE]; exact hE
  have hxb : upd H1 x (.ins (He.ga K "Search") dx [("own_row", .ref r), ("own_ends", .ref Ed)]) x = some (.ins (He.ga K "Search") dx [("own_row", .ref r), ("own_ends", .ref Ed)]) := upd_same
  generalize upd H1 x (.ins (He.ga K "Search") dx [("own_row", .ref r), ("own_ends", .ref Ed)]) = Hb at xb hEb hxb ⊢
  refine bl_fld2 (er_call1 (c_span W) hr (ea_cons' (ev_nm 1 rfl) (ea_cons' (ev_nm 2 rfl) (ea_cons' (ev_nm 3 rfl) ea_nil'))) fun H2 x2 => ⟨r, a, a', b, mv, ad, fi, la, p, p', n, e, rfl, T.exx (xb.trans x2), rfl⟩) (fun H2 _ => ev_nm 0 rfl) hxb W.c_Search W.no_own_low W.no_own_top (by simp) (fun y => ?_) (fun H2 y _ => ev_nm 0 rfl) ?_
  · rw [putF_ne (by decide +kernel), putF_ne (by decide +kernel)]
    show 3 < 1000
    decide
  rintro v H2 x2 ⟨l, t, ⟨pp, ev, hpp⟩, hSp⟩
  refine ⟨pp, .int l, .int t, ev, hpp, ?_⟩
  rw [sF3]
  have nxE2 : Ed ≠ x := ne_of hEb hxb (by intro z; cases z)
  have xc : Ex H0 (upd H2 x (.ins (He.ga K "Search") dx [("own_row", .ref r), ("own_ends", .ref Ed), ("own_low", .int l), ("own_top", .int t)])) := Ex.mut (xb.trans x2) hx0
  have hEc : upd H2 x (.ins (He.ga K "Search") dx [("own_row", .ref r), ("own_ends", .ref Ed), ("own_low", .int l), ("own_top", .int t)]) Ed = some (.tup [.int p, .int p']) := by rw [upd_ne nxE2]; exact x2 _ _ hEb
  have hxc : upd H2 x (.ins (He.ga K "Search") dx [("own_row", .ref r), ("own_ends", .ref Ed), ("own_low", .int l), ("own_top", .int t)]) x = some (.ins (He.ga K "Search") dx [("own_row", .ref r), ("own_ends", .ref Ed), ("own_low", .int l), ("own_top", .int t)]) := upd_same
  generalize upd H2 x (.ins (He.ga K "Search") dx [("own_row", .ref r), ("own_ends", .ref Ed), ("own_low", .int l), ("own_top", .int t)]) = Hc at xc hEc hxc ⊢
  obtain ⟨hl, hT⟩ := id hSp
  have l1 : l ≤ min p p' := by rw [hl]; exact low_le
  have l2 : -300 ≤ l := by rw [hl]; exact low_ge (by omega) (by omega) (fun _ => by omega)
  have t1 : t ≤ 1000 := Int.le_trans hT.le k2
  have t2 := hT.ge
  refine bl_set (v := .int (atP b n e l)) 4 sc_Search_init.nd (ev_er (er_call (c_at_place W) hr (Ra := fun vs H3 => ∃ pn, vs = [.int b, .ref pn, .int l] ∧ H3 pn = some (.tup [.int n, .int e])) (ear_cons (er_ev (v := .int b) (ev_prop (p_base W) hr (ev_nm 1 rfl) (xc _ _ hI) fun H3 x3 => ⟨r, b, mv, ad, fi, la, rfl, T.row.ex (xc.trans x3), rfl⟩)) fun u1 H3 x3 eu1 =>
    ear_cons (er_call1 (c_difference W) hr (ea_cons' (ev_nm 1 rfl) (ea_cons' (ev_nm 2 rfl) (ea_cons' (ev_nm 3 rfl) ea_nil'))) fun H4 x4 => ⟨r, a, a', b, mv, ad, fi, la, p, p', n, e, rfl, T.exx ((xc.trans x3).trans x4), rfl⟩) fun u2 H4 x4 ⟨pn, eu2, hpn⟩ =>
    ear_cons (er_ev (v := .int l) (ev_fld (ev_nm 0 rfl) (x4 _ _ (x3 _ _ hxc)) W.c_Search W.no_own_low rfl)) fun u3 H5 x5 eu3 => ear_nil fun H6 x6 => ⟨pn, by rw [eu1, eu2, eu3], x6 _ _ (x5 _ _ hpn)⟩)
    fun vs H3 x3 ⟨pn, evs, hpn⟩ => ⟨b, n, e, l, pn, evs, hpn, ro.b2, ro.b6, T.nm.2.2.1, fun hz => ⟨by rw [hl]; exact low_le_e hz, by omega⟩, rfl⟩)) ?_
  refine bl_fldR (er_lst (R := fun vs H3 => ∃ d0 t0, vs = [.ref d0] ∧ H3 d0 = some (.dK [(Sum.inl (atP b n e l), .ref t0)]) ∧ H3 t0 = some (.tup [.int 0, .non, .non])) (ear_cons (er_disp1 (k := Sum.inl (atP b n e l)) (ev_nm 4 rfl) (en_tup (ea_cons' ev_int (ea_cons' ev_non (ea_cons' ev_non ea_nil'))))) fun u H3 x3 ⟨d0, t0, eu, _, hd0, ht0⟩ => ear_nil fun H4 x4 => ⟨d0, t0, by rw [eu], x4 _ _ hd0, x4 _ _ ht0⟩) (fun vs H3 ⟨_, _, z, _⟩ => by rw [z]; simp) (fun vs H3 H4 x4 ⟨d0, t0, z, y1, y2⟩ => ⟨d0, t0, z, x4 _ _ y1, x4 _ _ y2⟩)) (ev_nm 0 rfl) hxc W.c_Search W.no_own_layers (by simp) ?_
  rintro y H3 x3 ⟨ls, vs, rfl, hls0, hls, d0, t0, rfl, hd0, ht0⟩
  rw [sF4]
  have hls00 : H0 ls = none := fresh_back xc hls0
  have nlx : ls ≠ x := fun z => by rw [z, hxc] at hls0; cases hls0
  have hx3 : H3 x = some (.ins (He.ga K "Search") dx [("own_row", .ref r), ("own_ends", .ref Ed), ("own_low", .int l), ("own_top", .int t)]) := x3 _ _ hxc
  have xd : Ex H0 (upd H3 x (.ins (He.ga K "Search") dx (searchF r Ed l t ls))) := Ex.mut (xc.trans x3) hx0
  have ax : ∀ vs, H3 x ≠ some (.tup vs) := fun vs z => by rw [hx3] at z; cases z
  have ad' : ∀ vs, H3 x ≠ some (.dK vs) := fun vs z => by rw [hx3] at z; cases z
  refine bl_forR2 (fun i σ' H' => ∃ y5, σ' = [some (.ref x), some (.ref r), some (.ref a), some (.ref a'), some (.int (atP b n e l)), y5] ∧ Ex H0 H' ∧ H' x = some (.ins (He.ga K "Search") dx (searchF r Ed l t ls)) ∧ H' Ed = some (.tup [.int p, .int p']) ∧ LaysAt H' ls b (atP b n e l) (i + 1)) (ev_fld (ev_nm 0 rfl) upd_same W.c_Search W.no_own_low rfl) (ev_fld (ev_nm 0 rfl) upd_same W.c_Search W.no_own_top rfl) (by omega) W.n_range ?_ ?_ ?_
  · refine ⟨none, rfl, xd, upd_same, by rw [upd_ne nxE2]; exact x3 _ _ hEc, [d0], by rw [upd_ne nlx]; exact hls, rfl, fun j d hj => ?_⟩
    have hj0 : j = 0 := by have := (List.getElem?_eq_some_iff.mp hj).1; simpa using this
    subst hj0
    have : d0 = d := by simpa using hj
    subst this
    exact (lay0 hd0 ht0 b).upd ad' ax
  · rintro i σ' H' hi ⟨y5, rfl, xe, hxe, hEe, ds, hds, hdl, hlay⟩
    refine ⟨_, gt_nm 5 sc_Search_init.nd, ?_⟩
    obtain ⟨dl, hdl2⟩ : ∃ dl, ds[i]? = some dl := ⟨ds[i]'(by omega), List.getElem?_eq_getElem _⟩
    have hat : atI (ds.map V.ref) (-1) = some (V.ref dl) := by
      unfold atI ixN
      rw [if_neg (by decide), if_pos (by rw [List.length_map]; omega)]
      show (ds.map V.ref)[(-1 + ((ds.map V.ref).length : Int)).toNat]? = _
      rw [List.length_map, show (-1 + (ds.length : Int)).toNat = i by omega, List.getElem?_map, hdl2]
      rfl
    refine bl_appR (ev_fld (ev_nm 0 rfl) hxe W.c_Search W.no_own_layers rfl) hds (er_meth (m_next_layer W) hr (ev_nm 0 rfl) hxe rfl (ear_ea (ea_cons' (ev_ixL (ev_fld (ev_nm 0 rfl) hxe W.c_Search W.no_own_layers rfl) (ev_neg ev_int) (sq_of hds) hat) ea_nil')) fun vs H4 x4 ev => ⟨x, dl, r, dx, _, b, mv, ad, fi, la, _, by rw [ev], x4 _ _ hxe, rfl, T.row.ex (xe.trans x4), (hlay i dl hdl2).ex x4, layM_len ro.b2 i, rfl⟩) (by rw [List.length_map]; omega) ?_
    rintro v H4 x4 ⟨dn, rfl, hdn⟩
    have hds4 : H4 ls = some (.lst (ds.map V.ref)) := x4 _ _ hds
    have bx : ∀ vs, H4 ls ≠ some (.tup vs) := fun vs z => by rw [hds4] at z; cases z
    have bd : ∀ vs, H4 ls ≠ some (.dK vs) := fun vs z => by rw [hds4] at z; cases z
    refine bl_nil rfl ⟨_, rfl, Ex.mut (xe.trans x4) hls00, by rw [upd_ne nlx.symm]; exact x4 _ _ hxe, by rw [upd_ne (ne_of (x4 _ _ hEe) hds4 (by intro z; cases z))]; exact x4 _ _ hEe, ds ++ [dn], by rw [upd_same, List.map_append]; rfl, by simp [hdl], fun j d hj => ?_⟩
    by_cases hjl : j < ds.length
    · rw [List.getElem?_append_left hjl] at hj
      exact ((hlay j d hj).ex x4).upd bd bx
    · have hj1 : j = ds.length := by
        have := (List.getElem?_eq_some_iff.mp hj).1
        simp at this
        omega
      subst hj1
      rw [List.getElem?_append_right (Nat.le_refl _), Nat.sub_self] at hj
      have : dn = d := by simpa using hj
      subst this
      rw [hdl]
      exact hdn.upd bd bx
  · rintro σ' H' ⟨y5, rfl, xe, hxe, hEe, hLs⟩
    exact bl_nil' fun H4 x4 => q H4 (xe.trans x4) ⟨l, t, hSp, r, Ed, dx, ls, x4 _ _ hxe, T.row.ex (xe.trans x4), x4 _ _ hEe, hLs.ex x4⟩
end
end K27

/-! A search asked: additions, places, moves, options, cost; least_cost, distance. -/
namespace K27
open PySem PySem.Spec PyProof.Rows L2 Evl C8
theorem cr_max2T {X : Cx} (hc : X.calm = true) (hu : X.A.units + 64 < cLine) : CallR X (.builtin "max") (fun vs H Q => ∃ a i j, vs = [V.ref a] ∧ SqT X.K H a [.int i, .int j] ∧ Q (.int (max i j)) H) := by
  (intro pins s σ H vs us Q I r h)
  obtain ⟨a, i, j, rfl, hs, q⟩ := h
  obtain ⟨its, rv, ht, _⟩ := I.tuple hs
  obtain rfl := Vals.ref1 r
  obtain ⟨u1, u2, rfl, ⟨t1, rfl⟩, t2, rfl⟩ := vals2 rv
  refine PySem.W.max_tuple_data (x := .int i) (xs := [.int j]) (as := []) (I.ok.hd hc) ht (.cons (.int i t1) (.cons (.int j t2) .nil)) ⟨fun x hx y hy => ?_, fun x hx => ?_⟩ (by show X.A.units + 1 + _ < _; simp [PyData.depthAll, PyData.depth]; omega) (fun k v h' tk bs hk hr hh => ?_)
  · rcases List.mem_cons.mp hx with rfl | hx
    · (rcases List.mem_cons.mp hy with rfl | hy)
      · rfl
      · rw [List.mem_singleton.mp hy]; rfl
    · rw [List.mem_singleton.mp hx]
      (rcases List.mem_cons.mp hy with rfl | hy)
      · rfl
      · rw [List.mem_singleton.mp hy]; rfl
  · rcases List.mem_cons.mp hx with rfl | hx
    · exact fun z => nomatch z
    · rw [List.mem_singleton.mp hx]; exact fun z => nomatch z
  · have e : PySem.W.maxD (.int i) [.int j] = .int (max i j) := PySem.W.maxD_ints i [j]
    rw [e] at hr
    cases hr with
    | int _ t => exact ⟨.int _, H, I.kept hh, ⟨t, rfl⟩, q⟩
section
variable {X : Cx} {σ : L2.St} {H : Hp} {v : V} {e o : Expr} {pos ap cp : Pos} {a : Addr} {kvs : List (Key × V)} {k : Key} {j : Nat}
/-- o.get(e), the dict found by a property -/
theorem er_dget1 {R : V → Hp → Prop} {R' : V → Hp → Prop} (ho : ER X o σ H R) (hr : Room j X.A) (k : ∀ u H1, Ex H H1 → R u H1 → ∃ a kvs k, u = .ref a ∧ H1 a = some (.dK kvs) ∧ EV X e σ H1 (kV k) ∧ ∀ H2, Ex H1 H2 → R' ((valV kvs k).getD .non) H2)
    (hb : attributeBase o "get" X.env (eval o X.env) = eval o X.env := by rfl)
    (hf : ((backTo cp (starEach [e] X.env)).all (fun x => !x.1) && (backToKw cp (keywordEach [] X.env)).all (fun x => x.1.isSome) && decide (([e] : List Expr).length + ([] : List Keyword).length + (if ([] : List Keyword).isEmpty then 0 else 1) < 30)) = true := by rfl)
    (hl : (ap.endLine == cp.line) = true := by rfl) (ht : backTo cp (starEach [e] X.env) = [(false, eval e X.env)] := by rfl) : ER X (.Call (.Attribute o "get" ap) [e] [] cp) σ H R' := fun H1 e1 Q q =>
  to_wE (pe_dget1 (hu_of hr) pe_w pe_w ⟨hb, hf, hl, ht⟩) (ho H1 e1 _ fun u H2 e2 r => by
    obtain ⟨a, kvs, kk, eu, hd, hk, hR⟩ := k u H2 (e1.trans e2) r
    exact ⟨a, eu, .inl ⟨kvs, .inl hd⟩, hk H2 (Ex.refl _) _ fun H3 e3 => ⟨_, DGet.k (e3 _ _ hd), q _ H3 (e2.trans e3) (hR H3 e3)⟩⟩)
end
section
variable {base : Heap} {mg : Str → Option Value} {K : PySem.W.Frag} {w : World} {P : Program}
theorem lays_at {H : Hp} {ls : Addr} {b X0 : Int} {n j : Nat} (h : LaysAt H ls b X0 n) (hj : j < n) : ∃ ds d, H ls = some (.lst ds) ∧ ds[j]? = some (V.ref d) ∧ IsLay H d (layM b X0 j) := by
  obtain ⟨ds, h1, h2, h3⟩ := h
  have e : ds[j]? = some (ds[j]'(by omega)) := List.getElem?_eq_getElem _
  exact ⟨_, _, h1, by rw [List.getElem?_map, e]; rfl, h3 j _ e⟩
def pr_additions (K : PySem.W.Frag) : Pre := fun vs H R => ∃ (x : Addr) (b mv ad : Int) (fi la : Option Int) (p p' l t X0 pl v : Int), vs = [.ref x, .int pl, .int v] ∧ IsSrch K H x b mv ad fi la p p' l t X0 ∧ l ≤ pl ∧ pl ≤ t ∧ R = fun u _ => u = oV (lkM (layM b X0 (pl - l).toNat) v)
theorem m_additions (W : Wd K mg) : Met P w K mg base 1 (He.ga K "Search") "additions" (spR (pr_additions K)) [] :=
  met_mk W.F_Search_additions W.c_Search W.m_additions sc_Search_additions (fun vs H R ⟨_, _, _, _, _, _, _, _, _, _, _, _, _, e, _⟩ => by rw [e]; rfl) (by
    rintro cdv A outer s H vs Q E R hr ⟨x, b, mv, ad, fi, la, p, p', l, t, X0, pl, v, rfl, ⟨r, Ed, dx, ls, hx, hR, hE, hL⟩, h1, h2, rfl⟩ q
    obtain ⟨ds, d, hls, hdj, hlay⟩ := lays_at hL (j := (pl - l).toNat) (by omega)
    obtain ⟨kvs, hd, hrel⟩ := hlay
    refine bl_setR 3 sc_Search_additions.nd (er_dget1 (R' := fun u H1 => Ex H H1 ∧ u = (valV kvs (Sum.inl v)).getD .non) (er_ev (v := .ref d) (ev_ixL (i := (((pl - l).toNat : Nat) : Int)) (ev_fld (ev_nm 0 rfl) hx W.c_Search W.no_own_layers rfl) (ev_to (ev_sub (ev_nm 1 rfl) (ev_fld (ev_nm 0 rfl) hx W.c_Search W.no_own_low rfl)) (by rw [Int.toNat_of_nonneg (by omega)])) (sq_of hls) (atI_nat hdj))) hr fun u H1 x1 eu => ⟨d, kvs, Sum.inl v, eu, x1 _ _ hd, ev_nm 2 rfl, fun H2 x2 => ⟨x1.trans x2, rfl⟩⟩) fun u H1 x1 ⟨_, eu⟩ => ?_
    subst eu
    cases e : lkM (layM b X0 (pl - l).toNat) v with
    | none =>
      have e2 := hrel.getN e
      refine bl_ret (v := .non) (ev_ife (k := true) (et_to (et_isN (x := .non) (ev_nm 3 (by rw [e2]; rfl))) rfl) (fun _ => ev_non) (fun z => nomatch z)) fun H2 x2 => q _ H2 (x1.trans x2) (by rw [e]; rfl)
    | some c =>
      obtain ⟨tt, y, z, e2, e3⟩ := hrel.getS e
      refine bl_ret (v := .int c) (ev_ife (k := false) (et_to (et_isN (x := .ref tt) (ev_nm 3 (by rw [e2]; rfl))) rfl) (fun z => nomatch z) (fun _ => ev_ixT (p := tt) (ev_nm 3 (by rw [e2]; rfl)) ev_int (st_of (x1 _ _ e3)) (i := 0) rfl)) fun H2 x2 => q _ H2 (x1.trans x2) (by rw [e]; rfl))
def pr_places (K : PySem.W.Frag) : Pre := fun vs H R => ∃ (x : Addr) (b mv ad : Int) (fi la : Option Int) (p p' l t X0 : Int), vs = [.ref x] ∧ IsSrch K H x b mv ad fi la p p' l t X0 ∧ R = IsPr l t
theorem m_places (W : Wd K mg) : Met P w K mg base 1 (He.ga K "Search") "places" (spR (pr_places K)) [] :=
  met_mk W.F_Search_places W.c_Search W.m_places sc_Search_places (fun vs H R ⟨_, _, _, _, _, _, _, _, _, _, _, e, _⟩ => by rw [e]; rfl) (by
    rintro cdv A outer s H vs Q E R hr ⟨x, b, mv, ad, fi, la, p, p', l, t, X0, rfl, ⟨r, Ed, dx, ls, hx, hR, hE, hL⟩, rfl⟩ q
    exact bl_retR (er_en (en_tup (ea_cons' (v := .int l) (ev_fld (ev_nm 0 rfl) hx W.c_Search W.no_own_low rfl) (ea_cons' (v := .int t) (ev_fld (ev_nm 0 rfl) hx W.c_Search W.no_own_top rfl) ea_nil')))) fun v H1 x1 ⟨pp, ev, _, hp⟩ => q v H1 x1 ⟨pp, ev, hp⟩)
/-- the moves of a plan -/
def mvsM (l p p' h : Int) : Int := 2 * (h - l) - ((p' - p).natAbs : Int)
def pr_moves (K : PySem.W.Frag) : Pre := fun vs H R => ∃ (x : Addr) (b mv ad : Int) (fi la : Option Int) (p p' l t X0 h : Int), vs = [.ref x, .int h] ∧ IsSrch K H x b mv ad fi la p p' l t X0 ∧ R = fun v _ => v = .int (mvsM l p p' h)
theorem m_moves (W : Wd K mg) : Met P w K mg base 1 (He.ga K "Search") "moves" (spR (pr_moves K)) [] :=
  met_mk W.F_Search_moves W.c_Search W.m_moves sc_Search_moves (fun vs H R ⟨_, _, _, _, _, _, _, _, _, _, _, _, e, _⟩ => by rw [e]; rfl) (by
    rintro cdv A outer s H vs Q E R hr ⟨x, b, mv, ad, fi, la, p, p', l, t, X0, h, rfl, ⟨r, Ed, dx, ls, hx, hR, hE, hL⟩, rfl⟩ q
    refine bl_ret (v := .int (mvsM l p p' h)) (ev_sub (ev_mulS ev_int (ev_sub (ev_nm 1 rfl) (ev_fld (ev_nm 0 rfl) hx W.c_Search W.no_own_low rfl)) (.inl ⟨by decide, by decide⟩)) (ev_abs (ev_sub (i := p') (j := p) (ev_ixT (ev_fld (ev_nm 0 rfl) hx W.c_Search W.no_own_ends rfl) ev_int (st_of hE) (i := 1) rfl) (ev_ixT (ev_fld (ev_nm 0 rfl) hx W.c_Search W.no_own_ends rfl) ev_int (st_of hE) (i := 0) rfl)) W.n_abs)) fun H1 x1 => q _ H1 x1 rfl)
/-- an option: additions, highest place, remainder there -/
abbrev Opt := Int × Int × Int
def costM (mv ad l p p' : Int) (o : Opt) : Int := o.1 * ad + mvsM l p p' o.2.1 * mv
def pr_cost (K : PySem.W.Frag) : Pre := fun vs H R => ∃ (x a : Addr) (b mv ad : Int) (fi la : Option Int) (p p' l t X0 : Int) (o : Opt), vs = [.ref x, .ref a] ∧ IsSrch K H x b mv ad fi la p p' l t X0 ∧ H a = some (.tup [.int o.1, .int o.2.1, .int o.2.2]) ∧ R = fun v _ => v = .int (costM mv ad l p p' o)
theorem m_cost (W : Wd K mg) : Met P w K mg base 3 (He.ga K "Search") "cost" (spR (pr_cost K)) [] :=
  met_mk W.F_Search_cost W.c_Search W.m_cost sc_Search_cost (fun vs H R ⟨_, _, _, _, _, _, _, _, _, _, _, _, _, e, _⟩ => by rw [e]; rfl) (by
    rintro cdv A outer s H vs Q E R hr ⟨x, a, b, mv, ad, fi, la, p, p', l, t, X0, o, rfl, hS, ha, rfl⟩ q
    obtain ⟨r, Ed, dx, ls, hx, hR, hE, hL⟩ := id hS
    obtain ⟨ro, rdx, hI⟩ := id hR
    have := ro.ad1; have := ro.ad2; have := ro.mv1; have := ro.mv2
    refine bl_ret (v := .int (costM mv ad l p p' o)) (ev_add (ev_mulS (i := o.1) (j := ad) (ev_ixT (ev_nm 1 rfl) ev_int (st_of ha) (i := 0) rfl) (ev_prop (p_add W) hr (ev_fld (ev_nm 0 rfl) hx W.c_Search W.no_own_row rfl) hI fun H1 x1 => ⟨r, b, mv, ad, fi, la, rfl, hR.ex x1, rfl⟩) (.inr ⟨by omega, by omega⟩))
      (ev_mulS (i := mvsM l p p' o.2.1) (j := mv) (ev_er (er_meth (m_moves W) hr (ev_nm 0 rfl) hx rfl (ear_ea (ea_cons' (v := .int o.2.1) (ev_ixT (ev_nm 1 rfl) ev_int (st_of ha) (i := 1) rfl) ea_nil')) fun vs H1 x1 ev => ⟨x, b, mv, ad, fi, la, p, p', l, t, X0, o.2.1, by rw [ev], hS.ex x1, rfl⟩)) (ev_prop (p_move W) hr (ev_fld (ev_nm 0 rfl) hx W.c_Search W.no_own_row rfl) hI fun H1 x1 => ⟨r, b, mv, ad, fi, la, rfl, hR.ex x1, rfl⟩) (.inr ⟨by omega, by omega⟩))) fun H1 x1 => q _ H1 x1 rfl)
end
end K27

/-! options, least_cost, distance, table_range, floors. -/
namespace K27
open PySem PySem.Spec PyProof.Rows L2 Evl C8
section
variable {X : Cx} {σ : L2.St} {H : Hp} {elt e a b : Expr} {ifs : List Expr} {z : Str} {scope : Scope} {pos p1 : Pos} {i : Nat} {tt : TT} {D : Ends} {rest : List Stmt}
theorem given_all (n : Nat) (v : Nat → V) : given n (fun _ => true) v = (List.range n).map v := by
  unfold given
  (rw [List.filter_eq_self.mpr (fun _ _ => rfl)])
/-- over a list that is found on the way -/
theorem er_lcL {S : List V → Hp → Prop} {R : List V → Prop} (he : ER X e σ H fun u H1 => ∃ p xs, u = .ref p ∧ SqL X.K H1 p xs ∧ S xs H1) (nd : X.N.Nodup)
    (hF : ∀ xs H1, Ex H H1 → S xs H1 → ∃ v : Nat → V, xs.length ≤ 40000 ∧ (∀ (j : Nat) (x : V), xs[j]? = some x → EVB X scope elt ((wipe σ [i]).set i (some x)) H1 (v j)) ∧ R ((List.range xs.length).map v))
    (ok : BlkOk X.N X.env.scope scope [(z, i)] := by exact blkOk_by (by kernel_rfl)) (hi : X.N[i]? = some z := by rfl) (hx : scope.names.lookup z = some .local := by rfl) (hc : X.calm = true := by rfl) (hs : ∀ x, foldedSetIterable e X.env x = pure x := by intro _; rfl) :
    ER X (.ListComp elt [⟨.Name z p1, e, [], 0⟩] scope pos) σ H fun u H2 => ∃ p ys, u = .ref p ∧ H p = none ∧ H2 p = some (.lst ys) ∧ R ys := fun H1 e1 Q q => to_wE (pe_lc hc nd (pi_list pe_w) ok (blk_nm nd hi hx) pb_no blk_e hs) (he H1 e1 _ fun u H2 e2 ⟨p, xs, ep, hS, s⟩ => by
  subst ep
  obtain ⟨v, hz, hv, hR⟩ := hF xs H2 (e1.trans e2) s
  exact ⟨p, rfl, ⟨xs, hS⟩, fun Dl hD => lc_list (xs := xs) (Cw H2 (fun _ => true) v Dl) ⟨hD, Ex.new hD, upd_same⟩ (fun j H' _ c => ex_l c.2.1 hS) (fun j x H' hj c => ⟨wipe1 x, cw_turn c (by have := (List.getElem?_eq_some_iff.mp hj).1; omega) ev_yes (fun hf => evb (hv j x hj))⟩)
    (fun H' c => q _ _ (e2.trans c.2.1) ⟨Dl, _, rfl, fresh_back (e1.trans e2) c.1, c.2.2, by rw [given_all]; exact hR⟩)⟩)
/-- z2 = [..] over a tuple -/
theorem bl_setLcT {xs : List V} {z2 : Str} {k : Nat} {py spos : Pos} (f : Nat → Bool) (v : Nat → V) (he : ER X e σ H fun u H1 => ∃ p, u = .ref p ∧ SqT X.K H1 p xs) (hz : xs.length ≤ 40000) (nd : X.N.Nodup) (hb : PB X scope ifs tt)
    (ht : ∀ (j : Nat) (x : V) H1, Ex H H1 → xs[j]? = some x → EvT tt ((wipe σ [i]).set i (some x)) H1 (f j)) (hv : ∀ (j : Nat) (x : V) H1, Ex H H1 → xs[j]? = some x → f j = true → EVB X scope elt ((wipe σ [i]).set i (some x)) H1 (v j))
    (kk : ∀ p H1, H p = none → Ex H H1 → H1 p = some (.lst (given xs.length f v)) → BL X rest D (σ.set k (some (.ref p))) H1)
    (ok : BlkOk X.N X.env.scope scope [(z, i)] := by exact blkOk_by (by kernel_rfl)) (hi : X.N[i]? = some z := by rfl) (hx : scope.names.lookup z = some .local := by rfl) (hc : X.calm = true := by rfl) (hs : ∀ x, foldedSetIterable e X.env x = pure x := by intro _; rfl)
    (hk : X.N[k]? = some z2 := by rfl) (hkl : X.env.scope.names.lookup z2 = some .local := by rfl) (hsw : swapsWith (.ListComp elt [⟨.Name z p1, e, ifs, 0⟩] scope pos) (some (.Name z2 py)) spos.line X.env = pure true := by exact sw_true rfl rfl rfl (by kernel_rfl)) :
    BL X (.Assign [.Name z2 py] (.ListComp elt [⟨.Name z p1, e, ifs, 0⟩] scope pos) spos :: rest) D σ H :=
  bl_st (ps_setLc hc nd hk hkl hsw (pi_tup pe_w) ok (blk_nm nd hi hx) hb blk_e hs) fun H1 e1 => he H1 e1 _ fun u H2 e2 ⟨p, ep, hS⟩ => by
    subst ep
    exact ⟨p, rfl, ⟨xs, hS⟩, fun Dl hD => lc_tup (xs := xs) (Cw H2 f v Dl) ⟨hD, Ex.new hD, upd_same⟩ (fun j H' _ c => ex_t c.2.1 hS) (fun j x H' hj c => ⟨wipe1 x, cw_turn c (by have := (List.getElem?_eq_some_iff.mp hj).1; omega) (ht j x H2 (e1.trans e2) hj) (fun hf => evb (hv j x H2 (e1.trans e2) hj hf))⟩)
      (fun H' c => ⟨H', Ex.refl _, kk Dl H' (fresh_back (e1.trans e2) c.1) ((e1.trans e2).trans c.2.1) c.2.2⟩)⟩
theorem bl_setLcR2 {l n : Int} {p p2 : Pos} {z2 : Str} {k : Nat} {py spos : Pos} (f : Nat → Bool) (v : Nat → V) (ha : EV X a σ H (.int l)) (hb2 : EV X b σ H (.int n)) (hn : -100000 ≤ l ∧ n ≤ 100000 ∧ -100000 ≤ n ∧ l ≤ 100000 ∧ n - l ≤ 40000) (hm : X.mg "range" = none) (nd : X.N.Nodup) (hb : PB X scope ifs tt)
    (ht : ∀ (j : Nat) H1, Ex H H1 → l + (j : Int) < n → EvT tt ((wipe σ [i]).set i (some (.int (l + (j : Int))))) H1 (f j)) (hv : ∀ (j : Nat) H1, Ex H H1 → l + (j : Int) < n → f j = true → EVB X scope elt ((wipe σ [i]).set i (some (.int (l + (j : Int))))) H1 (v j))
    (kk : ∀ p H1, H p = none → Ex H H1 → H1 p = some (.lst (given (n - l).toNat f v)) → BL X rest D (σ.set k (some (.ref p))) H1)
    (ok : BlkOk X.N X.env.scope scope [(z, i)] := by exact blkOk_by (by kernel_rfl)) (hi : X.N[i]? = some z := by rfl) (hx : scope.names.lookup z = some .local := by rfl) (hc : X.calm = true := by rfl) (hg : Gl X "range" := by rfl)
    (hst : starEach [a, b] X.env = [(false, eval a X.env), (false, eval b X.env)] := by rfl) (hst2 : starEach [b] X.env = [(false, eval b X.env)] := by rfl)
    (hs : ∀ x, foldedSetIterable (.Call (.Name "range" p) [a, b] [] p2) X.env x = pure x := by intro _; rfl)
    (hk : X.N[k]? = some z2 := by rfl) (hkl : X.env.scope.names.lookup z2 = some .local := by rfl) (hsw : swapsWith (.ListComp elt [⟨.Name z p1, .Call (.Name "range" p) [a, b] [] p2, ifs, 0⟩] scope pos) (some (.Name z2 py)) spos.line X.env = pure true := by exact sw_true rfl rfl rfl (by kernel_rfl)) :
    BL X (.Assign [.Name z2 py] (.ListComp elt [⟨.Name z p1, .Call (.Name "range" p) [a, b] [] p2, ifs, 0⟩] scope pos) spos :: rest) D σ H :=
  bl_st (ps_setLc hc nd hk hkl hsw (pi_range2 hg hm pa_w hst hst2) ok (blk_nm nd hi hx) hb blk_e hs) fun H1 e1 => (ea_cons' ha (ea_cons' hb2 ea_nil' hst2) (hst.trans (congrArg _ hst2.symm))) H1 e1 _ fun H2 e2 =>
    ⟨l, n, rfl, by omega, fun Dl hD => lc_range (lo := l) (n := (n - l).toNat) (Cw H2 f v Dl) ⟨hD, Ex.new hD, upd_same⟩ (fun j H' hj c => ⟨wipe1 _, cw_turn c (by omega) (ht j H2 (e1.trans e2) (by omega)) (fun hf => evb (hv j H2 (e1.trans e2) (by omega) hf))⟩)
      (fun H' c => ⟨H', Ex.refl _, kk Dl H' (fresh_back (e1.trans e2) c.1) ((e1.trans e2).trans c.2.1) c.2.2⟩)⟩
end
section
variable {base : Heap} {mg : Str → Option Value} {K : PySem.W.Frag} {w : World} {P : Program}
def OptRel (H : Hp) (ts : List Addr) (L : List Opt) : Prop := Paired (fun (t : Addr) (o : Opt) => H t = some (.tup [.int o.1, .int o.2.1, .int o.2.2])) ts L
theorem OptRel.mono {H H' : Hp} {ts : List Addr} {L : List Opt} (e : Ex H H') (h : OptRel H ts L) : OptRel H' ts L := Paired.mapP h fun _ _ z => e _ _ z
theorem OptRel.upd {H : Hp} {ts : List Addr} {L : List Opt} {a : Addr} {o : HO} (ha : ∀ vs, H a ≠ some (.tup vs)) (h : OptRel H ts L) : OptRel (L2.upd H a o) ts L := Paired.mapP h fun t u z => by
  rw [upd_ne fun y => ha _ (y ▸ z)]; exact z
def optsAt (b X0 l h : Int) : List Opt := (layM b X0 (h - l).toNat).map fun q => (q.2 + (q.1.natAbs : Int), h, q.1)
def optN (b X0 l m : Int) : Nat → List Opt
  | 0 => []
  | i + 1 => optN b X0 l m i ++ optsAt b X0 l (m + i)
theorem optN_len {b X0 l m : Int} (hb : 2 ≤ b) (i : Nat) : (optN b X0 l m i).length ≤ 2 * i := by
  induction i with
  | zero => simp [optN]
  | succ i ih =>
    have h := layM_len (X := X0) hb (m + i - l).toNat
    simp only [optN, optsAt, List.length_append, List.length_map]
    omega
def pr_options (K : PySem.W.Frag) : Pre := fun vs H R => ∃ (x : Addr) (b mv ad : Int) (fi la : Option Int) (p p' l t X0 : Int), vs = [.ref x] ∧ IsSrch K H x b mv ad fi la p p' l t X0 ∧ l ≤ max p p' ∧ -1000 ≤ l ∧ t ≤ 1000 ∧ max p p' ≤ t ∧ R = fun v H' => ∃ f ts, v = .ref f ∧ H' f = some (.lst (ts.map V.ref)) ∧ OptRel H' ts (optN b X0 l (max p p') (t + 1 - max p p').toNat)
theorem m_options (W : Wd K mg) : Met P w K mg base 1 (He.ga K "Search") "options" (spR (pr_options K)) [] :=
  met_mk W.F_Search_options W.c_Search W.m_options sc_Search_options (fun vs H R ⟨_, _, _, _, _, _, _, _, _, _, _, e, _⟩ => by rw [e]; rfl) (by
    rintro cdv A outer s H vs Q E R hr ⟨x, b, mv, ad, fi, la, p, p', l, t, X0, rfl, ⟨r, Ed, dx, ls, hx, hR, hE, hL⟩, c1, c2, c3, c4, rfl⟩ q
    have b2 := hR.1.b2
    refine bl_setN 1 sc_Search_options.nd (en_lst ea_nil') fun fp H1 hfp x1 h1 => ?_
    refine bl_forR2 (l := max p p') (n := t + 1) (fun i σ' H' => ∃ y2 y3 y4, σ' = [some (.ref x), some (.ref fp), y2, y3, y4] ∧ Ex H H' ∧ ∃ ts : List Addr, H' fp = some (.lst (ts.map V.ref)) ∧ OptRel H' ts (optN b X0 l (max p p') i)) (ev_cbB (cr_max2T rfl hr.units) W.n_max boot_max (ea_cons' (ev_fld (ev_nm 0 rfl) (x1 _ _ hx) W.c_Search W.no_own_ends rfl) ea_nil') fun H2 x2 Q q => ⟨Ed, p, p', rfl, st_of (x2 _ _ (x1 _ _ hE)), q H2 (Ex.refl _)⟩) (ev_add (ev_fld (ev_nm 0 rfl) (x1 _ _ hx) W.c_Search W.no_own_top rfl) ev_int) (by omega) W.n_range ⟨none, none, none, rfl, x1, [], h1, .nil⟩ ?_ ?_
    · rintro i σ' H' hi ⟨y2, y3, y4, rfl, x2, ts, hf, hO⟩
      refine ⟨_, gt_nm 2 sc_Search_options.nd, ?_⟩
      obtain ⟨ds, d, hls, hdj, hlay⟩ := lays_at (hL.ex x2) (j := (max p p' + i - l).toNat) (by omega)
      obtain ⟨kvs, hd, hrel⟩ := hlay
      have nfd : fp ≠ d := ne_of hf hd (by intro z; cases z)
      have nxd : x ≠ d := ne_of (x2 _ _ hx) hd (by intro z; cases z)
      have nld : ls ≠ d := ne_of hls hd (by intro z; cases z)
      refine bl_forI hd (fun od => ?_) (fun od j σ2 H2 => ∃ z3 z4, σ2 = [some (.ref x), some (.ref fp), some (.int (max p p' + i)), z3, z4] ∧ Ex (upd H' d (.frz od (.dK kvs))) (upd H2 fp (.lst (ts.map V.ref))) ∧ H2 d = some (.frz od (.dK kvs)) ∧ (∀ b o, b ≠ fp → upd H' d (.frz od (.dK kvs)) b = some o → H2 b = some o) ∧ ∃ ts', H2 fp = some (.lst (ts'.map V.ref)) ∧ OptRel H2 ts' (optN b X0 l (max p p') i ++ ((layM b X0 (max p p' + i - l).toNat).take j).map fun q => (q.2 + (q.1.natAbs : Int), max p p' + i, q.1)))
        (fun od => ⟨y3, y4, rfl, ?_, upd_same, fun _ _ _ z => z, ts, by rw [upd_ne nfd]; exact hf, by
          rw [List.take_zero, List.map_nil, List.append_nil]
          exact OptRel.upd (fun vs z => by rw [hd] at z; cases z) hO⟩) (fun od j σ2 H2 ⟨_, _, _, _, h, _⟩ => h) ?_ ?_
      · refine ev_ixL (i := (((max p p' + i - l).toNat : Nat) : Int)) (ev_fld (ev_nm 0 rfl) (by rw [upd_ne nxd]; exact x2 _ _ hx) W.c_Search W.no_own_layers rfl) (ev_to (ev_sub (ev_nm 2 rfl) (ev_fld (ev_nm 0 rfl) (by rw [upd_ne nxd]; exact x2 _ _ hx) W.c_Search W.no_own_low rfl)) (by rw [Int.toNat_of_nonneg (by omega)])) (sq_of (by rw [upd_ne nld]; exact hls)) (atI_nat hdj)
      · intro b' o' hb'
        by_cases e : b' = fp
        · subst e; rw [upd_ne nfd] at hb'; rw [upd_same, ← hb']; exact hf.symm
        · rw [upd_ne e]; exact hb'
      · rintro od j k v T σ2 H2 hkv ⟨z3, z4, rfl, _, h2d, h2a, ts', hf2, hO2⟩ H3 x3 hT
        obtain ⟨⟨qv, qc⟩, hq, hk, t0, tx, ty, hv, ht⟩ := paired_get hrel hkv
        subst hk hv
        have ht2 : H2 t0 = some (.tup [.int qc, tx, ty]) := h2a t0 _ (fun z => by rw [z, hf] at ht; cases ht) (by rw [upd_ne fun z => by rw [z, hd] at ht; cases ht]; exact ht)
        refine ⟨_, gt_tup (st_of hT) (gts_cons (gt_nm 3 sc_Search_options.nd) (gts_cons (gt_nm 4 sc_Search_options.nd) gts_nil)), ?_⟩
        have hlen : (ts'.map V.ref).length < 100000 := by
          have e1 := Paired.length hO2
          have e2 := optN_len (X0 := X0) (l := l) (m := max p p') b2 i
          have e3 := layM_len (X := X0) b2 (max p p' + i - l).toNat
          have e4 : ((layM b X0 (max p p' + i - l).toNat).take j).length ≤ 2 := Nat.le_trans (List.length_take_le _ _) (by
            have := (List.getElem?_eq_some_iff.mp hq).1
            omega)
          simp only [List.length_append, List.length_map] at e1 ⊢
          omega
        refine bl_appR (ev_nm 1 rfl) (x3 _ _ hf2) (er_en (en_tup (ea_cons' (ev_add (i := qc) (ev_ixT (ev_nm 4 rfl) ev_int (st_of (x3 _ _ ht2)) (i := 0) rfl) (ev_abs (i := qv) (ev_nm 3 rfl) W.n_abs)) (ea_cons' (ev_nm 2 rfl) (ea_cons' (v := .int qv) (ev_nm 3 rfl) ea_nil'))))) hlen ?_
        rintro u H4 x4 ⟨tn, rfl, _, htn⟩
        have hf4 : H4 fp = some (.lst (ts'.map V.ref)) := x4 _ _ (x3 _ _ hf2)
        have nfd2 : d ≠ fp := nfd.symm
        refine bl_nil rfl ⟨_, _, rfl, ?_, by rw [upd_ne nfd2]; exact x4 _ _ (x3 _ _ h2d), fun b' o' hb' ho' => by rw [upd_ne hb']; exact x4 _ _ (x3 _ _ (h2a b' o' hb' ho')), ts' ++ [tn], by rw [upd_same, List.map_append]; rfl, ?_⟩
        · intro b' o' hb'
          rw [upd_upd]
          by_cases e : b' = fp
          · subst e; rw [upd_ne nfd] at hb'; rw [upd_same, ← hb']; exact hf.symm
          · rw [upd_ne e]; exact x4 _ _ (x3 _ _ (h2a b' o' e hb'))
        · refine OptRel.upd (fun vs z => by rw [hf4] at z; cases z) ?_
          rw [List.take_succ, hq, List.map_append, ← List.append_assoc]
          exact Paired.snoc (OptRel.mono (x3.trans x4) hO2) htn
      · rintro od σ2 H2 ⟨z3, z4, rfl, _, h2d, h2a, ts', hf2, hO2⟩
        refine bl_nil rfl ⟨_, _, _, rfl, fun b' o' hb' => ?_, ts', by rw [upd_ne nfd]; exact hf2, ?_⟩
        · have hb2 := x2 _ _ hb'
          by_cases e : b' = d
          · subst e; rw [upd_same]; rw [hd] at hb2; exact hb2
          · rw [upd_ne e]
            exact h2a b' o' (fun z => by rw [z, hfp] at hb'; cases hb') (by rw [upd_ne e]; exact hb2)
        · refine OptRel.upd (fun vs z => by rw [h2d] at z; cases z) ?_
          rw [hrel.len, List.take_length] at hO2
          exact hO2
    · rintro σ' H' ⟨y2, y3, y4, rfl, x2, ts, hf, hO⟩
      exact bl_ret (v := .ref fp) (ev_nm 1 rfl) fun H2 x3 => q _ H2 (x2.trans x3) ⟨fp, ts, rfl, x3 _ _ hf, hO.mono x3⟩)
end
end K27

/-! least_cost, distance, table_range, floors, make_table. -/
namespace K27
open PySem PySem.Spec PyProof.Rows L2 Evl C8
section
variable {base : Heap} {mg : Str → Option Value} {K : PySem.W.Frag} {w : World} {P : Program}
/-- Search(row, start, goal) -/
theorem er_search (W : Wd K mg) {X : Cx} {σ : L2.St} {H : Hp} {e1 e2 e3 : Expr} {pos p1 : Pos} {j : Nat} {r a a' : Addr} {b mv ad : Int} {fi la : Option Int} {p p' n e : Int} (hK : X.K = K) (hm : X.mg = mg) (hr : Room j X.A) (hj : 7 ≤ j) (ha : EA X [e1, e2, e3] σ H [.ref r, .ref a, .ref a']) (T : Two K H r a a' b mv ad fi la p p' n e) (hg : Gl X "Search" := by rfl)
    (he : starEach [e1, e2, e3] X.env = (false, eval e1 X.env) :: starEach [e2, e3] X.env := by rfl) (hpl : (backTo pos (starEach [e2, e3] X.env)).any (·.1) = false := by rfl) :
    ER X (.Call (.Name "Search" p1) [e1, e2, e3] [] pos) σ H fun u H2 => ∃ x l t, u = .ref x ∧ SpanIs b la p p' n e l t ∧ IsSrch K H2 x b mv ad fi la p p' l t (atP b n e l) := fun H1 x1 Q q => by
  subst hK hm
  obtain ⟨fd, F, bd⟩ := W.F_Search_init
  have M : Mak X.prog X.w X.K X.mg X.base 6 "Search" (He.ga X.K "Search") (spSearch X.K) [] := ⟨_, fd, _, [], W.mk_Search, ok_search W F, W.g_Search, bd, .nil⟩
  refine to_wE (pe_mk M hr (Nat.le_trans (by decide) hj) hg pa_w (by decide) he hpl) (ha H1 x1 _ fun H2 x2 x dx hx hdx hne => ?_)
  have e0 : Ex H2 (upd (upd H2 dx (.own x)) x (.ins (He.ga X.K "Search") dx [])) := (Ex.new hdx).trans (Ex.new (by rw [upd_ne hne.symm]; exact hx))
  exact ⟨H2, x, dx, r, a, a', b, mv, ad, fi, la, p, p', n, e, rfl, e0, hx, upd_same, T.exx (x1.trans x2), fun H' x3 ⟨l, t, h1, h2⟩ => ⟨rfl, q _ _ (x2.trans x3) ⟨x, l, t, rfl, h1, h2⟩⟩⟩
def LeastOf (m : Int) (ns : List Int) : Prop := m ∈ ns ∧ ∀ y ∈ ns, m ≤ y
/-- the costs of all options -/
def costsN (b mv ad p p' n e l t : Int) : List Int := (optN b (atP b n e l) l (max p p') (t + 1 - max p p').toNat).map (costM mv ad l p p')
def nthV {α : Type} (L : List α) (f : α → V) (j : Nat) : V := (L[j]?).elim .non f
theorem nthV_at {α : Type} {L : List α} {f : α → V} {j : Nat} {o : α} (h : L[j]? = some o) : nthV L f j = f o := by unfold nthV; rw [h]; rfl
theorem range_map {α : Type} (L : List α) (f : α → V) : (List.range L.length).map (nthV L f) = L.map f := by
  apply List.ext_getElem
  · simp
  · intro i h1 h2
    have h3 : i < L.length := by simpa using h2
    simp only [List.getElem_map, List.getElem_range]
    exact nthV_at (List.getElem?_eq_getElem h3)
theorem span_bounds {b mv ad : Int} {fi la : Option Int} {p p' n e l t : Int} {K : PySem.W.Frag} {H : Hp} {r a a' : Addr} (T : Two K H r a a' b mv ad fi la p p' n e) (S : SpanIs b la p p' n e l t) : l ≤ min p p' ∧ -300 ≤ l ∧ t ≤ 1000 ∧ max p p' ≤ t ∧ t ≤ hiR la ∧ loR fi ≤ l ∧ l ≤ max p p' := by
  obtain ⟨hl, hT⟩ := S
  obtain ⟨g1, g2, g3, g4, g5, g6⟩ := T.sm
  obtain ⟨m1, m2, m3, m4⟩ := T.lo
  have k := hi_le T.row.1
  have h1 : l ≤ min p p' := by rw [hl]; exact low_le
  refine ⟨h1, ?_, Int.le_trans hT.le k.2.1, hT.ge, hT.le, ?_, by omega⟩
  · rw [hl]; exact low_ge (by omega) (by omega) (fun _ => by omega)
  · rw [hl]; exact low_ge m1 m3 T.ex
def pr_least (K : PySem.W.Frag) : Pre := fun vs H R => ∃ (r a a' : Addr) (b mv ad : Int) (fi la : Option Int) (p p' n e : Int), vs = [.ref r, .ref a, .ref a'] ∧ Two K H r a a' b mv ad fi la p p' n e ∧ R = fun v H' => ∃ m l t, v = .int m ∧ SpanIs b la p p' n e l t ∧ LeastOf m (costsN b mv ad p p' n e l t)
theorem optN_ne {b X0 l m : Int} (hb : 2 ≤ b) {i : Nat} (hi : 0 < i) : 0 < (optN b X0 l m i).length := by
  cases i with
  | zero => omega
  | succ i =>
    simp only [optN, optsAt, List.length_append, List.length_map]
    rcases layM_shape (X := X0) hb (m + i - l).toNat with ⟨f, e⟩ | ⟨f, g, e⟩ <;> rw [e] <;> simp
theorem c_least_cost (W : Wd K mg) : Cal P w K mg base 8 "least_cost" (spR (pr_least K)) [] :=
  cal_mk W.F_least_cost W.g_least_cost sc_least_cost (fun vs H R ⟨_, _, _, _, _, _, _, _, _, _, _, _, e, _⟩ => by rw [e]; rfl) (by
    rintro cdv A outer s H vs Q E R hr ⟨r, a, a', b, mv, ad, fi, la, p, p', n, e, rfl, T, rfl⟩ q
    have b2 := T.row.1.b2
    refine bl_setR 3 sc_least_cost.nd (er_search W rfl rfl hr (by decide) (ea_cons' (ev_nm 0 rfl) (ea_cons' (ev_nm 1 rfl) (ea_cons' (ev_nm 2 rfl) ea_nil'))) T) fun v H1 x1 ⟨x, l, t, ev, hSp, hS⟩ => ?_
    subst ev
    obtain ⟨c1, c2, c3, c4, c5, c6, c7⟩ := span_bounds T hSp
    obtain ⟨rr, Ed, dx, ls, hx, _⟩ := id hS
    refine bl_retR (er_cbB (Ra := fun vs H3 => ∃ pp, vs = [V.ref pp] ∧ H3 pp = some (.lst ((costsN b mv ad p p' n e l t).map V.int))) (cr_min rfl) W.n_min boot_min (ear_cons (er_lcL (i := 4) (S := fun xs H2 => ∃ ts : List Addr, xs = ts.map V.ref ∧ OptRel H2 ts (optN b (atP b n e l) l (max p p') (t + 1 - max p p').toNat)) (R := fun ys => ys = (costsN b mv ad p p' n e l t).map V.int)
      ((er_meth0 (m_options W) hr (ev_nm 3 rfl) hx rfl fun H2 x2 => ⟨x, b, mv, ad, fi, la, p, p', l, t, _, rfl, hS.ex x2, c7, by omega, c3, c4, rfl⟩).imp fun u H2 x2 ⟨f, ts, eu, hf, hO⟩ => ⟨f, _, eu, sq_of hf, ts, rfl, hO⟩) sc_least_cost.nd ?_) fun u H2 x2 r => ear_nil fun H3 x3 => by
        obtain ⟨pp, ys, eu, _, hp, hy⟩ := r
        exact ⟨pp, by rw [eu], hy ▸ x3 _ _ hp⟩) (R := fun v _ => ∃ m, v = .int m ∧ LeastOf m (costsN b mv ad p p' n e l t)) fun vs H2 x2 ⟨pp, evs, hp⟩ Q q => ⟨pp, _, evs, sq_of hp, ?_, fun m h1 h2 => q _ H2 (Ex.refl _) ⟨m, rfl, h1, h2⟩⟩) fun v H2 x2 ⟨m, ev, hm⟩ => q v H2 (x1.trans x2) ⟨m, l, t, ev, hSp, hm⟩
    · rintro xs H2 x2 ⟨ts, rfl, hO⟩
      refine ⟨nthV (optN b (atP b n e l) l (max p p') (t + 1 - max p p').toNat) (fun o => .int (costM mv ad l p p' o)), ?_, fun j y hy s0 H0 C cl fp => ?_, ?_⟩
      · rw [List.length_map, Paired.length hO]
        have := optN_len (X0 := atP b n e l) (l := l) (m := max p p') b2 (t + 1 - max p p').toNat
        omega
      · obtain ⟨tt, htt, rfl⟩ : ∃ tt, ts[j]? = some tt ∧ y = V.ref tt := by
          rw [List.getElem?_map] at hy
          cases e : ts[j]? with
          | none => rw [e] at hy; cases hy
          | some u => rw [e] at hy; exact ⟨u, rfl, (Option.some.inj hy).symm⟩
        obtain ⟨o, ho, hto⟩ := paired_get hO htt
        refine ev_to ?_ (nthV_at ho).symm
        exact ev_er (er_meth (m_cost W) hr (ev_nm 3 rfl) (x2 _ _ hx) rfl (ear_ea (ea_cons' (ev_nm 4 rfl) ea_nil')) fun vs H3 x3 evs => ⟨x, tt, b, mv, ad, fi, la, p, p', l, t, _, o, by rw [evs], hS.ex (x2.trans x3), x3 _ _ hto, rfl⟩)
      · rw [List.length_map, Paired.length hO, range_map]
        unfold costsN
        rw [List.map_map]
        rfl
    · unfold costsN
      rw [List.length_map]
      exact optN_ne b2 (by omega))
theorem c_distance (W : Wd K mg) : Cal P w K mg base 9 "distance" (spR (pr_least K)) [] :=
  cal_mk W.F_distance W.g_distance sc_distance (fun vs H R ⟨_, _, _, _, _, _, _, _, _, _, _, _, e, _⟩ => by rw [e]; rfl) (by
    rintro cdv A outer s H vs Q E R hr ⟨r, a, a', b, mv, ad, fi, la, p, p', n, e, rfl, T, rfl⟩ q
    obtain ⟨n0, e0, n1, e1, h0, h1, hd, o0, o1⟩ := T.st
    refine bl_exprR (er_call1 (c_require_ends W) hr (ea_cons' (ev_nm 0 rfl) (ea_cons' (ev_nm 1 rfl) (ea_cons' (ev_nm 2 rfl) ea_nil'))) fun H1 x1 => ⟨r, a, a', b, mv, ad, fi, la, n0, e0, p, n1, e1, p', rfl, T.row.ex x1, h0.ex x1, o0, h1.ex x1, o1, rfl⟩) fun v H1 x1 _ => ?_
    exact bl_retR (er_call1 (c_least_cost W) hr (ea_cons' (ev_nm 0 rfl) (ea_cons' (ev_nm 1 rfl) (ea_cons' (ev_nm 2 rfl) ea_nil'))) fun H2 x2 => ⟨r, a, a', b, mv, ad, fi, la, p, p', n, e, rfl, T.exx (x1.trans x2), rfl⟩) fun v H2 x2 hR => q v H2 (x1.trans x2) hR)
theorem c_table_range (W : Wd K mg) : Cal P w K mg base 7 "table_range" (spR (pr_span K)) [] :=
  cal_mk W.F_table_range W.g_table_range sc_table_range (fun vs H R ⟨_, _, _, _, _, _, _, _, _, _, _, _, e, _⟩ => by rw [e]; rfl) (by
    rintro cdv A outer s H vs Q E R hr ⟨r, a, a', b, mv, ad, fi, la, p, p', n, e, rfl, T, rfl⟩ q
    obtain ⟨n0, e0, n1, e1, h0, h1, hd, o0, o1⟩ := T.st
    refine bl_exprR (er_call1 (c_require_ends W) hr (ea_cons' (ev_nm 0 rfl) (ea_cons' (ev_nm 1 rfl) (ea_cons' (ev_nm 2 rfl) ea_nil'))) fun H1 x1 => ⟨r, a, a', b, mv, ad, fi, la, n0, e0, p, n1, e1, p', rfl, T.row.ex x1, h0.ex x1, o0, h1.ex x1, o1, rfl⟩) fun v H1 x1 _ => ?_
    exact bl_retR (er_call1 (c_span W) hr (ea_cons' (ev_nm 0 rfl) (ea_cons' (ev_nm 1 rfl) (ea_cons' (ev_nm 2 rfl) ea_nil'))) fun H2 x2 => ⟨r, a, a', b, mv, ad, fi, la, p, p', n, e, rfl, T.exx (x1.trans x2), rfl⟩) fun v H2 x2 hR => q v H2 (x1.trans x2) hR)
/-- the floors at the places of a table -/
def flosV (b n e l : Int) (k : Nat) : List Int := (List.range k).map fun (j : Nat) => flo b n e (l + (j : Int))
def pr_floors (K : PySem.W.Frag) : Pre := fun vs H R => ∃ (r a a' : Addr) (b mv ad : Int) (fi la : Option Int) (p p' n e : Int), vs = [.ref r, .ref a, .ref a'] ∧ Two K H r a a' b mv ad fi la p p' n e ∧ R = fun v H' => ∃ pp l t, v = .ref pp ∧ SpanIs b la p p' n e l t ∧ H' pp = some (.lst ((flosV b n e l (t + 1 - l).toNat).map V.int))
theorem c_floors (W : Wd K mg) : Cal P w K mg base 6 "floors" (spR (pr_floors K)) [] :=
  cal_mk W.F_floors W.g_floors sc_floors (fun vs H R ⟨_, _, _, _, _, _, _, _, _, _, _, _, e, _⟩ => by rw [e]; rfl) (by
    rintro cdv A outer s H vs Q E R hr ⟨r, a, a', b, mv, ad, fi, la, p, p', n, e, rfl, T, rfl⟩ q
    obtain ⟨ro, rdx, hI⟩ := id T.row
    refine bl_setR 3 sc_floors.nd (er_call1 (c_difference W) hr (ea_cons' (ev_nm 0 rfl) (ea_cons' (ev_nm 1 rfl) (ea_cons' (ev_nm 2 rfl) ea_nil'))) fun H1 x1 => ⟨r, a, a', b, mv, ad, fi, la, p, p', n, e, rfl, T.exx x1, rfl⟩) fun v H1 x1 ⟨pn, ev, hn⟩ => ?_
    subst ev
    refine bl_unp (er_call1 (c_span W) hr (ea_cons' (ev_nm 0 rfl) (ea_cons' (ev_nm 1 rfl) (ea_cons' (ev_nm 2 rfl) ea_nil'))) fun H2 x2 => ⟨r, a, a', b, mv, ad, fi, la, p, p', n, e, rfl, T.exx (x1.trans x2), rfl⟩) fun v H2 x2 ⟨l, t, ⟨pp, ev, hpp⟩, hSp⟩ => ?_
    subst ev
    obtain ⟨c1, c2, c3, c4, c5, c6, c7⟩ := span_bounds T hSp
    refine ⟨_, gt_tup (st_of hpp) (gts_cons (gt_nm 4 sc_floors.nd) (gts_cons (gt_nm 5 sc_floors.nd) gts_nil)), ?_⟩
    refine bl_retR (er_en (en_lcR2 (l := l) (n := t + 1) (i := 6) (fun _ => true) (fun j => .int (flo b n e (l + (j : Int)))) (ev_nm 4 rfl) (ev_add (ev_nm 5 rfl) ev_int) (by omega) W.n_range sc_floors.nd pb_no (fun j H3 x3 hj => ev_yes) fun j H3 x3 hj _ s0 H0 C cl fp =>
      ev_call1 (c_floor_of W) hr (ea_cons' (v := .int b) (ev_prop (p_base W) hr (ev_nm 0 rfl) (((x1.trans x2).trans x3) _ _ hI) fun H4 x4 => ⟨r, b, mv, ad, fi, la, rfl, T.row.ex (((x1.trans x2).trans x3).trans x4), rfl⟩) (ea_cons' (ev_nm 3 rfl) (ea_cons' (ev_nm 6 rfl) ea_nil'))) fun H4 x4 => ⟨b, n, e, l + (j : Int), pn, rfl, ((x2.trans x3).trans x4) _ _ hn, ro.b2, ro.b6, T.nm.2.2.1, T.sm.1, by have := T.sm; omega, by omega, by omega, rfl⟩)) fun v H3 x3 ⟨pq, ev, _, hq⟩ => q v H3 ((x1.trans x2).trans x3) ⟨pq, l, t, ev, hSp, ?_⟩
    rw [hq, given_all]
    unfold flosV
    rw [List.map_map]
    rfl)
end
end K27

/-! make_table. -/
namespace K27
open PySem PySem.Spec PyProof.Rows L2 Evl C8
abbrev Ent := Option Int × Option Int
def TabRel (H : Hp) (ts : List Addr) (T : List Ent) : Prop := Paired (fun (t : Addr) (r : Ent) => H t = some (.tup [oV r.1, oV r.2])) ts T
theorem TabRel.mono {H H' : Hp} {ts : List Addr} {T : List Ent} (e : Ex H H') (h : TabRel H ts T) : TabRel H' ts T := Paired.mapP h fun _ _ z => e _ _ z
theorem TabRel.upd {H : Hp} {ts : List Addr} {T : List Ent} {a : Addr} {o : HO} (ha : ∀ vs, H a ≠ some (.tup vs)) (h : TabRel H ts T) : TabRel (L2.upd H a o) ts T := Paired.mapP h fun t u z => by
  rw [upd_ne fun y => ha _ (y ▸ z)]; exact z
/-- a table of the program's form -/
def IsTab (H : Hp) (a : Addr) (T : List Ent) : Prop := ∃ ts : List Addr, H a = some (.lst (ts.map V.ref)) ∧ TabRel H ts T
theorem IsTab.ex {H H' : Hp} {a : Addr} {T : List Ent} (e : Ex H H') (h : IsTab H a T) : IsTab H' a T := let ⟨ts, h1, h2⟩ := h; ⟨ts, e _ _ h1, h2.mono e⟩
def mulO (ad : Int) (o : Option Int) : Option Int := o.map (· * ad)
def entT (b ad n e l : Int) (j : Nat) : Ent := (mulO ad (lkM (layM b (atP b n e l) j) (flo b n e (l + (j : Int)))), mulO ad (lkM (layM b (atP b n e l) j) (flo b n e (l + (j : Int)) + 1)))
def makeT (b ad n e l : Int) (k : Nat) : List Ent := (List.range k).map (entT b ad n e l)
section
variable {base : Heap} {mg : Str → Option Value} {K : PySem.W.Frag} {w : World} {P : Program}
def pr_make_table (K : PySem.W.Frag) : Pre := fun vs H R => ∃ (r a a' : Addr) (b mv ad : Int) (fi la : Option Int) (p p' n e : Int), vs = [.ref r, .ref a, .ref a'] ∧ Two K H r a a' b mv ad fi la p p' n e ∧ R = fun v H' => ∃ pp l t, v = .ref pp ∧ SpanIs b la p p' n e l t ∧ IsTab H' pp (makeT b ad n e l (t + 1 - l).toNat)
theorem span_uniq {b : Int} {la : Option Int} {p p' n e l t l' t' : Int} (h : SpanIs b la p p' n e l t) (h' : SpanIs b la p p' n e l' t') : l = l' ∧ t = t' := ⟨h.1.trans h'.1.symm, h.2.uniq h'.2⟩
theorem given2 (v : Nat → V) : given 2 (fun _ => true) v = [v 0, v 1] := by rw [given_all]; rfl
theorem c_make_table (W : Wd K mg) : Cal P w K mg base 8 "make_table" (spR (pr_make_table K)) [] :=
  cal_mk W.F_make_table W.g_make_table sc_make_table (fun vs H R ⟨_, _, _, _, _, _, _, _, _, _, _, _, e, _⟩ => by rw [e]; rfl) (by
    rintro cdv A outer s H vs Q E R hr ⟨r, a, a', b, mv, ad, fi, la, p, p', n, e, rfl, T, rfl⟩ q
    obtain ⟨n0, e0, n1, e1, h0, h1, hd, o0, o1⟩ := T.st
    have b2 := T.row.1.b2
    obtain ⟨ro, rdx, hI⟩ := id T.row
    have ad1 := ro.ad1
    have ad2 := ro.ad2
    refine bl_exprR (er_call1 (c_require_ends W) hr (ea_cons' (ev_nm 0 rfl) (ea_cons' (ev_nm 1 rfl) (ea_cons' (ev_nm 2 rfl) ea_nil'))) fun H1 x1 => ⟨r, a, a', b, mv, ad, fi, la, n0, e0, p, n1, e1, p', rfl, T.row.ex x1, h0.ex x1, o0, h1.ex x1, o1, rfl⟩) fun v H1 x1 _ => ?_
    refine bl_setR 3 sc_make_table.nd (er_search W rfl rfl hr (by decide) (ea_cons' (ev_nm 0 rfl) (ea_cons' (ev_nm 1 rfl) (ea_cons' (ev_nm 2 rfl) ea_nil'))) (T.exx x1)) fun v H2 x2 ⟨x, l, t, ev, hSp, hS⟩ => ?_
    subst ev
    obtain ⟨c1, c2, c3, c4, c5, c6, c7⟩ := span_bounds T hSp
    obtain ⟨rr, Ed, dx, ls, hx, _⟩ := id hS
    refine bl_unp (er_meth0 (m_places W) hr (ev_nm 3 rfl) hx rfl fun H3 x3 => ⟨x, b, mv, ad, fi, la, p, p', l, t, _, rfl, hS.ex x3, rfl⟩) fun v H3 x3 ⟨pp, ev, hpp⟩ => ?_
    subst ev
    refine ⟨_, gt_tup (st_of hpp) (gts_cons (gt_nm 4 sc_make_table.nd) (gts_cons (gt_nm 5 sc_make_table.nd) gts_nil)), ?_⟩
    refine bl_setN 6 sc_make_table.nd (en_lst ea_nil') fun rp H4 hrp x4 h4 => ?_
    have y4 : Ex H H4 := ((x1.trans x2).trans x3).trans x4
    have hS4 := hS.ex (x3.trans x4)
    refine bl_forE (er_call1 (c_floors W) hr (ea_cons' (ev_nm 0 rfl) (ea_cons' (ev_nm 1 rfl) (ea_cons' (ev_nm 2 rfl) ea_nil'))) fun H5 x5 => ⟨r, a, a', b, mv, ad, fi, la, p, p', n, e, rfl, T.exx (y4.trans x5), rfl⟩) W.n_enumerate fun u H5 x5 ⟨pf, l', t', eu, hSp', hpf⟩ => ?_
    obtain ⟨rfl, rfl⟩ := span_uniq hSp hSp'
    have hrp3 : H3 rp = none := hrp
    have npf : pf ≠ rp := ne_of hpf (x5 _ _ h4) (by
      intro z
      have z2 : (flosV b n e l (t + 1 - l).toNat).map V.int = [] := by injection z
      have z3 := congrArg List.length z2
      simp [flosV] at z3
      omega)
    refine ⟨pf, _, fun i σ' H' => ∃ y7 y8 y9 y10 y11, σ' = [some (.ref r), some (.ref a), some (.ref a'), some (.ref x), some (.int l), some (.int t), some (.ref rp), y7, y8, y9, y10, y11] ∧ Ex H3 H' ∧ H' pf = some (.lst ((flosV b n e l (t + 1 - l).toNat).map V.int)) ∧ IsTab H' rp ((List.range i).map (entT b ad n e l)), eu, sq_of hpf, ⟨none, none, none, none, none, rfl, x4.trans x5, hpf, [], x5 _ _ h4, .nil⟩, fun i σ' H' _ ⟨_, _, _, _, _, _, _, h, _⟩ => sq_of h, ?_, ?_⟩
    · rintro i xv Tt σ' H' hxi ⟨y7, y8, y9, y10, y11, rfl, x6, hpf', ts, hts, hrel⟩ H6 x7 hTt
      have hi : i < (t + 1 - l).toNat := by
        have := (List.getElem?_eq_some_iff.mp hxi).1
        simpa [flosV] using this
      have exv : xv = V.int (flo b n e (l + (i : Int))) := by
        simp [flosV, hi] at hxi
        exact hxi.symm
      subst exv
      have z6 : Ex H3 H6 := x6.trans x7
      have hS6 := hS.ex (x3.trans z6)
      have hx6 := z6 _ _ (x3 _ _ hx)
      refine ⟨_, gt_tup (st_of hTt) (gts_cons (gt_nm 7 sc_make_table.nd) (gts_cons (gt_nm 8 sc_make_table.nd) gts_nil)), ?_⟩
      have el : (l + (i : Int) - l).toNat = i := by omega
      refine bl_setLcT (k := 9) (i := 10) (xs := [.int (flo b n e (l + (i : Int))), .int (flo b n e (l + (i : Int)) + 1)]) (fun _ => true) (fun j => oV (lkM (layM b (atP b n e l) i) (flo b n e (l + (i : Int)) + (j : Int)))) ((er_en (en_tup (ea_cons' (ev_nm 8 rfl) (ea_cons' (ev_add (ev_nm 8 rfl) ev_int) ea_nil')))).imp fun u H7 _ ⟨p0, eu, _, hp0⟩ => ⟨p0, eu, st_of hp0⟩) (by simp) sc_make_table.nd pb_no (fun _ _ _ _ _ => ev_yes) (fun j xo H7 x8 hj _ s0 H0 C cl fp => ?_) fun cp H7 hcp x8 hcp7 => ?_
      · have exo : xo = V.int (flo b n e (l + (i : Int)) + (j : Int)) := by
          match j, hj with
          | 0, hj => rw [← Option.some.inj hj]; simp
          | 1, hj => rw [← Option.some.inj hj]; simp
        subst exo
        exact ev_er (er_meth (m_additions W) hr (ev_nm 3 rfl) (x8 _ _ hx6) rfl (ear_ea (ea_cons' (ev_add (i := l) (j := (i : Int)) (ev_nm 4 rfl) (ev_nm 7 rfl)) (ea_cons' (ev_nm 10 rfl) ea_nil'))) fun vs H8 x9 evs => ⟨x, b, mv, ad, fi, la, p, p', l, t, _, l + (i : Int), flo b n e (l + (i : Int)) + (j : Int), by rw [evs], hS6.ex (x8.trans x9), by omega, by omega, by rw [el]⟩)
      · rw [show ([V.int (flo b n e (l + (i : Int))), V.int (flo b n e (l + (i : Int)) + 1)] : List V).length = 2 from rfl, given2] at hcp7
        simp only [Int.natCast_zero, Int.add_zero, Int.natCast_one] at hcp7
        have hts7 : H7 rp = some (.lst (ts.map V.ref)) := x8 _ _ (x7 _ _ hts)
        refine bl_appR (R := fun u H8 => ∃ tn, u = .ref tn ∧ H8 tn = some (.tup [oV (entT b ad n e l i).1, oV (entT b ad n e l i).2])) (ev_nm 6 rfl) hts7 (er_cbT (Ra := fun vs H8 => ∃ p8, vs = [V.ref p8] ∧ H8 p8 = some (.lst [oV (entT b ad n e l i).1, oV (entT b ad n e l i).2])) call_tuple_of W.n_tuple boot_tuple (ear_cons (er_en (en_lcL (i := 11) (xs := [oV (lkM (layM b (atP b n e l) i) (flo b n e (l + (i : Int)))), oV (lkM (layM b (atP b n e l) i) (flo b n e (l + (i : Int)) + 1))]) (fun _ => true) (fun j => if j = 0 then oV (entT b ad n e l i).1 else oV (entT b ad n e l i).2) (er_ev (ev_nm 9 rfl) |>.imp fun u H8 x9 eu => ⟨cp, eu, sq_of (x9 _ _ hcp7)⟩) (by simp) sc_make_table.nd pb_no (fun _ _ _ _ _ => ev_yes) fun j xo H8 x9 hj _ s0 H0 C cl fp => ?_)) fun u H8 x9 ⟨p8, eu, _, h8⟩ => ear_nil fun H9 x10 => ⟨p8, by rw [eu], x10 _ _ (by rw [h8]; show some (HO.lst (given 2 _ _)) = _; rw [given2]; rfl)⟩) fun vs H8 x9 ⟨p8, evs, hp8⟩ Q q => ⟨p8, _, evs, .inl ⟨sq_of hp8, fun l8 hl8 => q _ _ (Ex.new hl8) ⟨l8, rfl, upd_same⟩⟩⟩) ?_ ?_
        · have hk : ∃ o : Option Int, xo = oV o ∧ (if j = 0 then oV (entT b ad n e l i).1 else oV (entT b ad n e l i).2) = oV (mulO ad o) := match j, hj with
            | 0, hj => ⟨_, (Option.some.inj hj).symm, rfl⟩
            | 1, hj => ⟨_, (Option.some.inj hj).symm, rfl⟩
          obtain ⟨o, rfl, eo⟩ := hk
          refine ev_to ?_ eo.symm
          cases o with
          | none => exact ev_ife (k := true) (et_to (et_isN (x := .non) (ev_nm 11 rfl)) rfl) (fun _ => ev_non) (fun z => nomatch z)
          | some c => exact ev_ife (k := false) (et_to (et_isN (x := .int c) (ev_nm 11 rfl)) rfl) (fun z => nomatch z) (fun _ => ev_mulS (ev_nm 11 rfl) (ev_prop (p_add W) hr (ev_nm 0 rfl) (x9 _ _ (x8 _ _ (z6 _ _ (x3 _ _ (x2 _ _ (x1 _ _ hI)))))) fun H9 x10 => ⟨r, b, mv, ad, fi, la, rfl, T.row.ex ((((((x1.trans x2).trans x3).trans z6).trans x8).trans x9).trans x10), rfl⟩) (.inr ⟨by omega, by omega⟩))
        · rw [List.length_map, Paired.length hrel]
          simp
          omega
        · rintro u H8 x9 ⟨tn, rfl, htn⟩
          have hts8 : H8 rp = some (.lst (ts.map V.ref)) := x9 _ _ hts7
          refine bl_nil rfl ⟨_, _, _, _, _, rfl, Ex.mut ((z6.trans x8).trans x9) hrp3, by rw [upd_ne npf]; exact x9 _ _ (x8 _ _ (x7 _ _ hpf')), ts ++ [tn], by rw [upd_same, List.map_append]; rfl, ?_⟩
          rw [List.range_succ, List.map_append]
          refine TabRel.upd (fun vs z => by rw [hts8] at z; cases z) ?_
          exact Paired.snoc (TabRel.mono ((x7.trans x8).trans x9) hrel) htn
    · rintro σ' H' ⟨y7, y8, y9, y10, y11, rfl, x6, hpf', hT⟩
      refine bl_ret (v := .ref rp) (ev_nm 6 rfl) fun H7 x8 => q _ H7 (((x1.trans x2).trans x3).trans (x6.trans x8)) ⟨rp, l, t, rfl, hSp, ?_⟩
      have : (List.map V.int (flosV b n e l (t + 1 - l).toNat)).length = (t + 1 - l).toNat := by simp [flosV]
      rw [this] at hT
      exact hT.ex x8)
end
end K27

/-! zip(t, u, strict=True) of two tuples of one length, walked. -/
namespace K27Z
open PySem
section
variable {s : Shared} {E : Value → Shared → Prop} {A : Around} {w : World} {prog : Program}
abbrev IsZs (h : Heap) (z TI TO : Addr) (f0 : Value) : Prop := h.get? z = some { cls := .type "zip", dict := none, data := .fields #[f0, .bool false, .bool true, .ref TI, .ref TO], slots := #[] }
theorem nxE_item {it l : Addr} {i : Nat} {items} {x : Value} {Q : Option Value → Shared → Prop} (k1 : s.heap.IsTupleIter it l i) (k2 : s.heap.IsTuple l items) (k3 : items[i]? = some x)
    (q : ∀ g, g.IsTupleIter it l (i + 1) → Heap.SameBut it s.heap g → Q (some x) { s with heap := g }) : wpAny (model prog w) A (Builtin.SmallTypes.nextOrEnd (.ref it)) Q E s := by
  unfold Builtin.SmallTypes.nextOrEnd
  exact wpAny_bind (wpAny_attempt (RZ.nextOf_tuple_item k1 k2 k3 fun g a b => wpAny_pure (q g a b)))
theorem nxE_end {it l : Addr} {i : Nat} {items} {Q : Option Value → Shared → Prop} (hh : A.handled = none) (k1 : s.heap.IsTupleIter it l i) (k2 : s.heap.IsTuple l items) (k3 : items[i]? = none)
    (q : ∀ g, Heap.ExtBut it s.heap g → Q none { s with heap := g }) : wpAny (model prog w) A (Builtin.SmallTypes.nextOrEnd (.ref it)) Q E s := by
  unfold Builtin.SmallTypes.nextOrEnd
  refine wpAny_bind (wpAny_attempt (RZ.nextOf_tuple_end hh k1 k2 k3 fun g e hk he => ?_))
  obtain ⟨o, ho, hc⟩ := he
  exact wpAny_bind (wpAny_isInstance (T := "StopIteration") (b := true) ⟨o, ho, hc⟩ isSubtype_stop (wpAny_pure (q g hk)))

theorem zs_next_item {z TI TO i1 i2 l1 l2 : Addr} {k1 k2 : Nat} {xs ys : Array Value} {x y a b : Value} {Q : Value → Shared → Prop} (D : ZipApart z TI TO i1 i2 l1 l2)
    (hz : IsZs s.heap z TI TO .none) (pI : IsPair s.heap TI (.ref i1) (.ref i2)) (pO : IsPair s.heap TO a b) (t1 : s.heap.IsTupleIter i1 l1 k1) (t2 : s.heap.IsTupleIter i2 l2 k2) (u1 : s.heap.IsTuple l1 xs) (u2 : s.heap.IsTuple l2 ys) (hx : xs[k1]? = some x) (hy : ys[k2]? = some y)
    (q : ∀ g, IsZs g z TI TO (rawInt s.heap.objs.size) → IsPair g TO x y → g.IsTupleIter i1 l1 (k1 + 1) → g.IsTupleIter i2 l2 (k2 + 1) → IsPair g s.heap.objs.size x y → g.objs.size = s.heap.objs.size + 1 →
      (∀ c o, c ≠ z → c ≠ TO → c ≠ i1 → c ≠ i2 → s.heap.get? c = some o → g.get? c = some o) → Q (.ref s.heap.objs.size) { s with heap := g }) :
    wpAny (model prog w) A (Builtin.«zip.__next__» ⟨[.ref z], []⟩) (fun fn t => ∃ v, fn = .done (.ret v) ∧ Q v t) E s := by
  show wpAny _ _ (field (.ref z) 2 >>= _) _ _ s
  refine wpAny_bind (wpAny_field hz rfl (x := .bool true) rfl ?_)
  show wpAny _ _ (field (.ref z) 3 >>= _) _ _ s
  refine wpAny_bind (wpAny_field hz rfl (x := .ref TI) rfl (wpAny_bind (wpAny_seqItems pI rfl ?_)))
  show wpAny _ _ (Builtin.SmallTypes.ownedTupleIsFree (.ref z) >>= _) _ _ s
  refine wpAny_bind ?_
  (unfold Builtin.SmallTypes.ownedTupleIsFree)
  (refine wpAny_bind (wpAny_field hz rfl (x := .none) rfl (wpAny_pure ?_)))
  simp only [if_true]
  refine wpAny_bind (wpAny_rule (wpAny_bind (wpAny_field hz rfl (x := .ref TO) rfl (wpAny_bind (wpAny_setField_rec hz (by simp) fun g1 z1 s1 => ?_)))))
  replace z1 : IsZs g1 z TI TO .ellipsis := z1
  refine wpAny_bind ?_
  (simp only [List.zipIdx_cons, List.zipIdx_nil, List.forIn_cons, List.forIn_nil])
  (refine wpAny_bind (wpAny_bind (wpAny_onRaise ?_)))
  show wpAny _ _ (Builtin.SmallTypes.nextOrEnd (.ref i1)) _ _ _
  refine nxE_item (t1.extBut s1.extBut D.i1z) (u1.extBut s1.extBut D.l1z) hx fun g2 t12 s2 => ?_
  have pO2 : IsPair g2 TO a b := s2.extBut _ _ D.TOi1 (s1.extBut _ _ D.TOz pO)
  refine wpAny_bind (wpAny_seqItems pO2 rfl (wpAny_bind (wpAny_updateSeq_pair pO2 fun g3 pO3 s3 => ?_)))
  replace pO3 : IsPair g3 TO x b := pO3
  (refine wpAny_bind (wpAny_letGo (wpAny_pure ?_)))
  (refine wpAny_bind (wpAny_bind (wpAny_onRaise ?_)))
  show wpAny _ _ (Builtin.SmallTypes.nextOrEnd (.ref i2)) _ _ _
  refine nxE_item (((t2.extBut s1.extBut D.i2z).extBut s2.extBut D.i12.symm).extBut s3.extBut D.TOi2.symm) (((u2.extBut s1.extBut D.l2z).extBut s2.extBut D.l2i1).extBut s3.extBut D.l2TO) hy fun g4 t24 s4 => ?_
  have pO4 : IsPair g4 TO x b := s4.extBut _ _ D.TOi2 pO3
  refine wpAny_bind (wpAny_seqItems pO4 rfl (wpAny_bind (wpAny_updateSeq_pair pO4 fun g5 pO5 s5 => ?_)))
  replace pO5 : IsPair g5 TO x y := pO5
  (refine wpAny_bind (wpAny_letGo (wpAny_pure (wpAny_pure ?_))))
  refine wpAny_bind (wpAny_seqItems pO5 rfl (wpAny_bind (wpAny_newTuple ?_)))
  have sz : g5.objs.size = s.heap.objs.size := by rw [s5.1, s4.1, s3.1, s2.1, s1.1]
  have z5 : IsZs g5 z TI TO .ellipsis := s5.extBut _ _ D.TOz.symm (s4.extBut _ _ D.i2z.symm (s3.extBut _ _ D.TOz.symm (s2.extBut _ _ D.i1z.symm z1)))
  have kk : ∀ c o, c ≠ z → c ≠ TO → c ≠ i1 → c ≠ i2 → s.heap.get? c = some o → g5.get? c = some o := fun c o n1 n2 n3 n4 e => s5.extBut _ _ n2 (s4.extBut _ _ n4 (s3.extBut _ _ n2 (s2.extBut _ _ n3 (s1.extBut _ _ n1 e))))
  have t15 : g5.IsTupleIter i1 l1 (k1 + 1) := ((t12.extBut s3.extBut D.TOi1.symm).extBut s4.extBut D.i12).extBut s5.extBut D.TOi1.symm
  have t25 : g5.IsTupleIter i2 l2 (k2 + 1) := t24.extBut s5.extBut D.TOi2.symm
  have zl : z < g5.objs.size := Heap.lt_size z5
  show wpAny _ _ (Builtin.SmallTypes.ownedTupleHandOut (.ref z) (.ref g5.objs.size) >>= _) _ _ _
  refine wpAny_bind ?_
  (unfold Builtin.SmallTypes.ownedTupleHandOut)
  have z6 : IsZs (g5.push { cls := .type "tuple", data := .seq #[x, y] }) z TI TO .ellipsis := Heap.get?_push_of_some _ z5
  refine wpAny_bind (wpAny_setField_rec z6 (by simp) fun g7 z7 s7 => ?_)
  replace z7 : IsZs g7 z TI TO (rawInt g5.objs.size) := z7
  refine wpAny_setField_rec z7 (by simp) fun g8 z8 s8 => ?_
  replace z8 : IsZs g8 z TI TO (rawInt g5.objs.size) := z8
  have up : ∀ c o, c ≠ z → g5.get? c = some o → g8.get? c = some o := fun c o n e => s8.extBut _ _ n (s7.extBut _ _ n (Heap.get?_push_of_some _ e))
  have tt : IsPair g8 g5.objs.size x y := s8.extBut _ _ (Nat.ne_of_gt zl) (s7.extBut _ _ (Nat.ne_of_gt zl) (Heap.get?_push_size _ rfl))
  have sz8 : g8.objs.size = g5.objs.size + 1 := by rw [s8.1, s7.1, Heap.size_push]
  rw [sz] at z8 tt sz8
  (refine wpAny_pure ⟨_, rfl, ?_⟩)
  show Q (.ref g5.objs.size) _
  rw [sz]
  exact q g8 z8 (up _ _ D.TOz pO5) (t15.at fun o e => up _ o D.i1z e) (t25.at fun o e => up _ o D.i2z e) tt sz8 fun c o n1 n2 n3 n4 e => up c o n1 (kk c o n1 n2 n3 n4 e)
theorem zs_next_end {z TI TO i1 i2 l1 l2 : Addr} {k1 k2 : Nat} {xs ys : Array Value} {a b : Value} {Q : Fin → Shared → Prop} (hh : A.handled = none) (D : ZipApart z TI TO i1 i2 l1 l2)
    (hz : IsZs s.heap z TI TO .none) (pI : IsPair s.heap TI (.ref i1) (.ref i2)) (pO : IsPair s.heap TO a b) (t1 : s.heap.IsTupleIter i1 l1 k1) (t2 : s.heap.IsTupleIter i2 l2 k2) (u1 : s.heap.IsTuple l1 xs) (u2 : s.heap.IsTuple l2 ys) (hx : xs[k1]? = none) (hy : ys[k2]? = none)
    (hE : ∀ g e, (∀ c o, c ≠ z → c ≠ TO → c ≠ i1 → c ≠ i2 → s.heap.get? c = some o → g.get? c = some o) → (∃ o, g.get? e = some o ∧ o.cls = .type "StopIteration") → E (.ref e) { s with heap := g }) :
    (wpAny (model prog w) A (Builtin.«zip.__next__» ⟨[.ref z], []⟩) Q E s) := by
  show wpAny _ _ (field (.ref z) 2 >>= _) _ _ s
  refine wpAny_bind (wpAny_field hz rfl (x := .bool true) rfl ?_)
  show wpAny _ _ (field (.ref z) 3 >>= _) _ _ s
  refine wpAny_bind (wpAny_field hz rfl (x := .ref TI) rfl (wpAny_bind (wpAny_seqItems pI rfl ?_)))
  show wpAny _ _ (Builtin.SmallTypes.ownedTupleIsFree (.ref z) >>= _) _ _ s
  refine wpAny_bind ?_
  (unfold Builtin.SmallTypes.ownedTupleIsFree)
  (refine wpAny_bind (wpAny_field hz rfl (x := .none) rfl (wpAny_pure ?_)))
  simp only [if_true]
  refine wpAny_bind (wpAny_rule (wpAny_bind (wpAny_field hz rfl (x := .ref TO) rfl (wpAny_bind (wpAny_setField_rec hz (by simp) fun g1 z1 s1 => ?_)))))
  replace z1 : IsZs g1 z TI TO .ellipsis := z1
  refine wpAny_bind ?_
  (simp only [List.zipIdx_cons, List.zipIdx_nil, List.forIn_cons, List.forIn_nil])
  (refine wpAny_bind (wpAny_bind (wpAny_onRaise ?_)))
  show wpAny _ _ (Builtin.SmallTypes.nextOrEnd (.ref i1)) _ _ _
  refine nxE_end hh (t1.extBut s1.extBut D.i1z) (u1.extBut s1.extBut D.l1z) hx fun g2 s2 => ?_
  have z2 : IsZs g2 z TI TO .ellipsis := s2 _ _ D.i1z.symm z1
  refine wpAny_bind (wpAny_setField_rec z2 (by simp) fun g3 z3 s3 => ?_)
  refine wpAny_bind ?_
  refine wpAny_bind ?_
  simp only [List.drop_succ_cons, List.drop_zero, List.zipIdx_cons, List.zipIdx_nil, List.forIn_cons, List.forIn_nil]
  have t23 : g3.IsTupleIter i2 l2 k2 := by
    refine (((t2.extBut s1.extBut D.i2z).at fun o e => s2 _ _ D.i12.symm e)).extBut s3.extBut D.i2z
  have u23 : g3.IsTuple l2 ys := ((((u2.extBut s1.extBut D.l2z)).extBut s2 D.l2i1)).extBut s3.extBut D.l2z
  refine wpAny_bind (wpAny_bind (nxE_end hh t23 u23 hy fun g4 s4 => ?_))
  rw [if_neg (by simp)]
  refine wpAny_pure (wpAny_pure (wpAny_bind (wpAny_rule ?_)))
  exact DVw.raise_stop hh fun h' e oe hk ho hc => hE _ _ (fun c o n1 n2 n3 n4 h => hk _ _ (s4 _ _ n4 (s3.extBut _ _ n1 (s2 _ _ n3 (s1.extBut _ _ n1 h))))) ⟨oe, ho, hc⟩
theorem pz_item {z TI TO i1 i2 l1 l2 : Addr} {k1 k2 : Nat} {xs ys : Array Value} {x y a b : Value} {Q : Option Value → Shared → Prop} (D : ZipApart z TI TO i1 i2 l1 l2)
    (hz : IsZs s.heap z TI TO .none) (pI : IsPair s.heap TI (.ref i1) (.ref i2)) (pO : IsPair s.heap TO a b) (t1 : s.heap.IsTupleIter i1 l1 k1) (t2 : s.heap.IsTupleIter i2 l2 k2) (u1 : s.heap.IsTuple l1 xs) (u2 : s.heap.IsTuple l2 ys) (hx : xs[k1]? = some x) (hy : ys[k2]? = some y)
    (q : ∀ g, IsZs g z TI TO (rawInt s.heap.objs.size) → IsPair g TO x y → g.IsTupleIter i1 l1 (k1 + 1) → g.IsTupleIter i2 l2 (k2 + 1) → IsPair g s.heap.objs.size x y → g.objs.size = s.heap.objs.size + 1 →
      (∀ c o, c ≠ z → c ≠ TO → c ≠ i1 → c ≠ i2 → s.heap.get? c = some o → g.get? c = some o) → Q (some (.ref s.heap.objs.size)) { s with heap := g }) : wpAny (model prog w) A (pyNext (.ref z)) Q E s := by
  have ty : s.TypeIs (.ref z) "zip" := ⟨_, hz, rfl⟩
  unfold pyNext
  refine wpAny_bind (wpAny_attempt (wpAny_callSpecial?_slot (name := Str.ofString "__next__") ty F.slot_zip_next (wpAny_call_entry F.slot_zip_next ty F.entry_zip_next ?_ (F.args_zip_next_1 _))))
  exact zs_next_item D hz pI pO t1 t2 u1 u2 hx hy fun g a1 a2 a3 a4 a5 a6 a7 => wpAny_pure (q g a1 a2 a3 a4 a5 a6 a7)
theorem pz_end {z TI TO i1 i2 l1 l2 : Addr} {k1 k2 : Nat} {xs ys : Array Value} {a b : Value} {Q : Option Value → Shared → Prop} (hh : A.handled = none) (D : ZipApart z TI TO i1 i2 l1 l2)
    (hz : IsZs s.heap z TI TO .none) (pI : IsPair s.heap TI (.ref i1) (.ref i2)) (pO : IsPair s.heap TO a b) (t1 : s.heap.IsTupleIter i1 l1 k1) (t2 : s.heap.IsTupleIter i2 l2 k2) (u1 : s.heap.IsTuple l1 xs) (u2 : s.heap.IsTuple l2 ys) (hx : xs[k1]? = none) (hy : ys[k2]? = none)
    (q : ∀ g, (∀ c o, c ≠ z → c ≠ TO → c ≠ i1 → c ≠ i2 → s.heap.get? c = some o → g.get? c = some o) → Q none { s with heap := g }) : wpAny (model prog w) A (pyNext (.ref z)) Q E s := by
  have ty : s.TypeIs (.ref z) "zip" := ⟨_, hz, rfl⟩
  unfold pyNext
  refine wpAny_bind (wpAny_attempt (wpAny_callSpecial?_slot (name := Str.ofString "__next__") ty F.slot_zip_next (wpAny_call_entry F.slot_zip_next ty F.entry_zip_next (zs_next_end hh D hz pI pO t1 t2 u1 u2 hx hy fun g e hk he => ?_) (F.args_zip_next_1 _))))
  obtain ⟨o, ho, hc⟩ := he
  exact wpAny_bind (wpAny_isInstance (T := "StopIteration") (b := true) ⟨o, ho, hc⟩ isSubtype_stop (wpAny_pure (q _ hk)))
theorem cw_typeKw {M : Model} {env : Env} {pos : Pos} {T : String} {e : Expr} {rest : List Expr} {kws : List Keyword} {Q : Value → Shared → Prop}
    (h : wpAny M A (spliced (backTo pos (starEach (e :: rest) env))) (fun vs s1 => wpAny M A (evalAll ((backToKw pos (keywordEach kws env)).map (·.2)))
      (fun ks s2 => wpAny M A (call (.type T) vs (((backToKw pos (keywordEach kws env)).filterMap (·.1)).zip ks)) Q E s2) E s1) E s)
    (h0 : backTo pos (starEach (e :: rest) env) = (false, eval e env) :: backTo pos (starEach rest env) := by rfl)
    (h1 : (backTo pos (starEach (e :: rest) env)).any (·.1) = false := by rfl)
    (h2 : (backToKw pos (keywordEach kws env)).all (·.1.isSome) = true := by rfl)
    (h3 : (backToKw pos (keywordEach kws env)).any (·.1.isNone) = false := by rfl) :
    wpAny M A (callWith pos (.type T) [] (backTo pos (starEach (e :: rest) env)) (backToKw pos (keywordEach kws env))) Q E s := by
  unfold callWith
  refine wpAny_bind (wpAny_holding (wpAny_mono (Q := fun a s1 => wpAny M A (call (.type T) ([] ++ a.pos) a.kw) Q E s1) ?_ (fun a s1 g => wpAny_bind (wpAny_standAt ?_)) fun _ _ x => x))
  · rw [h0] at h ⊢
    exact PyProof.Rows.evalArgs_kwB h2 h
  · simp only [h1, h3, Bool.or_false]
    exact wpAny_bind (wpAny_pure (wpAny_bind (wpAny_mono g (fun r s2 hr => wpAny_bind (wpAny_holding (wpAny_point (wpAny_pure hr)))) fun _ _ x => x)))
end
theorem tc_zs (a b : Value) : checkTypeCall "zip" ⟨[a, b], [(Str.ofString "strict", .bool true)]⟩ = pure () := by kernel_rfl
theorem nc_zs (a b : Value) : checkBuiltinCall "zip.__new__" ⟨[.type "zip", a, b], [(Str.ofString "strict", .bool true)]⟩ = pure () := by kernel_rfl
theorem ao_zs (o a b : Value) : argsOk "object.__init__" ⟨[o, a, b], [(Str.ofString "strict", .bool true)]⟩ := by unfold argsOk; kernel_rfl
abbrev zS5 (h : Heap) (l1 l2 : Addr) : Heap := (RZ.zipTH4 h l1 l2).push { cls := .type "zip", data := .fields #[.none, .bool false, .bool true, .ref (RZ.zipTH2 h l1 l2).objs.size, .ref (RZ.zipTH3 h l1 l2).objs.size] }
theorem meets_zs (l1 l2 : Addr) (xs ys : Array Value) : Meets (Builtin.«zip.__new__» ⟨[.type "zip", .ref l1, .ref l2], [(Str.ofString "strict", .bool true)]⟩) (fun _ R s => s.heap.IsTuple l1 xs ∧ s.heap.IsTuple l2 ys ∧
      R (.ok (.ret (.ref (RZ.zipTH4 s.heap l1 l2).objs.size))) { s with heap := zS5 s.heap l1 l2 }) :=
  .of_wp fun prg w A R s h => by
    obtain ⟨hp, g, d, tk, os⟩ := s; obtain ⟨k1, k2, h⟩ := h
    have sb := sub_zip
    have m1 : Heap.IsTuple (Shared.heap ⟨hp, g, d, tk, os⟩) l1 xs := k1
    have m2 : Heap.IsTuple (Shared.heap ⟨hp.push { cls := .type "tuple_iterator", data := .fields #[.ref l1, .int 0 0] }, g, d, tk, os⟩) l2 ys := Heap.IsTuple.push k2 _
    have e1 : (Str.ofString "strict" == ("strict" : Str)) = true := by decide +kernel
    have e2 : (Str.ofString "strict" != ("strict" : Str)) = false := by decide +kernel
    wp_walk using wpAny_pyIter_tuple m1, wpAny_pyIter_tuple m2
    exact ⟨_, rfl, h⟩
end K27Z

/-! zip(t, u, strict=True): its call, its turns, a loop over it. -/
namespace K27Z
open PySem
section
variable {s : Shared} {E : Value → Shared → Prop} {A : Around} {w : World} {prog : Program}
theorem call_zs {l1 l2 : Addr} {xs ys : Array Value} {Q : Value → Shared → Prop} (k1 : s.heap.IsTuple l1 xs) (k2 : s.heap.IsTuple l2 ys)
    (h : ∀ g, IsZs g (s.heap.objs.size + 4) (s.heap.objs.size + 2) (s.heap.objs.size + 3) .none → IsPair g (s.heap.objs.size + 2) (.ref s.heap.objs.size) (.ref (s.heap.objs.size + 1)) →
      IsPair g (s.heap.objs.size + 3) .none .none → g.IsTupleIter s.heap.objs.size l1 0 → g.IsTupleIter (s.heap.objs.size + 1) l2 0 →
      (∀ c o, s.heap.get? c = some o → g.get? c = some o) → Q (.ref (s.heap.objs.size + 4)) { s with heap := g }) :
    wpAny (model prog w) A (call (.type "zip") [.ref l1, .ref l2] [(Str.ofString "strict", .bool true)]) Q E s := by
  refine callType_newKw F.called_zip (by decide) (tc_zs _ _) (nc_zs _ _) (fun obj => ao_zs obj _ _) F.entry_zip_new (meets_zs l1 l2 xs ys) ⟨k1, k2, ?_⟩
  have a1 : (RZ.zipTH1 s.heap l1).objs.size = s.heap.objs.size + 1 := Heap.size_push ..
  have a2 : (RZ.zipTH2 s.heap l1 l2).objs.size = s.heap.objs.size + 2 := by rw [Heap.size_push, a1]
  have a3 : (RZ.zipTH3 s.heap l1 l2).objs.size = s.heap.objs.size + 3 := by rw [Heap.size_push, a2]
  have a4 : (RZ.zipTH4 s.heap l1 l2).objs.size = s.heap.objs.size + 4 := by rw [Heap.size_push, a3]
  have p0 : ∀ c o, (RZ.zipTH4 s.heap l1 l2).get? c = some o → (zS5 s.heap l1 l2).get? c = some o := fun c o e => Heap.get?_push_of_some _ e
  have p1 : ∀ c o, (RZ.zipTH3 s.heap l1 l2).get? c = some o → (zS5 s.heap l1 l2).get? c = some o := fun c o e => p0 _ _ (Heap.get?_push_of_some _ e)
  have p2 : ∀ c o, (RZ.zipTH2 s.heap l1 l2).get? c = some o → (zS5 s.heap l1 l2).get? c = some o := fun c o e => p1 _ _ (Heap.get?_push_of_some _ e)
  have p3 : ∀ c o, (RZ.zipTH1 s.heap l1).get? c = some o → (zS5 s.heap l1 l2).get? c = some o := fun c o e => p2 _ _ (Heap.get?_push_of_some _ e)
  have w5 : (zS5 s.heap l1 l2).get? (RZ.zipTH4 s.heap l1 l2).objs.size = some _ := Heap.get?_push_size _ rfl
  have w4 : (zS5 s.heap l1 l2).get? (RZ.zipTH3 s.heap l1 l2).objs.size = some _ := p0 _ _ (Heap.get?_push_size _ rfl)
  have w3 : (zS5 s.heap l1 l2).get? (RZ.zipTH2 s.heap l1 l2).objs.size = some _ := p1 _ _ (Heap.get?_push_size _ rfl)
  have w2 : (zS5 s.heap l1 l2).get? (RZ.zipTH1 s.heap l1).objs.size = some _ := p2 _ _ (Heap.get?_push_size _ rfl)
  have w1 : (zS5 s.heap l1 l2).get? s.heap.objs.size = some _ := p3 _ _ (Heap.get?_push_size _ rfl)
  show _ ∧ _
  rw [a2, a3, a4] at w5
  rw [a1, a2] at w3
  rw [a3] at w4
  rw [a1] at w2
  rw [a4]
  exact ⟨⟨_, w5, rfl⟩, h _ w5 w3 w4 ⟨_, w1, rfl, rfl⟩ ⟨_, w2, rfl, rfl⟩ fun c o x => p3 _ _ (Heap.get?_push_of_some _ x)⟩
theorem iter_zs {z TI TO : Addr} {f0 : Value} {Q : Value → Shared → Prop} (hz : IsZs s.heap z TI TO f0) (h : Q (.ref z) s) : wpAny (model prog w) A (pyIter (.ref z)) Q E s := by
  have ty : s.TypeIs (.ref z) "zip" := ⟨_, hz, rfl⟩
  refine wpAny_pyIter_slot ty F.slot_zip_iter (wpAny_call_entry F.slot_zip_iter ty F.entry_zip_iter ?_ (F.args_zip_iter_1 _))
  exact wpAny_pure (show ∃ v, _ ∧ _ from ⟨_, rfl, "zip", _, ty, F.slot_zip_next.lookup, h⟩)
theorem own_zs {elts : List Expr} {k1} {pos : Pos} {z TI TO T : Addr} {Q : Unit → Shared → Prop} (hz : IsZs s.heap z TI TO (rawInt T)) (q : ∀ g, IsZs g z TI TO .none → Heap.SameBut z s.heap g → Q () { s with heap := g }) :
    wpAny (model prog w) A (letOwnedTupleGo (.Tuple elts k1 pos) (.ref z) (.ref T)) Q E s := by
  unfold letOwnedTupleGo
  (refine wpAny_bind (wpAny_load hz ?_))
  show wpAny _ _ (if (["enumerate", "zip", "dict_itemiterator", "dict_reverseitemiterator", "odict_iterator", "itertools.zip_longest", "itertools.pairwise"].contains "zip" && (#[rawInt T, .bool false, .bool true, .ref TI, .ref TO] : Array Value)[0]? == some (rawInt T)) = true then _ else _) Q E s
  rw [if_pos (by simp)]
  refine wpAny_bind (wpAny_rule (show wpAny _ _ (setField (.ref z) 0 .none) Q E s from ?_))
  exact wpAny_setField_rec hz (by simp) fun g z1 s1 => q g z1 s1
end
open PySem.Spec PyProof.Rows L2
/-- the tuples at a and b, of one length -/
def ItS (K : PySem.W.Frag) (a b : Addr) : It :=
  ⟨fun k H => ∃ (us ws : List V) (x y : V), SqT K H a us ∧ SqT K H b ws ∧ us[k]? = some x ∧ ws[k]? = some y,
    fun k H v H' => ∃ T x y, v = .ref T ∧ H T = none ∧ H' = upd H T (.tup [x, y]) ∧ (∀ us, SqT K H a us → us[k]? = some x) ∧ ∀ ws, SqT K H b ws → ws[k]? = some y,
    fun i H => ∃ xs ys : List V, SqT K H a xs ∧ SqT K H b ys ∧ xs.length ≤ i ∧ ys.length ≤ i⟩
def StZ (z TI TO i1 i2 a b : Addr) (i : Nat) (h : Heap) : Prop := IsZs h z TI TO .none ∧ IsPair h TI (.ref i1) (.ref i2) ∧ (∃ x y, IsPair h TO x y) ∧ h.IsTupleIter i1 a i ∧ h.IsTupleIter i2 b i
theorem StZ.lt {z TI TO i1 i2 a b : Addr} {i : Nat} {h : Heap} (st : StZ z TI TO i1 i2 a b i h) : ∀ c ∈ [z, TI, TO, i1, i2], c < h.objs.size := by
  obtain ⟨hz, p1, ⟨_, _, p2⟩, ⟨_, e1, _⟩, ⟨_, e2, _⟩⟩ := st
  intro c hc
  simp only [List.mem_cons, List.not_mem_nil, or_false] at hc
  rcases hc with rfl | rfl | rfl | rfl | rfl
  · exact Heap.lt_size hz
  · exact Heap.lt_size p1
  · exact Heap.lt_size p2
  · exact Heap.lt_size e1
  · exact Heap.lt_size e2
theorem turn_zs {P : Program} {w : World} {K : PySem.W.Frag} {elts : List Expr} {kk : Nat} {tpos : Pos} {a b z TI TO i1 i2 : Addr} (D : ZipApart z TI TO i1 i2 a b) :
    Turn P w K (.Tuple elts kk tpos) (ItS K a b) [z, TI, TO, i1, i2] z (StZ z TI TO i1 i2 a b) where
  mem := List.mem_cons_self ..
  obj := fun i h st c hc => by
    obtain ⟨hz, p1, ⟨x, y, p2⟩, ⟨o1, e1, _, d1⟩, ⟨o2, e2, _, d2⟩⟩ := st
    simp only [List.mem_cons, List.not_mem_nil, or_false] at hc
    rcases hc with rfl | rfl | rfl | rfl | rfl
    · exact ⟨_, hz, fun v q => nomatch q⟩
    · exact ⟨_, p1, fun v q => nomatch q⟩
    · exact ⟨_, p2, fun v q => nomatch q⟩
    · exact ⟨o1, e1, fun v q => by rw [d1] at q; cases q⟩
    · exact ⟨o2, e2, fun v q => by rw [d2] at q; cases q⟩
  keep := fun i h h' st k => by
    obtain ⟨hz, p1, ⟨x, y, p2⟩, t1, t2⟩ := st
    exact ⟨k z (by simp) _ hz, k TI (by simp) _ p1, ⟨x, y, k TO (by simp) _ p2⟩, t1.at fun o q => k i1 (by simp) o q, t2.at fun o q => k i2 (by simp) o q⟩
  item := by
    rintro X rfl rfl rfl hc i pins s σ H E I hf st ⟨xs, ys, x, y, sx, sy, gx, gy⟩
    have lts := st.lt
    obtain ⟨hz, p1, ⟨x0, y0, p2⟩, t1, t2⟩ := st
    obtain ⟨its, rv, m1, _⟩ := I.tuple sx
    obtain ⟨jts, rw', m2, _⟩ := I.tuple sy
    obtain ⟨u, hu, ru⟩ := rv.get gx
    obtain ⟨u', hu', ru'⟩ := rw'.get gy
    refine pz_item D hz p1 p2 t1 t2 m1 m2 (x := u) (y := u') (by simpa using hu) (by simpa using hu') fun g z1 O1 t1' t2' hT hsz hk => ⟨_, rfl, own_zs (s := { s with heap := g }) z1 fun g2 z2 sb => ?_⟩
    have lz : z < s.heap.objs.size := lts z (by simp)
    have hT2 : g2.get? s.heap.objs.size = some { cls := .type "tuple", data := .seq #[u, u'] } := (sb.2 _ (Nat.ne_of_gt lz)).trans hT
    have nw : ObjOk X.prog X.w (upd H s.heap.objs.size (.tup [x, y])) g2 s.heap.objs.size (.tup [x, y]) := ⟨by show 2 ≤ sizeLine; decide, [u, u'], .cons ru (.cons ru' .nil), ⟨_, hT2, rfl, _, rfl⟩⟩
    have I1 : Inv X pins σ (upd H s.heap.objs.size (.tup [x, y])) { s with heap := g2 } :=
      I.turnedNew (t' := s.toks) (ch := [z, TI, TO, i1, i2]) (fun c o hb q => by
        simp only [List.mem_cons, List.not_mem_nil, or_false, not_or] at hb
        exact (sb.2 c hb.1).trans (hk c o hb.1 hb.2.2.1 hb.2.2.2.1 hb.2.2.2.2 q)) hf (Nat.le_refl _) nw
    refine ⟨.ref s.heap.objs.size, _, I1, rfl, ⟨_, x, y, rfl, I.hok.fresh (Nat.le_refl _), rfl, fun l hl => by rw [I.tuple_inj hl sx]; exact gx, fun l hl => by rw [I.tuple_inj hl sy]; exact gy⟩, ⟨z2, ?_, ⟨u, u', ?_⟩, ?_, ?_⟩, fun c hcm => ?_⟩
    · exact (sb.2 _ D.TIz).trans (hk _ _ D.TIz D.TITO D.TIi1 D.TIi2 p1)
    · exact (sb.2 _ D.TOz).trans O1
    · exact t1'.at fun o q => (sb.2 _ D.i1z).trans q
    · exact t2'.at fun o q => (sb.2 _ D.i2z).trans q
    · rw [upd_ne (Nat.ne_of_lt (lts c hcm))]
      exact (hf c hcm).1
  done := by
    rintro X rfl rfl rfl hc i pins s σ H E I hf ⟨hz, p1, ⟨x0, y0, p2⟩, t1, t2⟩ ⟨xs, ys, sx, sy, l1, l2⟩
    obtain ⟨its, rv, m1, _⟩ := I.tuple sx
    obtain ⟨jts, rw', m2, _⟩ := I.tuple sy
    have e1 := rv.length
    have e2 := rw'.length
    exact pz_end (I.ok.hd hc) D hz p1 p2 t1 t2 m1 m2 (by simp; omega) (by simp; omega) fun g hk => ⟨rfl, I.turnedL (t' := s.toks) (ch := [z, TI, TO, i1, i2]) (fun c o hb q => by
      simp only [List.mem_cons, List.not_mem_nil, or_false, not_or] at hb
      exact hk c o hb.1 hb.2.2.1 hb.2.2.2.1 hb.2.2.2.2 q) hf⟩
  self := fun A i s Q E st h => iter_zs st.1 h
def iZs (K : PySem.W.Frag) (ta : TA) : L2.TI := fun σ H R => ta σ H fun vs H1 => ∃ a b xs ys, vs = [.ref a, .ref b] ∧ SqT K H1 a xs ∧ SqT K H1 b ys ∧ R (ItS K a b) H1
theorem pi_zs {X : Cx} {e e2 : Expr} {ta : TA} {p pos tpos cp kp : Pos} {j} {elts : List Expr} {kk : Nat} (hg : Gl X "zip") (hm : X.mg "zip" = none) (ha : PA X [e, e2] ta)
    (hs : backTo pos (starEach [e, e2] X.env) = (false, eval e X.env) :: backTo pos (starEach [e2] X.env) := by rfl) (hpl : (backTo pos (starEach [e, e2] X.env)).any (·.1) = false := by rfl) :
    PI X (.Tuple elts kk tpos) (.Call (.Name "zip" p) [e, e2] [⟨some "strict", .Constant (.bool true) j cp, kp⟩] pos) (iZs X.K ta) := by
  (refine ⟨fun pins s σ H R I h => ?_⟩)
  rw [show eval (.Call (.Name "zip" p) [e, e2] [⟨some "strict", .Constant (.bool true) j cp, kp⟩] pos) X.env = (do callWith pos (← eval (.Name "zip" p) X.env) [] (backTo pos (starEach [e, e2] X.env)) (backToKw pos (keywordEach [⟨some "strict", .Constant (.bool true) j cp, kp⟩] X.env))) from rfl]
  refine wpAny_bind (ld_blt I hg hm PyProof.Rows.boot_zip (cw_typeKw (thn (ha.run pos pins s σ H _ I h) fun us s1 ⟨vs, H1, I1, r1, q1⟩ => ?_) hs hpl))
  obtain ⟨a, b, xs, ys, ex, sx, sy, q⟩ := q1
  subst ex
  cases r1 with
  | cons r rr =>
    cases rr with
    | cons r' rr =>
      cases rr
      cases r
      cases r'
      refine PyProof.Rows.kws_cons (Constant_bool (PyProof.Rows.kws_nil ?_))
      obtain ⟨its, rv, m1, _⟩ := I1.tuple sx
      obtain ⟨jts, rw', m2, _⟩ := I1.tuple sy
      obtain ⟨o1, g1, _⟩ := id m1
      obtain ⟨o2, g2, _⟩ := id m2
      show wpAny _ _ (call (.type "zip") [.ref a, .ref b] [(Str.ofString "strict", .bool true)]) _ _ _
      refine call_zs (show s1.heap.IsTuple a its.toArray from m1) (show s1.heap.IsTuple b jts.toArray from m2) fun g z1 p1 p2 t1 t2 hk => ?_
      have st : StZ (s1.heap.objs.size + 4) (s1.heap.objs.size + 2) (s1.heap.objs.size + 3) s1.heap.objs.size (s1.heap.objs.size + 1) a b 0 g := ⟨z1, p1, ⟨_, _, p2⟩, t1, t2⟩
      have I2 : Inv X pins σ H1 { s1 with heap := g } := I1.kept (t' := s1.toks) hk
      refine iter_zs z1 ⟨s1.heap.objs.size + 4, [s1.heap.objs.size + 4, s1.heap.objs.size + 2, s1.heap.objs.size + 3, s1.heap.objs.size, s1.heap.objs.size + 1], _, _, H1, rfl, I2, turn_zs (PySem.W.ktu_apart s1.heap.objs.size a b (Heap.lt_size g1) (Heap.lt_size g2)), st, fun c hc => ?_, q⟩
      have hge : s1.heap.objs.size ≤ c := by
        simp only [List.mem_cons, List.not_mem_nil, or_false] at hc
        rcases hc with rfl | rfl | rfl | rfl | rfl <;> first | exact Nat.le_add_right _ _ | exact Nat.le_refl _
      exact I1.fpOk hge (I1.hok.fresh hge)
end K27Z
namespace K27
open PySem PySem.Spec PyProof.Rows L2 Evl C8
theorem ex_tS {K : PySem.W.Frag} {H H' : Hp} {a : Addr} {xs : List V} (e : Ex H H') (h : SqT K H a xs) : SqT K H' a xs := by
  rcases h with (h | ⟨k, h⟩) | h
  · exact .inl (.inl (e _ _ h))
  · exact .inl (.inr ⟨k, e _ _ h⟩)
  · exact .inr h
section
variable {X : Cx} {σ : L2.St} {H : Hp} {D : Ends} {sts rest : List Stmt} {pos : Pos}
/-- for x, y in zip(t, u, strict=True) -/
theorem bl_forZ {a b : Expr} {tgs : List Expr} {kk : Nat} {tp p pos' cp kp : Pos} {j} {R : List V → Hp → Prop} (he : EAR X [a, b] σ H R) (hm : X.mg "zip" = none)
    (k : ∀ us H1, Ex H H1 → R us H1 → ∃ (t u : Addr) (xs ys : List V) (P : Nat → L2.St → Hp → Prop), us = [.ref t, .ref u] ∧ SqT X.K H1 t xs ∧ SqT X.K H1 u ys ∧ xs.length = ys.length ∧ P 0 σ H1 ∧ (∀ i σ' H', i ≤ xs.length → P i σ' H' → SqT X.K H' t xs ∧ SqT X.K H' u ys) ∧
      (∀ i x y T σ' H', xs[i]? = some x → ys[i]? = some y → P i σ' H' → ∀ H2, Ex H' H2 → H2 T = some (.tup [x, y]) → ∃ σ2, GT X (.Tuple tgs kk tp) (.ref T) σ' H2 σ2 ∧ BL X sts (lp X rest D (P (i + 1))) σ2 H2) ∧ ∀ σ' H', P xs.length σ' H' → BL X rest D σ' H')
    (hg : Gl X "zip" := by rfl) (hc : X.calm = true := by rfl) (hp : PassesOwn (model X.prog X.w) X.A X.env X.xe := by exact PassesOwn.never) (hst : backTo pos' (starEach [a, b] X.env) = (false, eval a X.env) :: backTo pos' (starEach [b] X.env) := by rfl) (hst2 : (backTo pos' (starEach [a, b] X.env)).any (·.1) = false := by rfl)
    (hs : ∀ x, foldedSetIterable (.Call (.Name "zip" p) [a, b] [⟨some "strict", .Constant (.bool true) j cp, kp⟩] pos') X.env x = pure x := by intro _; rfl) : BL X (.For (.Tuple tgs kk tp) (.Call (.Name "zip" p) [a, b] [⟨some "strict", .Constant (.bool true) j cp, kp⟩] pos') sts [] pos :: rest) D σ H :=
  bl_st (ps_for hp hc (K27Z.pi_zs hg hm pa_w hst hst2) pg_w pb_w hs) fun H1 e1 => (he H1 e1 _ fun us H2 e2 r => by
    obtain ⟨t, u, xs, ys, P, eu, hT, hU, hl, p0, hk, ht, hd⟩ := k us H2 (e1.trans e2) r
    subst eu
    refine ⟨t, u, xs, ys, rfl, hT, hU, fun i m σ' H' => m = xs.length - i ∧ i ≤ xs.length ∧ up (P i) σ' H', ⟨xs.length, by simp, Nat.zero_le _, H2, Ex.refl _, p0⟩, ?_⟩
    rintro i m σ' H' ⟨rfl, hi, H0, e0, q⟩
    obtain ⟨h1, h2⟩ := hk i σ' H0 hi q
    have h1' := ex_tS e0 h1
    have h2' := ex_tS e0 h2
    by_cases hlt : i < xs.length
    · have hlt2 : i < ys.length := hl ▸ hlt
      refine .inr ⟨⟨xs, ys, xs[i], ys[i], h1', h2', by simp [hlt], by simp [hlt2]⟩, up (P (i + 1)), fun σ2 H3 z => ⟨xs.length - (i + 1), by omega, rfl, hlt, z⟩, fun w H3 ⟨T, x, y, ew, hT', eH, hx, hy⟩ => ?_⟩
      subst ew eH
      obtain ⟨σ2, g, b⟩ := ht i x y T σ' H0 (hx xs h1') (hy ys h2') q (upd H' T (.tup [x, y])) (e0.trans (Ex.new hT')) upd_same
      exact g _ (Ex.refl _) _ fun H4 e4 => b H4 e4
    · have ei : i = xs.length := by omega
      subst ei
      exact .inl ⟨⟨xs, ys, h1', h2', Nat.le_refl _, Nat.le_of_eq hl.symm⟩, H0, e0, hd σ' H0 q⟩)
end
end K27

/-! is_entry, steps_valid, ends_valid. -/
namespace K27
open PySem PySem.Spec PyProof.Rows L2 Evl C8
section
variable {base : Heap} {mg : Str → Option Value} {K : PySem.W.Frag} {w : World} {P : Program}
def pr_is_entry : Pre := fun vs H R => ∃ (a : Addr) (o1 o2 : Option Int), vs = [.ref a] ∧ H a = some (.tup [oV o1, oV o2]) ∧ R = fun v _ => v = .bl true
theorem c_is_entry (W : Wd K mg) : Cal P w K mg base 2 "is_entry" (spR pr_is_entry) [] :=
  cal_mk W.F_is_entry W.g_is_entry sc_is_entry (fun vs H R ⟨_, _, _, e, _⟩ => by rw [e]; rfl) (by
    rintro cdv A outer s H vs Q E R hr ⟨a, o1, o2, rfl, ha, rfl⟩ q
    refine bl_when (k := false) (et_to (et_ew (ew_or (k := false) (et_to (et_not (k := true) (et_val (ev_isi (t := "tuple") (T := "tuple") (r := true) W.n_isinstance (ev_nm 0 rfl) (ev_blt rfl W.n_tuple boot_tuple rfl) (fun H1 e1 => .base (.tup (e1 _ _ ha))) (by decide +kernel)))) rfl)
      (fun _ => ew_or1 (k := false) (et_to (et_neI (i := 2) (j := 2) (ev_cbB call_len_seq W.n_len boot_len (ea_cons' (ev_nm 0 rfl) ea_nil') (fun H1 e1 Q q => ⟨a, _, rfl, .inr (st_of (e1 _ _ ha)), q H1 (Ex.refl H1)⟩)) ev_int) rfl)))) rfl) (fun z => nomatch z) fun _ => ?_
    refine bl_retR (er_cbB (Ra := fun vs H2 => ∃ p, vs = [.ref p] ∧ H2 p = some (.lst [.bl true, .bl true])) (cr_all rfl) W.n_all boot_all (ear_cons (er_en (en_lcT (i := 1) (xs := [oV o1, oV o2]) (fun _ => true) (fun _ => .bl true) ((er_ev (ev_nm 0 rfl)).imp fun u H1 x1 eu => ⟨a, eu, st_of (x1 _ _ ha)⟩) (by simp) sc_is_entry.nd pb_no (fun _ _ _ _ _ => ev_yes) fun j x H1 x1 hj _ s0 H0 C cl fp => ?_)) fun u H1 x1 hu => ear_nil fun H2 x2 => ?_) (R := fun v _ => v = .bl true) fun vs H1 x1 ⟨p, ev, hp⟩ Q q => ?_) fun v H1 x1 ev => q v H1 x1 ev
    · have hk : ∃ o : Option Int, x = oV o := match j, hj with
        | 0, hj => ⟨o1, (Option.some.inj hj).symm⟩
        | 1, hj => ⟨o2, (Option.some.inj hj).symm⟩
      obtain ⟨o, rfl⟩ := hk
      cases o with
      | none => exact ev_to (ev_or (k := true) (l := true) (ev_isN (x := .non) (ev_nm 1 rfl)) fun z => nomatch z) rfl
      | some c => exact ev_to (ev_or (k := false) (l := true) (ev_isN (x := .int c) (ev_nm 1 rfl)) fun _ => ev_one (ev_call1 (c_is_integer W) hr (ea_cons' (ev_nm 1 rfl) ea_nil') fun H2 _ => ⟨c, rfl, rfl⟩)) rfl
    · obtain ⟨p, eu, _, hp⟩ := hu
      exact ⟨p, by rw [eu], x2 _ _ (by rw [hp]; show some (HO.lst (given 2 _ _)) = _; rw [given2])⟩
    · exact ⟨p, [true, true], ev, sq_of hp, q _ H1 (Ex.refl H1) rfl⟩)

/-- a digit may follow: the entry after has a cost, no more than this step's -/
def okDig (b ad one c w : Int) (E : Ent) (d : Int) : Bool := match (if (one - d) / b - w = 0 then E.1 else E.2) with
  | none => false
  | some a => decide (a ≤ c + ad * (d.natAbs : Int))
def okOne (b ad one : Int) (cost : Option Int) (w : Int) (E : Ent) : Bool := match cost with
  | none => true
  | some c => (dgs b one).all (okDig b ad one c w E)
def stepM (b ad v : Int) (E : Ent) (w : Int) (E' : Ent) : Bool := okOne b ad v E.1 w E' && okOne b ad (v + 1) E.2 w E'
theorem dig_next {b v one d : Int} (hb : 2 ≤ b) (h1 : one = v ∨ one = v + 1) (hd : d ∈ dgs b one) : (one - d) / b - v / b = 0 ∨ (one - d) / b - v / b = 1 := by
  have e1 := Int.emod_add_mul_ediv one b
  have r0 := Int.emod_nonneg one (show b ≠ 0 by omega)
  have r1 := Int.emod_lt_of_pos one (show 0 < b by omega)
  have e2 := Int.emod_add_mul_ediv v b
  have s0 := Int.emod_nonneg v (show b ≠ 0 by omega)
  have s1 := Int.emod_lt_of_pos v (show 0 < b by omega)
  have k1 : one / b = v / b ∨ (one / b = v / b + 1 ∧ one % b = 0) := by
    rcases h1 with h | h
    · exact .inl (by rw [h])
    · have hd0 : b * (one / b - v / b) = v % b + 1 - one % b := by rw [Int.mul_sub]; omega
      by_cases hz : one / b - v / b ≤ 0
      · by_cases hz2 : one / b - v / b = 0
        · exact .inl (by omega)
        · have : b * (one / b - v / b) ≤ b * (-1) := Int.mul_le_mul_of_nonneg_left (by omega) (by omega)
          omega
      · by_cases hz2 : one / b - v / b = 1
        · rw [hz2, Int.mul_one] at hd0
          exact .inr ⟨by omega, by omega⟩
        · have : b * 2 ≤ b * (one / b - v / b) := Int.mul_le_mul_of_nonneg_left (by omega) (by omega)
          omega
  have q1 : ∀ k : Int, (one - (one % b - k * b)) / b = one / b + k := fun k => by
    rw [show one - (one % b - k * b) = (one / b + k) * b by rw [Int.add_mul, Int.mul_comm (one / b)]; omega]
    exact Int.mul_ediv_cancel _ (by omega)
  have q0 := q1 0
  rw [Int.zero_mul, Int.sub_zero, Int.add_zero] at q0
  have q2 := q1 1
  rw [Int.one_mul] at q2
  unfold dgs at hd
  by_cases hz : one % b = 0
  · rw [if_pos hz, List.mem_singleton] at hd
    rw [hz] at q0
    rw [hd, q0]
    omega
  · rw [if_neg hz] at hd
    simp only [List.mem_cons, List.not_mem_nil, or_false] at hd
    rcases hd with rfl | rfl
    · rw [q0]; omega
    · rw [q2]; omega
theorem atI2 {x y : V} {i : Int} (h : i = 0 ∨ i = 1) : atI [x, y] i = some (if i = 0 then x else y) := by rcases h with rfl | rfl <;> rfl
def pr_steps (K : PySem.W.Frag) : Pre := fun vs H R => ∃ (r te te' : Addr) (b mv ad : Int) (fi la : Option Int) (v : Int) (E E' : Ent), vs = [.ref r, .int v, .ref te, .int (v / b), .ref te'] ∧ IsRow K H r b mv ad fi la ∧ H te = some (.tup [oV E.1, oV E.2]) ∧ H te' = some (.tup [oV E'.1, oV E'.2]) ∧ R = fun u _ => u = .bl (stepM b ad v E (v / b) E')
theorem two_at {α : Type} {x y z : α} {i : Nat} (h : [x, y][i]? = some z) : (i = 0 ∧ z = x) ∨ (i = 1 ∧ z = y) := match i, h with
  | 0, h => .inl ⟨rfl, (Option.some.inj h).symm⟩
  | 1, h => .inr ⟨rfl, (Option.some.inj h).symm⟩
theorem c_steps_valid (W : Wd K mg) : Cal P w K mg base 3 "steps_valid" (spR (pr_steps K)) [] :=
  cal_mk W.F_steps_valid W.g_steps_valid sc_steps_valid (fun vs H R ⟨_, _, _, _, _, _, _, _, _, _, _, e, _⟩ => by rw [e]; rfl) (by
    rintro cdv A outer s H vs Q E R hr ⟨r, te, te', b, mv, ad, fi, la, v, Ea, Eb, rfl, hR, h1, h2, rfl⟩ q
    obtain ⟨ro, dx, hI⟩ := id hR
    have b2 := ro.b2
    have ad1 := ro.ad1
    have ad2 := ro.ad2
    refine bl_set (v := .int b) 5 sc_steps_valid.nd (ev_prop (p_base W) hr (ev_nm 0 rfl) hI fun H1 x1 => ⟨r, b, mv, ad, fi, la, rfl, hR.ex x1, rfl⟩) ?_
    refine bl_forZ (R := fun us H1 => ∃ p, us = [.ref p, .ref te] ∧ H1 p = some (.tup [.int v, .int (v + 1)])) (ear_cons (er_en (en_tup (ea_cons' (ev_nm 1 rfl) (ea_cons' (ev_add (ev_nm 1 rfl) ev_int) ea_nil')))) fun u H1 x1 ⟨p, eu, _, hp⟩ => ear_cons (er_ev (ev_nm 2 rfl)) fun u' H2 x2 eu' => ear_nil fun H3 x3 => ⟨p, by rw [eu, eu'], x3 _ _ (x2 _ _ hp)⟩) W.n_zip fun us H1 x1 ⟨p, eus, hp⟩ => ?_
    refine ⟨p, te, _, _, fun i σ' H' => ∃ y6 y7 y8 y9, σ' = [some (.ref r), some (.int v), some (.ref te), some (.int (v / b)), some (.ref te'), some (.int b), y6, y7, y8, y9] ∧ Ex H1 H' ∧ (0 < i → okOne b ad v Ea.1 (v / b) Eb = true) ∧ (1 < i → okOne b ad (v + 1) Ea.2 (v / b) Eb = true), eus, st_of hp, st_of (x1 _ _ h1), rfl, ⟨_, _, _, _, rfl, Ex.refl _, fun z => absurd z (by decide), fun z => absurd z (by decide)⟩, ?_, ?_, ?_⟩
    · rintro i σ' H' _ ⟨_, _, _, _, _, x2, _, _⟩
      exact ⟨st_of (x2 _ _ hp), st_of (x2 _ _ (x1 _ _ h1))⟩
    · rintro i x y Tt σ' H' hx hy ⟨y6, y7, y8, y9, rfl, x2, k0, k1⟩ H2 x3 hTt
      refine ⟨_, gt_tup (st_of hTt) (gts_cons (gt_nm 6 sc_steps_valid.nd) (gts_cons (gt_nm 7 sc_steps_valid.nd) gts_nil)), ?_⟩
      have hxy : ∃ (one : Int) (o : Option Int), x = .int one ∧ y = oV o ∧ (one = v ∨ one = v + 1) ∧ (okOne b ad one o (v / b) Eb = true → (0 < i + 1 → okOne b ad v Ea.1 (v / b) Eb = true) ∧ (1 < i + 1 → okOne b ad (v + 1) Ea.2 (v / b) Eb = true)) ∧ (okOne b ad one o (v / b) Eb = false → stepM b ad v Ea (v / b) Eb = false) := by
        rcases two_at hx with ⟨rfl, rfl⟩ | ⟨rfl, rfl⟩
        · obtain rfl : y = oV Ea.1 := (two_at hy).elim (fun z => z.2) fun z => nomatch z.1
          exact ⟨v, Ea.1, rfl, rfl, .inl rfl, fun z => ⟨fun _ => z, fun z2 => absurd z2 (by decide)⟩, fun z => by unfold stepM; rw [z]; rfl⟩
        · obtain rfl : y = oV Ea.2 := (two_at hy).elim (fun z => nomatch z.1) fun z => z.2
          exact ⟨v + 1, Ea.2, rfl, rfl, .inr rfl, fun z => ⟨fun _ => k0 (by decide), fun _ => z⟩, fun z => by unfold stepM; rw [z, Bool.and_false]⟩
      obtain ⟨one, o, rfl, rfl, hone, hyes, hno⟩ := hxy
      have y3 : Ex H H2 := x1.trans (x2.trans x3)
      refine bl_forL (R := fun u H3 => ∃ pd, u = .ref pd ∧ H3 pd = some (.lst ((match o with | none => [] | some _ => dgs b one).map V.int))) (er_ife (k := o.isSome) ?_ (fun hs => ?_) (fun hs => ?_)) fun u H3 x4 ⟨pd, eu, hpd⟩ => ?_
      · cases o with
        | none => exact et_to (et_notN (x := .non) (ev_nm 7 rfl)) rfl
        | some c => exact et_to (et_notN (x := .int c) (ev_nm 7 rfl)) rfl
      · cases o with
        | none => cases hs
        | some c => exact (er_call1 (c_digits_for W) hr (ea_cons' (ev_nm 5 rfl) (ea_cons' (ev_nm 6 rfl) ea_nil')) fun H3 _ => ⟨b, one, rfl, by omega, rfl⟩)
      · cases o with
        | none => exact (er_en (en_lst ea_nil')).imp fun u H3 _ ⟨pd, eu, _, hpd⟩ => ⟨pd, eu, hpd⟩
        | some c => cases hs
      · refine ⟨pd, _, fun i' σ' H' => ∃ y8 y9, σ' = [some (.ref r), some (.int v), some (.ref te), some (.int (v / b)), some (.ref te'), some (.int b), some (.int one), some (oV o), y8, y9] ∧ Ex H3 H' ∧ ∀ c, o = some c → ((dgs b one).take i').all (okDig b ad one c (v / b) Eb) = true, eu, sq_of hpd, ⟨_, _, rfl, Ex.refl _, fun _ _ => rfl⟩, fun i' σ' H' _ ⟨_, _, _, x5, _⟩ => sq_of (x5 _ _ hpd), ?_, ?_⟩
        · rintro i' xd σ' H' hxd ⟨y8, y9, rfl, x5, hall⟩
          cases o with
          | none => cases hxd
          | some c =>
            have hxd2 : ((dgs b one).map V.int)[i']? = some xd := hxd
            rw [List.getElem?_map] at hxd2
            obtain ⟨d, hd, rfl⟩ := Option.map_eq_some_iff.mp hxd2
            refine ⟨_, gt_nm 8 sc_steps_valid.nd, ?_⟩
            have hdm : d ∈ dgs b one := List.mem_of_getElem? hd
            have hnx := dig_next b2 hone hdm
            have z5 : Ex H H' := y3.trans (x4.trans x5)
            refine bl_set (v := oV (if (one - d) / b - v / b = 0 then Eb.1 else Eb.2)) 9 sc_steps_valid.nd (ev_ixT (ev_nm 4 rfl) (ev_sub (i := (one - d) / b) (j := v / b) (ev_fdivS (ev_sub (ev_nm 6 rfl) (ev_nm 8 rfl)) (ev_nm 5 rfl) ⟨by omega, by have := ro.b6; omega⟩) (ev_nm 3 rfl)) (st_of (z5 _ _ h2)) ((atI2 hnx).trans (by split <;> rfl))) ?_
            refine bl_when (k := !okDig b ad one c (v / b) Eb d) ?_ (fun hb => ?_) (fun hb => ?_)
            · unfold okDig
              cases hq : (if (one - d) / b - v / b = 0 then Eb.1 else Eb.2) with
              | none => exact et_ew (ew_or (k := true) (l := true) (et_to (et_isN (x := .non) (ev_nm 9 rfl)) rfl) fun z => nomatch z)
              | some a =>
                refine et_to (et_ew (ew_or (k := false) (l := decide (c + ad * (d.natAbs : Int) < a)) (et_to (et_isN (x := .int a) (ev_nm 9 rfl)) rfl) fun _ => ew_or1 (et_gt (ev_nm 9 rfl) (ev_add (ev_nm 7 rfl) (ev_mulS (i := ad) (j := (d.natAbs : Int)) (ev_prop (p_add W) hr (ev_nm 0 rfl) (z5 _ _ hI) fun H9 x10 => ⟨r, b, mv, ad, fi, la, rfl, hR.ex (z5.trans x10), rfl⟩) (ev_abs (ev_nm 8 rfl) W.n_abs) (.inl ⟨by omega, by omega⟩)))))) ?_
                show decide (c + ad * (d.natAbs : Int) < a) = !decide (a ≤ c + ad * (d.natAbs : Int))
                by_cases hl : a ≤ c + ad * (d.natAbs : Int)
                · rw [decide_eq_true hl, decide_eq_false (by omega)]; rfl
                · rw [decide_eq_false hl, decide_eq_true (by omega)]; rfl
            · refine bl_ret (v := .bl false) ev_bl fun H6 x6 => q _ H6 (z5.trans x6) ?_
              have hf : okDig b ad one c (v / b) Eb d = false := by simpa using hb
              rw [hno ?_]
              show (dgs b one).all (okDig b ad one c (v / b) Eb) = false
              rw [List.all_eq_false]
              exact ⟨d, hdm, by rw [hf]; decide⟩
            · refine bl_nil rfl ⟨_, _, rfl, x5, fun c' ec => ?_⟩
              obtain rfl := Option.some.inj ec
              have ht : okDig b ad one c (v / b) Eb d = true := by simpa using hb
              rw [List.take_add_one, hd, List.all_append, hall c rfl]
              show (true && ([d].all _)) = true
              simp [ht]
        · rintro σ' H' ⟨y8, y9, rfl, x5, hall⟩
          refine bl_nil rfl ⟨_, _, _, _, rfl, (x2.trans x3).trans (x4.trans x5), ?_⟩
          refine hyes ?_
          cases o with
          | none => rfl
          | some c =>
            have := hall c rfl
            rw [List.length_map, List.take_length] at this
            exact this
    · rintro σ' H' ⟨y6, y7, y8, y9, rfl, x2, k0, k1⟩
      refine bl_ret (v := .bl true) ev_bl fun H3 x3 => q _ H3 (x1.trans (x2.trans x3)) ?_
      unfold stepM
      rw [k0 Nat.zero_lt_two, k1 Nat.one_lt_two]
      rfl)
end
end K27

/-! ends_valid, check_table. -/
namespace K27
open PySem PySem.Spec PyProof.Rows L2 Evl C8
section
variable {base : Heap} {mg : Str → Option Value} {K : PySem.W.Frag} {w : World} {P : Program}
def endOne (ad mv one : Int) (cost : Option Int) (mo bd : Int) : Bool := match cost with
  | none => true
  | some c => decide (bd ≤ c + ad * (one.natAbs : Int) + mv * mo)
def endM (ad mv v : Int) (E : Ent) (mo bd : Int) : Bool := endOne ad mv v E.1 mo bd && endOne ad mv (v + 1) E.2 mo bd
def pr_ends (K : PySem.W.Frag) : Pre := fun vs H R => ∃ (r te : Addr) (b mv ad : Int) (fi la : Option Int) (v mo bd : Int) (E : Ent), vs = [.ref r, .int v, .ref te, .int mo, .int bd] ∧ IsRow K H r b mv ad fi la ∧ H te = some (.tup [oV E.1, oV E.2]) ∧ R = fun u _ => u = .bl (endM ad mv v E mo bd)
theorem c_ends_valid (W : Wd K mg) : Cal P w K mg base 3 "ends_valid" (spR (pr_ends K)) [] :=
  cal_mk W.F_ends_valid W.g_ends_valid sc_ends_valid (fun vs H R ⟨_, _, _, _, _, _, _, _, _, _, _, e, _⟩ => by rw [e]; rfl) (by
    rintro cdv A outer s H vs Q E R hr ⟨r, te, b, mv, ad, fi, la, v, mo, bd, Ea, rfl, hR, h1, rfl⟩ q
    obtain ⟨ro, dx, hI⟩ := id hR
    have ad1 := ro.ad1
    have ad2 := ro.ad2
    have mv1 := ro.mv1
    have mv2 := ro.mv2
    refine bl_forZ (R := fun us H1 => ∃ p, us = [.ref p, .ref te] ∧ H1 p = some (.tup [.int v, .int (v + 1)])) (ear_cons (er_en (en_tup (ea_cons' (ev_nm 1 rfl) (ea_cons' (ev_add (ev_nm 1 rfl) ev_int) ea_nil')))) fun u H1 x1 ⟨p, eu, _, hp⟩ => ear_cons (er_ev (ev_nm 2 rfl)) fun u' H2 x2 eu' => ear_nil fun H3 x3 => ⟨p, by rw [eu, eu'], x3 _ _ (x2 _ _ hp)⟩) W.n_zip fun us H1 x1 ⟨p, eus, hp⟩ => ?_
    refine ⟨p, te, _, _, fun i σ' H' => ∃ y6 y7, σ' = [some (.ref r), some (.int v), some (.ref te), some (.int mo), some (.int bd), y6, y7] ∧ Ex H1 H' ∧ (0 < i → endOne ad mv v Ea.1 mo bd = true) ∧ (1 < i → endOne ad mv (v + 1) Ea.2 mo bd = true), eus, st_of hp, st_of (x1 _ _ h1), rfl, ⟨_, _, rfl, Ex.refl _, fun z => absurd z (by decide), fun z => absurd z (by decide)⟩, ?_, ?_, ?_⟩
    · rintro i σ' H' _ ⟨_, _, _, x2, _, _⟩
      exact ⟨st_of (x2 _ _ hp), st_of (x2 _ _ (x1 _ _ h1))⟩
    · rintro i x y Tt σ' H' hx hy ⟨y6, y7, rfl, x2, k0, k1⟩ H2 x3 hTt
      refine ⟨_, gt_tup (st_of hTt) (gts_cons (gt_nm 5 sc_ends_valid.nd) (gts_cons (gt_nm 6 sc_ends_valid.nd) gts_nil)), ?_⟩
      have hxy : ∃ (one : Int) (o : Option Int), x = .int one ∧ y = oV o ∧ (endOne ad mv one o mo bd = true → (0 < i + 1 → endOne ad mv v Ea.1 mo bd = true) ∧ (1 < i + 1 → endOne ad mv (v + 1) Ea.2 mo bd = true)) ∧ (endOne ad mv one o mo bd = false → endM ad mv v Ea mo bd = false) := by
        rcases two_at hx with ⟨rfl, rfl⟩ | ⟨rfl, rfl⟩
        · obtain rfl : y = oV Ea.1 := (two_at hy).elim (fun z => z.2) fun z => nomatch z.1
          exact ⟨v, Ea.1, rfl, rfl, fun z => ⟨fun _ => z, fun z2 => absurd z2 (by decide)⟩, fun z => by unfold endM; rw [z]; rfl⟩
        · obtain rfl : y = oV Ea.2 := (two_at hy).elim (fun z => nomatch z.1) fun z => z.2
          exact ⟨v + 1, Ea.2, rfl, rfl, fun z => ⟨fun _ => k0 (by decide), fun _ => z⟩, fun z => by unfold endM; rw [z, Bool.and_false]⟩
      obtain ⟨one, o, rfl, rfl, hyes, hno⟩ := hxy
      have y3 : Ex H H2 := x1.trans (x2.trans x3)
      refine bl_when (k := !endOne ad mv one o mo bd) ?_ (fun hb => ?_) (fun hb => ?_)
      · cases o with
        | none => exact et_to (et_ew (ew_and (k := false) (l := false) (et_to (et_notN (x := .non) (ev_nm 6 rfl)) rfl) fun z => nomatch z)) rfl
        | some c =>
          refine et_to (et_ew (ew_and (k := true) (l := decide (c + ad * (one.natAbs : Int) + mv * mo < bd)) (et_to (et_notN (x := .int c) (ev_nm 6 rfl)) rfl) fun _ => ew_and1 (et_lt (ev_add (ev_add (ev_nm 6 rfl) (ev_mulS (i := ad) (j := (one.natAbs : Int)) (ev_prop (p_add W) hr (ev_nm 0 rfl) (y3 _ _ hI) fun H9 x10 => ⟨r, b, mv, ad, fi, la, rfl, hR.ex (y3.trans x10), rfl⟩) (ev_abs (ev_nm 5 rfl) W.n_abs) (.inl ⟨by omega, by omega⟩)))
            (ev_mulS (i := mv) (j := mo) (ev_prop (p_move W) hr (ev_nm 0 rfl) (y3 _ _ hI) fun H9 x10 => ⟨r, b, mv, ad, fi, la, rfl, hR.ex (y3.trans x10), rfl⟩) (ev_nm 3 rfl) (.inl ⟨by omega, by omega⟩))) (ev_nm 4 rfl)))) ?_
          show decide (c + ad * (one.natAbs : Int) + mv * mo < bd) = !decide (bd ≤ c + ad * (one.natAbs : Int) + mv * mo)
          by_cases hl : bd ≤ c + ad * (one.natAbs : Int) + mv * mo
          · rw [decide_eq_true hl, decide_eq_false (by omega)]; rfl
          · rw [decide_eq_false hl, decide_eq_true (by omega)]; rfl
      · refine bl_ret (v := .bl false) ev_bl fun H6 x6 => q _ H6 (y3.trans x6) ?_
        rw [hno (by simpa using hb)]
      · exact bl_nil rfl ⟨_, _, rfl, x2.trans x3, hyes (by simpa using hb)⟩
    · rintro σ' H' ⟨y6, y7, rfl, x2, k0, k1⟩
      refine bl_ret (v := .bl true) ev_bl fun H3 x3 => q _ H3 (x1.trans (x2.trans x3)) ?_
      unfold endM
      rw [k0 Nat.zero_lt_two, k1 Nat.one_lt_two]
      rfl)

theorem flo_at {b n e l : Int} (hb : 2 ≤ b) (h : n ≠ 0 → l ≤ e) (j : Nat) : flo b n e (l + (j : Int)) = atP b n e l / b ^ j := by
  unfold flo atP
  by_cases hn : n = 0
  · subst hn
    simp
  · have hl := h hn
    rw [if_neg hn, if_neg hn]
    have p0 : (0 : Int) < b := by omega
    by_cases hj : l + (j : Int) ≤ e
    · rw [if_pos hj, show (e - l).toNat = (e - (l + (j : Int))).toNat + j by omega, Int.pow_add, ← Int.mul_assoc, Int.mul_ediv_cancel _ (fun z => by have h9 : (0 : Int) < b ^ j := Int.pow_pos p0; omega)]
    · rw [if_neg hj]
      have e1 : b ^ j = b ^ (l + (j : Int) - e).toNat * b ^ (e - l).toNat := by rw [← Int.pow_add]; congr 1; omega
      rw [e1, Int.mul_ediv_mul_of_pos_left _ _ (Int.pow_pos p0)]
def vAt (b X : Int) (j : Nat) : Int := X / b ^ j
def entA (T : List Ent) (i : Nat) : Ent := T.getD i (none, none)
def headM (T : List Ent) : Bool := match (entA T 0).1 with
  | none => false
  | some c => decide (c ≤ 0)
def stepsM (b ad X : Int) (T : List Ent) (i : Nat) : Bool := stepM b ad (vAt b X i) (entA T i) (vAt b X (i + 1)) (entA T (i + 1))
def endsM (b ad mv X dp bd : Int) (m0 : Nat) (T : List Ent) (j : Nat) : Bool := endM ad mv (vAt b X (m0 + j)) (entA T (m0 + j)) (2 * ((m0 + j : Nat) : Int) - dp) bd
/-- what check_table answers -/
def tabM (b mv ad X dp bd : Int) (k m0 : Nat) (T : List Ent) : Bool :=
  decide (T.length = k) && (headM T && ((List.range (k - 1)).all (stepsM b ad X T) && (List.range (k - m0)).all (endsM b ad mv X dp bd m0 T)))
theorem all_snoc {f : Nat → Bool} {i : Nat} (h : (List.range i).all f = true) (h2 : f i = true) : (List.range (i + 1)).all f = true := by
  rw [List.range_succ, List.all_append, h]
  simp [h2]
theorem all_no {f : Nat → Bool} {i k : Nat} (h : f i = false) (hk : i < k) : (List.range k).all f = false := List.all_eq_false.mpr ⟨i, List.mem_range.mpr hk, by rw [h]; decide⟩
theorem entA_at {T : List Ent} {i : Nat} {E : Ent} (h : T[i]? = some E) : entA T i = E := by
  unfold entA
  rw [List.getD_eq_getElem?_getD, h]
  rfl
def pr_check (K : PySem.W.Frag) : Pre := fun vs H R => ∃ (r a a' x : Addr) (b mv ad : Int) (fi la : Option Int) (p p' n e bd : Int) (T : List Ent), vs = [.ref r, .ref a, .ref a', .int bd, .ref x] ∧ Two K H r a a' b mv ad fi la p p' n e ∧ IsTab H x T ∧ T.length ≤ 30000 ∧ R = fun u _ => ∃ l t, SpanIs b la p p' n e l t ∧ u = .bl (tabM b mv ad (atP b n e l) ((p' - p).natAbs : Int) bd (t + 1 - l).toNat (max p p' - l).toNat T)
theorem tab_at {H : Hp} {ts : List Addr} {T : List Ent} (h : TabRel H ts T) {i : Nat} (hi : i < T.length) : ∃ t, ts[i]? = some t ∧ H t = some (.tup [oV (entA T i).1, oV (entA T i).2]) := by
  have hi2 : i < ts.length := by rw [Paired.length h]; exact hi
  obtain ⟨E, hE, hH⟩ := paired_get h (List.getElem?_eq_getElem hi2)
  exact ⟨ts[i], List.getElem?_eq_getElem hi2, by rw [entA_at hE]; exact hH⟩
theorem atI_nat {xs : List V} {i : Nat} {y : V} (h : xs[i]? = some y) : atI xs (i : Int) = some y := by
  have hi := (List.getElem?_eq_some_iff.mp h).1
  have : ixN xs.length (i : Int) = some i := by
    unfold ixN
    simp
    omega
  unfold atI
  rw [this]
  exact h
end
end K27

/-! check_table. -/
namespace K27
open PySem PySem.Spec PyProof.Rows L2 Evl C8
section
variable {base : Heap} {mg : Str → Option Value} {K : PySem.W.Frag} {w : World} {P : Program}
theorem flos_at {b n e l : Int} {k i : Nat} (hb : 2 ≤ b) (h : n ≠ 0 → l ≤ e) (hi : i < k) : ((flosV b n e l k).map V.int)[i]? = some (.int (vAt b (atP b n e l) i)) := by
  unfold flosV vAt
  rw [← flo_at hb h]
  simp [hi]
theorem flos_len {b n e l : Int} {k : Nat} : ((flosV b n e l k).map V.int).length = k := by simp [flosV]
theorem c_check_table (W : Wd K mg) : Cal P w K mg base 7 "check_table" (spR (pr_check K)) [] :=
  cal_mk W.F_check_table W.g_check_table sc_check_table (fun vs H R ⟨_, _, _, _, _, _, _, _, _, _, _, _, _, _, _, e, _⟩ => by rw [e]; rfl) (by
    rintro cdv A outer s H vs Q E R hr ⟨r, a, a', x, b, mv, ad, fi, la, p, p', n, e, bd, Tb, rfl, T, hT, hTl, rfl⟩ q
    obtain ⟨n0, e0, n1, e1, h0, h1, hd, o0, o1⟩ := T.st
    obtain ⟨ro, rdx, hI⟩ := id T.row
    have b2 := ro.b2
    obtain ⟨ts, hts, hrel⟩ := id hT
    have hlen := Paired.length hrel
    refine bl_exprR (er_call1 (c_require_ends W) hr (ea_cons' (ev_nm 0 rfl) (ea_cons' (ev_nm 1 rfl) (ea_cons' (ev_nm 2 rfl) ea_nil'))) fun H1 x1 => ⟨r, a, a', b, mv, ad, fi, la, n0, e0, p, n1, e1, p', rfl, T.row.ex x1, h0.ex x1, o0, h1.ex x1, o1, rfl⟩) fun v H1 x1 _ => ?_
    refine bl_when (k := false) (et_to (et_not (k := true) (et_val (ev_call1 (c_is_integer W) hr (ea_cons' (ev_nm 3 rfl) ea_nil') fun H2 _ => ⟨bd, rfl, rfl⟩))) rfl) (fun z => nomatch z) fun _ => ?_
    refine bl_setR 5 sc_check_table.nd (er_call1 (c_floors W) hr (ea_cons' (ev_nm 0 rfl) (ea_cons' (ev_nm 1 rfl) (ea_cons' (ev_nm 2 rfl) ea_nil'))) fun H2 x2 => ⟨r, a, a', b, mv, ad, fi, la, p, p', n, e, rfl, T.exx (x1.trans x2), rfl⟩) fun v H2 x2 ⟨pf, l, t, ev, hSp, hpf⟩ => ?_
    subst ev
    obtain ⟨c1, c2, c3, c4, c5, c6, c7⟩ := span_bounds T hSp
    have hle : n ≠ 0 → l ≤ e := fun hn => by
      have := hSp.1
      unfold lowF at this
      rw [if_neg hn] at this
      omega
    have hk1 : 1 ≤ (t + 1 - l).toNat := by omega
    have hm0 : (max p p' - l).toNat < (t + 1 - l).toNat := by omega
    have hkt : ((t + 1 - l).toNat : Int) = t + 1 - l := by omega
    have hmt : ((max p p' - l).toNat : Int) = max p p' - l := by omega
    generalize hX : atP b n e l = X at *
    have hfl : ∀ i, i < (t + 1 - l).toNat → ((flosV b n e l (t + 1 - l).toNat).map V.int)[i]? = some (.int (vAt b X i)) := fun i hi => by rw [← hX]; exact flos_at b2 hle hi
    have hfn : ((flosV b n e l (t + 1 - l).toNat).map V.int).length = (t + 1 - l).toNat := flos_len
    generalize ((flosV b n e l (t + 1 - l).toNat).map V.int) = fs at *
    generalize (t + 1 - l).toNat = k at *
    generalize (max p p' - l).toNat = m0 at *
    have y2 : Ex H H2 := x1.trans x2
    have fin : ∀ (u : Bool) H9, Ex H2 H9 → tabM b mv ad X ((p' - p).natAbs : Int) bd k m0 Tb = u → Q (.bl u) H9 := fun u H9 x9 eu => q _ H9 (y2.trans x9) ⟨l, t, hSp, by rw [hX, show (t + 1 - l).toNat = k by omega, show (max p p' - l).toNat = m0 by omega, eu]⟩
    have vlen : ∀ H9, Ex H2 H9 → SqL K H9 x (ts.map V.ref) := fun H9 x9 => sq_of ((y2.trans x9) _ _ hts)
    have eln : ((ts.map V.ref).length : Int) = (Tb.length : Nat) := by rw [List.length_map, hlen]
    refine bl_when (k := !decide (Tb.length = k)) (et_to (et_ew (ew_or (k := false) (et_to (et_not (k := true) (et_val (ev_isi (t := "list") (T := "list") (r := true) W.n_isinstance (ev_nm 4 rfl) (ev_blt rfl W.n_list boot_list rfl) (fun H9 x9 => .base (.lst ((y2.trans x9) _ _ hts))) (by decide +kernel)))) rfl)
      (fun _ => ew_or (k := !decide (Tb.length = k)) (l := false) (et_to (et_neI (i := (Tb.length : Nat)) (j := (k : Nat)) (ev_to (ev_cbB (v := .int ((ts.map V.ref).length : Nat)) call_len_seq W.n_len boot_len (ea_cons' (ev_nm 4 rfl) ea_nil') (fun H9 x9 Q q => ⟨x, _, rfl, .inl (vlen _ x9), q H9 (Ex.refl H9)⟩)) (by rw [eln]))
        (ev_to (ev_cbB (v := .int (fs.length : Nat)) call_len_seq W.n_len boot_len (ea_cons' (ev_nm 5 rfl) ea_nil') (fun H9 x9 Q q => ⟨pf, _, rfl, .inl (sq_of (x9 _ _ hpf)), q H9 (Ex.refl H9)⟩)) (by rw [hfn]))) (by congr 1; exact decide_eq_decide.mpr Int.ofNat_inj))
      (fun _ => ew_or1 (k := false) (et_to (et_not (k := true) (et_val (ev_er (er_cbB (Ra := fun vs H9 => ∃ pz, vs = [.ref pz] ∧ H9 pz = some (.lst ((List.replicate ts.length true).map V.bl))) (cr_all rfl) W.n_all boot_all (ear_cons (er_en (en_lcL (i := 10) (xs := ts.map V.ref) (fun _ => true) (fun _ => .bl true) ((er_ev (ev_nm 4 rfl)).imp fun u H9 x9 eu => ⟨x, eu, vlen _ x9⟩) (by rw [List.length_map]; omega) sc_check_table.nd pb_no (fun _ _ _ _ _ => ev_yes) fun j y H9 x9 hj _ s0 H0 C cl fp => ?_)) fun u H9 x9 hu => ear_nil fun H10 x10 => ?_) fun vs H9 x9 ⟨pz, evs, hpz⟩ Q q => ⟨pz, _, evs, sq_of hpz, q _ H9 (Ex.refl H9) (by simp)⟩)))) rfl))))) (by simp)) (fun hb => ?_) fun hb => ?_
    · rw [List.getElem?_map] at hj
      obtain ⟨tj, htj, rfl⟩ := Option.map_eq_some_iff.mp hj
      obtain ⟨Ej, _, hEj⟩ := paired_get hrel htj
      exact ev_call1 (c_is_entry W) hr (ea_cons' (ev_nm 10 rfl) ea_nil') fun H10 x10 => ⟨tj, Ej.1, Ej.2, rfl, (y2.trans (x9.trans x10)) _ _ hEj, rfl⟩
    · obtain ⟨pz, eu, _, hpz⟩ := hu
      refine ⟨pz, by rw [eu], x10 _ _ (by rw [hpz, given_all]; simp [List.map_const'])⟩
    · refine bl_ret (v := .bl false) ev_bl fun H6 x6 => fin false H6 x6 ?_
      have hb' : ¬ Tb.length = k := by simpa using hb
      unfold tabM
      rw [decide_eq_false hb']
      rfl
    have hlk : Tb.length = k := by simpa using hb
    obtain ⟨t0, ht0, hH0⟩ := tab_at hrel (i := 0) (by omega)
    have at0 : ∀ {i : Nat} {ti : Addr}, ts[i]? = some ti → atI (ts.map V.ref) (i : Int) = some (V.ref ti) := fun h => atI_nat (by rw [List.getElem?_map, h]; rfl)
    refine bl_when (k := !headM Tb) ?_ (fun hb2 => ?_) fun hb2 => ?_
    · unfold headM
      cases hq : (entA Tb 0).1 with
      | none =>
        rw [hq] at hH0
        exact et_ew (ew_or (k := true) (l := true) (et_to (et_isN (x := .non) (ev_ixT (ev_ixL (ev_nm 4 rfl) ev_int (vlen _ (Ex.refl _)) (at0 (i := 0) ht0)) ev_int (st_of (y2 _ _ hH0)) (i := 0) rfl)) rfl) fun z => nomatch z)
      | some c =>
        rw [hq] at hH0
        refine et_to (et_ew (ew_or (k := false) (l := decide (0 < c)) (et_to (et_isN (x := .int c) (ev_ixT (ev_ixL (ev_nm 4 rfl) ev_int (vlen _ (Ex.refl _)) (at0 (i := 0) ht0)) ev_int (st_of (y2 _ _ hH0)) (i := 0) rfl)) rfl) fun _ => ew_or1 (et_gt (ev_ixT (ev_ixL (ev_nm 4 rfl) ev_int (vlen _ (Ex.refl _)) (at0 (i := 0) ht0)) ev_int (st_of (y2 _ _ hH0)) (i := 0) rfl) ev_int))) ?_
        show decide (0 < c) = !decide (c ≤ 0)
        by_cases hl : c ≤ 0
        · rw [decide_eq_true hl, decide_eq_false (by omega)]; rfl
        · rw [decide_eq_false hl, decide_eq_true (by omega)]; rfl
    · refine bl_ret (v := .bl false) ev_bl fun H6 x6 => fin false H6 x6 ?_
      have hb' : headM Tb = false := by simpa using hb2
      unfold tabM
      rw [hb', decide_eq_true hlk]
      rfl
    have hhd : headM Tb = true := by simpa using hb2
    refine bl_forR1 (n := ((k - 1 : Nat) : Int)) (fun i σ' H' => ∃ y6 y7 y8 y9 y10, σ' = [some (.ref r), some (.ref a), some (.ref a'), some (.int bd), some (.ref x), some (.ref pf), y6, y7, y8, y9, y10] ∧ Ex H2 H' ∧ (List.range i).all (stepsM b ad X Tb) = true) (ev_to (ev_sub (i := (k : Nat)) (j := 1) (ev_to (ev_cbB (v := .int (fs.length : Nat)) call_len_seq W.n_len boot_len (ea_cons' (ev_nm 5 rfl) ea_nil') (fun H9 x9 Q q => ⟨pf, _, rfl, .inl (sq_of (x9 _ _ hpf)), q H9 (Ex.refl H9)⟩)) (by rw [hfn])) ev_int) (by congr 1; omega)) (by omega) W.n_range ⟨_, _, _, _, _, rfl, Ex.refl _, rfl⟩ ?_ ?_
    · rintro i σ' H' hi ⟨y6, y7, y8, y9, y10, rfl, x3, hall⟩
      have hi' : i < k - 1 := by omega
      refine ⟨_, gt_nm 6 sc_check_table.nd, ?_⟩
      obtain ⟨ti, hti, hHi⟩ := tab_at hrel (i := i) (by omega)
      obtain ⟨tj, htj, hHj⟩ := tab_at hrel (i := i + 1) (by omega)
      have y3 := y2.trans x3
      have hsuc : vAt b X (i + 1) = vAt b X i / b := div_pow_succ (by omega) i
      refine bl_when (k := !stepsM b ad X Tb i) (et_not (et_val (ev_call1 (v := .bl (stepsM b ad X Tb i)) (c_steps_valid W) hr (ea_cons' (ev_nm 0 rfl) (ea_cons' (ev_ixL (ev_nm 5 rfl) (ev_nm 6 rfl) (sq_of (x3 _ _ hpf)) (atI_nat (hfl i (by omega)))) (ea_cons' (ev_ixL (ev_nm 4 rfl) (ev_nm 6 rfl) (vlen _ x3) (at0 hti)) (ea_cons' (ev_ixL (i := ((i + 1 : Nat) : Int)) (ev_nm 5 rfl) (ev_to (ev_add (ev_nm 6 rfl) ev_int) (by congr 1)) (sq_of (x3 _ _ hpf)) (atI_nat (hfl (i + 1) (by omega)))) (ea_cons' (ev_ixL (i := ((i + 1 : Nat) : Int)) (ev_nm 4 rfl) (ev_to (ev_add (ev_nm 6 rfl) ev_int) (by congr 1)) (vlen _ x3) (at0 htj)) ea_nil'))))) fun H9 x9 =>
        ⟨r, ti, tj, b, mv, ad, fi, la, vAt b X i, entA Tb i, entA Tb (i + 1), by rw [hsuc], T.row.ex (y3.trans x9), (y3.trans x9) _ _ hHi, (y3.trans x9) _ _ hHj, by unfold stepsM; rw [hsuc]⟩))) (fun hb3 => ?_) fun hb3 => ?_
      · refine bl_ret (v := .bl false) ev_bl fun H6 x6 => fin false H6 (x3.trans x6) ?_
        have hb' : stepsM b ad X Tb i = false := by simpa using hb3
        unfold tabM
        rw [hhd, decide_eq_true hlk, all_no hb' hi']
        rfl
      · exact bl_nil rfl ⟨_, _, _, _, _, rfl, x3, all_snoc hall (by simpa using hb3)⟩
    rintro σ' H3 ⟨y6, y7, y8, y9, y10, rfl, x3, hst⟩
    rw [show (((k - 1 : Nat) : Int)).toNat = k - 1 by omega] at hst
    have y3 := y2.trans x3
    refine bl_setR (R := fun u _ => u = .int l) 7 sc_check_table.nd (er_ixT (er_call1 (c_span W) hr (ea_cons' (ev_nm 0 rfl) (ea_cons' (ev_nm 1 rfl) (ea_cons' (ev_nm 2 rfl) ea_nil'))) fun H9 x9 => ⟨r, a, a', b, mv, ad, fi, la, p, p', n, e, rfl, T.exx (y3.trans x9), rfl⟩) fun u H9 x9 ⟨l', t', ⟨pp, eu, hpp⟩, hSp'⟩ => ⟨pp, eu, _, st_of hpp, 0, ev_int, .int l', rfl, fun _ _ => by rw [(span_uniq hSp hSp').1]⟩) fun u H4 x4 eu => ?_
    subst eu
    obtain ⟨qa, g1, g2⟩ := id h0
    obtain ⟨qb, g3, g4⟩ := id h1
    have y4 := y3.trans x4
    refine bl_forR2 (l := max p p') (n := l + (k : Int)) (fun i σ' H' => ∃ y6 y8 y9 y10, σ' = [some (.ref r), some (.ref a), some (.ref a'), some (.int bd), some (.ref x), some (.ref pf), y6, some (.int l), y8, y9, y10] ∧ Ex H4 H' ∧ (List.range i).all (endsM b ad mv X ((p' - p).natAbs : Int) bd m0 Tb) = true)
      (ev_max2' (ev_ixT (ev_nm 1 rfl) ev_int (st_of (y4 _ _ g1)) (i := 1) rfl) (ev_ixT (ev_nm 2 rfl) ev_int (st_of (y4 _ _ g3)) (i := 1) rfl) W.n_max)
      (ev_add (ev_nm 7 rfl) (ev_to (ev_cbB (v := .int (fs.length : Nat)) call_len_seq W.n_len boot_len (ea_cons' (ev_nm 5 rfl) ea_nil') (fun H9 x9 Q q => ⟨pf, _, rfl, .inl (sq_of ((x3.trans (x4.trans x9)) _ _ hpf)), q H9 (Ex.refl H9)⟩)) (by rw [hfn]))) (by have := T.sm; omega) W.n_range ⟨_, _, _, _, rfl, Ex.refl _, rfl⟩ ?_ ?_
    · rintro i σ' H' hi ⟨y6, y8, y9, y10, rfl, x5, hall⟩
      refine ⟨_, gt_nm 8 sc_check_table.nd, ?_⟩
      have hik : m0 + i < k := by omega
      have y5 := y4.trans x5
      obtain ⟨ti, hti, hHi⟩ := tab_at hrel (i := m0 + i) (by omega)
      refine bl_set (v := .int (2 * ((m0 + i : Nat) : Int) - ((p' - p).natAbs : Int))) 9 sc_check_table.nd (ev_to (ev_sub (ev_mulS (i := 2) (j := ((m0 + i : Nat) : Int)) ev_int (ev_to (ev_sub (ev_nm 8 rfl) (ev_nm 7 rfl)) (by congr 1; omega)) (.inl ⟨by decide, by decide⟩)) (ev_abs (i := p' - p) (ev_sub (ev_ixT (ev_nm 2 rfl) ev_int (st_of (y5 _ _ g3)) (i := 1) rfl) (ev_ixT (ev_nm 1 rfl) ev_int (st_of (y5 _ _ g1)) (i := 1) rfl)) W.n_abs)) rfl) ?_
      refine bl_when (k := !endsM b ad mv X ((p' - p).natAbs : Int) bd m0 Tb i) (et_not (et_val (ev_call1 (v := .bl (endsM b ad mv X ((p' - p).natAbs : Int) bd m0 Tb i)) (c_ends_valid W) hr (ea_cons' (ev_nm 0 rfl) (ea_cons' (ev_ixL (i := ((m0 + i : Nat) : Int)) (ev_nm 5 rfl) (ev_to (ev_sub (ev_nm 8 rfl) (ev_nm 7 rfl)) (by congr 1; omega)) (sq_of ((x3.trans (x4.trans x5)) _ _ hpf)) (atI_nat (hfl (m0 + i) hik))) (ea_cons' (ev_ixL (i := ((m0 + i : Nat) : Int)) (ev_nm 4 rfl) (ev_to (ev_sub (ev_nm 8 rfl) (ev_nm 7 rfl)) (by congr 1; omega)) (vlen _ (x3.trans (x4.trans x5))) (at0 hti)) (ea_cons' (ev_nm 9 rfl) (ea_cons' (ev_nm 3 rfl) ea_nil'))))) fun H9 x9 =>
        ⟨r, ti, b, mv, ad, fi, la, vAt b X (m0 + i), _, bd, entA Tb (m0 + i), rfl, T.row.ex (y5.trans x9), (y5.trans x9) _ _ hHi, rfl⟩))) (fun hb3 => ?_) fun hb3 => ?_
      · refine bl_ret (v := .bl false) ev_bl fun H6 x6 => fin false H6 (x3.trans (x4.trans (x5.trans x6))) ?_
        have hb' : endsM b ad mv X ((p' - p).natAbs : Int) bd m0 Tb i = false := by simpa using hb3
        unfold tabM
        rw [hhd, decide_eq_true hlk, hst, all_no hb' (show i < k - m0 by omega)]
        rfl
      · exact bl_nil rfl ⟨_, _, _, _, rfl, x5, all_snoc hall (by simpa using hb3)⟩
    · rintro σ' H' ⟨y6, y8, y9, y10, rfl, x5, hall⟩
      refine bl_ret (v := .bl true) ev_bl fun H6 x6 => fin true H6 (x3.trans (x4.trans (x5.trans x6))) ?_
      rw [show (l + (k : Int) - max p p').toNat = k - m0 by omega] at hall
      unfold tabM
      rw [hhd, decide_eq_true hlk, hst, hall]
      rfl)
end
end K27

/-! is_end, Row.__init__, _law_row. -/
namespace K27
open PySem PySem.Spec PyProof.Rows L2 Evl C8
section
variable {base : Heap} {mg : Str → Option Value} {K : PySem.W.Frag} {w : World} {P : Program}
def pr_is_end : Pre := fun vs H R => ∃ o : Option Int, vs = [oV o] ∧ (∀ i, o = some i → -1000 ≤ i ∧ i ≤ 1000) ∧ R = fun v _ => v = .bl true
theorem c_is_end (W : Wd K mg) : Cal P w K mg base 3 "is_end" (spR pr_is_end) [] :=
  cal_mk W.F_is_end W.g_is_end sc_is_end (fun vs H R ⟨_, e, _⟩ => by rw [e]; rfl) (by
    rintro cdv A outer s H vs Q E R hr ⟨o, rfl, ho, rfl⟩ q
    refine bl_ret (v := .bl true) ?_ fun H1 e1 => q _ H1 e1 rfl
    cases o with
    | none => exact ev_to (ev_or (k := true) (l := true) (ev_isN (x := .non) (ev_nm 0 rfl)) fun z => nomatch z) rfl
    | some i =>
      obtain ⟨g1, g2⟩ := ho i rfl
      refine ev_to (ev_or (k := false) (l := true) (ev_isN (x := .int i) (ev_nm 0 rfl)) fun _ => ev_one (ev_call1 (c_is_between W) hr (ea_cons' (ev_nm 0 rfl) (ea_cons' (ev_neg (ev_maxP W rfl rfl)) (ea_cons' (ev_maxP W rfl rfl) ea_nil'))) fun H1 e1 => ⟨i, -1000, 1000, rfl, by
        rw [decide_eq_true g1, decide_eq_true g2]; rfl⟩)) rfl)
def spRow (K : PySem.W.Frag) : Sp := fun vs H Q _ => ∃ (H0 : Hp) (x dx : Addr) (b mv ad : Int) (fi la : Option Int), vs = [.ref x, .int b, .int mv, .int ad, oV fi, oV la] ∧ Ex H0 H ∧ H0 x = none ∧ H x = some (.ins (He.ga K "Row") dx []) ∧ RowOk b mv ad fi la ∧ b ≤ 36 ∧ (∀ i j, fi = some i → la = some j → i ≤ j) ∧
  ∀ H', Ex H0 H' → H' x = some (.ins (He.ga K "Row") dx (rowF b mv ad fi la)) → Q .non H'
theorem dd2 {a b c : Int} (h : a ≤ b) (h2 : b ≤ c) : (fun (v : V) (_ : Hp) => v = .bl (decide (a ≤ b) && decide (b ≤ c))) = fun v _ => v = .bl true := by rw [decide_eq_true h, decide_eq_true h2]; rfl
theorem ok_row (W : Wd K mg) {fd : FuncData} {kws : List (Str × V)} (F : FunD K "__init__" "Row.__init__" (defArgs s_Row_init) (defBody s_Row_init) (defScope s_Row_init) [] kws (He.ma K (He.ga K "Row") "__init__") fd) : FnOk P w K mg base C8.CX0 4 (He.ma K (He.ga K "Row") "__init__") fd ["self", "base", "move", "add", "first", "last"] (spRow K) := by
  refine F.ok sc_Row_init (fun vs H Q E ⟨_, _, _, _, _, _, _, _, e, _⟩ => by rw [e]; rfl) fun cdv A outer s H vs Q E hr hsp => ⟨_, PSs.nox pb_w, ?_⟩
  obtain ⟨H0, x, dx, b, mv, ad, fi, la, rfl, x0, hx0, hx, ro, b36, hfl, q⟩ := hsp
  have hr : Room 3 (Cxx P w K mg base ["self", "base", "move", "add", "first", "last"] "Row.__init__" (defScope s_Row_init) (He.ma K (He.ga K "Row") "__init__") cdv A outer s H E).A := hr
  refine (?_ : BL (Cxx P w K mg base ["self", "base", "move", "add", "first", "last"] "Row.__init__" (defScope s_Row_init) (He.ma K (He.ga K "Row") "__init__") cdv A outer s H E) (defBody s_Row_init) (Dd Q) (start ["self", "base", "move", "add", "first", "last"] [.ref x, .int b, .int mv, .int ad, oV fi, oV la]) H) H (Ex.refl H)
  obtain ⟨_, _, _, cr, cm, cM⟩ := W_props W
  obtain ⟨um, cm⟩ := cvalB_ok cm
  obtain ⟨uM, cM⟩ := cvalB_ok cM
  obtain ⟨tc, eC⟩ := W.i_MAX_COST
  refine bl_when (k := false) (et_to (et_not (k := true) (et_val (ev_call1 (c_is_between W) hr (ea_cons' (ev_nm 1 rfl) (ea_cons' (ev_cval (ev_gl rfl W.g_Row rfl) (creadB_ok cr) cm) (ea_cons' (ev_cval (ev_gl rfl W.g_Row rfl) (creadB_ok cr) cM) ea_nil'))) fun H1 e1 => ⟨b, 2, 36, rfl, (dd2 ro.b2 b36).symm⟩))) rfl) (fun z => nomatch z) fun _ => ?_
  refine bl_when (k := false) (et_to (et_not (k := true) (et_val (ev_call1 (c_is_between W) hr (ea_cons' (ev_nm 2 rfl) (ea_cons' ev_int (ea_cons' (ev_gl (v := .int 1000000) rfl eC ⟨tc, rfl⟩) ea_nil'))) fun H1 e1 => ⟨mv, 1, 1000000, rfl, (dd2 ro.mv1 ro.mv2).symm⟩))) rfl) (fun z => nomatch z) fun _ => ?_
  refine bl_when (k := false) (et_to (et_not (k := true) (et_val (ev_call1 (c_is_between W) hr (ea_cons' (ev_nm 3 rfl) (ea_cons' ev_int (ea_cons' (ev_gl (v := .int 1000000) rfl eC ⟨tc, rfl⟩) ea_nil'))) fun H1 e1 => ⟨ad, 1, 1000000, rfl, (dd2 ro.ad1 ro.ad2).symm⟩))) rfl) (fun z => nomatch z) fun _ => ?_
  refine bl_when (k := false) (et_to (et_not (k := true) (et_val (ev_call1 (c_is_end W) hr (ea_cons' (ev_nm 4 rfl) ea_nil') fun H1 e1 => ⟨fi, rfl, ro.fi0, rfl⟩))) rfl) (fun z => nomatch z) fun _ => ?_
  refine bl_when (k := false) (et_to (et_ew (ew_or (k := false) (l := false) (et_to (et_not (k := true) (et_val (ev_call1 (c_is_end W) hr (ea_cons' (ev_nm 5 rfl) ea_nil') fun H1 e1 => ⟨la, rfl, ro.la0, rfl⟩))) rfl) fun _ => ew_or1 (et_ew ?_))) rfl) (fun z => nomatch z) fun _ => ?_
  · cases fi with
    | none => exact ew_and (k := false) (l := false) (et_to (et_notN (x := .non) (ev_nm 4 rfl)) rfl) fun z => nomatch z
    | some i =>
      refine ew_and (k := true) (l := false) (et_to (et_notN (x := .int i) (ev_nm 4 rfl)) rfl) fun _ => ?_
      cases la with
      | none => exact ew_and (k := false) (l := false) (et_to (et_notN (x := .non) (ev_nm 5 rfl)) rfl) fun z => nomatch z
      | some j => exact ew_and (k := true) (l := false) (et_to (et_notN (x := .int j) (ev_nm 5 rfl)) rfl) fun _ => ew_and1 (et_to (et_lt (ev_nm 5 rfl) (ev_nm 4 rfl)) (decide_eq_false (by have := hfl i j rfl rfl; omega)))
  refine bl_fld (ev_nm 1 rfl) (ev_nm 0 rfl) hx W.c_Row W.no_own_base (by simp) ?_
  rw [show putF "own_base" (V.int b) [] = ([("own_base", V.int b)] : List (Str × V)) from rfl]
  refine bl_fld (ev_nm 2 rfl) (ev_nm 0 rfl) upd_same W.c_Row W.no_own_move (by simp) ?_
  rw [show putF "own_move" (V.int mv) ([("own_base", V.int b)] : List (Str × V)) = ([("own_base", V.int b), ("own_move", V.int mv)] : List (Str × V)) from rfl]
  refine bl_fld (ev_nm 3 rfl) (ev_nm 0 rfl) upd_same W.c_Row W.no_own_add (by simp) ?_
  rw [show putF "own_add" (V.int ad) ([("own_base", V.int b), ("own_move", V.int mv)] : List (Str × V)) = ([("own_base", V.int b), ("own_move", V.int mv), ("own_add", V.int ad)] : List (Str × V)) from rfl]
  refine bl_fld (ev_nm 4 rfl) (ev_nm 0 rfl) upd_same W.c_Row W.no_own_first (by simp) ?_
  rw [show putF "own_first" (oV fi) ([("own_base", V.int b), ("own_move", V.int mv), ("own_add", V.int ad)] : List (Str × V)) = ([("own_base", V.int b), ("own_move", V.int mv), ("own_add", V.int ad), ("own_first", oV fi)] : List (Str × V)) from rfl]
  refine bl_fld (ev_nm 5 rfl) (ev_nm 0 rfl) upd_same W.c_Row W.no_own_last (by simp) ?_
  rw [show putF "own_last" (oV la) ([("own_base", V.int b), ("own_move", V.int mv), ("own_add", V.int ad), ("own_first", oV fi)] : List (Str × V)) = rowF b mv ad fi la from rfl]
  refine bl_nil' fun H1 x1 => q H1 ?_ (x1 _ _ upd_same)
  exact (Ex.mut (Ex.mut (Ex.mut (Ex.mut (Ex.mut x0 hx0) hx0) hx0) hx0) hx0).trans x1
/-- Row(b, move=.., add=.., first=.., last=..) -/
theorem row_binds {fd : FuncData} {kws : List (Str × V)} (F : FunD K "__init__" "Row.__init__" (defArgs s_Row_init) (defBody s_Row_init) (defScope s_Row_init) [] kws (He.ma K (He.ga K "Row") "__init__") fd) :
    KBn K fd ["self", "base", "move", "add", "first", "last"] 2 [Str.ofString "move", Str.ofString "add", Str.ofString "first", Str.ofString "last"] (fun us ws => us ++ ws) fun vs zs => vs ++ zs := by
  (obtain ⟨oc, od, dV, kV, doc, pm, an, cdv, ct, osl, rfl, lk, hcd, hD, hK⟩ := F.ex)
  (rcases hD with ⟨_, rfl⟩ | ⟨e, _⟩)
  · refine ⟨fun s us ws X l1 l2 => ?_, fun r1 r2 => r1.append r2⟩
    match us, l1, ws, l2 with
    | [u1, u2], _, [w1, w2, w3, w4], _ => exact .of_eq (by rfl)
  · exact absurd rfl e
theorem er_mkrow (W : Wd K mg) {X : Cx} {σ : L2.St} {H : Hp} {c0 c1 c2 c3 c4 : Expr} {k1 k2 k3 k4 pos p1 : Pos} {j : Nat} {b mv ad : Int} {fi la : Option Int} (hK : X.K = K) (hm : X.mg = mg) (hr : Room j X.A) (hj : 5 ≤ j) (h0 : EV X c0 σ H (.int b)) (h1 : EV X c1 σ H (.int mv)) (h2 : EV X c2 σ H (.int ad)) (h3 : EV X c3 σ H (oV fi)) (h4 : EV X c4 σ H (oV la))
    (ro : RowOk b mv ad fi la) (b36 : b ≤ 36) (hfl : ∀ i j, fi = some i → la = some j → i ≤ j) (hg : Gl X "Row" := by rfl) (he : starEach [c0] X.env = (false, eval c0 X.env) :: starEach [] X.env := by rfl)
    (hall : (backToKw pos (keywordEach [⟨some "move", c1, k1⟩, ⟨some "add", c2, k2⟩, ⟨some "first", c3, k3⟩, ⟨some "last", c4, k4⟩] X.env)).all (·.1.isSome) = true := by rfl) (hks : (backToKw pos (keywordEach [⟨some "move", c1, k1⟩, ⟨some "add", c2, k2⟩, ⟨some "first", c3, k3⟩, ⟨some "last", c4, k4⟩] X.env)).filterMap (·.1) = [Str.ofString "move", Str.ofString "add", Str.ofString "first", Str.ofString "last"] := by rfl)
    (hpl : ((backTo pos (starEach (c0 :: []) X.env)).any (·.1) || (backToKw pos (keywordEach [⟨some "move", c1, k1⟩, ⟨some "add", c2, k2⟩, ⟨some "first", c3, k3⟩, ⟨some "last", c4, k4⟩] X.env)).any (·.1.isNone)) = false := by rfl) :
    ER X (.Call (.Name "Row" p1) [c0] [⟨some "move", c1, k1⟩, ⟨some "add", c2, k2⟩, ⟨some "first", c3, k3⟩, ⟨some "last", c4, k4⟩] pos) σ H fun u H2 => ∃ x, u = .ref x ∧ IsRow K H2 x b mv ad fi la := fun H1 x1 Q q => by
  subst hK hm
  obtain ⟨fd, F⟩ := W.F_Row_init
  refine to_wE (pe_makeN W.mk_Row (ok_row W F) (hr.mono hj) hg W.g_Row (row_binds F) (E := fun _ _ _ => False) C8.pass0 (pa_cons pe_w pa_nil he) (pk_cons pe_w (pk_cons pe_w (pk_cons pe_w (pk_cons pe_w pk_nil)))) hall hks (by decide) he hpl) ?_
  refine h0 H1 x1 _ fun H2 x2 => h1 H2 (x1.trans x2) _ fun H3 x3 => h2 H3 ((x1.trans x2).trans x3) _ fun H4 x4 => h3 H4 (((x1.trans x2).trans x3).trans x4) _ fun H5 x5 => h4 H5 ((((x1.trans x2).trans x3).trans x4).trans x5) _ fun H6 x6 => ⟨rfl, rfl, fun x dx hx hdx hne => ?_⟩
  have e0 : Ex H6 (upd (upd H6 dx (.own x)) x (.ins (He.ga X.K "Row") dx [])) := (Ex.new hdx).trans (Ex.new (by rw [upd_ne hne.symm]; exact hx))
  exact ⟨H6, x, dx, b, mv, ad, fi, la, rfl, e0, hx, upd_same, ro, b36, hfl, fun H' x7 h => ⟨rfl, q _ _ ((x2.trans (x3.trans (x4.trans (x5.trans x6)))).trans x7) ⟨x, rfl, ro, dx, h⟩⟩⟩
end
end K27

/-! _law_numbers, _law_power, _law_reduced. -/
namespace K27
open PySem PySem.Spec PyProof.Rows L2 Evl C8
section
variable {base : Heap} {mg : Str → Option Value} {K : PySem.W.Frag} {w : World} {P : Program}
/-- the drawn digits -/
def Digs (ds : List Int) : Prop := ds.length = 60 ∧ ∀ d ∈ ds, 0 ≤ d ∧ d < 420
def pr_numbers : Pre := fun vs H R => ∃ (c salt : Int) (z : Addr), vs = [.int c, .int salt, .ref z] ∧ H z = some (.lst (List.replicate 60 (.int 420))) ∧ 0 ≤ salt ∧ salt ≤ 3000 ∧ R = fun v H' => ∃ p ds, v = .ref p ∧ Digs ds ∧ H' p = some (.lst (ds.map V.int))
theorem rep_at {α : Type} {n i : Nat} {x : α} (h : i < n) : (List.replicate n x)[i]? = some x := by simp [h]
theorem c_numbers (W : Wd K mg) : Cal P w K mg base 1 "_law_numbers" (spR pr_numbers) [] :=
  cal_mk W.F_law_numbers W.g__law_numbers sc_law_numbers (fun vs H R ⟨_, _, _, e, _⟩ => by rw [e]; rfl) (by
    rintro cdv A outer s H vs Q E R hr ⟨c, salt, z, rfl, hz, s0, s1, rfl⟩ q
    have hzl : (List.replicate 60 (V.int 420)).length = 60 := List.length_replicate
    refine bl_set (v := .int (max c (-1 - c))) 3 sc_law_numbers.nd (ev_max2' (ev_nm 0 rfl) (ev_sub (ev_neg ev_int) (ev_nm 0 rfl)) W.n_max) ?_
    refine bl_set 4 sc_law_numbers.nd (ev_nm 3 rfl) ?_
    refine bl_setN 5 sc_law_numbers.nd (en_lst ea_nil') fun rp H1 hrp x1 h1 => ?_
    have hm0 : 0 ≤ max c (-1 - c) := by omega
    generalize max c (-1 - c) = m at *
    refine bl_forR1 (n := 60) (fun i σ' H' => ∃ (left : Int) (y6 y7 : Option V), σ' = [some (.int c), some (.int salt), some (.ref z), some (.int m), some (.int left), some (.ref rp), y6, y7] ∧ Ex H H' ∧ 0 ≤ left ∧ ∃ ds : List Int, ds.length = i ∧ (∀ d ∈ ds, 0 ≤ d ∧ d < 420) ∧ H' rp = some (.lst (ds.map V.int)))
      (ev_to (ev_cbB (v := .int ((List.replicate 60 (V.int 420)).length : Nat)) call_len_seq W.n_len boot_len (ea_cons' (ev_nm 2 rfl) ea_nil') (fun H9 x9 Q q => ⟨z, _, rfl, .inl (sq_of ((x1.trans x9) _ _ hz)), q H9 (Ex.refl H9)⟩)) (by rw [hzl]; rfl)) (by omega) W.n_range ⟨m, _, _, rfl, x1, hm0, [], rfl, by simp, h1⟩ ?_ ?_
    · rintro i σ' H' hi ⟨left, y6, y7, rfl, x2, hl0, ds, hdl, hdb, hds⟩
      refine ⟨_, gt_nm 6 sc_law_numbers.nd, ?_⟩
      have hzi : ∀ {H9 : Hp}, Ex H' H9 → SqL K H9 z (List.replicate 60 (V.int 420)) := fun x9 => sq_of ((x2.trans x9) _ _ hz)
      have hat : atI (List.replicate 60 (V.int 420)) (i : Int) = some (V.int 420) := atI_nat (rep_at (by omega))
      refine bl_ifM (fun σ2 H2 => ∃ (left : Int) (y7 : Option V), σ2 = [some (.int c), some (.int salt), some (.ref z), some (.int m), some (.int left), some (.ref rp), some (.int i), y7] ∧ Ex H H2 ∧ 0 ≤ left ∧ ∃ ds : List Int, ds.length = i + 1 ∧ (∀ d ∈ ds, 0 ≤ d ∧ d < 420) ∧ H2 rp = some (.lst (ds.map V.int))) (k := decide ((10 : Int) ^ (18 : Int).toNat ≤ m) && decide (0 < left)) (et_ew (ew_and (et_ge (ev_nm 3 rfl) (ev_pow ev_int ev_int ⟨by decide, by decide, by decide⟩)) fun _ => ew_and1 (et_gt (ev_nm 4 rfl) ev_int))) (fun hb => ?_) (fun hb => ?_) ?_
      · refine bl_appR (R := fun u _ => ∃ d : Int, u = .int d ∧ 0 ≤ d ∧ d < 420) (ev_nm 5 rfl) hds (er_ev (ev_mod (ev_nm 4 rfl) (ev_ixL (ev_nm 2 rfl) (ev_nm 6 rfl) (hzi (Ex.refl _)) hat) (by decide)) |>.imp fun u H9 _ eu => ⟨left % 420, eu, Int.emod_nonneg _ (by decide), Int.emod_lt_of_pos _ (by decide)⟩) (by rw [List.length_map]; omega) ?_
        rintro u H3 x3 ⟨d, rfl, d0, d1⟩
        have z9 : Ex H (upd H3 rp (.lst (ds.map V.int ++ [V.int d]))) := Ex.mut (x2.trans x3) hrp
        refine bl_set (v := .int (left / 420)) 4 sc_law_numbers.nd (ev_fdivS (ev_nm 4 rfl) (ev_ixL (ev_nm 2 rfl) (ev_nm 6 rfl) (sq_of (z9 _ _ hz)) hat) ⟨by decide, by decide⟩) ?_
        refine bl_nil rfl ⟨left / 420, _, rfl, z9, Int.ediv_nonneg hl0 (by decide), ds ++ [d], by simp [hdl], ?_, by rw [upd_same, List.map_append]; rfl⟩
        intro d' hd'
        rcases List.mem_append.mp hd' with h | h
        · exact hdb d' h
        · rw [List.mem_singleton.mp h]; exact ⟨d0, d1⟩
      · have m1 : 0 ≤ m % 2147483629 := Int.emod_nonneg _ (by decide)
        have m2 : m % 2147483629 < 2147483629 := Int.emod_lt_of_pos _ (by decide)
        have k0 : ∀ j : Int, j % 2147483647 ≥ 0 ∧ j % 2147483647 < 2147483647 ∧ 0 ≤ j % 2147483629 ∧ j % 2147483629 < 2147483629 := fun j => ⟨Int.emod_nonneg _ (by decide), Int.emod_lt_of_pos _ (by decide), Int.emod_nonneg _ (by decide), Int.emod_lt_of_pos _ (by decide)⟩
        refine bl_setR 7 sc_law_numbers.nd (R := fun u _ => ∃ d : Int, u = .int d ∧ 0 ≤ d ∧ d < 2147483647) (er_ev (ev_mod (ev_pow (ev_add (ev_add (ev_mod (ev_nm 3 rfl) ev_int (by decide)) (ev_mulS ev_int (ev_nm 1 rfl) (.inl ⟨by decide, by decide⟩))) ev_int) ev_int ⟨by decide, by decide, by omega⟩) ev_int (by decide)) |>.imp fun u H9 _ eu => ⟨_, eu, (k0 _).1, (k0 _).2.1⟩) fun u H3 x3 ⟨a, eu, a0, a1⟩ => ?_
        subst eu
        refine bl_setR 7 sc_law_numbers.nd (R := fun u _ => ∃ d : Int, u = .int d ∧ 0 ≤ d ∧ d < 2147483629) (er_ev (ev_mod (ev_mulS (ev_add (ev_nm 7 rfl) (ev_mulS ev_int (ev_add (ev_nm 6 rfl) ev_int) (.inl ⟨by decide, by decide⟩))) (ev_add (ev_nm 6 rfl) ev_int) (.inr ⟨by omega, by omega⟩)) ev_int (by decide)) |>.imp fun u H9 _ eu => ⟨_, eu, (k0 _).2.2.1, (k0 _).2.2.2⟩) fun u H4 x4 ⟨a', eu, a0', a1'⟩ => ?_
        subst eu
        refine bl_setR 7 sc_law_numbers.nd (R := fun u _ => ∃ d : Int, u = .int d) (er_ev (ev_mod (ev_mulS (ev_mod (ev_pow (ev_nm 7 rfl) ev_int ⟨by decide, by decide, by omega⟩) ev_int (by decide)) ev_int (.inr ⟨by decide, by decide⟩)) ev_int (by decide)) |>.imp fun u H9 _ eu => ⟨_, eu⟩) fun u H5 x5 ⟨a'', eu⟩ => ?_
        subst eu
        have x35 := x3.trans (x4.trans x5)
        refine bl_appR (R := fun u _ => ∃ d : Int, u = .int d ∧ 0 ≤ d ∧ d < 420) (ev_nm 5 rfl) (x35 _ _ hds) (er_ev (ev_mod (ev_fdivS (ev_nm 7 rfl) ev_int ⟨by decide, by decide⟩) (ev_ixL (ev_nm 2 rfl) (ev_nm 6 rfl) (hzi x35) hat) (by decide)) |>.imp fun u H9 _ eu => ⟨_, eu, Int.emod_nonneg _ (by decide), Int.emod_lt_of_pos _ (by decide)⟩) (by rw [List.length_map]; omega) ?_
        rintro u H6 x6 ⟨d, rfl, d0, d1⟩
        refine bl_nil rfl ⟨left, _, rfl, Ex.mut (x2.trans (x35.trans x6)) hrp, hl0, ds ++ [d], by simp [hdl], ?_, by rw [upd_same, List.map_append]; rfl⟩
        intro d' hd'
        rcases List.mem_append.mp hd' with h | h
        · exact hdb d' h
        · rw [List.mem_singleton.mp h]; exact ⟨d0, d1⟩
      · rintro σ2 H2 ⟨left', y7', rfl, x3, hl', dd, hd1, hd2, hd3⟩
        exact bl_nil rfl ⟨left', _, _, rfl, x3, hl', dd, hd1, hd2, hd3⟩
    · rintro σ' H' ⟨left, y6, y7, rfl, x2, _, ds, hdl, hdb, hds⟩
      exact bl_ret (v := .ref rp) (ev_nm 5 rfl) fun H3 x3 => q _ H3 (x2.trans x3) ⟨rp, ds, rfl, ⟨hdl, hdb⟩, x3 _ _ hds⟩)
def pr_power : Pre := fun vs H R => ∃ (b : Int) (n : Nat), vs = [.int b, .int n] ∧ 0 ≤ b ∧ b < 2 ^ 6 ∧ n ≤ 3000 ∧ R = fun v _ => v = .int (b ^ n)
theorem c_power (W : Wd K mg) : Cal P w K mg base 1 "_law_power" (spR pr_power) [] :=
  cal_mk W.F_law_power W.g__law_power sc_law_power (fun vs H R ⟨_, _, e, _⟩ => by rw [e]; rfl) (by
    rintro cdv A outer s H vs Q E R hr ⟨b, n, rfl, b0, b6, hn, rfl⟩ q
    refine bl_set 2 sc_law_power.nd ev_int ?_
    refine bl_while (fun m σ' H' => ∃ (k a : Nat), σ' = [some (.int (b ^ k)), some (.int (m : Nat)), some (.int (b ^ a))] ∧ Ex H H' ∧ a + k * m = n ∧ k ≤ 6000) n ⟨1, 0, by simp [L2.start, Int.pow_succ], Ex.refl _, by omega, by omega⟩ ?_
    rintro m σ' H' ⟨k, a, rfl, e0, hs, hk⟩
    refine ⟨decide ((0 : Int) < (m : Int)), et_gt (ev_nm 1 rfl) ev_int, fun hb => ?_, fun hb => ?_⟩
    · have hm0 : 0 < m := by simpa using hb
      have hkn : k ≤ n := by
        have := Nat.le_mul_of_pos_right k hm0
        omega
      have hmm : m % 2 + 2 * (m / 2) = m := Nat.mod_add_div m 2
      have hsp : k * m = k * (m % 2) + 2 * k * (m / 2) := by
        conv => lhs; rw [← hmm, Nat.mul_add]
        rw [Nat.mul_comm 2 k, Nat.mul_assoc]
      refine bl_ifM (fun σ2 H2 => ∃ a', σ2 = [some (.int (b ^ k)), some (.int (m : Nat)), some (.int (b ^ a'))] ∧ Ex H H2 ∧ a' + (2 * k) * (m / 2) = n) (k := decide ((m : Int) % 2 = 1)) (et_eqI (ev_mod (ev_nm 1 rfl) ev_int (by decide)) ev_int) (fun ho => ?_) (fun ho => ?_) ?_
      · have ho' : m % 2 = 1 := by have := of_decide_eq_true ho; omega
        refine bl_set (v := .int (b ^ a * b ^ k)) 2 sc_law_power.nd (ev_mul (ev_nm 2 rfl) (ev_nm 0 rfl) (mulw_pow b0 b6 (by omega) (by omega))) ?_
        refine bl_nil rfl ⟨a + k, by rw [← Int.pow_add]; rfl, e0, ?_⟩
        rw [ho', Nat.mul_one] at hsp
        omega
      · have ho' : m % 2 = 0 := by have := of_decide_eq_false ho; omega
        refine bl_nil rfl ⟨a, rfl, e0, ?_⟩
        rw [ho', Nat.mul_zero] at hsp
        omega
      · rintro σ2 H2 ⟨a', rfl, e2, hs2⟩
        refine bl_par' 0 1 (u := .int (b ^ k * b ^ k)) (v := .int ((m : Int) / 2)) sc_law_power.nd (ev_mul (ev_nm 0 rfl) (ev_nm 0 rfl) (mulw_pow b0 b6 (by omega) (by omega))) (ev_fdivS (ev_nm 1 rfl) ev_int ⟨by decide, by decide⟩) ?_
        refine bl_nil rfl ⟨m / 2, by omega, 2 * k, a', ?_, e2, hs2, by omega⟩
        rw [← Int.pow_add, show k + k = 2 * k by omega]
        rfl
    · have hm0 : m = 0 := by have := of_decide_eq_false hb; omega
      subst hm0
      refine bl_ret (ev_nm 2 rfl) fun H1 e1 => q _ H1 (e0.trans e1) ?_
      rw [Nat.mul_zero, Nat.add_zero] at hs
      rw [hs])
def pr_lred : Pre := fun vs H R => ∃ b n e : Int, vs = [.int b, .int n, .int e] ∧ 2 ≤ b ∧ b < 2 ^ 6 ∧ R = fun v H' => ∃ n' e', IsPr n' e' v H' ∧ RedOf b n e n' e'
theorem c_lred (W : Wd K mg) : Cal P w K mg base 1 "_law_reduced" (spR pr_lred) [] :=
  cal_mk W.F_law_reduced W.g__law_reduced sc_law_reduced (fun vs H R ⟨_, _, _, e, _⟩ => by rw [e]; rfl) (by
    rintro cdv A outer s H vs Q E R hr ⟨b, n, e, rfl, b2, b6, rfl⟩ q
    refine bl_while (fun m σ' H' => ∃ (n1 e1 : Int), σ' = [some (.int b), some (.int n1), some (.int e1)] ∧ Ex H H' ∧ m = n1.natAbs ∧ ((n = 0 ∧ n1 = 0) ∨ (n ≠ 0 ∧ n1 ≠ 0 ∧ e ≤ e1 ∧ n = n1 * b ^ (e1 - e).toNat))) n.natAbs
      ⟨n, e, rfl, Ex.refl _, rfl, ?_⟩ ?_
    · by_cases hz : n = 0
      · exact .inl ⟨hz, hz⟩
      · exact .inr ⟨hz, hz, Int.le_refl _, by simp⟩
    rintro m σ' H' ⟨n1, e1, rfl, e0, rfl, hc⟩
    refine ⟨(!decide (n1 = 0)) && decide (n1 % b = 0), et_ew (ew_and (et_neI (ev_nm 1 rfl) ev_int) fun _ => ew_and1 (et_eqI (ev_mod (ev_nm 1 rfl) (ev_nm 0 rfl) (by omega)) ev_int)), fun hb => ?_, fun hb => ?_⟩
    · have hb' : n1 ≠ 0 ∧ n1 % b = 0 := by simpa using hb
      obtain ⟨h0, hd⟩ := hb'
      have en : n1 = n1 / b * b := (Int.ediv_mul_cancel (Int.dvd_of_emod_eq_zero hd)).symm
      have hq : n1 / b ≠ 0 := fun z => h0 (by rw [en, z, Int.zero_mul])
      refine bl_par' 1 2 (u := .int (n1 / b)) (v := .int (e1 + 1)) sc_law_reduced.nd (ev_fdivS (ev_nm 1 rfl) (ev_nm 0 rfl) ⟨by omega, by omega⟩) (ev_add (ev_nm 2 rfl) ev_int) ?_
      refine bl_nil rfl ⟨(n1 / b).natAbs, ?_, n1 / b, e1 + 1, rfl, e0, rfl, ?_⟩
      · have : n1.natAbs = (n1 / b).natAbs * b.natAbs := by
          conv => lhs; rw [en]
          exact Int.natAbs_mul _ _
        rw [this]
        have h1 : 1 ≤ (n1 / b).natAbs := by omega
        have h2 : 2 ≤ b.natAbs := by omega
        have := Nat.mul_le_mul_left (n1 / b).natAbs h2
        omega
      · rcases hc with ⟨_, z⟩ | ⟨c1, c2, c3, c4⟩
        · exact absurd z h0
        · refine .inr ⟨c1, hq, by omega, ?_⟩
          rw [c4, show (e1 + 1 - e).toNat = 1 + (e1 - e).toNat by omega, Int.pow_add, ← Int.mul_assoc, Int.pow_succ b 0, Int.pow_zero, Int.one_mul, ← en]
    · refine bl_retR (R := fun v H9 => ∃ n' e', IsPr n' e' v H9 ∧ RedOf b n e n' e') (er_ife (k := !decide (n1 = 0)) (et_neI (ev_nm 1 rfl) ev_int) (fun hz => (er_en (en_tup (ea_cons' (ev_nm 1 rfl) (ea_cons' (ev_nm 2 rfl) ea_nil')))).imp fun u H9 _ ⟨p, eu, hp, h9⟩ => ⟨n1, e1, ⟨p, eu, h9⟩, ?_⟩) (fun hz => (er_en (en_tup (ea_cons' ev_int (ea_cons' ev_int ea_nil')))).imp fun u H9 _ ⟨p, eu, hp, h9⟩ => ⟨0, 0, ⟨p, eu, h9⟩, ?_⟩)) fun v H1 e2 r => q v H1 (e0.trans e2) r
      · have hz' : n1 ≠ 0 := by simpa using hz
        have hb' : n1 % b ≠ 0 := fun z => by
          rw [decide_eq_false hz', decide_eq_true z] at hb
          cases hb
        rcases hc with ⟨_, z⟩ | ⟨c1, c2, c3, c4⟩
        · exact absurd z hz'
        · exact .inr ⟨c1, c2, c3, c4, hb'⟩
      · have hz' : n1 = 0 := by simpa using hz
        rcases hc with ⟨z, _⟩ | ⟨c1, c2, c3, c4⟩
        · exact .inl ⟨z, rfl, rfl⟩
        · exact absurd hz' c2)
end
end K27

/-! _law_spec, _law_row, _law_position, _law_scaled, _law_plain. -/
namespace K27
open PySem PySem.Spec PyProof.Rows L2 Evl C8
section
variable {X : Cx} {σ : L2.St} {H : Hp} {a b : Expr} {pos : Pos}
/-- two lists, one behind the other: a new one -/
theorem er_cat {Ra Rb : List V → Hp → Prop} (ha : ER X a σ H fun u H1 => ∃ l xs, u = .ref l ∧ H1 l = some (.lst xs) ∧ Ra xs H1) (hb : ER X b σ H fun u H1 => ∃ l xs, u = .ref l ∧ H1 l = some (.lst xs) ∧ Rb xs H1)
    (ma : ∀ xs H1 H2, Ex H1 H2 → Ra xs H1 → Ra xs H2) (mb : ∀ xs H1 H2, Ex H1 H2 → Rb xs H1 → Rb xs H2) (hl : ∀ xs ys H1, Ra xs H1 → Rb ys H1 → xs.length + ys.length ≤ 100000) :
    ER X (.BinOp a .Add b pos) σ H fun u H2 => ∃ p xs ys, u = .ref p ∧ H p = none ∧ H2 p = some (.lst (xs ++ ys)) ∧ Ra xs H2 ∧ Rb ys H2 := fun H1 e1 Q q => to_wE (pe_op op_cat pe_w pe_w) (ha H1 e1 _ fun u H2 e2 ⟨l, xs, eu, hL, r⟩ => hb H2 (e1.trans e2) _ fun u' H3 e3 ⟨l', ys, eu', hL', r'⟩ => by
  subst eu eu'
  have r3 := ma _ _ _ e3 r
  have hz := hl xs ys H3 r3 r'
  exact ⟨l, l', xs, ys, rfl, rfl, e3 _ _ hL, hL', sz_of hz, fun p hp => q _ _ ((e2.trans e3).trans (Ex.new hp)) ⟨p, xs, ys, rfl, fresh_back ((e1.trans e2).trans e3) hp, upd_same, ma _ _ _ (Ex.new hp) r3, mb _ _ _ (Ex.new hp) r'⟩⟩)
end
section
variable {base : Heap} {mg : Str → Option Value} {K : PySem.W.Frag} {w : World} {P : Program}
/-- the ends that a spec has -/
structure LimOk (lo hi : Option Int) : Prop where
  lo0 : ∀ i, lo = some i → -3 ≤ i ∧ i ≤ 0
  hi0 : ∀ i, hi = some i → 0 ≤ i ∧ i ≤ 4
def IsSpec (H : Hp) (s : Addr) (b mv ad : Int) (lo hi : Option Int) : Prop := H s = some (.tup [.int b, .int mv, .int ad, oV lo, oV hi])
theorem dig_at {ds : List Int} (hd : Digs ds) (i : Nat) (hi : i < 60) : ∃ d, (ds.map V.int)[i]? = some (.int d) ∧ 0 ≤ d ∧ d < 420 := by
  have hi' : i < ds.length := by rw [hd.1]; exact hi
  exact ⟨ds[i], by simp [hi'], hd.2 _ (List.getElem_mem _)⟩
theorem at6 {α : Type} {x0 x1 x2 x3 x4 x5 : α} (P : α → Prop) (h0 : P x0) (h1 : P x1) (h2 : P x2) (h3 : P x3) (h4 : P x4) (h5 : P x5) {i : Int} (hi : 0 ≤ i ∧ i < 6) : ∃ y, atI [x0, x1, x2, x3, x4, x5] i = some y ∧ P y := by
  have : i = 0 ∨ i = 1 ∨ i = 2 ∨ i = 3 ∨ i = 4 ∨ i = 5 := by omega
  rcases this with rfl | rfl | rfl | rfl | rfl | rfl
  · exact ⟨x0, rfl, h0⟩
  · exact ⟨x1, rfl, h1⟩
  · exact ⟨x2, rfl, h2⟩
  · exact ⟨x3, rfl, h3⟩
  · exact ⟨x4, rfl, h4⟩
  · exact ⟨x5, rfl, h5⟩
theorem at2 {α : Type} {x0 x1 : α} (P : α → Prop) (h0 : P x0) (h1 : P x1) {i : Int} (hi : 0 ≤ i ∧ i < 2) : ∃ y, atI [x0, x1] i = some y ∧ P y := by
  have : i = 0 ∨ i = 1 := by omega
  rcases this with rfl | rfl
  · exact ⟨x0, rfl, h0⟩
  · exact ⟨x1, rfl, h1⟩
theorem mod_bd {i j : Int} (h : 0 < j) : 0 ≤ i % j ∧ i % j < j := ⟨Int.emod_nonneg _ (by omega), Int.emod_lt_of_pos _ h⟩
def pr_spec : Pre := fun vs H R => ∃ (a : Addr) (ds : List Int), vs = [.ref a] ∧ Digs ds ∧ H a = some (.lst (ds.map V.int)) ∧ R = fun v H' => ∃ s b c1 c2 lo hi, v = .ref s ∧ IsSpec H' s b c1 c2 lo hi ∧ 2 ≤ b ∧ b ≤ 16 ∧ LimOk lo hi
theorem c_spec (W : Wd K mg) : Cal P w K mg base 1 "_law_spec" (spR pr_spec) [] :=
  cal_mk W.F_law_spec W.g__law_spec sc_law_spec (fun vs H R ⟨_, _, e, _⟩ => by rw [e]; rfl) (by
    rintro cdv A outer s H vs Q E R hr ⟨a, ds, rfl, hd, ha, rfl⟩ q
    obtain ⟨d0, g0, _, _⟩ := dig_at hd 0 (by decide)
    obtain ⟨d1, g1, _, _⟩ := dig_at hd 1 (by decide)
    obtain ⟨d2, g2, _, _⟩ := dig_at hd 2 (by decide)
    obtain ⟨d3, g3, _, _⟩ := dig_at hd 3 (by decide)
    obtain ⟨d4, g4, _, _⟩ := dig_at hd 4 (by decide)
    obtain ⟨d5, g5, _, _⟩ := dig_at hd 5 (by decide)
    obtain ⟨vb, hvb, b, rfl, b2, b16⟩ := at6 (x0 := V.int 2) (x1 := .int 3) (x2 := .int 4) (x3 := .int 5) (x4 := .int 10) (x5 := .int 16) (fun y => ∃ b : Int, y = .int b ∧ 2 ≤ b ∧ b ≤ 16) ⟨2, rfl, by decide, by decide⟩ ⟨3, rfl, by decide, by decide⟩ ⟨4, rfl, by decide, by decide⟩ ⟨5, rfl, by decide, by decide⟩ ⟨10, rfl, by decide, by decide⟩ ⟨16, rfl, by decide, by decide⟩ (mod_bd (i := d0) (j := 6) (by decide))
    obtain ⟨v1, hv1, c1, rfl⟩ := at6 (x0 := V.int 1) (x1 := .int 2) (x2 := .int 3) (x3 := .int 1) (x4 := .int 7) (x5 := .int 100) (fun y => ∃ b : Int, y = .int b) ⟨_, rfl⟩ ⟨_, rfl⟩ ⟨_, rfl⟩ ⟨_, rfl⟩ ⟨_, rfl⟩ ⟨_, rfl⟩ (mod_bd (i := d1) (j := 6) (by decide))
    obtain ⟨v2, hv2, c2, rfl⟩ := at6 (x0 := V.int 1) (x1 := .int 1) (x2 := .int 2) (x3 := .int 5) (x4 := .int 3) (x5 := .int 100) (fun y => ∃ b : Int, y = .int b) ⟨_, rfl⟩ ⟨_, rfl⟩ ⟨_, rfl⟩ ⟨_, rfl⟩ ⟨_, rfl⟩ ⟨_, rfl⟩ (mod_bd (i := d2) (j := 6) (by decide))
    have m4 := mod_bd (i := d4) (j := 4) (by decide)
    have m5 := mod_bd (i := d5) (j := 5) (by decide)
    obtain ⟨v3, hv3, lo, rfl, hlo⟩ := at2 (x0 := V.non) (x1 := .int (-(d4 % 4))) (fun y => ∃ o : Option Int, y = oV o ∧ ∀ i, o = some i → -3 ≤ i ∧ i ≤ 0) ⟨none, rfl, fun i h => nomatch h⟩ ⟨some _, rfl, fun i h => by obtain rfl := Option.some.inj h; omega⟩ (mod_bd (i := d3) (j := 2) (by decide))
    obtain ⟨v4, hv4, hi, rfl, hhi⟩ := at2 (x0 := V.non) (x1 := .int (d5 % 5)) (fun y => ∃ o : Option Int, y = oV o ∧ ∀ i, o = some i → 0 ≤ i ∧ i ≤ 4) ⟨none, rfl, fun i h => nomatch h⟩ ⟨some _, rfl, fun i h => by obtain rfl := Option.some.inj h; omega⟩ (mod_bd (i := d3 / 2) (j := 2) (by decide))
    refine bl_set (v := .int b) 1 sc_law_spec.nd (ev_ixL2 ((er_en (en_lst (ea_cons' ev_int (ea_cons' ev_int (ea_cons' ev_int (ea_cons' ev_int (ea_cons' ev_int (ea_cons' ev_int ea_nil')))))))).imp fun u H1 _ ⟨p, eu, _, hp⟩ => ⟨p, _, eu, sq_of hp, hvb⟩) (ev_mod (ev_ixL (i := 0) (ev_nm 0 rfl) ev_int (sq_of ha) (atI_nat g0)) ev_int (by decide))) ?_
    refine bl_set (v := oV lo) 2 sc_law_spec.nd (ev_ixL2 ((er_en (en_lst (ea_cons' ev_non (ea_cons' (ev_neg (ev_mod (ev_ixL (i := 4) (ev_nm 0 rfl) ev_int (sq_of ha) (atI_nat g4)) ev_int (by decide))) ea_nil')))).imp fun u H1 _ ⟨p, eu, _, hp⟩ => ⟨p, _, eu, sq_of hp, hv3⟩) (ev_mod (ev_ixL (i := 3) (ev_nm 0 rfl) ev_int (sq_of ha) (atI_nat g3)) ev_int (by decide))) ?_
    refine bl_set (v := oV hi) 3 sc_law_spec.nd (ev_ixL2 ((er_en (en_lst (ea_cons' ev_non (ea_cons' (ev_mod (ev_ixL (i := 5) (ev_nm 0 rfl) ev_int (sq_of ha) (atI_nat g5)) ev_int (by decide)) ea_nil')))).imp fun u H1 _ ⟨p, eu, _, hp⟩ => ⟨p, _, eu, sq_of hp, hv4⟩) (ev_mod (ev_fdivS (ev_ixL (i := 3) (ev_nm 0 rfl) ev_int (sq_of ha) (atI_nat g3)) ev_int ⟨by decide, by decide⟩) ev_int (by decide))) ?_
    exact bl_retR (er_en (en_tup (ea_cons' (ev_nm 1 rfl) (ea_cons' (v := .int c1) (ev_ixL2 ((er_en (en_lst (ea_cons' ev_int (ea_cons' ev_int (ea_cons' ev_int (ea_cons' ev_int (ea_cons' ev_int (ea_cons' ev_int ea_nil')))))))).imp fun u H1 _ ⟨p, eu, _, hp⟩ => ⟨p, _, eu, sq_of hp, hv1⟩) (ev_mod (ev_ixL (i := 1) (ev_nm 0 rfl) ev_int (sq_of ha) (atI_nat g1)) ev_int (by decide)))
      (ea_cons' (v := .int c2) (ev_ixL2 ((er_en (en_lst (ea_cons' ev_int (ea_cons' ev_int (ea_cons' ev_int (ea_cons' ev_int (ea_cons' ev_int (ea_cons' ev_int ea_nil')))))))).imp fun u H1 _ ⟨p, eu, _, hp⟩ => ⟨p, _, eu, sq_of hp, hv2⟩) (ev_mod (ev_ixL (i := 2) (ev_nm 0 rfl) ev_int (sq_of ha) (atI_nat g2)) ev_int (by decide)))
      (ea_cons' (ev_nm 2 rfl) (ea_cons' (ev_nm 3 rfl) ea_nil'))))))) fun v H1 x1 ⟨p, ev, _, hp⟩ => q v H1 x1 ⟨p, b, c1, c2, lo, hi, ev, hp, b2, b16, ⟨hlo, hhi⟩⟩)
def pr_lrow (K : PySem.W.Frag) : Pre := fun vs H R => ∃ (s : Addr) (b mv ad : Int) (lo hi : Option Int), vs = [.ref s] ∧ IsSpec H s b mv ad lo hi ∧ RowOk b mv ad lo hi ∧ b ≤ 36 ∧ (∀ i j, lo = some i → hi = some j → i ≤ j) ∧ R = fun v H' => ∃ x, v = .ref x ∧ IsRow K H' x b mv ad lo hi
theorem c_lrow (W : Wd K mg) : Cal P w K mg base 6 "_law_row" (spR (pr_lrow K)) [] :=
  cal_mk W.F_law_row W.g__law_row sc_law_row (fun vs H R ⟨_, _, _, _, _, _, e, _⟩ => by rw [e]; rfl) (by
    rintro cdv A outer s H vs Q E R hr ⟨a, b, mv, ad, lo, hi, rfl, ha, ro, b36, hlh, rfl⟩ q
    exact bl_retR (er_mkrow W rfl rfl hr (by decide) (ev_ixT (ev_nm 0 rfl) ev_int (st_of ha) (i := 0) rfl) (ev_ixT (ev_nm 0 rfl) ev_int (st_of ha) (i := 1) rfl) (ev_ixT (ev_nm 0 rfl) ev_int (st_of ha) (i := 2) rfl) (ev_ixT (ev_nm 0 rfl) ev_int (st_of ha) (i := 3) rfl) (ev_ixT (ev_nm 0 rfl) ev_int (st_of ha) (i := 4) rfl) ro b36 hlh) fun v H1 x1 r => q v H1 x1 r)
def pr_position : Pre := fun vs H R => ∃ (s : Addr) (b mv ad d : Int) (lo hi : Option Int), vs = [.ref s, .int d] ∧ IsSpec H s b mv ad lo hi ∧ LimOk lo hi ∧ R = fun v _ => ∃ p, v = .int p ∧ lo.getD (-6) ≤ p ∧ p ≤ hi.getD 6
theorem c_position (W : Wd K mg) : Cal P w K mg base 1 "_law_position" (spR pr_position) [] :=
  cal_mk W.F_law_position W.g__law_position sc_law_position (fun vs H R ⟨_, _, _, _, _, _, _, e, _⟩ => by rw [e]; rfl) (by
    rintro cdv A outer s H vs Q E R hr ⟨a, b, mv, ad, d, lo, hi, rfl, ha, hL, rfl⟩ q
    have l0 : lo.getD (-6) ≤ 0 := by
      cases h : lo with
      | none => decide
      | some i => exact (hL.lo0 i h).2
    have h0 : 0 ≤ hi.getD 6 := by
      cases h : hi with
      | none => decide
      | some i => exact (hL.hi0 i h).1
    refine bl_set (v := .int (lo.getD (-6))) 2 sc_law_position.nd ?_ ?_
    · cases lo with
      | none => exact ev_ife (k := true) (et_to (et_isN (x := .non) (ev_ixT (ev_nm 0 rfl) ev_int (st_of ha) (i := 3) rfl)) rfl) (fun _ => ev_neg ev_int) (fun z => nomatch z)
      | some i => exact ev_ife (k := false) (et_to (et_isN (x := .int i) (ev_ixT (ev_nm 0 rfl) ev_int (st_of ha) (i := 3) rfl)) rfl) (fun z => nomatch z) (fun _ => ev_ixT (ev_nm 0 rfl) ev_int (st_of ha) (i := 3) rfl)
    refine bl_set (v := .int (hi.getD 6)) 3 sc_law_position.nd ?_ ?_
    · cases hi with
      | none => exact ev_ife (k := true) (et_to (et_isN (x := .non) (ev_ixT (ev_nm 0 rfl) ev_int (st_of ha) (i := 4) rfl)) rfl) (fun _ => ev_int) (fun z => nomatch z)
      | some i => exact ev_ife (k := false) (et_to (et_isN (x := .int i) (ev_ixT (ev_nm 0 rfl) ev_int (st_of ha) (i := 4) rfl)) rfl) (fun z => nomatch z) (fun _ => ev_ixT (ev_nm 0 rfl) ev_int (st_of ha) (i := 4) rfl)
    generalize lo.getD (-6) = l at *
    generalize hi.getD 6 = h at *
    have mb := mod_bd (i := d) (j := h - l + 1) (by omega)
    exact bl_ret (ev_add (ev_nm 2 rfl) (ev_mod (ev_nm 1 rfl) (ev_add (ev_sub (ev_nm 3 rfl) (ev_nm 2 rfl)) ev_int) (by omega))) fun H1 x1 => q _ H1 x1 ⟨_, rfl, by omega, by omega⟩)
def pr_scaled : Pre := fun vs H R => ∃ (b n e p : Int) (a : Addr), vs = [.int b, .ref a] ∧ IsSt H a n e p ∧ 2 ≤ b ∧ b < 2 ^ 6 ∧ n.natAbs < 2 ^ 600 ∧ -20 ≤ e ∧ e ≤ 1000 ∧ R = IsPr (n * b ^ (e + 20).toNat) p
theorem c_scaled (W : Wd K mg) : Cal P w K mg base 2 "_law_scaled" (spR pr_scaled) [] :=
  cal_mk W.F_law_scaled W.g__law_scaled sc_law_scaled (fun vs H R ⟨_, _, _, _, _, e, _⟩ => by rw [e]; rfl) (by
    rintro cdv A outer s H vs Q E R hr ⟨b, n, e, p, a, rfl, ⟨qa, h1, h2⟩, b2, b6, hn, e0, e1, rfl⟩ q
    refine bl_retR (er_en (en_tup (ea_cons' (ev_mul (i := n) (j := b ^ (e + 20).toNat) (ev_ixT (ev_ixT (ev_nm 1 rfl) ev_int (st_of h1) (i := 0) rfl) ev_int (st_of h2) (i := 0) rfl) (ev_call1 (c_power W) hr (ea_cons' (ev_nm 0 rfl) (ea_cons' (ev_add (ev_ixT (ev_ixT (ev_nm 1 rfl) ev_int (st_of h1) (i := 0) rfl) ev_int (st_of h2) (i := 1) rfl) ev_int) ea_nil')) fun H1 _ => ⟨b, (e + 20).toNat, by rw [Int.toNat_of_nonneg (by omega)], by omega, b6, by omega, rfl⟩)
      (wide_mul hn (pow_nat (by omega) b6 _) (by omega) (by omega) (by omega))) (ea_cons' (ev_ixT (ev_nm 1 rfl) ev_int (st_of h1) (i := 1) rfl) ea_nil')))) fun v H1 x1 ⟨p, ev, _, hp⟩ => q v H1 x1 ⟨p, ev, hp⟩)
def pr_plain : Pre := fun vs H R => ∃ (b U p : Int) (a : Addr), vs = [.int b, .ref a] ∧ H a = some (.tup [.int U, .int p]) ∧ 2 ≤ b ∧ b < 2 ^ 6 ∧ R = fun v H' => ∃ x n e, v = .ref x ∧ IsSt H' x n e p ∧ RedOf b U (-20) n e
theorem c_plain (W : Wd K mg) : Cal P w K mg base 2 "_law_plain" (spR pr_plain) [] :=
  cal_mk W.F_law_plain W.g__law_plain sc_law_plain (fun vs H R ⟨_, _, _, _, e, _⟩ => by rw [e]; rfl) (by
    rintro cdv A outer s H vs Q E R hr ⟨b, U, p, a, rfl, ha, b2, b6, rfl⟩ q
    refine bl_retR (er_tup (R := fun vs H1 => ∃ qa n e, vs = [.ref qa, .int p] ∧ H1 qa = some (.tup [.int n, .int e]) ∧ RedOf b U (-20) n e) (ear_cons (er_call1 (c_lred W) hr (ea_cons' (ev_nm 0 rfl) (ea_cons' (ev_ixT (ev_nm 1 rfl) ev_int (st_of ha) (i := 0) rfl) (ea_cons' (ev_neg ev_int) ea_nil'))) fun H1 _ => ⟨b, U, -20, rfl, b2, b6, rfl⟩) fun u H1 x1 ⟨n, e, ⟨qa, eu, hq⟩, hR⟩ => ear_cons (er_ev (v := .int p) (ev_ixT (ev_nm 1 rfl) ev_int (st_of (x1 _ _ ha)) (i := 1) rfl)) fun u' H2 x2 eu' => ear_nil fun H3 x3 => ⟨qa, n, e, by rw [eu, eu'], x3 _ _ (x2 _ _ hq), hR⟩) (fun vs H1 ⟨_, _, _, z, _⟩ => by rw [z]; simp) fun vs H1 H2 x ⟨qa, n, e, z, h, r⟩ => ⟨qa, n, e, z, x _ _ h, r⟩)
      fun v H1 x1 ⟨x, vs, ev, _, hx, qa, n, e, z, h, r⟩ => q v H1 x1 ⟨x, n, e, ev, ⟨qa, by rw [hx, z], h⟩, r⟩)
end
end K27

/-! _law_next. -/
namespace K27
open PySem PySem.Spec PyProof.Rows L2 Evl C8
/-- a scaled state; a step to it and its cost -/
abbrev Sta := Int × Int
abbrev Arc := Sta × Int
def AtA (H : Hp) (t : Addr) (r : Arc) : Prop := ∃ q, H t = some (.tup [.ref q, .int r.2]) ∧ H q = some (.tup [.int r.1.1, .int r.1.2])
theorem AtA.ex {H H' : Hp} {t : Addr} {r : Arc} (e : Ex H H') (h : AtA H t r) : AtA H' t r := let ⟨q, h1, h2⟩ := h; ⟨q, e _ _ h1, e _ _ h2⟩
def Arcs (H : Hp) (ts : List Addr) (L : List Arc) : Prop := Paired (AtA H) ts L
theorem Arcs.ex {H H' : Hp} {ts : List Addr} {L : List Arc} (e : Ex H H') (h : Arcs H ts L) : Arcs H' ts L := Paired.mapP h fun _ _ z => z.ex e
theorem Arcs.upd {H : Hp} {ts : List Addr} {L : List Arc} {a : Addr} {o : HO} (ha : ∀ vs, H a ≠ some (.tup vs)) (h : Arcs H ts L) : Arcs (L2.upd H a o) ts L := Paired.mapP h fun t u ⟨q, z1, z2⟩ => ⟨q, by rw [upd_ne fun y => ha _ (y ▸ z1)]; exact z1, by rw [upd_ne fun y => ha _ (y ▸ z2)]; exact z2⟩
theorem Paired.app {α β : Type} {F : α → β → Prop} : ∀ {xs xs' : List α} {ys ys' : List β}, Paired F xs ys → Paired F xs' ys' → Paired F (xs ++ xs') (ys ++ ys')
  | _, _, _, _, .nil, h => h
  | _, _, _, _, .cons h t, h' => .cons h (Paired.app t h')
def upA (mv : Int) (hi : Option Int) (U p : Int) : List Arc := if (hi = none ∨ ∃ h, hi = some h ∧ p < h) then [((U, p + 1), mv)] else []
def dnA (mv : Int) (lo : Option Int) (U p : Int) : List Arc := if (lo = none ∨ ∃ h, lo = some h ∧ h < p) then [((U, p - 1), mv)] else []
def nexA (b mv ad : Int) (lo hi : Option Int) (U p : Int) : List Arc := upA mv hi U p ++ dnA mv lo U p ++ [((U + b ^ (p + 20).toNat, p), ad), ((U - b ^ (p + 20).toNat, p), ad)]
section
variable {X : Cx} {σ : L2.St} {H : Hp} {a b c : Expr} {pos p1 : Pos} {n m : Nat}
theorem er_arc {U p k : Int} (h1 : EV X a σ H (.int U)) (h2 : EV X b σ H (.int p)) (h3 : EV X c σ H (.int k)) (s1 : starEach [a, b] X.env = (false, eval a X.env) :: starEach [b] X.env := by rfl) (s2 : starEach [b] X.env = (false, eval b X.env) :: starEach [] X.env := by rfl)
    (s3 : starEach [.Tuple [a, b] n p1, c] X.env = (false, eval (.Tuple [a, b] n p1) X.env) :: starEach [c] X.env := by rfl) (s4 : starEach [c] X.env = (false, eval c X.env) :: starEach [] X.env := by rfl) :
    ER X (.Tuple [.Tuple [a, b] n p1, c] m pos) σ H fun u H2 => ∃ t, u = .ref t ∧ AtA H2 t ((U, p), k) :=
  (er_tup (R := fun vs H2 => ∃ q, vs = [.ref q, .int k] ∧ H2 q = some (.tup [.int U, .int p])) (ear_cons (er_en (en_tup (ea_cons' h1 (ea_cons' h2 ea_nil' s2) s1))) (fun u H1 x1 ⟨q, eu, _, hq⟩ => ear_cons (er_ev (h3.mono x1)) (fun u' H2 x2 eu' => ear_nil fun H3 x3 => ⟨q, by rw [eu, eu'], x3 _ _ (x2 _ _ hq)⟩) s4) s3)
    (fun vs H1 ⟨_, z, _⟩ => by rw [z]; simp) fun vs H1 H2 x ⟨q, z, h⟩ => ⟨q, z, x _ _ h⟩).imp fun u H1 _ ⟨t, vs, eu, _, ht, q, z, h⟩ => ⟨t, eu, q, by rw [ht, z], h⟩
end
section
variable {base : Heap} {mg : Str → Option Value} {K : PySem.W.Frag} {w : World} {P : Program}
def pr_next : Pre := fun vs H R => ∃ (s a : Addr) (b mv ad : Int) (lo hi : Option Int) (U p : Int), vs = [.ref s, .ref a] ∧ IsSpec H s b mv ad lo hi ∧ H a = some (.tup [.int U, .int p]) ∧ 2 ≤ b ∧ b < 2 ^ 6 ∧ -20 ≤ p ∧ p ≤ 1000 ∧ R = fun v H' => ∃ l ts, v = .ref l ∧ H' l = some (.lst (ts.map V.ref)) ∧ Arcs H' ts (nexA b mv ad lo hi U p)
theorem c_next (W : Wd K mg) : Cal P w K mg base 2 "_law_next" (spR pr_next) [] :=
  cal_mk W.F_law_next W.g__law_next sc_law_next (fun vs H R ⟨_, _, _, _, _, _, _, _, _, e, _⟩ => by rw [e]; rfl) (by
    rintro cdv A outer s H vs Q E R hr ⟨sa, a, b, mv, ad, lo, hi, U, p, rfl, hs, ha, b2, b6, p0, p1, rfl⟩ q
    refine bl_unp (er_ev (ev_nm 0 rfl)) fun v H1 x1 ev => ?_
    subst ev
    refine ⟨_, gt_tup (st_of (x1 _ _ hs)) (gts_cons (gt_nm 2 sc_law_next.nd) (gts_cons (gt_nm 3 sc_law_next.nd) (gts_cons (gt_nm 4 sc_law_next.nd) (gts_cons (gt_nm 5 sc_law_next.nd) (gts_cons (gt_nm 6 sc_law_next.nd) gts_nil))))), ?_⟩
    refine bl_unp (er_ev (ev_nm 1 rfl)) fun v H2 x2 ev => ?_
    subst ev
    refine ⟨_, gt_tup (st_of (x2 _ _ (x1 _ _ ha))) (gts_cons (gt_nm 7 sc_law_next.nd) (gts_cons (gt_nm 8 sc_law_next.nd) gts_nil)), ?_⟩
    refine bl_setN 9 sc_law_next.nd (en_lst ea_nil') fun rp H3 hrp x3 h3 => ?_
    have hrp0 : H rp = none := fresh_back (x1.trans x2) hrp
    have y3 : Ex H H3 := (x1.trans x2).trans x3
    refine bl_ifM (fun σ2 H4 => σ2 = [some (.ref sa), some (.ref a), some (.int b), some (.int mv), some (.int ad), some (oV lo), some (oV hi), some (.int U), some (.int p), some (.ref rp), none] ∧ Ex H H4 ∧ ∃ ts : List Addr, H4 rp = some (.lst (ts.map V.ref)) ∧ Arcs H4 ts (upA mv hi U p)) (k := decide (hi = none ∨ ∃ h, hi = some h ∧ p < h)) ?_ (fun hb => ?_) (fun hb => ?_) ?_
    · cases hi with
      | none => exact et_to (et_ew (ew_or (k := true) (l := true) (et_to (et_isN (x := .non) (ev_nm 6 rfl)) rfl) fun z => nomatch z)) (by simp)
      | some h => exact et_to (et_ew (ew_or (k := false) (l := decide (p < h)) (et_to (et_isN (x := .int h) (ev_nm 6 rfl)) rfl) fun _ => ew_or1 (et_lt (ev_nm 8 rfl) (ev_nm 6 rfl)))) (by simp)
    · refine bl_appR (ev_nm 9 rfl) h3 (er_arc (U := U) (p := p + 1) (k := mv) (ev_nm 7 rfl) (ev_add (ev_nm 8 rfl) ev_int) (ev_nm 3 rfl)) (by simp) ?_
      rintro u H4 x4 ⟨t, rfl, ht⟩
      refine bl_nil rfl ⟨rfl, Ex.mut (y3.trans x4) hrp0, [t], by rw [upd_same]; rfl, ?_⟩
      rw [show upA mv hi U p = [((U, p + 1), mv)] from if_pos (of_decide_eq_true hb)]
      exact Arcs.upd (fun vs z => by rw [x4 _ _ h3] at z; cases z) (.cons ht .nil)
    · refine bl_nil rfl ⟨rfl, y3, [], h3, ?_⟩
      rw [show upA mv hi U p = [] from if_neg (of_decide_eq_false hb)]
      exact .nil
    rintro σ2 H4 ⟨rfl, x4, ts, hts, hA⟩
    refine bl_ifM (fun σ2 H5 => σ2 = [some (.ref sa), some (.ref a), some (.int b), some (.int mv), some (.int ad), some (oV lo), some (oV hi), some (.int U), some (.int p), some (.ref rp), none] ∧ Ex H H5 ∧ ∃ ts : List Addr, ts.length ≤ 2 ∧ H5 rp = some (.lst (ts.map V.ref)) ∧ Arcs H5 ts (upA mv hi U p ++ dnA mv lo U p)) (k := decide (lo = none ∨ ∃ h, lo = some h ∧ h < p)) ?_ (fun hb => ?_) (fun hb => ?_) ?_
    · cases lo with
      | none => exact et_to (et_ew (ew_or (k := true) (l := true) (et_to (et_isN (x := .non) (ev_nm 5 rfl)) rfl) fun z => nomatch z)) (by simp)
      | some h => exact et_to (et_ew (ew_or (k := false) (l := decide (h < p)) (et_to (et_isN (x := .int h) (ev_nm 5 rfl)) rfl) fun _ => ew_or1 (et_gt (ev_nm 8 rfl) (ev_nm 5 rfl)))) (by simp)
    · have hl1 : ts.length ≤ 1 := by rw [Paired.length hA]; unfold upA; split <;> simp
      refine bl_appR (ev_nm 9 rfl) hts (er_arc (U := U) (p := p - 1) (k := mv) (ev_nm 7 rfl) (ev_sub (ev_nm 8 rfl) ev_int) (ev_nm 3 rfl)) (by rw [List.length_map]; omega) ?_
      rintro u H5 x5 ⟨t, rfl, ht⟩
      refine bl_nil rfl ⟨rfl, Ex.mut (x4.trans x5) hrp0, ts ++ [t], by simp; omega, by rw [upd_same, List.map_append]; rfl, ?_⟩
      rw [show dnA mv lo U p = [((U, p - 1), mv)] from if_pos (of_decide_eq_true hb)]
      exact Arcs.upd (fun vs z => by rw [x5 _ _ hts] at z; cases z) (Paired.snoc (hA.ex x5) ht)
    · have hl1 : ts.length ≤ 1 := by rw [Paired.length hA]; unfold upA; split <;> simp
      refine bl_nil rfl ⟨rfl, x4, ts, by omega, hts, ?_⟩
      rw [show dnA mv lo U p = [] from if_neg (of_decide_eq_false hb), List.append_nil]
      exact hA
    rintro σ2 H5 ⟨rfl, x5, ts, htl, hts, hA⟩
    refine bl_set (v := .int (b ^ (p + 20).toNat)) 10 sc_law_next.nd (ev_call1 (c_power W) hr (ea_cons' (ev_nm 2 rfl) (ea_cons' (ev_add (ev_nm 8 rfl) ev_int) ea_nil')) fun H6 _ => ⟨b, (p + 20).toNat, by rw [Int.toNat_of_nonneg (by omega)], by omega, b6, by omega, rfl⟩) ?_
    refine bl_retR (er_cat (Ra := fun xs H6 => xs = ts.map V.ref ∧ Arcs H6 ts (upA mv hi U p ++ dnA mv lo U p)) (Rb := fun xs H6 => ∃ ts', xs = ts'.map V.ref ∧ ts'.length = 2 ∧ Arcs H6 ts' [((U + b ^ (p + 20).toNat, p), ad), ((U - b ^ (p + 20).toNat, p), ad)])
      ((er_ev (ev_nm 9 rfl)).imp fun u H6 x6 eu => ⟨rp, _, eu, x6 _ _ hts, rfl, hA.ex x6⟩)
      ((er_lst (R := fun vs H6 => ∃ ts', vs = ts'.map V.ref ∧ ts'.length = 2 ∧ Arcs H6 ts' [((U + b ^ (p + 20).toNat, p), ad), ((U - b ^ (p + 20).toNat, p), ad)]) (ear_cons (er_arc (U := U + b ^ (p + 20).toNat) (p := p) (k := ad) (ev_add (ev_nm 7 rfl) (ev_nm 10 rfl)) (ev_nm 8 rfl) (ev_nm 4 rfl)) fun u H6 x6 ⟨t1, eu, ht1⟩ => ear_cons (er_arc (U := U - b ^ (p + 20).toNat) (p := p) (k := ad) (ev_sub (ev_nm 7 rfl) (ev_nm 10 rfl)) (ev_nm 8 rfl) (ev_nm 4 rfl)) fun u' H7 x7 ⟨t2, eu', ht2⟩ => ear_nil fun H8 x8 => ⟨[t1, t2], by rw [eu, eu']; rfl, rfl, .cons (ht1.ex (x7.trans x8)) (.cons (ht2.ex x8) .nil)⟩)
        (fun vs H6 ⟨ts', z, l, _⟩ => by rw [z, List.length_map, l]; decide) fun vs H6 H7 x ⟨ts', z, l, h⟩ => ⟨ts', z, l, h.ex x⟩).imp fun u H6 _ ⟨l, vs, eu, _, hl, r⟩ => ⟨l, vs, eu, hl, r⟩)
      (fun xs H6 H7 x ⟨z, h⟩ => ⟨z, h.ex x⟩) (fun xs H6 H7 x ⟨ts', z, l, h⟩ => ⟨ts', z, l, h.ex x⟩) (fun xs ys H6 ⟨z, _⟩ ⟨ts', z', l, _⟩ => by rw [z, z', List.length_map, List.length_map, l]; omega))
      fun v H6 x6 ⟨l, xs, ys, ev, _, hl, ⟨z, h1⟩, ts', z', _, h2⟩ => q v H6 (x5.trans x6) ⟨l, ts ++ ts', ev, by rw [hl, z, z', List.map_append], Paired.app h1 h2⟩)
end
end K27

/-! Dicts with tuple keys. -/
namespace K27
open PySem PySem.Spec PyProof.Rows L2 Evl C8
section
variable {X : Cx} {kE vE : Expr} {pos : Pos} {tk tv : TE}
/-- {k: v} with a tuple for its key -/
def tDisp1T (tk tv : TE) : TE := fun σ H Q => ∀ p, H p = none → tk σ (upd H p (.dT [])) fun y H1 => tv σ H1 fun v H2 => H2 p = some (.dT []) ∧ ∃ (b : Addr) (k : List Key), y = .ref b ∧ H2 b = some (.tup (k.map kV)) ∧ Q (.ref p) (upd H2 p (.dT [(k, v)]))
theorem pe_disp1T (hu : X.A.units + 1 < cLine) (hk : PE X kE tk) (hv : PE X vE tv) : PE X (.Dict [some kE] [vE] pos) (tDisp1T tk tv) := by
  (refine ⟨fun pins s σ H Q I q => ?_⟩)
  have I1 : Inv X pins σ (upd H s.heap.objs.size (.dT [])) { s with heap := s.heap.push { cls := .type "dict", data := .dict #[] } } := I.laid (a := s.heap.objs.size) (o := .dT []) (t' := s.toks) (fun _ _ q => Heap.get?_push_of_some _ q) (Nat.le_refl _) (dt_empty s.heap I.big)
  rw [arm_eval_Dict]
  (refine wpAny_bind (wpAny_standAt ?_))
  rw [show ((evalEachOpt [some kE] X.env).zip ((evalEach [vE] X.env).map fun v => do let x ← v; standAt pos; pure x)) = (pairTrees [some kE] [vE] X.env pos).map fun p => (some p.1, p.2) from rfl, dictDisplay_pairs (pairTrees [some kE] [vE] X.env pos) (by intro z; cases z) (show 1 < 17 by decide)]
  refine wpAny_bind ?_
  unfold subDict
  refine wpAny_bind (wpAny_alloc (wpAny_bind (wpAny_holding ?_)))
  rw [if_pos (show (pairTrees [some kE] [vE] X.env pos).length ≤ 15 from (by decide : 1 ≤ 15))]
  refine wpAny_bind (pairTrees_cons_walk (thn (hk.run pins _ σ _ _ I1 (q _ (I.hok.fresh (Nat.le_refl _)))) fun u s1 ⟨y, H1, I1, ry, q1⟩ => thn (hv.run pins s1 σ H1 _ I1 q1) fun r s2 ⟨v, H2, I2, rv, e, b, k, ey, eb, q2⟩ => pairTrees_nil_walk ?_))
  refine wpAny_holding ?_
  subst ey
  (obtain rfl : u = Value.ref b := ry)
  obtain ⟨z, hd, xs, rel, dd⟩ := dt_of I2.hok e
  rw [List.forIn_cons]
  (refine wpAny_bind (wpAny_bind ?_))
  show wpAny _ _ (dictSet s.heap.objs.size (.ref b) r >>= fun _ => pure (ForInStep.yield PUnit.unit)) _ _ _
  refine wpAny_bind (wpAny_dictSet_heap (A := X.A) (hsz := by rw [← Paired.length rel]; exact Nat.zero_le _) (show X.A.units < cLine by omega) (key_of I2.hok eb) dd fun g dd' hs => wpAny_pure ?_)
  simp only [List.forIn_nil]
  refine wpAny_pure (wpAny_pure (wpAny_pure (wpAny_pure ?_)))
  obtain ⟨w, es, ep, hq, h2, h3, h4, _, h5⟩ := dd'
  have hp2 : H2 s.heap.objs.size = some (.dT []) := e
  refine ⟨.ref s.heap.objs.size, _, d_write (ob := .dT [(k, v)]) I2 (by rw [hp2]; exact True.intro) hs ⟨w, hq⟩ ⟨by show 1 ≤ sizeLine; rw [sizeLine_eq]; decide, hd, _, (rel.put k eb rv).keeps fun c ys ec => ?_, w, es, ep, hq, h2, h3, h4, h5⟩, rfl, q2⟩
  rw [upd_ne (ne_of ec hp2 (fun z => nomatch z))]
  exact ec
end
section
variable {X : Cx} {σ : L2.St} {H : Hp} {o i e : Expr} {a b : Addr} {v : V} {k : List Key} {kvs : List (List Key × V)} {pos p1 ap cp : Pos} {j : Nat} {D : Ends} {rest : List Stmt}
theorem er_disp1T {kE vE : Expr} (hr : Room j X.A) (hk : EV X kE σ H (.ref b)) (hb : H b = some (.tup (k.map kV))) (hv : EV X vE σ H v) : EN X (.Dict [some kE] [vE] pos) σ H (.dT [(k, v)]) := fun H1 e1 Q q =>
  to_wE (pe_disp1T (hu_of hr) pe_w pe_w) fun p hp => hk _ (e1.trans (Ex.new hp)) _ fun H2 e2 => hv _ ((e1.trans (Ex.new hp)).trans e2) _ fun H3 e3 =>
    ⟨e3 _ _ (e2 _ _ upd_same), b, k, rfl, e3 _ _ (e2 _ _ ((e1.trans (Ex.new hp)) _ _ hb)), q p _ hp (Ex.mut (((Ex.new hp).trans e2).trans e3) hp) upd_same⟩
theorem ev_dgetT (ho : EV X o σ H (.ref a)) (hk : EV X i σ H (.ref b)) (h : H a = some (.dT kvs)) (hb : H b = some (.tup (k.map kV))) (hv : valV kvs k = some v) (hr : Room j X.A) (hs : NoSl i := by exact fun _ _ => rfl) : EV X (.Subscript o i pos) σ H v :=
  ev_pe (pe_dget (hu_of hr) pe_w pe_w hs) fun H1 e1 Q q => ho H1 e1 _ fun H2 e2 => hk H2 (e1.trans e2) _ fun H3 e3 => ⟨a, v, rfl, hv ▸ DGet.t (((e1.trans e2).trans e3) _ _ h) (((e1.trans e2).trans e3) _ _ hb), q H3 (e2.trans e3)⟩
/-- d.get(k, c) -/
theorem ev_dget2T {c : Expr} {y : V} (ho : EV X o σ H (.ref a)) (hk : EV X e σ H (.ref b)) (hc : EV X c σ H y) (h : H a = some (.dT kvs)) (hb : H b = some (.tup (k.map kV))) (hr : Room j X.A)
    (h1 : attributeBase o "get" X.env (eval o X.env) = eval o X.env := by rfl)
    (h2 : ((backTo cp (starEach [e, c] X.env)).all (fun x => !x.1) && (backToKw cp (keywordEach [] X.env)).all (fun x => x.1.isSome) && decide (([e, c] : List Expr).length + ([] : List Keyword).length + (if ([] : List Keyword).isEmpty then 0 else 1) < 30)) = true := by rfl)
    (h3 : (ap.endLine == cp.line) = true := by rfl) (h4 : backTo cp (starEach [e, c] X.env) = [(false, eval e X.env), (false, eval c X.env)] := by rfl) : EV X (.Call (.Attribute o "get" ap) [e, c] [] cp) σ H ((valV kvs k).getD y) := fun H1 e1 Q q =>
  to_wE (pe_dget2 (hu_of hr) pe_w pe_w pe_w ⟨h1, h2, h3, h4⟩) (ho H1 e1 _ fun H2 e2 => ⟨a, rfl, .inr ⟨kvs, .inl ((e1.trans e2) _ _ h)⟩, hk H2 (e1.trans e2) _ fun H3 e3 => hc H3 ((e1.trans e2).trans e3) _ fun H4 e4 =>
    ⟨_, DGet.t ((((e1.trans e2).trans e3).trans e4) _ _ h) ((((e1.trans e2).trans e3).trans e4) _ _ hb), q H4 ((e2.trans e3).trans e4)⟩⟩)
theorem bl_dputT {R : V → Hp → Prop} (hv : ER X e σ H R) (ho : EV X o σ H (.ref a)) (hk : EV X i σ H (.ref b)) (h : H a = some (.dT kvs)) (hb : H b = some (.tup (k.map kV))) (hl : kvs.length < 100000) (hr : Room j X.A) (kk : ∀ v H1, Ex H H1 → R v H1 → BL X rest D σ (upd H1 a (.dT (putK kvs k v))))
    (hs : swapsWith e (some (.Subscript o i p1)) pos.line X.env = pure false := by rfl) : BL X (.Assign [.Subscript o i p1] e pos :: rest) D σ H :=
  bl_st (ps_dput (hu_of hr) pe_w pe_w pe_w hs) fun H1 e1 => hv H1 e1 _ fun v H2 e2 r => ho H2 (e1.trans e2) _ fun H3 e3 => hk H3 ((e1.trans e2).trans e3) _ fun H4 e4 =>
    ⟨a, _, rfl, DPut.t ((((e1.trans e2).trans e3).trans e4) _ _ h) ((((e1.trans e2).trans e3).trans e4) _ _ hb) (sz_lt hl), _, ex_upd (e3.trans e4), kk v H2 (e1.trans e2) r⟩
end
end K27

/-! The search through all that costs little: plain. -/
namespace K27
open PySem PySem.Spec PyProof.Rows L2 Evl C8
def getS (D : List (Sta × Int)) (s : Sta) : Option Int := (D.find? fun r => decide (r.1 = s)).map (·.2)
def putS (D : List (Sta × Int)) (s : Sta) (c : Int) : List (Sta × Int) := if (D.any fun r => decide (r.1 = s)) = true then D.map (fun r => if r.1 = s then (r.1, c) else r) else D ++ [(s, c)]
def keyS (s : Sta) : List Key := [Sum.inl s.1, Sum.inl s.2]
def kvS (r : Sta × Int) : List Key × V := (keyS r.1, .int r.2)
theorem keyS_inj {s t : Sta} (h : keyS s = keyS t) : s = t := by
  obtain ⟨a, b⟩ := s
  obtain ⟨c, d⟩ := t
  unfold keyS at h
  simp at h
  obtain ⟨h1, h2⟩ := h
  rw [h1, h2]
theorem keyS_dec {s t : Sta} : decide (keyS s = keyS t) = decide (s = t) := decide_eq_decide.mpr ⟨keyS_inj, fun h => by rw [h]⟩
theorem valV_kvS (D : List (Sta × Int)) (s : Sta) : valV (D.map kvS) (keyS s) = (getS D s).map V.int := by
  unfold valV getS
  induction D with
  | nil => rfl
  | cons r t ih =>
    rw [List.map_cons, List.find?_cons, List.find?_cons]
    show (match decide (keyS r.1 = keyS s) with | true => some (kvS r) | false => _).map _ = _
    rw [keyS_dec]
    by_cases h : r.1 = s
    · rw [decide_eq_true h]; rfl
    · rw [decide_eq_false h]; exact ih
theorem putK_kvS (D : List (Sta × Int)) (s : Sta) (c : Int) : putK (D.map kvS) (keyS s) (.int c) = (putS D s c).map kvS := by
  have ha : ((D.map kvS).any fun kv => decide (kv.1 = keyS s)) = D.any fun r => decide (r.1 = s) := by
    rw [List.any_map]
    congr 1
    funext r
    exact keyS_dec
  unfold putK putS
  rw [ha]
  by_cases h : (D.any fun r => decide (r.1 = s)) = true
  · rw [if_pos h, if_pos h, List.map_map, List.map_map]
    apply List.map_congr_left
    intro r _
    show (if keyS r.1 = keyS s then ((kvS r).1, V.int c) else kvS r) = kvS (if r.1 = s then (r.1, c) else r)
    by_cases h : r.1 = s
    · rw [if_pos h, if_pos (by rw [h])]; rfl
    · rw [if_neg h, if_neg fun z => h (keyS_inj z)]
  · rw [if_neg h, if_neg h, List.map_append]; rfl
theorem getS_some_mem {D : List (Sta × Int)} {s : Sta} {c : Int} (h : getS D s = some c) : (s, c) ∈ D := by
  unfold getS at h
  obtain ⟨r, hr, rfl⟩ := Option.map_eq_some_iff.mp h
  have h1 := List.mem_of_find?_eq_some hr
  have h2 := List.find?_some hr
  have h3 : r.1 = s := of_decide_eq_true h2
  obtain ⟨a, b⟩ := r
  simp at h3
  subst h3
  exact h1
theorem getS_of_mem {D : List (Sta × Int)} {s : Sta} (h : s ∈ D.map (·.1)) : ∃ c, getS D s = some c := by
  obtain ⟨r, hr, rfl⟩ := List.mem_map.mp h
  unfold getS
  cases hf : D.find? fun q => decide (q.1 = r.1) with
  | none =>
    have := List.find?_eq_none.mp hf r hr
    simp at this
  | some q => exact ⟨q.2, rfl⟩
theorem any_get {D : List (Sta × Int)} {s : Sta} : (D.any fun r => decide (r.1 = s)) = (getS D s).isSome := by
  unfold getS
  rw [Option.isSome_map]
  induction D with
  | nil => rfl
  | cons r t ih =>
    rw [List.any_cons, List.find?_cons]
    cases decide (r.1 = s) with
    | true => rfl
    | false => exact ih
theorem find_map {D : List (Sta × Int)} {s x : Sta} {c : Int} : getS (D.map fun r => if r.1 = s then (r.1, c) else r) x = if x = s then (getS D x).map fun _ => c else getS D x := by
  unfold getS
  induction D with
  | nil => simp
  | cons r t ih =>
    rw [List.map_cons, List.find?_cons, List.find?_cons]
    have e : (if r.1 = s then (r.1, c) else r).1 = r.1 := by split <;> rfl
    rw [e]
    by_cases h : r.1 = x
    · rw [decide_eq_true h]
      by_cases hs : r.1 = s
      · simp [hs, ← h]
      · have : ¬ x = s := fun z => hs (h.trans z)
        simp [hs, this]
    · rw [decide_eq_false h]
      exact ih
theorem getS_put {D : List (Sta × Int)} {s x : Sta} {c : Int} : getS (putS D s c) x = if x = s then some c else getS D x := by
  unfold putS
  by_cases h : (D.any fun r => decide (r.1 = s)) = true
  · rw [if_pos h, find_map]
    by_cases hx : x = s
    · rw [if_pos hx, if_pos hx]
      rw [any_get, ← hx] at h
      obtain ⟨y, hy⟩ := Option.isSome_iff_exists.mp h
      rw [hy]; rfl
    · rw [if_neg hx, if_neg hx]
  · rw [if_neg h]
    have hn : getS D s = none := by
      rw [any_get] at h
      simpa using h
    unfold getS at hn ⊢
    rw [List.find?_append]
    by_cases hx : x = s
    · rw [if_pos hx]
      subst hx
      have : (D.find? fun r => decide (r.1 = x)) = none := by simpa using hn
      rw [this]
      simp
    · rw [if_neg hx]
      have : ([(s, c)].find? fun r => decide (r.1 = x)) = none := by simp; exact fun z => hx z.symm
      rw [this, Option.or_none]
theorem putS_len {D : List (Sta × Int)} {s : Sta} {c : Int} : (putS D s c).length ≤ D.length + 1 := by
  unfold putS
  split
  · rw [List.length_map]; omega
  · simp
/-! ### paths -/
inductive Rch (nex : Sta → List Arc) (s0 : Sta) : Sta → Int → Prop
  | z : Rch nex s0 s0 0
  | s {x : Sta} {c : Int} {a : Arc} (h : Rch nex s0 x c) (m : a ∈ nex x) : Rch nex s0 a.1 (c + a.2)
/-- what is known of the costs D and the buckets B -/
structure RI (nex : Sta → List Arc) (s0 : Sta) (D : List (Sta × Int)) (B : Nat → List Sta) : Prop where
  d1 : ∀ s c, getS D s = some c → Rch nex s0 s c ∧ c ≤ 6 ∧ s ∈ B c.toNat
  b1 : ∀ c s, s ∈ B c → Rch nex s0 s (c : Int) ∧ ∃ c', getS D s = some c' ∧ c' ≤ (c : Int)
def Cl (D : List (Sta × Int)) (c : Int) (L : List Arc) : Prop := ∀ a ∈ L, c + a.2 ≤ 6 → ∃ c', getS D a.1 = some c' ∧ c' ≤ c + a.2
/-- all that cost less than i are done with -/
def Done (nex : Sta → List Arc) (D : List (Sta × Int)) (i : Int) : Prop := ∀ s c, getS D s = some c → c < i → Cl D c (nex s)
def addB (B : Nat → List Sta) (c : Nat) (s : Sta) : Nat → List Sta := fun k => if k = c then B k ++ [s] else B k
section
variable {nex : Sta → List Arc} {s0 : Sta} {D : List (Sta × Int)} {B : Nat → List Sta}
theorem rch_nn (hn : ∀ s, ∀ a ∈ nex s, 1 ≤ a.2) {s : Sta} {c : Int} (h : Rch nex s0 s c) : 0 ≤ c := by
  induction h with
  | z => exact Int.le_refl _
  | s h m ih => have := hn _ _ m; omega
theorem get_lower {s' s : Sta} {c c' : Int} (hlt : c' < (getS D s').getD 7) (h : getS D s = some c) : ∃ c2, getS (putS D s' c') s = some c2 ∧ c2 ≤ c := by
  rw [getS_put]
  by_cases e : s = s'
  · subst e
    rw [if_pos rfl]
    rw [h] at hlt
    exact ⟨c', rfl, Int.le_of_lt hlt⟩
  · rw [if_neg e]; exact ⟨c, h, Int.le_refl _⟩
theorem cl_put {s' : Sta} {c c' : Int} {L : List Arc} (hlt : c' < (getS D s').getD 7) (h : Cl D c L) : Cl (putS D s' c') c L := fun a ha hc => by
  obtain ⟨c1, h1, h2⟩ := h a ha hc
  obtain ⟨c2, h3, h4⟩ := get_lower hlt h1
  exact ⟨c2, h3, Int.le_trans h4 h2⟩
theorem ri_put (hn : ∀ s, ∀ a ∈ nex s, 1 ≤ a.2) {s' : Sta} {c' : Int} (R : RI nex s0 D B) (hr : Rch nex s0 s' c') (h6 : c' ≤ 6) (hlt : c' < (getS D s').getD 7) : RI nex s0 (putS D s' c') (addB B c'.toNat s') := by
  have h0 := rch_nn hn hr
  refine ⟨fun s c h => ?_, fun c s h => ?_⟩
  · rw [getS_put] at h
    by_cases e : s = s'
    · rw [if_pos e] at h
      obtain rfl := Option.some.inj h
      subst e
      refine ⟨hr, h6, ?_⟩
      unfold addB
      rw [if_pos rfl]
      simp
    · rw [if_neg e] at h
      obtain ⟨h1, h2, h3⟩ := R.d1 s c h
      refine ⟨h1, h2, ?_⟩
      unfold addB
      split
      · exact List.mem_append_left _ h3
      · exact h3
  · unfold addB at h
    by_cases e : c = c'.toNat
    · rw [if_pos e] at h
      (rcases List.mem_append.mp h with h | h)
      · obtain ⟨h1, c2, h2, h3⟩ := R.b1 c s h
        obtain ⟨c3, h4, h5⟩ := get_lower hlt h2
        exact ⟨h1, c3, h4, Int.le_trans h5 h3⟩
      · obtain rfl := List.mem_singleton.mp h
        refine ⟨?_, c', by rw [getS_put, if_pos rfl], by omega⟩
        rw [e, Int.toNat_of_nonneg h0]
        exact hr
    · rw [if_neg e] at h
      obtain ⟨h1, c2, h2, h3⟩ := R.b1 c s h
      obtain ⟨c3, h4, h5⟩ := get_lower hlt h2
      exact ⟨h1, c3, h4, Int.le_trans h5 h3⟩
theorem get_keep {s' s : Sta} {c c' i : Int} (hi : i < c') (hc : c ≤ i) : getS (putS D s' c') s = some c → getS D s = some c := fun h => by
  rw [getS_put] at h
  by_cases e : s = s'
  · rw [if_pos e] at h
    have := Option.some.inj h
    omega
  · rw [if_neg e] at h; exact h
theorem get_keep2 {s' s : Sta} {c c' i : Int} (hi : i < c') (hc : c ≤ i) (hlt : c' < (getS D s').getD 7) (h : getS D s = some c) : getS (putS D s' c') s = some c := by
  rw [getS_put]
  by_cases e : s = s'
  · subst e
    rw [h] at hlt
    have : c' < c := hlt
    omega
  · rw [if_neg e]; exact h
theorem done_put {s' : Sta} {c' i : Int} (hi : i < c') (hlt : c' < (getS D s').getD 7) (h : Done nex D i) : Done nex (putS D s' c') i := fun s c hg hc =>
  cl_put hlt (h s c (get_keep hi (Int.le_of_lt hc) hg) hc)
/-- in the end all is found -/
theorem all_found (hn : ∀ s, ∀ a ∈ nex s, 1 ≤ a.2) (h0 : ∃ c, getS D s0 = some c ∧ c ≤ 0) (hd : Done nex D 7) : ∀ {s : Sta} {c : Int}, Rch nex s0 s c → c ≤ 6 → ∃ c', getS D s = some c' ∧ c' ≤ c := by
  intro s c h
  induction h with
  | z => exact fun _ => h0
  | @s x c a h m ih =>
    intro h6
    have ha := hn _ _ m
    obtain ⟨c1, g1, g2⟩ := ih (by omega)
    obtain ⟨c2, g3, g4⟩ := hd x c1 g1 (by omega) a m (by omega)
    exact ⟨c2, g3, by omega⟩
theorem rch_pos {b mv ad : Int} {lo hi : Option Int} (h1 : 1 ≤ mv) (h2 : 1 ≤ ad) {s : Sta} {c : Int} (h : Rch (fun s => nexA b mv ad lo hi s.1 s.2) s0 s c) : s0.2 - c ≤ s.2 ∧ s.2 ≤ s0.2 + c := by
  induction h with
  | z => omega
  | @s x c a h m ih =>
    unfold nexA upA dnA at m
    simp only [List.mem_append, List.mem_cons, List.not_mem_nil, or_false] at m
    rcases m with (m | m) | m | m
    · split at m
      · obtain rfl := List.mem_singleton.mp m; simp; omega
      · cases m
    · split at m
      · obtain rfl := List.mem_singleton.mp m; simp; omega
      · cases m
    · subst m; simp; omega
    · subst m; simp; omega
theorem nex_pos {b mv ad : Int} {lo hi : Option Int} (h1 : 1 ≤ mv) (h2 : 1 ≤ ad) (s : Sta) : ∀ a ∈ nexA b mv ad lo hi s.1 s.2, 1 ≤ a.2 := by
  intro a m
  unfold nexA upA dnA at m
  simp only [List.mem_append, List.mem_cons, List.not_mem_nil, or_false] at m
  rcases m with (m | m) | m | m
  · split at m
    · obtain rfl := List.mem_singleton.mp m; exact h1
    · cases m
  · split at m
    · obtain rfl := List.mem_singleton.mp m; exact h1
    · cases m
  · subst m; exact h2
  · subst m; exact h2
theorem nex_len {b mv ad : Int} {lo hi : Option Int} (U p : Int) : (nexA b mv ad lo hi U p).length ≤ 4 := by
  unfold nexA upA dnA
  split <;> split <;> simp
end
end K27

/-! New objects by a property; comprehensions of such. -/
namespace K27
open PySem PySem.Spec PyProof.Rows L2 Evl C8
/-- a new object of which R holds -/
def EF (X : Cx) (e : Expr) (σ : L2.St) (H : Hp) (R : Addr → Hp → Prop) : Prop := ∀ H1, Ex H H1 → ∀ Q : VK, (∀ p H2, H1 p = none → Ex H1 H2 → R p H2 → Q (.ref p) H2) → wE X e σ H1 Q
section
variable {X : Cx} {σ : L2.St} {H : Hp} {e a b elt : Expr} {es : List Expr} {pos p1 : Pos} {R : Addr → Hp → Prop} {scope : Scope} {z : Str} {i : Nat}
theorem ef_en {o : HO} (h : EN X e σ H o) : EF X e σ H fun p H2 => H2 p = some o := fun H1 e1 Q q => h H1 e1 Q fun p H2 hp e2 h2 => q p H2 hp e2 h2
theorem er_ef (h : EF X e σ H R) : ER X e σ H fun u H2 => ∃ p, u = .ref p ∧ H p = none ∧ R p H2 := fun H1 e1 Q q => h H1 e1 Q fun p H2 hp e2 r => q _ H2 e2 ⟨p, rfl, fresh_back e1 hp, r⟩
theorem ef_call1 {k j : Nat} {z : Str} {pre : Pre} {vs : List V} (cl : Cal X.prog X.w X.K X.mg X.base k z (spR pre) []) (hr : Room j X.A) (ha : EA X (e :: es) σ H vs) (hp : ∀ H1, Ex H H1 → pre vs H1 (fun v H' => ∃ p, v = .ref p ∧ H1 p = none ∧ R p H')) (hk : k ≤ j := by decide) (hg : Gl X z := by rfl)
    (hdb : (z == ("__debug__" : Str)) = false := by decide) (he : starEach (e :: es) X.env = (false, eval e X.env) :: starEach es X.env := by rfl) (hpl : (backTo pos (starEach es X.env)).any (·.1) = false := by rfl) : EF X (.Call (.Name z p1) (e :: es) [] pos) σ H R :=
  fun H1 e1 Q q => to_wE (pe_c cl hr hk hg pa_w hdb he hpl) (ha H1 e1 _ fun H2 e2 => ⟨fun v H' => ∃ p, v = .ref p ∧ H2 p = none ∧ R p H', by rw [List.append_nil]; exact hp H2 (e1.trans e2), fun v H3 e3 ⟨p, ev, hn, r⟩ => by rw [ev]; exact q p H3 (fresh_back e2 hn) (e2.trans e3) r⟩)
abbrev EFB (X : Cx) (scope : Scope) (e : Expr) (σ : L2.St) (H : Hp) (R : Addr → Hp → Prop) : Prop := ∀ (s : Shared) (H0 : Hp) (C : Addr) (cl : List (Str × Addr)) (fp : List Addr), EF (X.blk s H0 scope (compEnvC scope cl C X.env) fp) e σ H R
/-- the new list Dl within, its elements new objects -/
def Cf (H : Hp) (R : Nat → Addr → Hp → Prop) (Dl : Addr) (i : Nat) (H' : Hp) : Prop := H Dl = none ∧ Ex H H' ∧ ∃ bs : List Addr, H' Dl = some (.lst (bs.map V.ref)) ∧ bs.length = i ∧ (∀ j p, bs[j]? = some p → R j p H' ∧ H p = none ∧ p ≠ Dl) ∧ bs.Nodup
structure Rs (R : Nat → Addr → Hp → Prop) : Prop where
  up : ∀ j p H H', Ex H H' → R j p H → R j p H'
  wr : ∀ j p H D xs ys, H D = some (.lst xs) → p ≠ D → R j p H → R j p (upd H D (.lst ys))
  ne : ∀ j p H, R j p H → H p ≠ none
theorem cf_turn {H H' : Hp} {R : Nat → Addr → Hp → Prop} {Dl : Addr} {n : Nat} {σ2 : L2.St} (S : Rs R) (c : Cf H R Dl n H') (hn : n < 50000) (he : ∀ H1, Ex H H1 → EFB X scope elt σ2 H1 (R n)) :
    wEB X scope elt σ2 H' fun y H4 => ∃ acc, H4 Dl = some (.lst acc) ∧ acc.length < sizeLine ∧ Cf H R Dl (n + 1) (upd H4 Dl (.lst (acc ++ [y]))) := by
  obtain ⟨c1, c2, bs, hD, hl, hb, hnd⟩ := c
  intro s H0 C cl fp
  refine he H' c2 s H0 C cl fp H' (Ex.refl _) _ fun p H4 hp e4 r => ?_
  have hD4 := e4 _ _ hD
  have npD : p ≠ Dl := fun z => by rw [z, hD] at hp; cases hp
  refine ⟨bs.map V.ref, hD4, sz_lt (by rw [List.length_map]; omega), c1, Ex.mut (c2.trans e4) c1, bs ++ [p], by rw [upd_same, List.map_append]; rfl, by simp [hl], fun j q hq => ?_, ?_⟩
  · rw [List.getElem?_append] at hq
    by_cases hj : j < bs.length
    · rw [if_pos hj] at hq
      obtain ⟨r1, r2, r3⟩ := hb j q hq
      exact ⟨S.wr _ _ _ _ _ _ hD4 r3 (S.up _ _ _ _ e4 r1), r2, r3⟩
    · rw [if_neg hj] at hq
      have : j = n := by
        have := (List.getElem?_eq_some_iff.mp hq).1
        simp at this
        omega
      subst this
      rw [hl, Nat.sub_self] at hq
      obtain rfl : p = q := by simpa using hq
      exact ⟨S.wr _ _ _ _ _ _ hD4 npD r, fresh_back c2 hp, npD⟩
  · rw [List.nodup_append]
    refine ⟨hnd, by simp, fun x hx y hy => ?_⟩
    obtain rfl := List.mem_singleton.mp hy
    intro e
    subst e
    (obtain ⟨j, hj⟩ := List.mem_iff_getElem?.mp hx)
    exact S.ne _ _ _ (hb j x hj).1 hp
def CfOut (H : Hp) (R : Nat → Addr → Hp → Prop) (n : Nat) (u : V) (H2 : Hp) : Prop := ∃ (P : Addr) (bs : List Addr), u = .ref P ∧ H P = none ∧ H2 P = some (.lst (bs.map V.ref)) ∧ bs.length = n ∧ (∀ j p, bs[j]? = some p → R j p H2 ∧ H p = none ∧ p ≠ P) ∧ bs.Nodup
theorem cf_out {H0 H H' : Hp} {R : Nat → Addr → Hp → Prop} {Dl : Addr} {n : Nat} (x : Ex H0 H) (c : Cf H R Dl n H') : CfOut H0 R n (.ref Dl) H' := by
  obtain ⟨c1, c2, bs, hD, hl, hb, hnd⟩ := c
  exact ⟨Dl, bs, rfl, fresh_back x c1, hD, hl, fun j p hj => let ⟨r1, r2, r3⟩ := hb j p hj; ⟨r1, fresh_back x r2, r3⟩, hnd⟩
theorem cf_0 {H : Hp} {R : Nat → Addr → Hp → Prop} {Dl : Addr} (h : H Dl = none) : Cf H R Dl 0 (upd H Dl (.lst [])) := ⟨h, Ex.new h, [], upd_same, rfl, by simp, List.nodup_nil⟩
/-- [elt for z in range(n)], each a new object -/
theorem er_lcR1F {n : Int} {p p2 : Pos} (R : Nat → Addr → Hp → Prop) (S : Rs R) (ha : EV X a σ H (.int n)) (hn : 0 ≤ n ∧ n ≤ 40000) (hm : X.mg "range" = none) (nd : X.N.Nodup)
    (he : ∀ (j : Nat) H1, Ex H H1 → (j : Int) < n → EFB X scope elt ((wipe σ [i]).set i (some (.int (0 + (j : Int))))) H1 (R j))
    (ok : BlkOk X.N X.env.scope scope [(z, i)] := by exact blkOk_by (by kernel_rfl)) (hi : X.N[i]? = some z := by rfl) (hx : scope.names.lookup z = some .local := by rfl) (hc : X.calm = true := by rfl) (hg : Gl X "range" := by rfl)
    (hst : starEach [a] X.env = [(false, eval a X.env)] := by rfl) (hs : ∀ x, foldedSetIterable (.Call (.Name "range" p) [a] [] p2) X.env x = pure x := by intro _; rfl) :
    ER X (.ListComp elt [⟨.Name z p1, .Call (.Name "range" p) [a] [] p2, [], 0⟩] scope pos) σ H (CfOut H R n.toNat) := fun H1 e1 Q q => to_wE (pe_lc hc nd (pi_range1 hg hm pa_w hst) ok (blk_nm nd hi hx) pb_no blk_e hs) ((ea_cons' ha ea_nil' hst) H1 e1 _ fun H2 e2 =>
  ⟨n, rfl, by omega, by omega, fun Dl hD => lc_range (lo := 0) (n := n.toNat) (Cf H2 R Dl) (cf_0 hD) (fun j H' hj c => ⟨wipe1 _, cf_turn S c (by omega) fun H3 e3 => he j H3 ((e1.trans e2).trans e3) (by omega)⟩) fun H' c => q _ H' (e2.trans c.2.1) (cf_out (e1.trans e2) c)⟩)
/-- y = [elt for z in l], each a new object; over a list -/
theorem er_lcLF {xs : List V} (R : Nat → Addr → Hp → Prop) (S : Rs R) (hl : ER X e σ H fun u H1 => ∃ p, u = .ref p ∧ SqL X.K H1 p xs) (hz : xs.length ≤ 40000) (nd : X.N.Nodup)
    (he : ∀ (j : Nat) (x : V) H1, Ex H H1 → xs[j]? = some x → EFB X scope elt ((wipe σ [i]).set i (some x)) H1 (R j))
    (ok : BlkOk X.N X.env.scope scope [(z, i)] := by exact blkOk_by (by kernel_rfl)) (hi : X.N[i]? = some z := by rfl) (hx : scope.names.lookup z = some .local := by rfl) (hc : X.calm = true := by rfl) (hs : ∀ x, foldedSetIterable e X.env x = pure x := by intro _; rfl) :
    ER X (.ListComp elt [⟨.Name z p1, e, [], 0⟩] scope pos) σ H (CfOut H R xs.length) := fun H1 e1 Q q => to_wE (pe_lc hc nd (pi_list pe_w) ok (blk_nm nd hi hx) pb_no blk_e hs) (hl H1 e1 _ fun u H2 e2 ⟨p, ep, hS⟩ => by
  subst ep
  exact ⟨p, rfl, ⟨xs, hS⟩, fun Dl hD => lc_list (xs := xs) (Cf H2 R Dl) (cf_0 hD) (fun j H' _ c => ex_l c.2.1 hS) (fun j x H' hj c => ⟨wipe1 x, cf_turn S c (by have := (List.getElem?_eq_some_iff.mp hj).1; omega) fun H3 e3 => he j x H3 ((e1.trans e2).trans e3) hj⟩) fun H' c => q _ H' (e2.trans c.2.1) (cf_out (e1.trans e2) c)⟩)
end
end K27

/-! _law_reach: what stands in the heap. -/
namespace K27
open PySem PySem.Spec PyProof.Rows L2 Evl C8
def AtS (H : Hp) (t : Addr) (s : Sta) : Prop := H t = some (.tup [.int s.1, .int s.2])
abbrev Stas (H : Hp) (ts : List Addr) (L : List Sta) : Prop := Paired (AtS H) ts L
theorem Stas.ex {H H' : Hp} {ts : List Addr} {L : List Sta} (e : Ex H H') (h : Stas H ts L) : Stas H' ts L := Paired.mapP h fun _ _ z => e _ _ z
theorem Stas.upd {H : Hp} {ts : List Addr} {L : List Sta} {a : Addr} {o : HO} (ha : ∀ vs, H a ≠ some (.tup vs)) (h : Stas H ts L) : Stas (L2.upd H a o) ts L := Paired.mapP h fun t u z => by
  show L2.upd H a o t = _
  rw [upd_ne fun y => ha _ (y ▸ z)]; exact z
theorem nodup_idx : ∀ {xs : List Addr} {i j : Nat}, xs.Nodup → xs[i]? = xs[j]? → i < xs.length → i = j
  | [], i, j, _, _, h => absurd h (Nat.not_lt_zero _)
  | x :: xs, 0, 0, _, _, _ => rfl
  | x :: xs, 0, j + 1, nd, e, _ => absurd (List.mem_of_getElem? (show xs[j]? = some x from e.symm)) (List.nodup_cons.mp nd).1
  | x :: xs, i + 1, 0, nd, e, _ => absurd (List.mem_of_getElem? (show xs[i]? = some x from e)) (List.nodup_cons.mp nd).1
  | x :: xs, i + 1, j + 1, nd, e, h => congrArg Nat.succ (nodup_idx (List.nodup_cons.mp nd).2 e (Nat.lt_of_succ_lt_succ h))
structure RH (H : Hp) (dc bl : Addr) (bs : List Addr) (D : List (Sta × Int)) (B : Nat → List Sta) : Prop where
  dct : H dc = some (.dT (D.map kvS))
  blt : H bl = some (.lst (bs.map V.ref))
  len : bs.length = 7
  bkt : ∀ c p, bs[c]? = some p → ∃ ts, H p = some (.lst (ts.map V.ref)) ∧ Stas H ts (B c)
  nd : bs.Nodup
  nin : bl ∉ bs
section
variable {H H1 : Hp} {dc bl : Addr} {bs : List Addr} {D : List (Sta × Int)} {B : Nat → List Sta}
theorem RH.ex (h : RH H dc bl bs D B) (e : Ex H H1) : RH H1 dc bl bs D B := ⟨e _ _ h.dct, e _ _ h.blt, h.len, fun c p hp => let ⟨ts, h1, h2⟩ := h.bkt c p hp; ⟨ts, e _ _ h1, h2.ex e⟩, h.nd, h.nin⟩
theorem RH.dc_nin (h : RH H dc bl bs D B) : dc ∉ bs := fun z => by
  obtain ⟨c, hc⟩ := List.mem_iff_getElem?.mp z
  obtain ⟨ts, h1, _⟩ := h.bkt c dc hc
  rw [h.dct] at h1
  cases h1
theorem RH.put_d (h : RH H dc bl bs D B) (s : Sta) (c : Int) : RH (upd H dc (.dT (putK (D.map kvS) (keyS s) (.int c)))) dc bl bs (putS D s c) B := by
  have hb : bl ≠ dc := fun z => by have := h.blt; rw [z, h.dct] at this; cases this
  refine ⟨by rw [upd_same, putK_kvS], by rw [upd_ne hb]; exact h.blt, h.len, fun k p hp => ?_, h.nd, h.nin⟩
  obtain ⟨ts, h1, h2⟩ := h.bkt k p hp
  have hp2 : p ≠ dc := fun z => h.dc_nin (z ▸ List.mem_of_getElem? hp)
  exact ⟨ts, by rw [upd_ne hp2]; exact h1, h2.upd fun vs z => by rw [h.dct] at z; cases z⟩
theorem RH.put_b (h : RH H dc bl bs D B) {c : Nat} {p q : Addr} {ts : List Addr} {s : Sta} (hp : bs[c]? = some p) (hts : H p = some (.lst (ts.map V.ref))) (hq : AtS H q s) (hS : Stas H ts (B c)) : RH (upd H p (.lst (ts.map V.ref ++ [V.ref q]))) dc bl bs D (addB B c s) := by
  have hpm := List.mem_of_getElem? hp
  have nt : ∀ vs, H p ≠ some (.tup vs) := fun vs z => by rw [hts] at z; cases z
  have n1 : dc ≠ p := fun z => h.dc_nin (z ▸ hpm)
  have n2 : bl ≠ p := fun z => h.nin (z ▸ hpm)
  refine ⟨by rw [upd_ne n1]; exact h.dct, by rw [upd_ne n2]; exact h.blt, h.len, fun k p' hp' => ?_, h.nd, h.nin⟩
  by_cases e : k = c
  · subst e
    rw [hp] at hp'
    obtain rfl := Option.some.inj hp'
    refine ⟨ts ++ [q], by rw [upd_same, List.map_append]; rfl, ?_⟩
    unfold addB
    rw [if_pos rfl]
    exact Stas.upd nt (Paired.snoc hS hq)
  · obtain ⟨ts', h1, h2⟩ := h.bkt k p' hp'
    have hne : p' ≠ p := fun z => by
      subst z
      have h1' := (List.getElem?_eq_some_iff.mp hp')
      have h2' := (List.getElem?_eq_some_iff.mp hp)
      obtain ⟨a1, a2⟩ := h1'
      obtain ⟨b1, b2⟩ := h2'
      exact e (nodup_idx h.nd (hp'.trans hp.symm) a1)
    refine ⟨ts', by rw [upd_ne hne]; exact h1, ?_⟩
    unfold addB
    rw [if_neg e]
    exact Stas.upd nt h2
theorem arcs_head {t : Addr} {ts : List Addr} {a : Arc} {A : List Arc} (h : Arcs H (t :: ts) (a :: A)) : ∃ q, H t = some (.tup [.ref q, .int a.2]) := by
  cases h with
  | cons h _ => obtain ⟨q, h1, _⟩ := h; exact ⟨q, h1⟩
theorem stas_head {t : Addr} {ts : List Addr} {L : List Sta} (h : Stas H (t :: ts) L) : ∃ i j : Int, H t = some (.tup [.int i, .int j]) := by
  cases h with
  | cons h _ => exact ⟨_, _, h⟩
/-- the list of arcs is none of the buckets -/
theorem arcs_nin (h : RH H dc bl bs D B) {l : Addr} {ts : List Addr} {A : List Arc} (hl : H l = some (.lst (ts.map V.ref))) (hA : Arcs H ts A) (hne : A ≠ []) : l ∉ bs := fun z => by
  obtain ⟨c, hc⟩ := List.mem_iff_getElem?.mp z
  obtain ⟨ts', h1, h2⟩ := h.bkt c l hc
  rw [hl] at h1
  injection h1 with h1
  injection h1 with h1
  have e : ts = ts' := by
    have : ∀ {x y : List Addr}, x.map V.ref = y.map V.ref → x = y := fun {x} => by
      induction x with
      | nil => intro y hy; cases y with
        | nil => rfl
        | cons _ _ => cases hy
      | cons a x ih => intro y hy; cases y with
        | nil => cases hy
        | cons b y =>
          injection hy with h1 h2
          injection h1 with h1
          rw [h1, ih h2]
    exact this h1
  subst e
  cases A with
  | nil => exact hne rfl
  | cons a A =>
    cases ts with
    | nil => cases hA
    | cons t ts =>
      obtain ⟨q, g1⟩ := arcs_head hA
      obtain ⟨i, j, g2⟩ := stas_head h2
      rw [g1] at g2
      injection g2 with g2
      injection g2 with g2
      injection g2 with g2
      cases g2
end
end K27

/-! _law_reach. -/
namespace K27
open PySem PySem.Spec PyProof.Rows L2 Evl C8
/-- within a bucket: j of its states are done with -/
structure PinI (nex : Sta → List Arc) (s0 : Sta) (i : Nat) (L : List Sta) (j : Nat) (D : List (Sta × Int)) (B : Nat → List Sta) (n : Nat) : Prop where
  ri : RI nex s0 D B
  dn : Done nex D i
  z : ∃ c, getS D s0 = some c ∧ c ≤ 0
  bi : B i = L
  cl : ∀ j', j' < j → ∀ s, L[j']? = some s → getS D s = some (i : Int) → Cl D i (nex s)
  dl : D.length ≤ n
  bl : ∀ c, (B c).length ≤ n
theorem PinI.put {nex : Sta → List Arc} {s0 : Sta} {i : Nat} {L : List Sta} {j : Nat} {D : List (Sta × Int)} {B : Nat → List Sta} {n : Nat} (hn : ∀ s, ∀ a ∈ nex s, 1 ≤ a.2) (P : PinI nex s0 i L j D B n) {s' : Sta} {c' : Int} (hr : Rch nex s0 s' c') (hi : (i : Int) < c') (h6 : c' ≤ 6) (hlt : c' < (getS D s').getD 7) :
    PinI nex s0 i L j (putS D s' c') (addB B c'.toNat s') (n + 1) := by
  refine ⟨ri_put hn P.ri hr h6 hlt, done_put hi hlt P.dn, ?_, ?_, fun j' hj s hs hg => cl_put hlt (P.cl j' hj s hs (get_keep hi (Int.le_refl _) hg)), ?_, fun c => ?_⟩
  · obtain ⟨c, h1, h2⟩ := P.z
    obtain ⟨c2, h3, h4⟩ := get_lower hlt h1
    exact ⟨c2, h3, Int.le_trans h4 h2⟩
  · unfold addB
    rw [if_neg (by omega)]
    exact P.bi
  · have := putS_len (D := D) (s := s') (c := c')
    have := P.dl
    omega
  · have := P.bl c
    unfold addB
    split
    · (rw [List.length_append]; simp; omega)
    · omega
theorem PinI.up {nex : Sta → List Arc} {s0 : Sta} {i : Nat} {L : List Sta} {j : Nat} {D : List (Sta × Int)} {B : Nat → List Sta} {n m : Nat} (P : PinI nex s0 i L j D B n) (h : n ≤ m) : PinI nex s0 i L j D B m := ⟨P.ri, P.dn, P.z, P.bi, P.cl, Nat.le_trans P.dl h, fun c => Nat.le_trans (P.bl c) h⟩
section
variable {base : Heap} {mg : Str → Option Value} {K : PySem.W.Frag} {w : World} {P : Program}
def pr_reach : Pre := fun vs H R => ∃ (s a : Addr) (b mv ad : Int) (lo hi : Option Int) (s0 : Sta), vs = [.ref s, .ref a, .int 6] ∧ IsSpec H s b mv ad lo hi ∧ AtS H a s0 ∧ 2 ≤ b ∧ b < 2 ^ 6 ∧ 1 ≤ mv ∧ 1 ≤ ad ∧ -10 ≤ s0.2 ∧ s0.2 ≤ 10 ∧
  R = fun v H' => ∃ dc D, v = .ref dc ∧ H' dc = some (.dT (D.map kvS)) ∧ (∀ s c, getS D s = some c → Rch (fun s => nexA b mv ad lo hi s.1 s.2) s0 s c ∧ c ≤ 6) ∧ (∀ s c, Rch (fun s => nexA b mv ad lo hi s.1 s.2) s0 s c → c ≤ 6 → ∃ c', getS D s = some c' ∧ c' ≤ c) ∧ D.length ≤ 100000
theorem c_reach (W : Wd K mg) : Cal P w K mg base 3 "_law_reach" (spR pr_reach) [] :=
  cal_mk W.F_law_reach W.g__law_reach sc_law_reach (fun vs H R ⟨_, _, _, _, _, _, _, _, e, _⟩ => by rw [e]; rfl) (by
    rintro cdv A outer s H vs Q E R hr ⟨sa, a, b, mv, ad, lo, hi, s0, rfl, hs, ha, b2, b6, mv1, ad1, p0, p1, rfl⟩ q
    have hnx : ∀ s : Sta, ∀ a ∈ nexA b mv ad lo hi s.1 s.2, 1 ≤ a.2 := nex_pos mv1 ad1
    have hps : ∀ {s : Sta} {c : Int}, Rch (fun s => nexA b mv ad lo hi s.1 s.2) s0 s c → s0.2 - c ≤ s.2 ∧ s.2 ≤ s0.2 + c := rch_pos mv1 ad1
    have hnl : ∀ s : Sta, (nexA b mv ad lo hi s.1 s.2).length ≤ 4 := fun s => nex_len _ _
    generalize hnex : (fun s : Sta => nexA b mv ad lo hi s.1 s.2) = nex at *
    have hnA : ∀ s : Sta, nexA b mv ad lo hi s.1 s.2 = nex s := fun s => by rw [← hnex]
    simp only [hnA] at hnx hnl
    refine bl_setN 3 sc_law_reach.nd (er_disp1T hr (ev_nm 1 rfl) (k := keyS s0) ha ev_int) fun dc H1 hdc x1 hdc1 => ?_
    refine bl_setR 4 sc_law_reach.nd (er_cat (Ra := fun xs H2 => ∃ p, xs = [.ref p] ∧ H1 p = none ∧ H2 p = some (.lst [.ref a])) (Rb := fun xs H2 => ∃ bs : List Addr, xs = bs.map V.ref ∧ bs.length = 6 ∧ (∀ j p, bs[j]? = some p → H2 p = some (.lst []) ∧ H1 p = none) ∧ bs.Nodup)
      ((er_lst (R := fun vs H2 => ∃ p, vs = [.ref p] ∧ H1 p = none ∧ H2 p = some (.lst [.ref a])) (ear_cons (er_en (en_lst (ea_cons' (ev_nm 1 rfl) ea_nil'))) fun u H2 x2 ⟨p, eu, hp, h2⟩ => ear_nil fun H3 x3 => ⟨p, by rw [eu], hp, x3 _ _ h2⟩) (fun vs H2 ⟨_, z, _⟩ => by rw [z]; simp) fun vs H2 H3 x ⟨p, z, h, h2⟩ => ⟨p, z, h, x _ _ h2⟩).imp fun u H2 _ ⟨l, vs, eu, _, hl, r⟩ => ⟨l, vs, eu, hl, r⟩)
      ((er_lcR1F (i := 9) (n := 6) (fun _ p H2 => H2 p = some (.lst [])) ⟨fun j p H2 H3 x h => x _ _ h, fun j p H2 D xs ys hD hne h => by rw [upd_ne hne]; exact h, fun j p H2 h z => by rw [h] at z; cases z⟩ (ev_nm 2 rfl) (by decide) W.n_range sc_law_reach.nd fun j H2 x2 hj _ _ _ _ _ => ef_en (en_lst ea_nil')).imp fun u H2 _ ⟨Pp, bs, eu, _, hP, hl, hb, hnd⟩ => ⟨Pp, _, eu, hP, bs, rfl, hl, fun j p hj => ⟨(hb j p hj).1, (hb j p hj).2.1⟩, hnd⟩)
      (fun xs H2 H3 x ⟨p, z, h, h2⟩ => ⟨p, z, h, x _ _ h2⟩) (fun xs H2 H3 x ⟨bs, z, l, h, n⟩ => ⟨bs, z, l, fun j p hj => ⟨x _ _ (h j p hj).1, (h j p hj).2⟩, n⟩) (fun xs ys H2 ⟨p, z, _⟩ ⟨bs, z', l, _⟩ => by rw [z, z', List.length_map, l]; exact (by decide : 1 + 6 ≤ 100000))) fun u H2 x2 ⟨bl, xs, ys, eu, hbl0, hbl, ⟨pf, ex', hpf0, hpf⟩, bt, ey, hbt, hbb, hbn⟩ => ?_
    subst eu ex' ey
    have hpfn : pf ∉ bt := fun z => by
      obtain ⟨j, hj⟩ := List.mem_iff_getElem?.mp z
      have := (hbb j pf hj).1
      rw [hpf] at this
      cases this
    have hrh : RH H2 dc bl (pf :: bt) [(s0, 0)] (fun c => if c = 0 then [s0] else []) := by
      refine ⟨x2 _ _ hdc1, hbl, by simp [hbt], fun c p hp => ?_, List.nodup_cons.mpr ⟨hpfn, hbn⟩, fun z => ?_⟩
      · cases c with
        | zero =>
          obtain rfl : pf = p := by simpa using hp
          exact ⟨[a], hpf, .cons (x2 _ _ (x1 _ _ ha)) .nil⟩
        | succ c =>
          have hp' : bt[c]? = some p := by simpa using hp
          exact ⟨[], (hbb c p hp').1, by rw [if_neg (Nat.succ_ne_zero c)]; exact .nil⟩
      · rcases List.mem_cons.mp z with h | h
        · rw [h, hpf] at hbl
          injection hbl with hbl
          injection hbl with hbl
          have := congrArg List.length hbl
          simp [hbt] at this
        · obtain ⟨j, hj⟩ := List.mem_iff_getElem?.mp h
          have := (hbb j bl hj).1
          rw [hbl] at this
          injection this with this
          injection this with this
          cases this
    have hb0 : ∀ p ∈ pf :: bt, H p = none := fun p hp => by
      rcases List.mem_cons.mp hp with h | h
      · rw [h]; exact fresh_back x1 hpf0
      · obtain ⟨j, hj⟩ := List.mem_iff_getElem?.mp h
        exact fresh_back x1 (hbb j p hj).2
    generalize pf :: bt = bs at *
    have y2 : Ex H H2 := x1.trans x2
    have g0 : ∀ s c, getS [(s0, (0 : Int))] s = some c → s = s0 ∧ c = 0 := fun s c h => by
      have := getS_some_mem h
      simp at this
      exact this
    refine bl_forR1 (n := 7) (fun i σ' H' => ∃ (y5 y6 y7 y8 y9 : Option V), σ' = [some (.ref sa), some (.ref a), some (.int 6), some (.ref dc), some (.ref bl), y5, y6, y7, y8, y9] ∧ Ex H H' ∧ ∃ D B, RH H' dc bl bs D B ∧ RI nex s0 D B ∧ Done nex D i ∧ (∃ c, getS D s0 = some c ∧ c ≤ 0) ∧ D.length ≤ 5 ^ i ∧ ∀ c, (B c).length ≤ 5 ^ i) (ev_add (i := 6) (j := 1) (ev_nm 2 rfl) ev_int) (by decide) W.n_range ⟨_, _, _, _, _, rfl, y2, _, _, hrh, ?_, ?_, ⟨0, by simp [getS], Int.le_refl _⟩, by simp, fun c => by split <;> simp⟩ ?_ ?_
    · refine ⟨fun s c h => ?_, fun c s h => ?_⟩
      · obtain ⟨rfl, rfl⟩ := g0 s c h
        exact ⟨.z, by decide, by simp⟩
      · by_cases hc : c = 0
        · subst hc
          rw [if_pos rfl] at h
          obtain rfl := List.mem_singleton.mp h
          exact ⟨.z, 0, by simp [getS], Int.le_refl _⟩
        · rw [if_neg hc] at h; cases h
    · intro s c h hc
      obtain ⟨rfl, rfl⟩ := g0 s c h
      omega
    · rintro i σ' H' hi7 ⟨y5, y6, y7, y8, y9, rfl, x3, D, B, rh, ri, dn, hz, hdl, hbl'⟩
      refine ⟨_, gt_nm 5 sc_law_reach.nd, ?_⟩
      have hi6 : i < 7 := by omega
      have p5 : 5 ^ i ≤ 15625 := Nat.le_trans (Nat.pow_le_pow_right (by decide) (show i ≤ 6 by omega)) (by decide)
      obtain ⟨pi, hpi⟩ : ∃ pi, bs[i]? = some pi := ⟨bs[i]'(by rw [rh.len]; exact hi6), List.getElem?_eq_getElem _⟩
      obtain ⟨ts, hts, hS⟩ := rh.bkt i pi hpi
      have bsat : ∀ {k : Nat} {p : Addr}, bs[k]? = some p → atI (bs.map V.ref) (k : Int) = some (V.ref p) := fun h => atI_nat (by rw [List.getElem?_map, h]; rfl)
      refine bl_forL (R := fun u H3 => ∃ l, u = .ref l ∧ H' l = none ∧ H3 l = some (.lst (ts.map V.ref))) (er_cbT (Ra := fun vs H3 => vs = [.ref pi]) call_list_of W.n_list boot_list (ear_cons (er_ev (ev_ixL (ev_nm 4 rfl) (ev_nm 5 rfl) (sq_of rh.blt) (bsat hpi))) fun u H3 x3 eu => ear_nil fun H4 x4 => by rw [eu]) fun vs H3 x3 ev Q q => ⟨pi, ts.map V.ref, ev, .inl (sq_of (x3 _ _ hts)), fun l hl => q _ _ (Ex.new hl) ⟨l, rfl, fresh_back x3 hl, upd_same⟩⟩) fun u H3 x4 ⟨l, eu, hl0, hl⟩ => ?_
      have lnb : l ∉ bs := fun z => by
        obtain ⟨c, hc⟩ := List.mem_iff_getElem?.mp z
        obtain ⟨_, h1, _⟩ := rh.bkt c l hc
        rw [hl0] at h1; cases h1
      have lnd : l ≠ dc := fun z => by have := rh.dct; rw [← z, hl0] at this; cases this
      refine ⟨l, ts.map V.ref, fun j σ' H4 => ∃ (y6 y7 y8 y9 : Option V), σ' = [some (.ref sa), some (.ref a), some (.int 6), some (.ref dc), some (.ref bl), some (.int (i : Int)), y6, y7, y8, y9] ∧ Ex H H4 ∧ H4 l = some (.lst (ts.map V.ref)) ∧ Stas H4 ts (B i) ∧ ∃ D' B', RH H4 dc bl bs D' B' ∧ PinI nex s0 i (B i) j D' B' (5 ^ i + 4 * j), eu, sq_of hl, ⟨_, _, _, _, rfl, x3.trans x4, hl, hS.ex x4, D, B, rh.ex x4, ri, dn, hz, rfl, fun j' hj => absurd hj (Nat.not_lt_zero _), by omega, fun c => by have := hbl' c; omega⟩, fun j σ' H4 _ ⟨_, _, _, _, _, _, h, _⟩ => sq_of h, ?_, ?_⟩
      · rintro j x σ' H4 hx ⟨y6, y7, y8, y9, rfl, x5, hl4, hS4, D', B', rh4, pin⟩
        rw [List.getElem?_map] at hx
        obtain ⟨t, ht, rfl⟩ := Option.map_eq_some_iff.mp hx
        obtain ⟨st, hst, hAt⟩ := paired_get hS4 ht
        refine ⟨_, gt_nm 6 sc_law_reach.nd, ?_⟩
        have hjl : j < 5 ^ i := Nat.lt_of_lt_of_le (List.getElem?_eq_some_iff.mp hst).1 (hbl' i)
        have hstm : st ∈ B' i := by rw [pin.bi]; exact List.mem_of_getElem? hst
        obtain ⟨hrst, c', hc', hci⟩ := pin.ri.b1 i st hstm
        have hpp := hps hrst
        refine bl_forL (R := fun u H5 => ∃ la ta, u = .ref la ∧ H5 la = some (.lst (ta.map V.ref)) ∧ Arcs H5 ta (if c' = (i : Int) then nex st else []) ∧ la ∉ bs) (er_ife (k := decide (c' = (i : Int))) (et_eqI (ev_dgetT (ev_nm 3 rfl) (ev_nm 6 rfl) rh4.dct (k := keyS st) hAt (by rw [valV_kvS, hc']; rfl) hr) (ev_nm 5 rfl)) (fun hk => ?_) (fun hk => ?_)) fun u H5 x6 ⟨la, ta, eu, hla, hA, hlan⟩ => ?_
        · rw [if_pos (of_decide_eq_true hk)]
          refine (er_call1 (c_next W) hr (ea_cons' (ev_nm 0 rfl) (ea_cons' (ev_nm 6 rfl) ea_nil')) fun H5 x6 => ⟨sa, t, b, mv, ad, lo, hi, st.1, st.2, rfl, (x5.trans x6) _ _ hs, x6 _ _ hAt, b2, b6, by omega, by omega, rfl⟩).imp fun u H5 x6 ⟨la, ta, eu, hla, hA⟩ => ⟨la, ta, eu, hla, by rw [← hnA]; exact hA, arcs_nin (rh4.ex x6) hla hA ?_⟩
          unfold nexA
          simp
        · rw [if_neg (of_decide_eq_false hk)]
          exact (er_en (en_lst ea_nil')).imp fun u H5 x6 ⟨la, eu, hla0, hla⟩ => ⟨la, [], eu, hla, .nil, fun z => by
            obtain ⟨c, hc⟩ := List.mem_iff_getElem?.mp z
            obtain ⟨_, h1, _⟩ := rh4.bkt c la hc
            rw [hla0] at h1; cases h1⟩
        · generalize hAj : (if c' = (i : Int) then nex st else []) = Aj at *
          have hAm : ∀ ar ∈ Aj, ar ∈ nex st := fun ar har => by
            rw [← hAj] at har
            split at har
            · exact har
            · cases har
          have hAl : Aj.length ≤ 4 := by
            rw [← hAj]
            split
            · exact hnl st
            · simp
          refine ⟨la, ta.map V.ref, fun r σ' H6 => ∃ (y7 y8 y9 : Option V), σ' = [some (.ref sa), some (.ref a), some (.int 6), some (.ref dc), some (.ref bl), some (.int (i : Int)), some (.ref t), y7, y8, y9] ∧ Ex H H6 ∧ H6 l = some (.lst (ts.map V.ref)) ∧ Stas H6 ts (B i) ∧ H6 la = some (.lst (ta.map V.ref)) ∧ Arcs H6 ta Aj ∧ ∃ D' B', RH H6 dc bl bs D' B' ∧ PinI nex s0 i (B i) j D' B' (5 ^ i + 4 * j + r) ∧ Cl D' i (Aj.take r) ∧ ∀ s c, getS D' s = some c → c ≤ (i : Int) → s = st → c = c', eu, sq_of hla,
            ⟨_, _, _, rfl, x5.trans x6, x6 _ _ hl4, hS4.ex x6, hla, hA, D', B', rh4.ex x6, pin, (by intro a ha; cases ha), (by intro s c h1 _ h2; rw [h2, hc'] at h1; exact (Option.some.inj h1).symm)⟩, fun r σ' H6 _ ⟨_, _, _, _, _, _, _, h, _⟩ => sq_of h, ?_, ?_⟩
          · rintro r xa σ' H6 hxa ⟨y7, y8, y9, rfl, x7, hl6, hS6, hla6, hA6, D6, B6, rh6, pin6, cl6, hst6⟩
            rw [List.getElem?_map] at hxa
            obtain ⟨ta1, hta1, rfl⟩ := Option.map_eq_some_iff.mp hxa
            obtain ⟨ar, har, qa, hq1, hq2⟩ := paired_get hA6 hta1
            have harm := hAm ar (List.mem_of_getElem? har)
            have hr4 : r < 4 := Nat.lt_of_lt_of_le (List.getElem?_eq_some_iff.mp har).1 hAl
            have h1a := hnx st ar harm
            refine ⟨_, gt_tup (st_of hq1) (gts_cons (gt_nm 7 sc_law_reach.nd) (gts_cons (gt_nm 8 sc_law_reach.nd) gts_nil)), ?_⟩
            have hq2' : H6 qa = some (.tup ((keyS ar.1).map kV)) := hq2
            have take1 : Aj.take (r + 1) = Aj.take r ++ [ar] := by rw [List.take_add_one, har]; rfl
            refine bl_when (k := decide ((i : Int) + ar.2 ≤ 6) && decide ((i : Int) + ar.2 < (getS D6 ar.1).getD 7)) (et_ew (ew_and (et_le (ev_add (ev_nm 5 rfl) (ev_nm 8 rfl)) (ev_nm 2 rfl)) fun _ => ew_and1 (et_gt (i := (getS D6 ar.1).getD 7) (ev_to (ev_dget2T (y := .int 7) (ev_nm 3 rfl) (ev_nm 7 rfl) (ev_add (i := 6) (j := 1) (ev_nm 2 rfl) ev_int) rh6.dct hq2' hr) (by rw [valV_kvS]; cases getS D6 ar.1 <;> rfl)) (ev_add (ev_nm 5 rfl) (ev_nm 8 rfl))))) (fun hb => ?_) (fun hb => ?_)
            · have hb' : (i : Int) + ar.2 ≤ 6 ∧ (i : Int) + ar.2 < (getS D6 ar.1).getD 7 := by simpa using hb
              obtain ⟨h6, hlt⟩ := hb'
              refine bl_dputT (R := fun u _ => u = .int ((i : Int) + ar.2)) (er_ev (ev_add (ev_nm 5 rfl) (ev_nm 8 rfl))) (ev_nm 3 rfl) (ev_nm 7 rfl) rh6.dct hq2' (by rw [List.length_map]; have := pin6.dl; omega) hr fun v H7 x8 ev => ?_
              subst ev
              have rh7 := (rh6.ex x8).put_d ar.1 ((i : Int) + ar.2)
              have hcn : ((i : Int) + ar.2).toNat < 7 := by omega
              have hce : ((((i : Int) + ar.2).toNat : Nat) : Int) = (i : Int) + ar.2 := by omega
              obtain ⟨pc, hpc⟩ : ∃ pc, bs[((i : Int) + ar.2).toNat]? = some pc := ⟨bs[((i : Int) + ar.2).toNat]'(by rw [rh6.len]; exact hcn), List.getElem?_eq_getElem _⟩
              have hpcm := List.mem_of_getElem? hpc
              obtain ⟨tc, htc, hSc⟩ := rh7.bkt _ pc hpc
              have ndc : ∀ vs, H7 dc ≠ some (.tup vs) := fun vs z => by rw [x8 _ _ rh6.dct] at z; cases z
              have ladc : la ≠ dc := fun z => by rw [z, rh6.dct] at hla6; cases hla6
              refine bl_appR (R := fun u _ => u = .ref qa) (ev_ixL (ev_nm 4 rfl) (ev_to (ev_add (ev_nm 5 rfl) (ev_nm 8 rfl)) (by rw [hce])) (sq_of rh7.blt) (bsat hpc)) htc (er_ev (ev_nm 7 rfl)) (by rw [List.length_map, Paired.length hSc]; have := pin6.bl ((i : Int) + ar.2).toNat; omega) fun u H8 x9 eu => ?_
              subst eu
              have hq8 : AtS H8 qa ar.1 := x9 _ _ (show upd H7 dc _ qa = _ from by rw [upd_ne fun z => ndc _ (z ▸ x8 _ _ hq2)]; exact x8 _ _ hq2)
              have rh8 := (rh7.ex x9).put_b hpc (x9 _ _ htc) hq8 (hSc.ex x9)
              have npc : ∀ vs, H8 pc ≠ some (.tup vs) := fun vs z => by rw [x9 _ _ htc] at z; cases z
              have lpc : l ≠ pc := fun z => lnb (z ▸ hpcm)
              have lapc : la ≠ pc := fun z => hlan (z ▸ hpcm)
              have hrn : Rch nex s0 ar.1 ((i : Int) + ar.2) := .s hrst harm
              refine bl_nil rfl (bl_nil rfl ⟨_, _, _, rfl, Ex.mut ((Ex.mut (x7.trans x8) hdc).trans x9) (hb0 pc hpcm), ?_, ?_, ?_, ?_, _, _, rh8, pin6.put hnx hrn (by omega) h6 hlt, ?_, ?_⟩)
              · rw [upd_ne lpc]; exact x9 _ _ (by rw [upd_ne lnd]; exact x8 _ _ hl6)
              · exact Stas.upd npc (Stas.ex x9 (Stas.upd ndc (hS6.ex x8)))
              · rw [upd_ne lapc]; exact x9 _ _ (by rw [upd_ne ladc]; exact x8 _ _ hla6)
              · exact Arcs.upd npc (Arcs.ex x9 (Arcs.upd ndc (hA6.ex x8)))
              · rw [take1]
                intro a' ha' h6'
                rcases List.mem_append.mp ha' with h | h
                · exact cl_put hlt cl6 a' h h6'
                · obtain rfl := List.mem_singleton.mp h
                  exact ⟨_, by rw [getS_put, if_pos rfl], Int.le_refl _⟩
              · intro s c hg hc he
                exact hst6 s c (get_keep (i := i) (by omega) hc hg) hc he
            · refine bl_nil rfl ⟨_, _, _, rfl, x7, hl6, hS6, hla6, hA6, D6, B6, rh6, pin6.up (Nat.le_succ _), ?_, hst6⟩
              rw [take1]
              intro a' ha' h6'
              rcases List.mem_append.mp ha' with h | h
              · exact cl6 a' h h6'
              · obtain rfl := List.mem_singleton.mp h
                have hnb : ¬ ((i : Int) + a'.2 < (getS D6 a'.1).getD 7) := fun z => by
                  rw [decide_eq_true h6', decide_eq_true z] at hb
                  cases hb
                cases hg : getS D6 a'.1 with
                | none => rw [hg] at hnb; exact absurd (show (i : Int) + a'.2 < 7 by omega) hnb
                | some c => rw [hg] at hnb; exact ⟨c, rfl, Int.not_lt.mp hnb⟩
          · rintro σ' H6 ⟨y7, y8, y9, rfl, x7, hl6, hS6, hla6, hA6, D6, B6, rh6, pin6, cl6, hst6⟩
            have hal := Paired.length hA6
            rw [List.length_map, hal, List.take_length] at cl6
            rw [List.length_map, hal] at pin6
            have pin7 := pin6.up (m := 5 ^ i + 4 * (j + 1)) (by omega)
            refine bl_nil rfl ⟨_, _, _, _, rfl, x7, hl6, hS6, D6, B6, rh6, pin7.ri, pin7.dn, pin7.z, pin7.bi, fun j' hj s hs' hg => ?_, pin7.dl, pin7.bl⟩
            by_cases hjj : j' < j
            · exact pin6.cl j' hjj s hs' hg
            · have : j' = j := by omega
              subst this
              rw [hst] at hs'
              obtain rfl := Option.some.inj hs'
              have hcc : (i : Int) = c' := hst6 _ _ hg (Int.le_refl _) rfl
              rw [← hAj, if_pos hcc.symm] at cl6
              exact cl6
      · rintro σ' H4 ⟨y6, y7, y8, y9, rfl, x5, hl4, hS4, D', B', rh4, pin⟩
        have htl : (ts.map V.ref).length = (B i).length := by rw [List.length_map, Paired.length hS]
        rw [htl] at pin
        have hb5 := hbl' i
        have p5' : 5 ^ (i + 1) = 5 ^ i * 5 := Nat.pow_succ _ _
        refine bl_nil rfl ⟨_, _, _, _, _, rfl, x5, D', B', rh4, pin.ri, fun s c hg hc => ?_, pin.z, ?_, fun c => ?_⟩
        · by_cases hci : c < (i : Int)
          · exact pin.dn s c hg hci
          · have hce : c = (i : Int) := by omega
            subst hce
            obtain ⟨_, _, hm⟩ := pin.ri.d1 s _ hg
            rw [Int.toNat_natCast, pin.bi] at hm
            obtain ⟨j', hj'⟩ := List.mem_iff_getElem?.mp hm
            exact pin.cl j' (List.getElem?_eq_some_iff.mp hj').1 s hj' hg
        · have := pin.dl; omega
        · have := pin.bl c; omega
    · rintro σ' H' ⟨y5, y6, y7, y8, y9, rfl, x3, D, B, rh, ri, dn, hz, hdl, hbl'⟩
      exact bl_ret (v := .ref dc) (ev_nm 3 rfl) fun H3 x4 => q _ H3 (x3.trans x4) ⟨dc, D, rfl, x4 _ _ rh.dct, fun s c h => ⟨(ri.d1 s c h).1, (ri.d1 s c h).2.1⟩, fun s c h h6 => all_found hnx hz dn h h6, Nat.le_trans hdl (by decide)⟩)
end
end K27

/-! _law_written, _law_lowered. -/
namespace K27
open PySem PySem.Spec PyProof.Rows L2 Evl C8
theorem sIx_some {n d : Nat} {i : Int} (h : 0 ≤ i) (h2 : i ≤ n) : HT.sIx n d (some i) = i.toNat := by
  unfold HT.sIx
  simp only
  first | (split <;> omega) | omega
theorem cut_from {xs : List V} {i : Nat} (h : i ≤ xs.length) : cutV xs (some (i : Int)) none = xs.drop i := by
  unfold cutV
  rw [sIx_some (by omega) (by omega), show HT.sIx xs.length xs.length none = xs.length from rfl, Int.toNat_natCast]
  (exact List.take_of_length_le (by rw [List.length_drop]; omega))
theorem cut_to {xs : List V} {i : Nat} (h : i ≤ xs.length) : cutV xs none (some (i : Int)) = xs.take i := by
  unfold cutV
  rw [sIx_some (by omega) (by omega), show HT.sIx xs.length 0 none = 0 from rfl, Int.toNat_natCast, List.drop_zero, Nat.sub_zero]
section
variable {base : Heap} {mg : Str → Option Value} {K : PySem.W.Frag} {w : World} {P : Program}
def pr_written : Pre := fun vs H R => ∃ (a : Addr) (ds : List Int) (m : Nat), vs = [.ref a, .int (m : Int)] ∧ H a = some (.lst (ds.map V.int)) ∧ 30 ≤ ds.length ∧ 1 ≤ m ∧ m ≤ 30000 ∧ R = fun v H' => ∃ p T, v = .ref p ∧ IsTab H' p T ∧ T.length = m
theorem int_at {ds : List Int} {i : Nat} (h : i < ds.length) : ∃ d, (ds.map V.int)[i]? = some (.int d) := ⟨ds[i], by simp [h]⟩
theorem c_written (W : Wd K mg) : Cal P w K mg base 1 "_law_written" (spR pr_written) [] :=
  cal_mk W.F_law_written W.g__law_written sc_law_written (fun vs H R ⟨_, _, _, e, _⟩ => by rw [e]; rfl) (by
    rintro cdv A outer s H vs Q E R hr ⟨a, ds, m, rfl, ha, hdl, hm1, hm, rfl⟩ q
    refine bl_setN 2 sc_law_written.nd (en_lst ea_nil') fun rp H1 hrp x1 h1 => ?_
    refine bl_forR1 (n := (m : Int)) (fun i σ' H' => ∃ (y3 y4 y5 : Option V), σ' = [some (.ref a), some (.int (m : Int)), some (.ref rp), y3, y4, y5] ∧ Ex H H' ∧ ∃ T : List Ent, T.length = i ∧ IsTab H' rp T) (ev_nm 1 rfl) (by omega) W.n_range ⟨_, _, _, rfl, x1, [], rfl, [], h1, .nil⟩ ?_ ?_
    · rintro j σ' H' hj ⟨y3, y4, y5, rfl, x2, T, hTl, ts, hts, hrel⟩
      refine ⟨_, gt_nm 3 sc_law_written.nd, ?_⟩
      have b1 := mod_bd (i := 2 * (j : Int)) (j := 30) (by decide)
      have b2 := mod_bd (i := 2 * (j : Int) + 1) (j := 30) (by decide)
      obtain ⟨d1, hd1⟩ := int_at (ds := ds) (i := (2 * (j : Int) % 30).toNat) (by omega)
      obtain ⟨d2, hd2⟩ := int_at (ds := ds) (i := ((2 * (j : Int) + 1) % 30).toNat) (by omega)
      have hd1' := atI_nat hd1
      have hd2' := atI_nat hd2
      rw [Int.toNat_of_nonneg b1.1] at hd1'
      rw [Int.toNat_of_nonneg b2.1] at hd2'
      refine bl_par' 4 5 (u := .int (d1 % 7)) (v := .int (d2 % 7)) sc_law_written.nd (ev_mod (ev_ixL (ev_nm 0 rfl) (ev_mod (ev_mulS ev_int (ev_nm 3 rfl) (.inl ⟨by decide, by decide⟩)) ev_int (by decide)) (sq_of (x2 _ _ ha)) hd1') ev_int (by decide)) (ev_mod (ev_ixL (ev_nm 0 rfl) (ev_mod (ev_add (ev_mulS ev_int (ev_nm 3 rfl) (.inl ⟨by decide, by decide⟩)) ev_int) ev_int (by decide)) (sq_of (x2 _ _ ha)) hd2') ev_int (by decide)) ?_
      refine bl_appR (R := fun u H3 => ∃ (t : Addr) (r : Ent), u = .ref t ∧ H3 t = some (.tup [oV r.1, oV r.2])) (ev_nm 2 rfl) hts ((er_en (en_tup (vs := [if decide (d1 % 7 < 6) || decide ((j : Int) = 0) then .int (d1 % 7) else .non, if decide (d2 % 7 < 5) then .int (d2 % 7) else .non]) (ea_cons' (ev_ife (k := decide (d1 % 7 < 6) || decide ((j : Int) = 0)) (et_ew (ew_or (et_lt (ev_nm 4 rfl) ev_int) fun _ => ew_or1 (et_eqI (ev_nm 3 rfl) ev_int))) (fun h => by rw [h]; exact ev_nm 4 rfl) (fun h => by rw [h]; exact ev_non)) (ea_cons' (ev_ife (k := decide (d2 % 7 < 5)) (et_lt (ev_nm 5 rfl) ev_int) (fun h => by rw [h]; exact ev_nm 5 rfl) (fun h => by rw [h]; exact ev_non)) ea_nil')))).imp fun u H3 x3 ⟨t, eu, _, ht⟩ => ⟨t, (if decide (d1 % 7 < 6) || decide ((j : Int) = 0) then some (d1 % 7) else none, if decide (d2 % 7 < 5) then some (d2 % 7) else none), eu, by
        rw [ht]
        congr 2
        cases (decide (d1 % 7 < 6) || decide ((j : Int) = 0)) <;> cases decide (d2 % 7 < 5) <;> rfl⟩) (by rw [List.length_map, Paired.length hrel]; omega) ?_
      rintro u H3 x3 ⟨t, r, rfl, ht⟩
      exact bl_nil rfl ⟨_, _, _, rfl, Ex.mut (x2.trans x3) hrp, T ++ [r], by simp [hTl], ts ++ [t], by rw [upd_same, List.map_append]; rfl, TabRel.upd (fun vs z => by rw [x3 _ _ hts] at z; cases z) (Paired.snoc (hrel.mono x3) ht)⟩
    · rintro σ' H' ⟨y3, y4, y5, rfl, x2, T, hTl, ts, hts, hrel⟩
      rw [Int.toNat_natCast] at hTl
      have htl := Paired.length hrel
      obtain ⟨t0, tr, rfl⟩ : ∃ t0 tr, ts = t0 :: tr := by
        cases ts with
        | nil => simp at htl; omega
        | cons t0 tr => exact ⟨t0, tr, rfl⟩
      obtain ⟨r0, Tr, rfl⟩ : ∃ r0 Tr, T = r0 :: Tr := by
        cases T with
        | nil => simp at hTl; omega
        | cons r0 Tr => exact ⟨r0, Tr, rfl⟩
      obtain ⟨h0, hrr⟩ : H' t0 = some (.tup [oV r0.1, oV r0.2]) ∧ TabRel H' tr Tr := by
        cases hrel with
        | cons a b => exact ⟨a, b⟩
      obtain ⟨d0, hd0⟩ := int_at (ds := ds) (i := 0) (by omega)
      refine bl_retR (er_cat (Ra := fun xs H3 => ∃ t, xs = [.ref t] ∧ H3 t = some (.tup [.int (0 - d0 % 2), oV r0.2])) (Rb := fun xs H3 => xs = tr.map V.ref ∧ TabRel H3 tr Tr)
        ((er_lst (R := fun xs H3 => ∃ t, xs = [.ref t] ∧ H3 t = some (.tup [.int (0 - d0 % 2), oV r0.2])) (ear_cons (er_en (en_tup (ea_cons' (ev_sub ev_int (ev_mod (ev_ixL (i := 0) (ev_nm 0 rfl) ev_int (sq_of (x2 _ _ ha)) (atI_nat hd0)) ev_int (by decide))) (ea_cons' (ev_ixT (ev_ixL (i := 0) (v := .ref t0) (ev_nm 2 rfl) ev_int (sq_of hts) (atI_nat (i := 0) (xs := (t0 :: tr).map V.ref) rfl)) ev_int (st_of h0) (i := 1) rfl) ea_nil')))) fun u H3 x3 ⟨t, eu, _, ht⟩ => ear_nil fun H4 x4 => ⟨t, by rw [eu], x4 _ _ ht⟩) (fun vs H3 ⟨t, z, _⟩ => by rw [z]; simp) fun vs H3 H4 x ⟨t, z, h⟩ => ⟨t, z, x _ _ h⟩).imp fun u H3 _ ⟨l, vs, eu, _, hl, r⟩ => ⟨l, vs, eu, hl, r⟩)
        ((er_en (en_slL (ev_nm 2 rfl) (sq_of hts) (po_some pe_w) po_none (eo_some (i := 1) ev_int) eo_none)).imp fun u H3 x3 ⟨p, eu, _, hp⟩ => ⟨p, _, eu, hp, by rw [show (1 : Int) = ((1 : Nat) : Int) from rfl, cut_from (by simp)]; rfl, hrr.mono x3⟩)
        (fun xs H3 H4 x ⟨t, z, h⟩ => ⟨t, z, x _ _ h⟩) (fun xs H3 H4 x ⟨z, h⟩ => ⟨z, h.mono x⟩) (fun xs ys H3 ⟨t, z, _⟩ ⟨z', h⟩ => by rw [z, z', List.length_map, Paired.length h]; simp at hTl ⊢; omega))
        fun v H3 x3 ⟨p, xs, ys, ev, _, hp, ⟨t, z, ht⟩, z', hy⟩ => q v H3 (x2.trans x3) ⟨p, (some (0 - d0 % 2), r0.2) :: Tr, ev, ⟨t :: tr, by rw [hp, z, z']; rfl, .cons ht hy⟩, hTl⟩)
def pr_lowered : Pre := fun vs H R => ∃ (x a : Addr) (T : List Ent) (ds : List Int), vs = [.ref x, .ref a] ∧ IsTab H x T ∧ T.length ≤ 30000 ∧ H a = some (.lst (ds.map V.int)) ∧ 0 < ds.length ∧ R = fun v H' => ∃ p, v = .ref p ∧ H p = none ∧ ∃ T', IsTab H' p T' ∧ T'.length = T.length
theorem c_lowered (W : Wd K mg) : Cal P w K mg base 1 "_law_lowered" (spR pr_lowered) [] :=
  cal_mk W.F_law_lowered W.g__law_lowered sc_law_lowered (fun vs H R ⟨_, _, _, _, e, _⟩ => by rw [e]; rfl) (by
    rintro cdv A outer s H vs Q E R hr ⟨x, a, T, ds, rfl, ⟨ts, hts, hrel⟩, hTl, ha, hdl, rfl⟩ q
    refine bl_setN 2 sc_law_lowered.nd (en_lst ea_nil') fun rp H1 hrp x1 h1 => ?_
    have hlen := Paired.length hrel
    refine bl_forE (er_ev (ev_nm 0 rfl)) W.n_enumerate fun u H2 x2 eu => ?_
    subst eu
    refine ⟨x, ts.map V.ref, fun j σ' H' => ∃ (y3 y4 y5 : Option V), σ' = [some (.ref x), some (.ref a), some (.ref rp), y3, y4, y5] ∧ Ex H H' ∧ ∃ T' : List Ent, T'.length = j ∧ IsTab H' rp T', rfl, sq_of (x2 _ _ (x1 _ _ hts)), ⟨_, _, _, rfl, x1.trans x2, [], rfl, [], x2 _ _ h1, .nil⟩, fun j σ' H' _ ⟨_, _, _, _, x3, _⟩ => sq_of (x3 _ _ hts), ?_, ?_⟩
    · rintro j xv Tt σ' H' hx ⟨y3, y4, y5, rfl, x3, T', hTl', tl, htl, hrl⟩ H4 x4 hTt
      rw [List.getElem?_map] at hx
      obtain ⟨t, ht, rfl⟩ := Option.map_eq_some_iff.mp hx
      obtain ⟨r, hr', hrt⟩ := paired_get hrel ht
      have hj : j < T.length := by rw [← hlen]; exact (List.getElem?_eq_some_iff.mp ht).1
      have y4 := x3.trans x4
      refine ⟨_, gt_tup (st_of hTt) (gts_cons (gt_nm 3 sc_law_lowered.nd) (gts_cons (gt_nm 4 sc_law_lowered.nd) gts_nil)), ?_⟩
      have bm := mod_bd (i := (j : Int)) (j := (ds.length : Int)) (by omega)
      obtain ⟨d, hd⟩ := int_at (ds := ds) (i := ((j : Int) % (ds.length : Int)).toNat) (by omega)
      have hd' := atI_nat hd
      rw [Int.toNat_of_nonneg bm.1] at hd'
      have vlen : ((ds.map V.int).length : Int) = (ds.length : Nat) := by rw [List.length_map]
      refine bl_appR (R := fun u H8 => ∃ (tn : Addr) (r' : Ent), u = .ref tn ∧ H8 tn = some (.tup [oV r'.1, oV r'.2])) (ev_nm 2 rfl) (x4 _ _ htl) (er_cbT (Ra := fun vs H8 => ∃ p8, vs = [V.ref p8] ∧ H8 p8 = some (.lst [oV (r.1.map (· - d % 2)), oV (r.2.map (· - d % 2))])) call_tuple_of W.n_tuple boot_tuple (ear_cons (er_en (en_lcT (i := 5) (xs := [oV r.1, oV r.2]) (fun _ => true) (fun j => if j = 0 then oV (r.1.map (· - d % 2)) else oV (r.2.map (· - d % 2))) (er_ev (ev_nm 4 rfl) |>.imp fun u H8 x9 eu => ⟨t, eu, st_of (x9 _ _ (y4 _ _ hrt))⟩) (by simp) sc_law_lowered.nd pb_no (fun _ _ _ _ _ => ev_yes) fun j xo H8 x9 hj _ s0 H0 C cl fp => ?_)) fun u H8 x9 ⟨p8, eu, _, h8⟩ => ear_nil fun H9 x10 => ⟨p8, by rw [eu], x10 _ _ (by rw [h8]; show some (HO.lst (given 2 _ _)) = _; rw [given2]; rfl)⟩) fun vs H8 x9 ⟨p8, evs, hp8⟩ Q q => ⟨p8, _, evs, .inl ⟨sq_of hp8, fun l8 hl8 => q _ _ (Ex.new hl8) ⟨l8, (r.1.map (· - d % 2), r.2.map (· - d % 2)), rfl, upd_same⟩⟩⟩) ?_ ?_
      · have hk : ∃ o : Option Int, xo = oV o ∧ (if j = 0 then oV (r.1.map (· - d % 2)) else oV (r.2.map (· - d % 2))) = oV (o.map (· - d % 2)) := match j, hj with
          | 0, hj => ⟨_, (Option.some.inj hj).symm, rfl⟩
          | 1, hj => ⟨_, (Option.some.inj hj).symm, rfl⟩
        obtain ⟨o, rfl, eo⟩ := hk
        refine ev_to ?_ eo.symm
        cases o with
        | none => exact ev_ife (k := true) (et_to (et_isN (x := .non) (ev_nm 5 rfl)) rfl) (fun _ => ev_non) (fun z => nomatch z)
        | some c => exact ev_ife (k := false) (et_to (et_isN (x := .int c) (ev_nm 5 rfl)) rfl) (fun z => nomatch z) (fun _ => ev_sub (ev_nm 5 rfl) (ev_mod (ev_ixL (ev_nm 1 rfl) (ev_mod (ev_nm 3 rfl) (ev_to (ev_cbB (v := .int ((ds.map V.int).length : Nat)) call_len_seq W.n_len boot_len (ea_cons' (ev_nm 1 rfl) ea_nil') (fun H9 x10 Q q => ⟨a, _, rfl, .inl (sq_of ((y4.trans (x9.trans x10)) _ _ ha)), q H9 (Ex.refl H9)⟩)) (by rw [vlen])) (by omega)) (sq_of ((y4.trans x9) _ _ ha)) hd') ev_int (by decide)))
      · rw [List.length_map, Paired.length hrl]
        omega
      · rintro u H8 x9 ⟨tn, r', rfl, htn⟩
        exact bl_nil rfl ⟨_, _, _, rfl, Ex.mut (y4.trans x9) hrp, T' ++ [r'], by simp [hTl'], tl ++ [tn], by rw [upd_same, List.map_append]; rfl, TabRel.upd (fun vs z => by rw [x9 _ _ (x4 _ _ htl)] at z; cases z) (Paired.snoc (TabRel.mono (x4.trans x9) hrl) htn)⟩
    · rintro σ' H' ⟨y3, y4, y5, rfl, x3, T', hTl', hT'⟩
      rw [List.length_map, hlen] at hTl'
      exact bl_ret (v := .ref rp) (ev_nm 2 rfl) fun H7 x8 => q _ H7 (x3.trans x8) ⟨rp, rfl, hrp, T', hT'.ex x8, hTl'⟩)
end
end K27

/-! sorted(d), the keys of d pairs of ints. -/
namespace K27
open PySem PySem.Spec PyProof.Rows L2 Evl C8
/-- the two ints of the pair at a value -/
def twoOf (H : Hp) : Value → Int × Int
  | .ref b => match H b with
    | some (.tup [.int x, .int y]) => (x, y)
    | _ => (0, 0)
  | _ => (0, 0)
theorem twoOf_at {H : Hp} {b : Addr} {s : Sta} (h : AtS H b s) : twoOf H (.ref b) = s := by
  have h' : H b = some (.tup [.int s.1, .int s.2]) := h
  simp only [twoOf, h']
def rSortD : List V → Hp → VK → Prop := fun vs H Q => ∃ (d : Addr) (kvs : List (List Key × V)) (ss : List Sta), vs = [.ref d] ∧ H d = some (.dT kvs) ∧ kvs.map (·.1) = ss.map keyS ∧
  ∀ (p : Addr) (us : List Addr), H p = none → us.length = ss.length → (∀ u ∈ us, ∃ s ∈ ss, AtS H u s) → Q (.ref p) (upd H p (.lst (us.map V.ref)))
theorem refs_addr : ∀ {us : List Value}, (∀ u ∈ us, ∃ a, u = Value.ref a) → ∃ bs : List Addr, us = bs.map Value.ref
  | [], _ => ⟨[], rfl⟩
  | u :: us, h => by
    obtain ⟨a, rfl⟩ := h u List.mem_cons_self
    obtain ⟨bs, e⟩ := refs_addr fun x hx => h x (List.mem_cons_of_mem _ hx)
    exact ⟨a :: bs, by rw [e]; rfl⟩
theorem cr_sortD {X : Cx} (hc : X.calm = true) : CallR X (.builtin "sorted") rSortD := by
  (intro pins s σ H vs us Q I r h)
  obtain ⟨d, kvs, ss, rfl, hd, hks, q⟩ := h
  obtain rfl := Vals.ref1 r
  obtain ⟨z, hs, ks, pr, o, es, ep, ho, hx, hdt, he, hn⟩ := (show ObjOk X.prog X.w H s.heap d (.dT kvs) from I.hok d _ hd)
  (have l1 : es.size = ks.length := size_of_entries he)
  (have l2 : kvs.length = ks.length := Paired.length pr)
  have l3 : kvs.length = ss.length := by
    have := congrArg List.length hks
    rwa [List.length_map, List.length_map] at this
  have hkey : ∀ (j : Nat) (x : List Key × Addr × Value), ks[j]? = some x → ∃ st ∈ ss, AtS H x.2.1 st := fun j x hj => by
    have hj2 : j < kvs.length := by rw [l2]; exact (List.getElem?_eq_some_iff.mp hj).1
    obtain ⟨y, hy, e1, e2, _⟩ := paired_get pr (List.getElem?_eq_getElem hj2)
    rw [hj] at hy
    obtain rfl := Option.some.inj hy
    have e3 : (ss.map keyS)[j]? = some kvs[j].1 := by rw [← hks, List.getElem?_map, List.getElem?_eq_getElem hj2]; rfl
    rw [List.getElem?_map] at e3
    obtain ⟨st, hst, e4⟩ := Option.map_eq_some_iff.mp e3
    refine ⟨st, List.mem_of_getElem? hst, ?_⟩
    rw [← e4] at e2
    exact e2
  (refine Calls.call_function_entry PyProof.Rows.kind_sorted PyProof.Rows.plain_sorted PyProof.Rows.entry_sorted (PyProof.Rows.args_sorted1 _) ?_)
  unfold Builtin.«sorted»
  (refine wpAny_bind (m := checkCount "sorted" 1 1 _) (wpAny_pure ?_))
  refine wpAny_bind (PySem.W.kdu_collect (A := X.A.in1) (kdl_raw hs hx hdt) (I.ok.hd hc) ho (by rw [l1, ← l2]; exact z) fun h' tk acc hk hacc => ?_)
  have hal : acc.toList.length = ss.length := by rw [Array.length_toList, hacc.1, l1, ← l2, l3]
  have hsz : acc.toList.length ≤ sizeLine := by rw [hal, ← l3]; exact z
  have hpv : ∀ v ∈ acc.toList, ∃ b st, v = .ref b ∧ st ∈ ss ∧ AtS H b st := fun v hv => by
    obtain ⟨j, hj⟩ := List.mem_iff_getElem?.mp hv
    obtain ⟨en, h1, h2⟩ := hacc.2 j v (by rw [← Array.getElem?_toList]; exact hj)
    have h3 := entry_at he j
    rw [h1] at h3
    obtain ⟨x, hx1, hx2⟩ := Option.map_eq_some_iff.mp h3.symm
    obtain ⟨st, g1, g2⟩ := hkey j x hx1
    exact ⟨x.2.1, st, by rw [h2, ← hx2]; rfl, g1, g2⟩
  have I1 : L2.Inv X pins σ H { s with heap := h', toks := tk } := I.kept hk
  refine wpAny_bind (wpAny_newList ?_ hsz)
  (have hoL : (h'.push (seqObj "list" acc.toList.toArray 0)).get? h'.objs.size = some (seqObj "list" acc.toList.toArray 0) := Heap.get?_push_size _ rfl)
  have hpair : ∀ v ∈ acc.toList, Srt.IsPair (h'.push (seqObj "list" acc.toList.toArray 0)) v (twoOf H v).1 (twoOf H v).2 := fun v hv => by
    obtain ⟨b, st, rfl, _, g⟩ := hpv v hv
    rw [twoOf_at g]
    obtain ⟨_, its2, r2, o, ho2, hc2, n2, hd2⟩ := I1.hok _ _ g
    (obtain ⟨u1, u2, rfl, ri, rj⟩ := vals2 r2)
    obtain ⟨t1, rfl⟩ := ri
    obtain ⟨t2, rfl⟩ := rj
    exact ⟨b, o, t1, t2, n2, rfl, Heap.get?_push_of_some _ ho2, hc2, hd2⟩
  refine wpAny_bind (wpAny_holding (wpAny_call_entry PyProof.Rows.slot_list_sort ⟨_, hoL, rfl⟩ PyProof.Rows.entry_list_sort (SrtO.list_sort_ord (SrtO.swo_lex (twoOf H)) hoL hsz (fun h2 => SrtO.pairs_sortableO (by omega) hpair fun o e => ?_) fun out g1 g2 => ⟨_, rfl, ?_⟩) (PyProof.Rows.args_list_sort _)))
  · have e' : some o = some (seqObj "list" acc.toList.toArray 0) := e.symm.trans hoL
    cases e'
    intro c
    (exact absurd (Value.type.inj c) (by decide))
  obtain ⟨e', he'⟩ := PyProof.Rows.sortedHeap_at (vs := acc.toList) (out := out.toArray) hoL
  obtain ⟨bs, rfl⟩ := refs_addr (us := out) fun u hu => by
    obtain ⟨b, _, e, _⟩ := hpv u (g2.perm.mem_iff.mp hu)
    exact ⟨b, e⟩
  have hbl : bs.length = ss.length := by
    have := g2.perm.length_eq
    rw [List.length_map, hal] at this
    exact this
  refine wpAny_pure ⟨_, rfl, .ref h'.objs.size, upd H h'.objs.size (.lst (bs.map V.ref)), I1.laid (t' := tk) (fun b u e => ?_) (Nat.le_refl _)
    (show ObjOk X.prog X.w _ _ _ (.lst (bs.map V.ref)) from ⟨by rw [List.length_map, hbl, ← l3]; exact z, bs.map Value.ref, e', vals_refs bs, he'⟩), rfl, q _ bs (I1.hok.fresh (Nat.le_refl _)) hbl fun u hu => ?_⟩
  · have hb : b < h'.objs.size := Heap.lt_size e
    (rw [PyProof.Rows.sortedHeap_old (Nat.ne_of_lt hb) (by rw [size_push']; exact Nat.lt_succ_of_lt hb)])
    (exact Heap.get?_push_of_some _ e)
  · obtain ⟨b, st, e, g3, g4⟩ := hpv (.ref u) (g2.perm.mem_iff.mp (List.mem_map.mpr ⟨u, hu, rfl⟩))
    cases e
    exact ⟨st, g3, g4⟩
end K27

/-! The layers are least; tables and options: plain. -/
namespace K27
open PySem PySem.Spec PyProof.Rows L2 Evl C8
theorem lk_rep {L : List (Int × Int)} {k c y : Int} : lkM (repM L k c) y = if y = k then (lkM L y).map fun _ => c else lkM L y := by
  unfold lkM repM
  induction L with
  | nil => simp
  | cons r t ih =>
    rw [List.map_cons, List.find?_cons, List.find?_cons]
    have e : (if r.1 = k then (r.1, c) else r).1 = r.1 := by split <;> rfl
    rw [e]
    by_cases h : r.1 = y
    · rw [decide_eq_true h]
      by_cases hs : r.1 = k
      · simp [hs, ← h]
      · have : ¬ y = k := fun z => hs (h.trans z)
        simp [hs, this]
    · rw [decide_eq_false h]
      exact ih
theorem lk_put {L : List (Int × Int)} {k c y : Int} : lkM (putM L k c) y = if y = k then some ((lkM L k).elim c fun f => min f c) else lkM L y := by
  unfold putM
  cases h : lkM L k with
  | none =>
    simp only [Option.elim_none]
    unfold lkM at h ⊢
    rw [List.find?_append]
    have hn : (L.find? fun q => decide (q.1 = k)) = none := by simpa using h
    by_cases hy : y = k
    · subst hy
      rw [if_pos rfl, hn]; simp
    · rw [if_neg hy]
      have : ([(k, c)].find? fun q => decide (q.1 = y)) = none := by simp; exact fun z => hy z.symm
      rw [this, Option.or_none]
  | some f =>
    simp only [Option.elim_some]
    by_cases hc : c < f
    · rw [if_pos hc, lk_rep]
      by_cases hy : y = k
      · subst hy
        rw [if_pos rfl, if_pos rfl, h]
        simp; omega
      · rw [if_neg hy, if_neg hy]
    · rw [if_neg hc]
      by_cases hy : y = k
      · subst hy
        rw [if_pos rfl, h]
        congr 1
        omega
      · rw [if_neg hy]
/-- the pairs that are put -/
def prsM (b : Int) (L : List (Int × Int)) : List (Int × Int) := L.flatMap fun q => (dgs b q.1).map fun d => ((q.1 - d) / b, q.2 + (d.natAbs : Int))
def allP (acc ps : List (Int × Int)) : List (Int × Int) := ps.foldl (fun a q => putM a q.1 q.2) acc
theorem allP_dig (b : Int) (q : Int × Int) (acc : List (Int × Int)) : digM b acc q = allP acc ((dgs b q.1).map fun d => ((q.1 - d) / b, q.2 + (d.natAbs : Int))) := by
  unfold digM allP
  rw [List.foldl_map]
theorem next_all (b : Int) (L : List (Int × Int)) : nextM b L = allP [] (prsM b L) := by
  have h : ∀ (L acc : List (Int × Int)), L.foldl (digM b) acc = allP acc (prsM b L) := fun L => by
    induction L with
    | nil => intro acc; rfl
    | cons q t ih =>
      intro acc
      rw [List.foldl_cons, ih, allP_dig]
      unfold prsM allP
      rw [List.flatMap_cons, List.foldl_append]
  exact h L []
theorem all_from {ps : List (Int × Int)} : ∀ {acc : List (Int × Int)} {y c : Int}, lkM (allP acc ps) y = some c → lkM acc y = some c ∨ (y, c) ∈ ps := by
  induction ps with
  | nil => exact fun h => .inl h
  | cons q t ih =>
    intro acc y c h
    rcases ih h with h' | h'
    · rw [lk_put] at h'
      by_cases hy : y = q.1
      · rw [if_pos hy] at h'
        cases hk : lkM acc q.1 with
        | none =>
          rw [hk] at h'
          have e : q.2 = c := Option.some.inj h'
          exact .inr (by rw [hy, ← e]; exact List.mem_cons_self)
        | some f =>
          rw [hk] at h'
          have h2 : min f q.2 = c := Option.some.inj h'
          by_cases hm : f ≤ q.2
          · exact .inl (by rw [hy, hk]; congr 1; omega)
          · have e : q.2 = c := by omega
            exact .inr (by rw [hy, ← e]; exact List.mem_cons_self)
      · rw [if_neg hy] at h'
        exact .inl h'
    · exact .inr (List.mem_cons_of_mem _ h')
theorem all_keep {ps : List (Int × Int)} : ∀ {acc : List (Int × Int)} {y c : Int}, lkM acc y = some c → ∃ c', lkM (allP acc ps) y = some c' ∧ c' ≤ c := by
  induction ps with
  | nil => exact fun h => ⟨_, h, Int.le_refl _⟩
  | cons q t ih =>
    intro acc y c h
    have h1 : ∃ c1, lkM (putM acc q.1 q.2) y = some c1 ∧ c1 ≤ c := by
      rw [lk_put]
      by_cases hy : y = q.1
      · rw [if_pos hy]
        subst hy
        rw [h]
        exact ⟨_, rfl, by simp; omega⟩
      · rw [if_neg hy]; exact ⟨c, h, Int.le_refl _⟩
    obtain ⟨c1, h2, h3⟩ := h1
    obtain ⟨c2, h4, h5⟩ := ih h2
    exact ⟨c2, h4, Int.le_trans h5 h3⟩
theorem all_has {ps : List (Int × Int)} : ∀ {acc : List (Int × Int)} {y c : Int}, (y, c) ∈ ps → ∃ c', lkM (allP acc ps) y = some c' ∧ c' ≤ c := by
  induction ps with
  | nil => exact fun h => nomatch h
  | cons q t ih =>
    intro acc y c h
    rcases List.mem_cons.mp h with h | h
    · subst h
      have h1 : ∃ c1, lkM (putM acc y c) y = some c1 ∧ c1 ≤ c := by
        rw [lk_put, if_pos rfl]
        cases lkM acc y with
        | none => exact ⟨_, rfl, Int.le_refl _⟩
        | some f => exact ⟨_, rfl, by simp; omega⟩
      obtain ⟨c1, h2, h3⟩ := h1
      obtain ⟨c2, h4, h5⟩ := all_keep (ps := t) h2
      exact ⟨c2, h4, Int.le_trans h5 h3⟩
    · exact ih h
theorem next_from {b : Int} {L : List (Int × Int)} {y c : Int} (h : lkM (nextM b L) y = some c) : ∃ q ∈ L, ∃ d ∈ dgs b q.1, y = (q.1 - d) / b ∧ c = q.2 + (d.natAbs : Int) := by
  rw [next_all] at h
  rcases all_from h with h | h
  · cases h
  · unfold prsM at h
    obtain ⟨q, hq, h⟩ := List.mem_flatMap.mp h
    obtain ⟨d, hd, e⟩ := List.mem_map.mp h
    injection e with e1 e2
    exact ⟨q, hq, d, hd, e1.symm, e2.symm⟩
theorem next_has {b : Int} {L : List (Int × Int)} {q : Int × Int} {d : Int} (hq : q ∈ L) (hd : d ∈ dgs b q.1) : ∃ c, lkM (nextM b L) ((q.1 - d) / b) = some c ∧ c ≤ q.2 + (d.natAbs : Int) := by
  rw [next_all]
  refine all_has ?_
  unfold prsM
  exact List.mem_flatMap.mpr ⟨q, hq, List.mem_map.mpr ⟨d, hd, rfl⟩⟩
section
variable {b X : Int}
theorem lay_lk (hb : 2 ≤ b) (k : Nat) {x c : Int} : (x, c) ∈ layM b X k ↔ lkM (layM b X k) x = some c := by
  rcases layM_shape (X := X) hb k with ⟨f, e⟩ | ⟨f, g, e⟩
  · rw [e]
    by_cases h : X / b ^ k = x
    · subst h; rw [lk1]; simp; exact eq_comm
    · rw [lk1n f h]; simp; exact fun z => absurd z.symm h
  · rw [e]
    by_cases h : X / b ^ k = x
    · subst h; rw [lk2a]; generalize X / b ^ k = z; simp; omega
    · by_cases h2 : X / b ^ k + 1 = x
      · subst h2; rw [lk2b _ _ (by omega)]; generalize X / b ^ k = z; simp; omega
      · rw [lk2n f g h h2]; simp; exact ⟨fun z => absurd z.symm h, fun z => absurd z.symm h2⟩
theorem lay_val (hb : 2 ≤ b) (k : Nat) {x c : Int} (h : (x, c) ∈ layM b X k) : x = vAt b X k ∨ x = vAt b X k + 1 := by
  unfold vAt
  rcases layM_shape (X := X) hb k with ⟨f, e⟩ | ⟨f, g, e⟩
  · rw [e] at h; simp at h; exact .inl h.1
  · rw [e] at h; simp at h
    rcases h with h | h
    · exact .inl h.1
    · exact .inr h.1
theorem vAt_succ (hb : 2 ≤ b) (k : Nat) : vAt b X (k + 1) = vAt b X k / b := div_pow_succ (by omega) k
/-- the entry for x -/
def entX (b X : Int) (T : List Ent) (k : Nat) (x : Int) : Option Int := if x = vAt b X k then (entA T k).1 else (entA T k).2
theorem okOne_of {ad v w x : Int} {E E' : Ent} (h : stepM b ad v E w E' = true) (hx : x = v ∨ x = v + 1) : okOne b ad x (if x = v then E.1 else E.2) w E' = true := by
  unfold stepM at h
  rw [Bool.and_eq_true] at h
  rcases hx with hx | hx
  · rw [if_pos hx, hx]; exact h.1
  · rw [if_neg (by omega), hx]; exact h.2
/-- an accepted table is below the layers -/
theorem tab_below (hb : 2 ≤ b) {ad : Int} (ha : 0 ≤ ad) {T : List Ent} (hh : headM T = true) {k : Nat} (hs : (List.range k).all (stepsM b ad X T) = true) : ∀ i, i ≤ k → ∀ x c, (x, c) ∈ layM b X i → ∃ a, entX b X T i x = some a ∧ a ≤ ad * c := by
  intro i
  induction i with
  | zero =>
    intro _ x c h
    have h' : x = X ∧ c = 0 := by simpa [layM] using h
    obtain ⟨rfl, rfl⟩ := h'
    unfold headM at hh
    unfold entX vAt
    rw [if_pos (by simp)]
    cases hq : (entA T 0).1 with
    | none => rw [hq] at hh; cases hh
    | some a => rw [hq] at hh; exact ⟨a, rfl, by have := of_decide_eq_true hh; omega⟩
  | succ i ih =>
    intro hi x c h
    have h2 : lkM (nextM b (layM b X i)) x = some c := (lay_lk hb (i + 1)).mp h
    obtain ⟨q, hq, d, hd, ex, ec⟩ := next_from h2
    obtain ⟨a, ha1, ha2⟩ := ih (by omega) q.1 q.2 hq
    have hv := lay_val hb i (x := q.1) (c := q.2) hq
    have hst : stepsM b ad X T i = true := List.all_eq_true.mp hs i (List.mem_range.mpr (by omega))
    have ho := okOne_of hst hv
    have hEx : (if q.1 = vAt b X i then (entA T i).1 else (entA T i).2) = some a := ha1
    rw [hEx] at ho
    have hd2 : okDig b ad q.1 a (vAt b X (i + 1)) (entA T (i + 1)) d = true := List.all_eq_true.mp ho d hd
    have hcase := dig_next hb hv hd
    rw [← vAt_succ hb i] at hcase
    unfold okDig at hd2
    have hc : ad * c = ad * q.2 + ad * (d.natAbs : Int) := by rw [ec, Int.mul_add]
    have he : entX b X T (i + 1) x = if (q.1 - d) / b - vAt b X (i + 1) = 0 then (entA T (i + 1)).1 else (entA T (i + 1)).2 := by
      unfold entX
      rw [ex]
      by_cases hz : (q.1 - d) / b = vAt b X (i + 1)
      · rw [if_pos hz, if_pos (by omega)]
      · rw [if_neg hz, if_neg (by omega)]
    rw [he]
    cases hq2 : (if (q.1 - d) / b - vAt b X (i + 1) = 0 then (entA T (i + 1)).1 else (entA T (i + 1)).2) with
    | none => rw [hq2] at hd2; cases hd2
    | some a' =>
      rw [hq2] at hd2
      have := of_decide_eq_true hd2
      exact ⟨a', rfl, by omega⟩
theorem optN_mem {l m : Int} {o : Opt} : ∀ {k : Nat}, o ∈ optN b X l m k ↔ ∃ i, i < k ∧ ∃ q ∈ layM b X (m + (i : Int) - l).toNat, o = (q.2 + (q.1.natAbs : Int), m + (i : Int), q.1)
  | 0 => by simp [optN]
  | k + 1 => by
    show o ∈ optN b X l m k ++ optsAt b X l (m + k) ↔ _
    rw [List.mem_append, optN_mem (k := k)]
    unfold optsAt
    rw [List.mem_map]
    constructor
    · rintro (⟨i, hi, r⟩ | ⟨q, hq, e⟩)
      · exact ⟨i, Nat.lt_succ_of_lt hi, r⟩
      · exact ⟨k, Nat.lt_succ_self k, q, hq, e.symm⟩
    · rintro ⟨i, hi, q, hq, e⟩
      by_cases h : i = k
      · subst h; exact .inr ⟨q, hq, e.symm⟩
      · exact .inl ⟨i, by omega, q, hq, e⟩
/-- an accepted bound is at most each option's cost -/
theorem tab_sound (hb : 2 ≤ b) {mv ad : Int} (ha : 0 ≤ ad) {p p' l t bd : Int} (hl : l ≤ max p p') (ht : max p p' ≤ t) {T : List Ent} (h : tabM b mv ad X ((p' - p).natAbs : Int) bd (t + 1 - l).toNat (max p p' - l).toNat T = true) :
    ∀ o ∈ optN b X l (max p p') (t + 1 - max p p').toNat, bd ≤ costM mv ad l p p' o := by
  intro o ho
  obtain ⟨i, hi, q, hq, rfl⟩ := optN_mem.mp ho
  unfold tabM at h
  rw [Bool.and_eq_true, Bool.and_eq_true, Bool.and_eq_true] at h
  obtain ⟨_, hh, hs, he⟩ := h
  have hix : (max p p' + (i : Int) - l).toNat = (max p p' - l).toNat + i := by omega
  rw [hix] at hq
  obtain ⟨a, ha1, ha2⟩ := tab_below hb ha hh hs ((max p p' - l).toNat + i) (by omega) q.1 q.2 hq
  have hv := lay_val hb _ (x := q.1) (c := q.2) hq
  have hend : endsM b ad mv X ((p' - p).natAbs : Int) bd (max p p' - l).toNat T i = true := List.all_eq_true.mp he i (List.mem_range.mpr (by omega))
  unfold endsM endM at hend
  rw [Bool.and_eq_true] at hend
  have h1 : endOne ad mv q.1 (entX b X T ((max p p' - l).toNat + i) q.1) (2 * (((max p p' - l).toNat + i : Nat) : Int) - ((p' - p).natAbs : Int)) bd = true := by
    unfold entX
    rcases hv with hv | hv
    · rw [if_pos hv, hv]; exact hend.1
    · rw [if_neg (by omega), hv]; exact hend.2
  rw [ha1] at h1
  have h2 : bd ≤ a + ad * (q.1.natAbs : Int) + mv * (2 * (((max p p' - l).toNat + i : Nat) : Int) - ((p' - p).natAbs : Int)) := of_decide_eq_true h1
  unfold costM mvsM
  show bd ≤ (q.2 + (q.1.natAbs : Int)) * ad + (2 * (max p p' + (i : Int) - l) - ((p' - p).natAbs : Int)) * mv
  have e1 : (((max p p' - l).toNat + i : Nat) : Int) = max p p' + (i : Int) - l := by omega
  rw [e1] at h2
  have e2 : (q.2 + (q.1.natAbs : Int)) * ad = ad * q.2 + ad * (q.1.natAbs : Int) := by rw [Int.add_mul, Int.mul_comm q.2, Int.mul_comm (q.1.natAbs : Int)]
  rw [e2, Int.mul_comm _ mv]
  omega
end
end K27

/-! The own table is accepted; the layers are below all digits: plain. -/
namespace K27
open PySem PySem.Spec PyProof.Rows L2 Evl C8
section
variable {b X : Int}
theorem make_at {ad n e l : Int} (hb : 2 ≤ b) (hl : n ≠ 0 → l ≤ e) {k i : Nat} (hi : i < k) : entA (makeT b ad n e l k) i = (mulO ad (lkM (layM b (atP b n e l) i) (vAt b (atP b n e l) i)), mulO ad (lkM (layM b (atP b n e l) i) (vAt b (atP b n e l) i + 1))) := by
  refine entA_at ?_
  unfold makeT
  rw [List.getElem?_map, List.getElem?_range hi]
  show some (entT b ad n e l i) = _
  unfold entT vAt
  rw [flo_at hb hl]
theorem okOne_make {ad : Int} (hb : 2 ≤ b) (ha : 0 ≤ ad) (i : Nat) {x : Int} (hx : x = vAt b X i ∨ x = vAt b X i + 1) : okOne b ad x (mulO ad (lkM (layM b X i) x)) (vAt b X (i + 1)) (mulO ad (lkM (layM b X (i + 1)) (vAt b X (i + 1))), mulO ad (lkM (layM b X (i + 1)) (vAt b X (i + 1) + 1))) = true := by
  cases hc : lkM (layM b X i) x with
  | none => rfl
  | some c =>
    show (dgs b x).all _ = true
    rw [List.all_eq_true]
    intro d hd
    have hm : (x, c) ∈ layM b X i := (lay_lk hb i).mpr hc
    obtain ⟨c', h1, h2⟩ := next_has (b := b) hm hd
    have h1' : lkM (layM b X (i + 1)) ((x - d) / b) = some c' := h1
    have hcase := dig_next hb hx hd
    rw [← vAt_succ hb i] at hcase
    have he : (if (x - d) / b - vAt b X (i + 1) = 0 then mulO ad (lkM (layM b X (i + 1)) (vAt b X (i + 1))) else mulO ad (lkM (layM b X (i + 1)) (vAt b X (i + 1) + 1))) = some (c' * ad) := by
      rcases hcase with h | h
      · rw [if_pos h, show vAt b X (i + 1) = (x - d) / b by omega, h1']; rfl
      · rw [if_neg (by omega), show vAt b X (i + 1) + 1 = (x - d) / b by omega, h1']; rfl
    unfold okDig
    rw [he]
    have h3 : c' * ad ≤ (c + (d.natAbs : Int)) * ad := Int.mul_le_mul_of_nonneg_right h2 ha
    rw [Int.add_mul, Int.mul_comm (d.natAbs : Int)] at h3
    exact decide_eq_true h3
/-- make_table's table is accepted where the bound is at most each option's cost -/
theorem make_ok {mv ad p p' n e l t bd : Int} (hb : 2 ≤ b) (ha : 0 ≤ ad) (hle : n ≠ 0 → l ≤ e) (hl : l ≤ max p p') (ht : max p p' ≤ t) (h : ∀ o ∈ optN b (atP b n e l) l (max p p') (t + 1 - max p p').toNat, bd ≤ costM mv ad l p p' o) :
    tabM b mv ad (atP b n e l) ((p' - p).natAbs : Int) bd (t + 1 - l).toNat (max p p' - l).toNat (makeT b ad n e l (t + 1 - l).toNat) = true := by
  have hlen : (makeT b ad n e l (t + 1 - l).toNat).length = (t + 1 - l).toNat := by unfold makeT; simp
  unfold tabM
  rw [decide_eq_true hlen, Bool.true_and, Bool.and_eq_true, Bool.and_eq_true]
  refine ⟨?_, ?_, ?_⟩
  · unfold headM
    rw [make_at hb hle (by omega)]
    have h0 : lkM (layM b (atP b n e l) 0) (vAt b (atP b n e l) 0) = some 0 := by
      unfold vAt layM
      rw [Int.pow_zero, Int.ediv_one]
      exact lk1 _ _
    rw [h0]
    show decide (0 * ad ≤ 0) = true
    rw [Int.zero_mul]; rfl
  · rw [List.all_eq_true]
    intro i hi
    (have hi' := List.mem_range.mp hi)
    unfold stepsM stepM
    rw [make_at hb hle (by omega), make_at hb hle (by omega), Bool.and_eq_true]
    exact ⟨okOne_make hb ha i (.inl rfl), okOne_make hb ha i (.inr rfl)⟩
  · rw [List.all_eq_true]
    intro i hi
    (have hi' := List.mem_range.mp hi)
    have key : ∀ x, endOne ad mv x (mulO ad (lkM (layM b (atP b n e l) ((max p p' - l).toNat + i)) x)) (2 * (((max p p' - l).toNat + i : Nat) : Int) - ((p' - p).natAbs : Int)) bd = true := fun x => by
      cases hc : lkM (layM b (atP b n e l) ((max p p' - l).toNat + i)) x with
      | none => rfl
      | some c =>
        have hm : (x, c) ∈ layM b (atP b n e l) ((max p p' - l).toNat + i) := (lay_lk hb _).mpr hc
        have ho : (c + (x.natAbs : Int), max p p' + (i : Int), x) ∈ optN b (atP b n e l) l (max p p') (t + 1 - max p p').toNat := optN_mem.mpr ⟨i, by omega, (x, c), by rw [show (max p p' + (i : Int) - l).toNat = (max p p' - l).toNat + i by omega]; exact hm, rfl⟩
        have h1 := h _ ho
        unfold costM mvsM at h1
        have h2 : bd ≤ (c + (x.natAbs : Int)) * ad + (2 * (max p p' + (i : Int) - l) - ((p' - p).natAbs : Int)) * mv := h1
        rw [Int.add_mul, Int.mul_comm (x.natAbs : Int), Int.mul_comm _ mv, show max p p' + (i : Int) - l = (((max p p' - l).toNat + i : Nat) : Int) by omega] at h2
        exact decide_eq_true h2
    unfold endsM endM
    rw [make_at hb hle (by omega), Bool.and_eq_true]
    exact ⟨key _, key _⟩
/-! ### digits -/
def valD (b : Int) : List Int → Int
  | [] => 0
  | d :: ds => d + b * valD b ds
def sumA : List Int → Int
  | [] => 0
  | d :: ds => (d.natAbs : Int) + sumA ds
theorem sumA_nn : ∀ ds, 0 ≤ sumA ds
  | [] => Int.le_refl _
  | d :: ds => by have := sumA_nn ds; show 0 ≤ (d.natAbs : Int) + sumA ds; omega
theorem sumA_app : ∀ ds es, sumA (ds ++ es) = sumA ds + sumA es
  | [], es => (Int.zero_add _).symm
  | d :: ds, es => by show (d.natAbs : Int) + sumA (ds ++ es) = (d.natAbs : Int) + sumA ds + sumA es; rw [sumA_app ds es]; omega
theorem valD_app : ∀ ds es, valD b (ds ++ es) = valD b ds + b ^ ds.length * valD b es
  | [], es => by simp [valD]
  | d :: ds, es => by
    show d + b * valD b (ds ++ es) = d + b * valD b ds + b ^ (ds.length + 1) * valD b es
    rw [valD_app ds es, Int.mul_add, Int.pow_succ, Int.mul_comm (b ^ ds.length) b, Int.mul_assoc]
    omega
theorem valD_sum {b : Int} {ds : List Int} (h : valD b ds ≠ 0) : 1 ≤ sumA ds := by
  induction ds with
  | nil => exact absurd rfl h
  | cons d ds ih =>
    show 1 ≤ (d.natAbs : Int) + sumA ds
    by_cases hd : d = 0
    · by_cases hv : valD b ds = 0
      · exact absurd (by show d + b * valD b ds = 0; rw [hd, hv]; simp) h
      · have := ih hv; omega
    · have := sumA_nn ds; omega
theorem tri (a c : Int) : ((a + c).natAbs : Int) ≤ (a.natAbs : Int) + (c.natAbs : Int) := by omega
/-- no digits cost less than the layer -/
theorem low_lay (hb : 2 ≤ b) : ∀ (i : Nat) (ds : List Int) (y : Int), ds.length = i → valD b ds + b ^ i * y = X → ∃ x c, (x, c) ∈ layM b X i ∧ c + ((x - y).natAbs : Int) ≤ sumA ds := by
  intro i
  induction i with
  | zero =>
    intro ds y hl hv
    have : ds = [] := List.length_eq_zero_iff.mp hl
    subst this
    have hy : y = X := by simpa [valD] using hv
    exact ⟨X, 0, by simp [layM], by rw [hy]; simp [sumA]⟩
  | succ i ih =>
    intro ds y hl hv
    have hne : ds ≠ [] := fun z => by rw [z] at hl; cases hl
    obtain ⟨es, d, rfl⟩ : ∃ es d, ds = es ++ [d] := ⟨ds.dropLast, ds.getLast hne, (List.dropLast_concat_getLast hne).symm⟩
    have hel : es.length = i := by simpa using hl
    have hv2 : valD b es + b ^ i * (d + b * y) = X := by
      rw [← hv, valD_app, hel]
      show valD b es + b ^ i * (d + b * y) = valD b es + b ^ i * (d + b * 0) + b ^ (i + 1) * y
      rw [Int.pow_succ, Int.mul_zero, Int.add_zero, Int.mul_add, Int.mul_assoc]
      omega
    obtain ⟨x, c, hm, hc⟩ := ih es (d + b * y) hel hv2
    rw [sumA_app]
    show ∃ x c, (x, c) ∈ layM b X (i + 1) ∧ c + ((x - y).natAbs : Int) ≤ sumA es + ((d.natAbs : Int) + 0)
    have e1 := Int.emod_add_mul_ediv x b
    have r0 := Int.emod_nonneg x (show b ≠ 0 by omega)
    have r1 := Int.emod_lt_of_pos x (show 0 < b by omega)
    -- the way of the digit d'
    have pick : ∀ d', d' ∈ dgs b x → ∃ c', ((x - d') / b, c') ∈ layM b X (i + 1) ∧ c' ≤ c + (d'.natAbs : Int) := fun d' hd' => by
      obtain ⟨c', h1, h2⟩ := next_has (b := b) hm hd'
      exact ⟨c', (lay_lk hb (i + 1)).mpr h1, h2⟩
    have fin : ∀ d' q', d' ∈ dgs b x → (x - d') / b = q' → (d'.natAbs : Int) + ((q' - y).natAbs : Int) ≤ ((x - b * y).natAbs : Int) → ∃ x c, (x, c) ∈ layM b X (i + 1) ∧ c + ((x - y).natAbs : Int) ≤ sumA es + ((d.natAbs : Int) + 0) := fun d' q' hd' eq' hle => by
      obtain ⟨c', h1, h2⟩ := pick d' hd'
      rw [eq'] at h1
      have ht := tri (x - (d + b * y)) d
      rw [show x - (d + b * y) + d = x - b * y by omega] at ht
      exact ⟨q', c', h1, by omega⟩
    have hby : ∀ z : Int, b * z = (b - 1) * z + z := fun z => by rw [Int.sub_mul]; omega
    have hxy : x - b * y = x % b + b * (x / b - y) := by rw [Int.mul_sub]; omega
    by_cases hr : x % b = 0
    · refine fin 0 (x / b) (by unfold dgs; rw [if_pos hr]; simp) (by rw [Int.sub_zero]) ?_
      rw [hxy, hr, Int.zero_add, Int.natAbs_mul]
      have : ((x / b - y).natAbs : Int) ≤ ((b.natAbs * (x / b - y).natAbs : Nat) : Int) := by
        have : 1 * (x / b - y).natAbs ≤ b.natAbs * (x / b - y).natAbs := Nat.mul_le_mul_right _ (by omega)
        omega
      simpa using this
    · by_cases hy : y ≤ x / b
      · refine fin (x % b) (x / b) (by unfold dgs; rw [if_neg hr]; simp) q_lo ?_
        have h0 : 0 ≤ (b - 1) * (x / b - y) := Int.mul_nonneg (by omega) (by omega)
        have := hby (x / b - y)
        omega
      · refine fin (x % b - b) (x / b + 1) (by unfold dgs; rw [if_neg hr]; simp) (q_hi (by omega)) ?_
        have h0 : 0 ≤ (b - 1) * (y - x / b - 1) := Int.mul_nonneg (by omega) (by omega)
        have h1 := hby (y - x / b - 1)
        have h2 : b * (x / b - y) = - (b * (y - x / b - 1)) - b := by
          rw [show x / b - y = -(y - x / b - 1) - 1 by omega, Int.mul_sub, Int.mul_neg, Int.mul_one]
        omega
end
end K27

/-! Each path costs at least some option: plain. -/
namespace K27
open PySem PySem.Spec PyProof.Rows L2 Evl C8
section
variable {b : Int}
/-- a digit more at a place -/
def addAt : List Int → Nat → Int → List Int
  | [], _, _ => []
  | d :: ds, 0, z => (d + z) :: ds
  | d :: ds, i + 1, z => d :: addAt ds i z
theorem addAt_len : ∀ (ds : List Int) (i : Nat) (z : Int), (addAt ds i z).length = ds.length
  | [], _, _ => rfl
  | _ :: _, 0, _ => rfl
  | d :: ds, i + 1, z => by show (addAt ds i z).length + 1 = ds.length + 1; rw [addAt_len ds i z]
theorem addAt_sum : ∀ (ds : List Int) (i : Nat) (z : Int), sumA (addAt ds i z) ≤ sumA ds + (z.natAbs : Int)
  | [], _, z => by show (0 : Int) ≤ 0 + (z.natAbs : Int); omega
  | d :: ds, 0, z => by show ((d + z).natAbs : Int) + sumA ds ≤ (d.natAbs : Int) + sumA ds + (z.natAbs : Int); have := tri d z; omega
  | d :: ds, i + 1, z => by have := addAt_sum ds i z; show (d.natAbs : Int) + sumA (addAt ds i z) ≤ (d.natAbs : Int) + sumA ds + (z.natAbs : Int); omega
theorem addAt_val : ∀ (ds : List Int) (i : Nat) (z : Int), i < ds.length → valD b (addAt ds i z) = valD b ds + z * b ^ i
  | [], _, _, h => (absurd h (Nat.not_lt_zero _))
  | d :: ds, 0, z, _ => by show d + z + b * valD b ds = d + b * valD b ds + z * b ^ 0; rw [Int.pow_zero]; omega
  | d :: ds, i + 1, z, h => by
    show d + b * valD b (addAt ds i z) = d + b * valD b ds + z * b ^ (i + 1)
    rw [addAt_val ds i z (Nat.lt_of_succ_lt_succ h), Int.mul_add, Int.pow_succ, ← Int.mul_assoc z (b ^ i) b, Int.mul_comm b (z * b ^ i)]
    omega
/-- what a path has done -/
structure PS (b mv ad : Int) (lo hi : Option Int) (p0 U p c l : Int) (ds : List Int) : Prop where
  l0 : l ≤ p0
  l1 : l ≤ p
  h0 : p0 < l + (ds.length : Int)
  h1 : p < l + (ds.length : Int)
  lc : p0 - c ≤ l
  c0 : 0 ≤ c
  hc : l + (ds.length : Int) - 1 ≤ p0 + c
  val : U = valD b ds * b ^ (l + 20).toNat
  cost : ad * sumA ds + mv * (2 * ((ds.length : Int) - 1) - ((p - p0).natAbs : Int)) ≤ c
  lo : ∀ i, lo = some i → i ≤ l
  hi : ∀ i, hi = some i → l + (ds.length : Int) - 1 ≤ i
theorem nex_cases {mv ad : Int} {lo hi : Option Int} {U p : Int} {a : Arc} (m : a ∈ nexA b mv ad lo hi U p) : (a = ((U, p + 1), mv) ∧ ∀ i, hi = some i → p < i) ∨ (a = ((U, p - 1), mv) ∧ ∀ i, lo = some i → i < p) ∨ ∃ z : Int, z.natAbs = 1 ∧ a = ((U + z * b ^ (p + 20).toNat, p), ad) := by
  unfold nexA upA dnA at m
  simp only [List.mem_append, List.mem_cons, List.not_mem_nil, or_false] at m
  rcases m with (m | m) | m | m
  · split at m
    · rename_i h
      refine .inl ⟨List.mem_singleton.mp m, fun i hi => ?_⟩
      rcases h with h | ⟨j, h, h2⟩
      · rw [h] at hi; cases hi
      · rw [h] at hi; obtain rfl := Option.some.inj hi; exact h2
    · cases m
  · split at m
    · rename_i h
      refine .inr (.inl ⟨List.mem_singleton.mp m, fun i hi => ?_⟩)
      rcases h with h | ⟨j, h, h2⟩
      · rw [h] at hi; cases hi
      · rw [h] at hi; obtain rfl := Option.some.inj hi; exact h2
    · cases m
  · exact .inr (.inr ⟨1, rfl, by rw [m, Int.one_mul]⟩)
  · exact .inr (.inr ⟨-1, rfl, by rw [m]; simp [Int.sub_eq_add_neg]⟩)
theorem mul_step {mv x y c : Int} (hm : 0 ≤ mv) (h : y ≤ x + 1) (hc : mv * x ≤ c) : mv * y ≤ c + mv := by
  have := Int.mul_le_mul_of_nonneg_left h hm
  rw [Int.mul_add, Int.mul_one] at this
  omega
theorem path_sum {mv ad : Int} {lo hi : Option Int} (hm : 1 ≤ mv) (ha : 1 ≤ ad) {p0 : Int} (h0 : -10 ≤ p0) (hlo : ∀ i, lo = some i → i ≤ p0) (hhi : ∀ i, hi = some i → p0 ≤ i) {s : Sta} {c : Int} (h : Rch (fun s => nexA b mv ad lo hi s.1 s.2) (0, p0) s c) : c ≤ 6 → ∃ l ds, PS b mv ad lo hi p0 s.1 s.2 c l ds := by
  induction h with
  | z => exact fun _ => ⟨p0, [0], by simp, by simp, by simp; omega, by simp; omega, by omega, by omega, by simp, by simp [valD], by simp [sumA], hlo, fun i hi => by simp; exact hhi i hi⟩
  | @s x c a hx m ih =>
    intro h6
    obtain ⟨U, p⟩ := x
    rcases nex_cases m with ⟨rfl, hb⟩ | ⟨rfl, hb⟩ | ⟨z, hz, rfl⟩
    · obtain ⟨l, ds, P⟩ := ih (by simp at h6; omega)
      obtain ⟨l0, l1, k0, k1, lc, c0, hc, val, cost, plo, phi⟩ := P
      simp only at *
      by_cases hp : p + 1 < l + (ds.length : Int)
      · refine ⟨l, ds, l0, by omega, k0, hp, by omega, by omega, by omega, val, ?_, plo, phi⟩
        have := mul_step (y := 2 * ((ds.length : Int) - 1) - ((p + 1 - p0).natAbs : Int)) (c := c - ad * sumA ds) (show 0 ≤ mv by omega) (show _ ≤ (2 * ((ds.length : Int) - 1) - ((p - p0).natAbs : Int)) + 1 by omega) (by omega)
        omega
      · have hl : (ds ++ [0]).length = ds.length + 1 := by simp
        refine ⟨l, ds ++ [0], l0, by omega, by rw [hl]; omega, by rw [hl]; omega, by omega, by omega, by rw [hl]; omega, by rw [valD_app]; simp [valD]; exact val, ?_, plo, fun i hi => ?_⟩
        · rw [sumA_app, hl]
          show ad * (sumA ds + (0 + 0)) + _ ≤ _
          rw [Int.add_zero, Int.add_zero]
          have := mul_step (y := 2 * (((ds.length + 1 : Nat) : Int) - 1) - ((p + 1 - p0).natAbs : Int)) (c := c - ad * sumA ds) (show 0 ≤ mv by omega) (show _ ≤ (2 * ((ds.length : Int) - 1) - ((p - p0).natAbs : Int)) + 1 by omega) (by omega)
          omega
        · have := hb i hi
          rw [hl]; omega
    · obtain ⟨l, ds, P⟩ := ih (by simp at h6; omega)
      obtain ⟨l0, l1, k0, k1, lc, c0, hc, val, cost, plo, phi⟩ := P
      simp only at *
      by_cases hp : l ≤ p - 1
      · refine ⟨l, ds, l0, hp, k0, by omega, by omega, by omega, by omega, val, ?_, plo, phi⟩
        have := mul_step (y := 2 * ((ds.length : Int) - 1) - ((p - 1 - p0).natAbs : Int)) (c := c - ad * sumA ds) (show 0 ≤ mv by omega) (show _ ≤ (2 * ((ds.length : Int) - 1) - ((p - p0).natAbs : Int)) + 1 by omega) (by omega)
        omega
      · have hl : (0 :: ds).length = ds.length + 1 := by simp
        refine ⟨l - 1, 0 :: ds, by omega, by omega, by rw [hl]; omega, by rw [hl]; omega, by omega, by omega, by rw [hl]; omega, ?_, ?_, fun i hi => ?_, fun i hi => ?_⟩
        · show U = (0 + b * valD b ds) * b ^ (l - 1 + 20).toNat
          rw [val, Int.zero_add, show (l + 20).toNat = (l - 1 + 20).toNat + 1 by omega, Int.pow_succ, Int.mul_comm b, Int.mul_comm (b ^ (l - 1 + 20).toNat) b, ← Int.mul_assoc]
        · rw [hl]
          show ad * (0 + sumA ds) + _ ≤ _
          rw [Int.zero_add]
          have := mul_step (y := 2 * (((ds.length + 1 : Nat) : Int) - 1) - ((p - 1 - p0).natAbs : Int)) (c := c - ad * sumA ds) (show 0 ≤ mv by omega) (show _ ≤ (2 * ((ds.length : Int) - 1) - ((p - p0).natAbs : Int)) + 1 by omega) (by omega)
          omega
        · have := hb i hi
          omega
        · have := phi i hi
          rw [hl]; omega
    · obtain ⟨l, ds, P⟩ := ih (by simp at h6; omega)
      obtain ⟨l0, l1, k0, k1, lc, c0, hc, val, cost, plo, phi⟩ := P
      simp only at *
      have hl := addAt_len ds (p - l).toNat z
      have hs := addAt_sum ds (p - l).toNat z
      refine ⟨l, addAt ds (p - l).toNat z, l0, l1, by rw [hl]; exact k0, by rw [hl]; exact k1, by omega, by omega, by rw [hl]; omega, ?_, ?_, plo, by rw [hl]; exact phi⟩
      · rw [addAt_val ds _ z (by omega), val, Int.add_mul, Int.mul_assoc z, ← Int.pow_add, show (p - l).toNat + (l + 20).toNat = (p + 20).toNat by omega]
      · rw [hl]
        have h1 : ad * sumA (addAt ds (p - l).toNat z) ≤ ad * (sumA ds + 1) := Int.mul_le_mul_of_nonneg_left (by omega) (by omega)
        rw [Int.mul_add, Int.mul_one] at h1
        omega
theorem dvd_mod {x y : Int} (h : b ∣ x + b * y) : x % b = 0 := by
  obtain ⟨k, hk⟩ := h
  exact Int.emod_eq_zero_of_dvd ⟨k - y, by rw [Int.mul_sub]; omega⟩
/-- the digits below fold into the lowest place -/
theorem fold_low (hb : 2 ≤ b) {X : Int} : ∀ (k : Nat) (ds : List Int), k < ds.length → valD b ds = X * b ^ k → ∃ es, es.length + k = ds.length ∧ valD b es = X ∧ sumA es ≤ sumA ds
  | 0, ds, _, h => ⟨ds, rfl, by rw [h]; simp, Int.le_refl _⟩
  | k + 1, [], h, _ => absurd h (Nat.not_lt_zero _)
  | k + 1, [_], h, _ => absurd h (by simp)
  | k + 1, d0 :: d1 :: ds, h, hv => by
    have hd : d0 % b = 0 := dvd_mod (y := valD b (d1 :: ds)) ⟨X * b ^ k, by
      show valD b (d0 :: d1 :: ds) = _
      rw [hv, Int.pow_succ, ← Int.mul_assoc, Int.mul_comm b]⟩
    have hq : d0 = b * (d0 / b) := by have := Int.emod_add_mul_ediv d0 b; omega
    have hv2 : valD b ((d1 + d0 / b) :: ds) = X * b ^ k := by
      have h1 : b * valD b ((d1 + d0 / b) :: ds) = b * (X * b ^ k) := by
        rw [Int.pow_succ, ← Int.mul_assoc, Int.mul_comm _ b] at hv
        rw [← hv]
        show b * (d1 + d0 / b + b * valD b ds) = d0 + b * (d1 + b * valD b ds)
        rw [show d1 + d0 / b + b * valD b ds = d0 / b + (d1 + b * valD b ds) by omega, Int.mul_add, ← hq]
      exact Int.eq_of_mul_eq_mul_left (by omega) h1
    obtain ⟨es, e1, e2, e3⟩ := fold_low hb k ((d1 + d0 / b) :: ds) (by simpa using h) hv2
    refine ⟨es, by simp at e1 ⊢; omega, e2, Int.le_trans e3 ?_⟩
    have ht := tri d1 (d0 / b)
    have hle : ((d0 / b).natAbs : Int) ≤ (d0.natAbs : Int) := by
      have : d0.natAbs = b.natAbs * (d0 / b).natAbs := by conv => lhs; rw [hq]
                                                          exact Int.natAbs_mul _ _
      have h2 := Nat.mul_le_mul_right (d0 / b).natAbs (show 1 ≤ b.natAbs by omega)
      omega
    show ((d1 + d0 / b).natAbs : Int) + sumA ds ≤ (d0.natAbs : Int) + ((d1.natAbs : Int) + sumA ds)
    omega
end
end K27

/-! Options and paths: plain. -/
namespace K27
open PySem PySem.Spec PyProof.Rows L2 Evl C8
/-- the goal's scaled number -/
def ScOf (b n e U : Int) : Prop := (n = 0 ∧ U = 0) ∨ (n ≠ 0 ∧ n % b ≠ 0 ∧ -20 ≤ e ∧ U = n * b ^ (e + 20).toNat)
section
variable {b mv ad : Int} {lo hi : Option Int}
theorem sc_at {n e U l : Int} (hb : 2 ≤ b) (h : ScOf b n e U) (hl : n ≠ 0 → l ≤ e) (h20 : -20 ≤ l) : U = atP b n e l * b ^ (l + 20).toNat := by
  rcases h with ⟨h1, h2⟩ | ⟨h1, h2, h3, h4⟩
  · unfold atP; rw [if_pos h1, h2, Int.zero_mul]
  · have := hl h1
    unfold atP
    rw [if_neg h1, h4, Int.mul_assoc, ← Int.pow_add, show (e - l).toNat + (l + 20).toNat = (e + 20).toNat by omega]
theorem sc_low {n e U l : Int} {v : Int} (hb : 2 ≤ b) (h : ScOf b n e U) (hn : n ≠ 0) (hv : U = v * b ^ (l + 20).toNat) (h20 : -20 ≤ l) : l ≤ e := by
  rcases h with ⟨h1, h2⟩ | ⟨h1, h2, h3, h4⟩
  · exact absurd h1 hn
  · by_cases hle : l ≤ e
    · exact hle
    · exfalso
      have e1 : (l + 20).toNat = (l - e - 1).toNat + 1 + (e + 20).toNat := by omega
      rw [e1, Int.pow_add, ← Int.mul_assoc] at hv
      have hp : (0 : Int) < b ^ (e + 20).toNat := Int.pow_pos (by omega)
      have h5 : n = v * b ^ ((l - e - 1).toNat + 1) := Int.eq_of_mul_eq_mul_right (by omega) (h4.symm.trans hv)
      rw [Int.pow_succ, ← Int.mul_assoc] at h5
      exact h2 (by rw [h5]; exact Int.mul_emod_left _ _)
theorem lay_digits (hb : 2 ≤ b) {X : Int} : ∀ (i : Nat) (x c : Int), (x, c) ∈ layM b X i → ∃ ds : List Int, ds.length = i ∧ valD b ds + b ^ i * x = X ∧ sumA ds = c := by
  intro i
  induction i with
  | zero =>
    intro x c h
    have h' : x = X ∧ c = 0 := by simpa [layM] using h
    exact ⟨[], rfl, by simp [valD, h'.1], h'.2.symm⟩
  | succ i ih =>
    intro x c h
    obtain ⟨q, hq, d, hd, ex, ec⟩ := next_from ((lay_lk hb (i + 1)).mp h)
    obtain ⟨ds, h1, h2, h3⟩ := ih q.1 q.2 hq
    have hdv : q.1 = d + b * x := by
      have e1 := Int.emod_add_mul_ediv q.1 b
      rw [ex]
      unfold dgs at hd
      by_cases hz : q.1 % b = 0
      · rw [if_pos hz, List.mem_singleton] at hd
        rw [hd, Int.sub_zero]; omega
      · rw [if_neg hz] at hd
        simp only [List.mem_cons, List.not_mem_nil, or_false] at hd
        rcases hd with rfl | rfl
        · rw [q_lo]; omega
        · rw [q_hi (by omega), Int.mul_add]; omega
    refine ⟨ds ++ [d], by simp [h1], ?_, ?_⟩
    · rw [valD_app, h1, ← h2, hdv]
      show valD b ds + b ^ i * (d + b * 0) + b ^ (i + 1) * x = _
      rw [Int.pow_succ, Int.mul_zero, Int.add_zero, Int.mul_add, Int.mul_assoc]
      omega
    · rw [sumA_app, h3, ec]
      show q.2 + ((d.natAbs : Int) + 0) = _
      omega
theorem cost_le {A B A' B' : Int} (hm : 0 ≤ mv) (ha : 0 ≤ ad) (h1 : A ≤ A') (h2 : B ≤ B') : A * ad + B * mv ≤ ad * A' + mv * B' := by
  have x1 := Int.mul_le_mul_of_nonneg_left h1 ha
  have x2 := Int.mul_le_mul_of_nonneg_left h2 hm
  rw [Int.mul_comm A, Int.mul_comm B]
  omega
/-- each path has an option that costs no more -/
theorem path_opt (hb : 2 ≤ b) (hm : 1 ≤ mv) (ha : 1 ≤ ad) {p0 p n e U l t c : Int} (h0 : -10 ≤ p0) (h0' : p0 ≤ 10) (hlo : ∀ i, lo = some i → i ≤ p0) (hhi : ∀ i, hi = some i → p0 ≤ i) (hs : ScOf b n e U) (hl : l = lowF p0 p n e) (ht : TopIs (hiR hi) (flo b n e) (max p0 p) t)
    (h : Rch (fun s => nexA b mv ad lo hi s.1 s.2) (0, p0) (U, p) c) (h6 : c ≤ 6) : ∃ o ∈ optN b (atP b n e l) l (max p0 p) (t + 1 - max p0 p).toNat, costM mv ad l p0 p o ≤ c := by
  obtain ⟨l', ds, P⟩ := path_sum hm ha h0 hlo hhi h h6
  obtain ⟨l0, l1, k0, k1, lc, c0, hc, val, cost, plo, phi⟩ := P
  simp only at *
  have hll : l ≤ min p0 p := by rw [hl]; exact low_le
  have hle : n ≠ 0 → l ≤ e := fun hn => by rw [hl]; exact low_le_e hn
  have hl'l : l' ≤ l := by
    rw [hl]
    unfold lowF
    split
    · omega
    · rename_i hn
      have := sc_low hb hs hn val (by omega)
      omega
  have hU := sc_at hb hs hle (by omega)
  have hX : valD b ds = atP b n e l * b ^ (l - l').toNat := by
    have hp : (0 : Int) < b ^ (l' + 20).toNat := Int.pow_pos (by omega)
    refine Int.eq_of_mul_eq_mul_right (by omega : b ^ (l' + 20).toNat ≠ 0) ?_
    rw [← val, hU, Int.mul_assoc, ← Int.pow_add, show (l - l').toNat + (l' + 20).toNat = (l + 20).toNat by omega]
  generalize hXd : atP b n e l = X at *
  obtain ⟨es, e1, e2, e3⟩ := fold_low hb (l - l').toNat ds (by omega) hX
  have hel : (es.length : Int) = (ds.length : Int) - (l - l') := by omega
  have cost2 : ad * sumA es + mv * (2 * ((es.length : Int) - 1) - ((p - p0).natAbs : Int)) ≤ c := by
    have x1 := Int.mul_le_mul_of_nonneg_left e3 (show 0 ≤ ad by omega)
    have x2 := Int.mul_le_mul_of_nonneg_left (show 2 * ((es.length : Int) - 1) - ((p - p0).natAbs : Int) ≤ 2 * ((ds.length : Int) - 1) - ((p - p0).natAbs : Int) by omega) (show 0 ≤ mv by omega)
    omega
  have htg := ht.ge
  by_cases hh : l + (es.length : Int) - 1 ≤ t
  · have hne : es ≠ [] := fun z => by rw [z] at hel; simp at hel; omega
    obtain ⟨es', y, rfl⟩ : ∃ es' y, es = es' ++ [y] := ⟨es.dropLast, es.getLast hne, (List.dropLast_concat_getLast hne).symm⟩
    have hlen : (es' ++ [y]).length = es'.length + 1 := by simp
    rw [hlen] at hel cost2 hh
    have hv : valD b es' + b ^ es'.length * y = X := by
      rw [← e2, valD_app]
      show _ = valD b es' + b ^ es'.length * (y + b * 0)
      rw [Int.mul_zero, Int.add_zero]
    obtain ⟨x, cn, hx, hcn⟩ := low_lay hb es'.length es' y rfl hv
    rw [sumA_app] at cost2
    have hs1 : sumA [y] = (y.natAbs : Int) := by simp [sumA]
    rw [hs1] at cost2
    refine ⟨(cn + (x.natAbs : Int), max p0 p + ((l + (es'.length : Int) - max p0 p).toNat : Int), x), optN_mem.mpr ⟨(l + (es'.length : Int) - max p0 p).toNat, by omega, (x, cn), by rw [show (max p0 p + ((l + (es'.length : Int) - max p0 p).toNat : Int) - l).toNat = es'.length by omega]; exact hx, rfl⟩, ?_⟩
    unfold costM mvsM
    refine Int.le_trans (cost_le (by omega) (by omega) ?_ ?_) cost2
    · show cn + (x.natAbs : Int) ≤ _
      omega
    · show 2 * (max p0 p + ((l + (es'.length : Int) - max p0 p).toNat : Int) - l) - _ ≤ _
      omega
  · have hft : flo b n e t = -1 ∨ flo b n e t = 0 := by
      rcases ht.end_ with z | z | z
      · exfalso
        unfold hiR at z
        cases hh2 : hi with
        | none => rw [hh2] at z; simp at z; omega
        | some i => have := phi i hh2; rw [hh2] at z; simp at z; omega
      · exact .inl z
      · exact .inr z
    have hvt : vAt b X (t - l).toNat = -1 ∨ vAt b X (t - l).toNat = 0 := by
      have := flo_at (b := b) (n := n) (e := e) (l := l) hb hle (t - l).toNat
      rw [show l + ((t - l).toNat : Int) = t by omega, hXd] at this
      unfold vAt
      rw [← this]
      exact hft
    have hti : (t - l).toNat < es.length := by omega
    have htl : (es.take (t - l).toNat).length = (t - l).toNat := by rw [List.length_take]; omega
    have hv : valD b (es.take (t - l).toNat) + b ^ (t - l).toNat * valD b (es.drop (t - l).toNat) = X := by
      conv => rhs; rw [← e2, ← List.take_append_drop (t - l).toNat es]
      rw [valD_app, htl]
    have hsum : sumA es = sumA (es.take (t - l).toNat) + sumA (es.drop (t - l).toNat) := by
      conv => lhs; rw [← List.take_append_drop (t - l).toNat es]
      exact sumA_app _ _
    obtain ⟨x, cn, hx, hcn⟩ := low_lay hb (t - l).toNat _ _ htl hv
    have hxv := lay_val hb _ hx
    have hs2 := sumA_nn (es.drop (t - l).toNat)
    have hx1 : (x.natAbs : Int) ≤ ((x - valD b (es.drop (t - l).toNat)).natAbs : Int) + sumA (es.drop (t - l).toNat) := by
      by_cases hy : valD b (es.drop (t - l).toNat) = 0
      · rw [hy]; omega
      · have := valD_sum hy
        omega
    refine ⟨(cn + (x.natAbs : Int), max p0 p + ((t - max p0 p).toNat : Int), x), optN_mem.mpr ⟨(t - max p0 p).toNat, by omega, (x, cn), by rw [show (max p0 p + ((t - max p0 p).toNat : Int) - l).toNat = (t - l).toNat by omega]; exact hx, rfl⟩, ?_⟩
    unfold costM mvsM
    refine Int.le_trans (cost_le (by omega) (by omega) ?_ ?_) cost2
    · show cn + (x.natAbs : Int) ≤ _
      omega
    · show 2 * (max p0 p + ((t - max p0 p).toNat : Int) - l) - _ ≤ _
      omega
/-! ### from options to paths -/
abbrev Rx (b mv ad : Int) (lo hi : Option Int) (x y : Sta) (c : Int) : Prop := Rch (fun s => nexA b mv ad lo hi s.1 s.2) x y c
theorem rch_app {nex : Sta → List Arc} {x y z : Sta} {c d : Int} (h1 : Rch nex x y c) (h2 : Rch nex y z d) : Rch nex x z (c + d) := by
  induction h2 with
  | z => rw [Int.add_zero]; exact h1
  | s h m ih => rw [← Int.add_assoc]; exact .s ih m
theorem rx_to {x y y' : Sta} {c c' : Int} (h : Rx b mv ad lo hi x y c) (e : y = y') (e2 : c = c') : Rx b mv ad lo hi x y' c' := by subst e e2; exact h
theorem rx_up1 {U p : Int} (h : ∀ i, hi = some i → p < i) : Rx b mv ad lo hi (U, p) (U, p + 1) mv := by
  have m : ((U, p + 1), mv) ∈ nexA b mv ad lo hi U p := by
    unfold nexA upA
    rw [if_pos (by cases hi with
      | none => exact .inl rfl
      | some i => exact .inr ⟨i, rfl, h i rfl⟩)]
    simp
  exact rx_to (.s (a := ((U, p + 1), mv)) .z m) rfl (Int.zero_add _)
theorem rx_dn1 {U p : Int} (h : ∀ i, lo = some i → i < p) : Rx b mv ad lo hi (U, p) (U, p - 1) mv := by
  have m : ((U, p - 1), mv) ∈ nexA b mv ad lo hi U p := by
    unfold nexA dnA
    rw [if_pos (c := lo = none ∨ ∃ h, lo = some h ∧ h < p) (by cases lo with
      | none => exact .inl rfl
      | some i => exact .inr ⟨i, rfl, h i rfl⟩)]
    simp
  exact rx_to (.s (a := ((U, p - 1), mv)) .z m) rfl (Int.zero_add _)
theorem rx_add {p : Int} : ∀ (n : Nat) (z : Int) (U : Int), z.natAbs = n → Rx b mv ad lo hi (U, p) (U + z * b ^ (p + 20).toNat, p) (ad * (n : Int))
  | 0, z, U, h => rx_to .z (by rw [show z = 0 by omega]; simp) (by simp)
  | n + 1, z, U, h => by
    by_cases hz : 0 < z
    · have m : ((U + b ^ (p + 20).toNat, p), ad) ∈ nexA b mv ad lo hi U p := by unfold nexA; simp
      have h1 : Rx b mv ad lo hi (U, p) (U + b ^ (p + 20).toNat, p) ad := rx_to (.s (a := ((U + b ^ (p + 20).toNat, p), ad)) .z m) rfl (Int.zero_add _)
      refine rx_to (rch_app h1 (rx_add n (z - 1) _ (by omega))) ?_ ?_
      · rw [Int.sub_mul, Int.one_mul]; congr 1; omega
      · rw [show ((n + 1 : Nat) : Int) = (n : Int) + 1 by omega, Int.mul_add, Int.mul_one]; omega
    · have m : ((U - b ^ (p + 20).toNat, p), ad) ∈ nexA b mv ad lo hi U p := by unfold nexA; simp
      have h1 : Rx b mv ad lo hi (U, p) (U - b ^ (p + 20).toNat, p) ad := rx_to (.s (a := ((U - b ^ (p + 20).toNat, p), ad)) .z m) rfl (Int.zero_add _)
      refine rx_to (rch_app h1 (rx_add n (z + 1) _ (by omega))) ?_ ?_
      · rw [Int.add_mul, Int.one_mul]; congr 1; omega
      · rw [show ((n + 1 : Nat) : Int) = (n : Int) + 1 by omega, Int.mul_add, Int.mul_one]; omega
theorem rx_up {U : Int} : ∀ (k : Nat) (p : Int), (∀ i, hi = some i → p + (k : Int) ≤ i) → Rx b mv ad lo hi (U, p) (U, p + (k : Int)) (mv * (k : Int))
  | 0, p, _ => rx_to .z (by simp) (by simp)
  | k + 1, p, h => rx_to (rch_app (rx_up1 fun i hi => by have := h i hi; omega) (rx_up k (p + 1) fun i hi => by have := h i hi; omega)) (by congr 1; omega) (by rw [show ((k + 1 : Nat) : Int) = (k : Int) + 1 by omega, Int.mul_add, Int.mul_one]; omega)
theorem rx_dn {U : Int} : ∀ (k : Nat) (p : Int), (∀ i, lo = some i → i ≤ p - (k : Int)) → Rx b mv ad lo hi (U, p) (U, p - (k : Int)) (mv * (k : Int))
  | 0, p, _ => rx_to .z (by simp) (by simp)
  | k + 1, p, h => rx_to (rch_app (rx_dn1 fun i hi => by have := h i hi; omega) (rx_dn k (p - 1) fun i hi => by have := h i hi; omega)) (by congr 1; omega) (by rw [show ((k + 1 : Nat) : Int) = (k : Int) + 1 by omega, Int.mul_add, Int.mul_one]; omega)
theorem pw_next {p : Int} (h : -20 ≤ p) (v : Int) : v * b ^ (p + 1 + 20).toNat = b * v * b ^ (p + 20).toNat := by
  rw [show (p + 1 + 20).toNat = (p + 20).toNat + 1 by omega, Int.pow_succ, Int.mul_comm b v, Int.mul_comm (b ^ (p + 20).toNat) b, Int.mul_assoc]
/-- all digits put while one goes up | down -/
theorem rx_upD : ∀ (ds : List Int) (d : Int) (U p : Int), -20 ≤ p → (∀ i, hi = some i → p + (ds.length : Int) ≤ i) → Rx b mv ad lo hi (U, p) (U + valD b (d :: ds) * b ^ (p + 20).toNat, p + (ds.length : Int)) (ad * sumA (d :: ds) + mv * (ds.length : Int))
  | [], d, U, p, h, _ => rx_to (rx_add d.natAbs d U rfl) (by simp [valD]) (by simp [sumA])
  | d' :: ds, d, U, p, h, hh => by
    have hl : ((d' :: ds).length : Int) = (ds.length : Int) + 1 := by simp
    rw [hl] at hh ⊢
    refine rx_to (rch_app (rch_app (rx_add d.natAbs d U rfl) (rx_up1 fun i hi => by have := hh i hi; omega)) (rx_upD ds d' _ (p + 1) (by omega) fun i hi => by have := hh i hi; omega)) ?_ ?_
    · rw [pw_next h]
      show (U + d * b ^ (p + 20).toNat + b * valD b (d' :: ds) * b ^ (p + 20).toNat, _) = (U + (d + b * valD b (d' :: ds)) * b ^ (p + 20).toNat, _)
      rw [Int.add_mul]
      congr 1 <;> omega
    · show ad * (d.natAbs : Int) + mv + (ad * sumA (d' :: ds) + mv * (ds.length : Int)) = ad * ((d.natAbs : Int) + sumA (d' :: ds)) + mv * ((ds.length : Int) + 1)
      rw [Int.mul_add, Int.mul_add, Int.mul_one]
      omega
theorem rx_dnD : ∀ (ds : List Int) (d : Int) (U p : Int), -20 ≤ p → (∀ i, lo = some i → i ≤ p) → Rx b mv ad lo hi (U, p + (ds.length : Int)) (U + valD b (d :: ds) * b ^ (p + 20).toNat, p) (ad * sumA (d :: ds) + mv * (ds.length : Int))
  | [], d, U, p, h, _ => by
    rw [show p + (([] : List Int).length : Int) = p by simp]
    exact rx_to (rx_add d.natAbs d U rfl) (by simp [valD]) (by simp [sumA])
  | d' :: ds, d, U, p, h, hh => by
    have hl : ((d' :: ds).length : Int) = (ds.length : Int) + 1 := by simp
    rw [hl, show p + ((ds.length : Int) + 1) = (p + 1) + (ds.length : Int) by omega]
    have h1 : Rx b mv ad lo hi (U + valD b (d' :: ds) * b ^ (p + 1 + 20).toNat, p + 1) (U + valD b (d' :: ds) * b ^ (p + 1 + 20).toNat, p) mv := rx_to (rx_dn1 (p := p + 1) fun i hi => by have := hh i hi; omega) (by congr 1; omega) rfl
    refine rx_to (rch_app (rch_app (rx_dnD ds d' U (p + 1) (by omega) fun i hi => by have := hh i hi; omega) h1) (rx_add d.natAbs d _ rfl)) ?_ ?_
    · rw [pw_next h]
      show (U + b * valD b (d' :: ds) * b ^ (p + 20).toNat + d * b ^ (p + 20).toNat, _) = (U + (d + b * valD b (d' :: ds)) * b ^ (p + 20).toNat, _)
      rw [Int.add_mul]
      congr 1
      omega
    · show ad * sumA (d' :: ds) + mv * (ds.length : Int) + mv + ad * (d.natAbs : Int) = ad * ((d.natAbs : Int) + sumA (d' :: ds)) + mv * ((ds.length : Int) + 1)
      rw [Int.mul_add, Int.mul_add, Int.mul_one]
      omega
/-- each option is a path -/
theorem opt_path (hb : 2 ≤ b) {p0 p l t X : Int} (hl : l ≤ min p0 p) (h20 : -20 ≤ l) (hlo : ∀ i, lo = some i → i ≤ l) (hhi : ∀ i, hi = some i → t ≤ i) {o : Opt} (ho : o ∈ optN b X l (max p0 p) (t + 1 - max p0 p).toNat) : Rx b mv ad lo hi (0, p0) (X * b ^ (l + 20).toNat, p) (costM mv ad l p0 p o) := by
  obtain ⟨i, hi', q, hq, rfl⟩ := optN_mem.mp ho
  obtain ⟨ds, h1, h2, h3⟩ := lay_digits hb _ q.1 q.2 hq
  have hne : ds ++ [q.1] ≠ [] := by simp
  obtain ⟨d, es, he⟩ : ∃ d es, ds ++ [q.1] = d :: es := by
    cases ds with
    | nil => exact ⟨q.1, [], rfl⟩
    | cons a r => exact ⟨a, r ++ [q.1], rfl⟩
  have hlen : (es.length : Int) = max p0 p + (i : Int) - l := by
    have := congrArg List.length he
    simp at this
    omega
  have hval : valD b (d :: es) = X := by
    rw [← he, valD_app, h1, ← h2]
    show _ + _ * (q.1 + b * 0) = _
    rw [Int.mul_zero, Int.add_zero]
  have hsum : sumA (d :: es) = q.2 + (q.1.natAbs : Int) := by
    rw [← he, sumA_app, h3]
    show q.2 + ((q.1.natAbs : Int) + 0) = _
    omega
  unfold costM mvsM
  show Rx b mv ad lo hi (0, p0) _ ((q.2 + (q.1.natAbs : Int)) * ad + (2 * (max p0 p + (i : Int) - l) - ((p - p0).natAbs : Int)) * mv)
  have eqc : ∀ x y z : Int, x + y + z = 2 * (max p0 p + (i : Int) - l) - ((p - p0).natAbs : Int) → mv * x + (ad * sumA (d :: es) + mv * y) + mv * z = (q.2 + (q.1.natAbs : Int)) * ad + (2 * (max p0 p + (i : Int) - l) - ((p - p0).natAbs : Int)) * mv := fun x y z h => by
    rw [← h, hsum, Int.mul_comm _ ad, Int.mul_comm _ mv, Int.mul_add mv, Int.mul_add mv]
    omega
  by_cases hp : p0 ≤ p
  · have a1 : Rx b mv ad lo hi (0, p0) (0, l) (mv * ((p0 - l).toNat : Int)) := rx_to (rx_dn (p0 - l).toNat p0 fun j hj => by have := hlo j hj; omega) (by congr 1; omega) rfl
    have a2 := rx_upD (mv := mv) (ad := ad) (lo := lo) (hi := hi) (b := b) es d 0 l h20 fun j hj => by have := hhi j hj; omega
    rw [hval, Int.zero_add] at a2
    have a3 : Rx b mv ad lo hi (X * b ^ (l + 20).toNat, l + (es.length : Int)) (X * b ^ (l + 20).toNat, p) (mv * ((l + (es.length : Int) - p).toNat : Int)) := rx_to (rx_dn (l + (es.length : Int) - p).toNat _ fun j hj => by have := hlo j hj; omega) (by congr 1; omega) rfl
    exact rx_to (rch_app (rch_app a1 a2) a3) rfl (eqc _ _ _ (by omega))
  · have a1 : Rx b mv ad lo hi (0, p0) (0, l + (es.length : Int)) (mv * ((l + (es.length : Int) - p0).toNat : Int)) := rx_to (rx_up (l + (es.length : Int) - p0).toNat p0 fun j hj => by have := hhi j hj; omega) (by congr 1; omega) rfl
    have a2 := rx_dnD (mv := mv) (ad := ad) (lo := lo) (hi := hi) (b := b) es d 0 l h20 hlo
    rw [hval, Int.zero_add] at a2
    have a3 : Rx b mv ad lo hi (X * b ^ (l + 20).toNat, l) (X * b ^ (l + 20).toNat, p) (mv * ((p - l).toNat : Int)) := rx_to (rx_up (p - l).toNat l fun j hj => by have := hhi j hj; omega) (by congr 1; omega) rfl
    exact rx_to (rch_app (rch_app a1 a2) a3) rfl (eqc _ _ _ (by omega))
end
end K27

/-! What the law asks, at one goal: plain. -/
namespace K27
open PySem PySem.Spec PyProof.Rows L2 Evl C8
section
variable {b mv ad : Int} {lo hi : Option Int} {p0 : Int}
theorem rch_num (hb : 2 ≤ b) (hm : 1 ≤ mv) (ha : 1 ≤ ad) (h0' : p0 ≤ 10) {s : Sta} {c : Int} (h : Rch (fun s => nexA b mv ad lo hi s.1 s.2) (0, p0) s c) : c ≤ 6 → (s.1.natAbs : Int) ≤ c * b ^ 36 := by
  induction h with
  | z => exact fun _ => by simp
  | @s x c a hx m ih =>
    intro h6
    obtain ⟨U, p⟩ := x
    have hbp : (0 : Int) < b ^ 36 := Int.pow_pos (by omega)
    have hp := rch_pos hm ha hx
    rcases nex_cases m with ⟨rfl, _⟩ | ⟨rfl, _⟩ | ⟨z, hz, rfl⟩
    · have := ih (by simp at h6; omega)
      simp only at *
      have h1 : c * b ^ 36 ≤ (c + mv) * b ^ 36 := Int.mul_le_mul_of_nonneg_right (by omega) (by omega)
      omega
    · have := ih (by simp at h6; omega)
      simp only at *
      have h1 : c * b ^ 36 ≤ (c + mv) * b ^ 36 := Int.mul_le_mul_of_nonneg_right (by omega) (by omega)
      omega
    · have := ih (by simp at h6; omega)
      have hc0 := rch_nn (nex := fun s => nexA b mv ad lo hi s.1 s.2) (nex_pos hm ha) hx
      simp only at *
      have h1 : (c + 1) * b ^ 36 ≤ (c + ad) * b ^ 36 := Int.mul_le_mul_of_nonneg_right (by omega) (by omega)
      rw [Int.add_mul, Int.one_mul] at h1
      have h2 : b ^ (p + 20).toNat ≤ b ^ 36 := by
        have : (p + 20).toNat ≤ 36 := by omega
        obtain ⟨k, hk⟩ := Nat.exists_eq_add_of_le this
        rw [hk, Int.pow_add]
        have hk0 : (0 : Int) < b ^ k := Int.pow_pos (by omega)
        have hq0 : (0 : Int) < b ^ (p + 20).toNat := Int.pow_pos (by omega)
        have := Int.mul_le_mul_of_nonneg_left (show 1 ≤ b ^ k by omega) (show 0 ≤ b ^ (p + 20).toNat by omega)
        omega
      have h3 : (0 : Int) < b ^ (p + 20).toNat := Int.pow_pos (by omega)
      have h4 : ((z * b ^ (p + 20).toNat).natAbs : Int) = b ^ (p + 20).toNat := by
        rw [Int.natAbs_mul, hz, Nat.one_mul]; omega
      have h5 := tri U (z * b ^ (p + 20).toNat)
      omega
/-- a goal of the law -/
structure GoalOk (b : Int) (lo hi : Option Int) (p0 U n e p : Int) : Prop where
  sc : ScOf b n e U
  ok : StOk b lo hi n e p
  sm : -300 ≤ e ∧ e ≤ 300 ∧ -20 ≤ p ∧ p ≤ 300
theorem goal_ok (hb : 2 ≤ b) (hb16 : b ≤ 16) (hm : 1 ≤ mv) (ha : 1 ≤ ad) (h0 : -10 ≤ p0) (h0' : p0 ≤ 10) (hlo : ∀ i, lo = some i → i ≤ p0) (hhi : ∀ i, hi = some i → p0 ≤ i) {U p n e c : Int} (h : Rch (fun s => nexA b mv ad lo hi s.1 s.2) (0, p0) (U, p) c) (h6 : c ≤ 6) (hr : RedOf b U (-20) n e) : GoalOk b lo hi p0 U n e p := by
  obtain ⟨l', ds, P⟩ := path_sum hm ha h0 hlo hhi h h6
  obtain ⟨l0, l1, k0, k1, lc, c0, hc, val, cost, plo, phi⟩ := P
  simp only at l1 k1 val
  have hU := rch_num hb hm ha h0' h h6
  simp only at hU
  have hbig : b ^ 36 ≤ 16 ^ 36 := by
    have h1 : b.toNat ^ 36 ≤ 16 ^ 36 := Nat.pow_le_pow_left (by omega) 36
    have h2 : b ^ 36 = ((b.toNat ^ 36 : Nat) : Int) := by rw [Int.natCast_pow, Int.toNat_of_nonneg (by omega)]
    have h3 : ((16 ^ 36 : Nat) : Int) = (16 : Int) ^ 36 := by decide
    omega
  have hbig2 : (U.natAbs : Int) < 2 ^ 148 := by
    have h1 : c * b ^ 36 ≤ 6 * b ^ 36 := Int.mul_le_mul_of_nonneg_right h6 (by have : (0 : Int) < b ^ 36 := Int.pow_pos (by omega); omega)
    have h2 : (6 : Int) * 16 ^ 36 < 2 ^ 148 := by decide
    omega
  have hlR : loR lo ≤ p := by
    unfold loR
    cases hlc : lo with
    | none => simp; omega
    | some i => have := plo i hlc; simp; omega
  have hhR : p ≤ hiR hi := by
    unfold hiR
    cases hlc : hi with
    | none => simp; omega
    | some i => have := phi i hlc; simp; omega
  rcases hr with ⟨r1, r2, r3⟩ | ⟨r1, r2, r3, r4, r5⟩
  · subst r2 r3
    exact ⟨.inl ⟨rfl, r1⟩, ⟨⟨fun _ => rfl, fun z => absurd rfl z, by decide, by decide, by decide⟩, hlR, hhR, fun z => absurd rfl z⟩, by omega, by omega, by omega, by omega⟩
  · rw [show e - -20 = e + 20 by omega] at r4
    have hsc : ScOf b n e U := .inr ⟨r2, r5, r3, r4⟩
    have hpp : (0 : Int) < b ^ (e + 20).toNat := Int.pow_pos (by omega)
    have hUn : U.natAbs = n.natAbs * (b ^ (e + 20).toNat).natAbs := by rw [r4]; exact Int.natAbs_mul _ _
    have hn1 : n.natAbs ≤ U.natAbs := by
      rw [hUn]
      have := Nat.mul_le_mul_left n.natAbs (show 1 ≤ (b ^ (e + 20).toNat).natAbs by omega)
      omega
    have hp2 : (b ^ (e + 20).toNat).natAbs ≤ U.natAbs := by
      rw [hUn]
      have := Nat.mul_le_mul_right (b ^ (e + 20).toNat).natAbs (show 1 ≤ n.natAbs by omega)
      omega
    have hUN : U.natAbs < 2 ^ 148 := by omega
    have h2p := two_pow_le hb (e + 20).toNat
    have he : (e + 20).toNat < 148 := (Nat.pow_lt_pow_iff_right (by decide)).mp (Nat.lt_of_le_of_lt (show 2 ^ (e + 20).toNat ≤ U.natAbs by omega) hUN)
    have hle := sc_low hb hsc r2 val (by omega)
    refine ⟨hsc, ⟨⟨fun z => absurd z r2, fun _ => r5, ?_, by omega, by omega⟩, hlR, hhR, fun _ => ?_⟩, by omega, by omega, by omega, by omega⟩
    · have : (2 : Nat) ^ 148 < 2 ^ 600 := by decide +kernel
      omega
    · unfold loR
      cases hlc : lo with
      | none => simp; omega
      | some i => have := plo i hlc; simp; omega
/-- what the search has found -/
structure Found (b mv ad : Int) (lo hi : Option Int) (p0 : Int) (D : List (Sta × Int)) : Prop where
  a : ∀ s c, getS D s = some c → Rch (fun s => nexA b mv ad lo hi s.1 s.2) (0, p0) s c ∧ c ≤ 6
  b : ∀ s c, Rch (fun s => nexA b mv ad lo hi s.1 s.2) (0, p0) s c → c ≤ 6 → ∃ c', getS D s = some c' ∧ c' ≤ c
section
variable {D : List (Sta × Int)} {U p n e c l t : Int}
theorem low_lo (hg : GoalOk b lo hi p0 U n e p) (hS : SpanIs b hi p0 p n e l t) (hlo : ∀ i, lo = some i → i ≤ p0) (h0 : -10 ≤ p0) : -20 ≤ l ∧ ∀ i, lo = some i → i ≤ l := by
  have h1 := hg.ok.lo
  have h2 := hg.ok.ex
  have hp := hg.sm
  obtain ⟨hl, _⟩ := hS
  have he : n ≠ 0 → -20 ≤ e := fun hn => by
    rcases hg.sc with ⟨z, _⟩ | ⟨_, _, z, _⟩
    · exact absurd z hn
    · exact z
  refine ⟨by rw [hl]; exact low_ge (by omega) (by omega) he, fun i hi => ?_⟩
  have h3 : loR lo = i := by rw [hi]; rfl
  rw [h3] at h1 h2
  rw [hl]
  exact low_ge (hlo i hi) h1 h2
theorem top_hi (hS : SpanIs b hi p0 p n e l t) : ∀ i, hi = some i → t ≤ i := fun i hi' => by
  have := hS.2.le
  rw [hi'] at this
  exact this
/-- some option costs no more than what was found -/
theorem found_opt (F : Found b mv ad lo hi p0 D) (hb : 2 ≤ b) (hm : 1 ≤ mv) (ha : 1 ≤ ad) (h0 : -10 ≤ p0) (h0' : p0 ≤ 10) (hlo : ∀ i, lo = some i → i ≤ p0) (hhi : ∀ i, hi = some i → p0 ≤ i) (hg : GoalOk b lo hi p0 U n e p) (hc : getS D (U, p) = some c) (hS : SpanIs b hi p0 p n e l t) :
    ∃ o ∈ optN b (atP b n e l) l (max p0 p) (t + 1 - max p0 p).toNat, costM mv ad l p0 p o ≤ c := by
  obtain ⟨h1, h2⟩ := F.a _ _ hc
  exact path_opt hb hm ha h0 h0' hlo hhi hg.sc hS.1 hS.2 h1 h2
/-- no option costs less -/
theorem opt_found (F : Found b mv ad lo hi p0 D) (hb : 2 ≤ b) (hlo : ∀ i, lo = some i → i ≤ p0) (h0 : -10 ≤ p0) (hg : GoalOk b lo hi p0 U n e p) (hc : getS D (U, p) = some c) (hS : SpanIs b hi p0 p n e l t) :
    ∀ o ∈ optN b (atP b n e l) l (max p0 p) (t + 1 - max p0 p).toNat, c ≤ costM mv ad l p0 p o := by
  intro o ho
  obtain ⟨h20, hll⟩ := low_lo hg hS hlo h0
  have h1 := opt_path (mv := mv) (ad := ad) hb (show l ≤ min p0 p by rw [hS.1]; exact low_le) h20 hll (top_hi hS) ho
  rw [← sc_at hb hg.sc (fun hn => by rw [hS.1]; exact low_le_e hn) h20] at h1
  obtain ⟨_, h6⟩ := F.a _ _ hc
  by_cases hk : costM mv ad l p0 p o ≤ 6
  · obtain ⟨c', h2, h3⟩ := F.b _ _ h1 hk
    rw [hc] at h2
    obtain rfl := Option.some.inj h2
    exact h3
  · omega
theorem least_is (F : Found b mv ad lo hi p0 D) (hb : 2 ≤ b) (hm : 1 ≤ mv) (ha : 1 ≤ ad) (h0 : -10 ≤ p0) (h0' : p0 ≤ 10) (hlo : ∀ i, lo = some i → i ≤ p0) (hhi : ∀ i, hi = some i → p0 ≤ i) (hg : GoalOk b lo hi p0 U n e p) (hc : getS D (U, p) = some c) (hS : SpanIs b hi p0 p n e l t) {m : Int} (hL : LeastOf m (costsN b mv ad p0 p n e l t)) : m = c := by
  obtain ⟨o, ho, h1⟩ := found_opt F hb hm ha h0 h0' hlo hhi hg hc hS
  have h2 := hL.2 _ (List.mem_map.mpr ⟨o, ho, rfl⟩)
  obtain ⟨o', ho', h3⟩ := List.mem_map.mp hL.1
  have h4 := opt_found F hb hlo h0 hg hc hS o' ho'
  omega
/-- a bound above is refused -/
theorem tab_no (F : Found b mv ad lo hi p0 D) (hb : 2 ≤ b) (hm : 1 ≤ mv) (ha : 1 ≤ ad) (h0 : -10 ≤ p0) (h0' : p0 ≤ 10) (hlo : ∀ i, lo = some i → i ≤ p0) (hhi : ∀ i, hi = some i → p0 ≤ i) (hg : GoalOk b lo hi p0 U n e p) (hc : getS D (U, p) = some c) (hS : SpanIs b hi p0 p n e l t) {bd : Int} (hbd : c < bd) (T : List Ent) :
    tabM b mv ad (atP b n e l) ((p - p0).natAbs : Int) bd (t + 1 - l).toNat (max p0 p - l).toNat T = false := by
  cases h : tabM b mv ad (atP b n e l) ((p - p0).natAbs : Int) bd (t + 1 - l).toNat (max p0 p - l).toNat T with
  | false => rfl
  | true =>
    exfalso
    obtain ⟨o, ho, h1⟩ := found_opt F hb hm ha h0 h0' hlo hhi hg hc hS
    have hll : l ≤ min p0 p := by rw [hS.1]; exact low_le
    have := tab_sound hb (show 0 ≤ ad by omega) (show l ≤ max p0 p by omega) hS.2.ge h o ho
    omega
/-- the own table is taken -/
theorem tab_yes (F : Found b mv ad lo hi p0 D) (hb : 2 ≤ b) (ha : 1 ≤ ad) (h0 : -10 ≤ p0) (hlo : ∀ i, lo = some i → i ≤ p0) (hg : GoalOk b lo hi p0 U n e p) (hc : getS D (U, p) = some c) (hS : SpanIs b hi p0 p n e l t) :
    tabM b mv ad (atP b n e l) ((p - p0).natAbs : Int) c (t + 1 - l).toNat (max p0 p - l).toNat (makeT b ad n e l (t + 1 - l).toNat) = true := by
  have hll : l ≤ min p0 p := by rw [hS.1]; exact low_le
  exact make_ok hb (by omega) (fun hn => by rw [hS.1]; exact low_le_e hn) (show l ≤ max p0 p by omega) hS.2.ge (opt_found F hb hlo h0 hg hc hS)
end
end
end K27

/-! Slices and sums of tuples, lists against [], copies. -/
namespace K27
open PySem PySem.Spec PyProof.Rows L2 Evl C8
section
variable {X : Cx} {σ : L2.St} {H : Hp} {a b e i o : Expr} {v : V} {pos p1 p2 : Pos} {j : Nat}
/-- t[lo:hi], not the whole: a new tuple -/
theorem er_slT {lo hi : Option Expr} {l u : Option Int} {t : Addr} {xs : List V} {tl th : TO} (he : EV X e σ H (.ref t)) (hS : SqT X.K H t xs) (pl : PO X lo tl) (pu : PO X hi th) (hl : EvO tl σ H l) (hu : EvO th σ H u)
    (hw : ¬ (HT.sIx xs.length 0 l = 0 ∧ HT.sIx xs.length xs.length u = xs.length)) : EN X (.Subscript e (.Slice lo hi none p2) pos) σ H (.tup (cutV xs l u)) := fun H1 e1 Q q =>
  to_wE (pe_slice sl_tupA pe_w pl pu) (he H1 e1 _ fun H2 e2 => hl H2 (e1.trans e2) _ fun H3 e3 => hu H3 ((e1.trans e2).trans e3) _ fun H4 e4 =>
    ⟨t, xs, rfl, ex_t (((e1.trans e2).trans e3).trans e4) hS, fun z => absurd z hw, fun _ p hp => q p _ (fresh_back ((e2.trans e3).trans e4) hp) (((e2.trans e3).trans e4).trans (Ex.new hp)) upd_same⟩)
/-- t + u, neither empty: a new tuple -/
theorem er_catT {Ra Rb : List V → Prop} (ha : ER X a σ H fun u H1 => ∃ t xs, u = .ref t ∧ SqT X.K H1 t xs ∧ Ra xs) (hb : ER X b σ H fun u H1 => ∃ t xs, u = .ref t ∧ SqT X.K H1 t xs ∧ Rb xs)
    (hl : ∀ xs ys, Ra xs → Rb ys → xs ≠ [] ∧ ys ≠ [] ∧ xs.length + ys.length ≤ 100000) : ER X (.BinOp a .Add b pos) σ H fun u H2 => ∃ p xs ys, u = .ref p ∧ H p = none ∧ H2 p = some (.tup (xs ++ ys)) ∧ Ra xs ∧ Rb ys := fun H1 e1 Q q =>
  to_wE (pe_op op_catA pe_w pe_w) (ha H1 e1 _ fun u H2 e2 ⟨t, xs, eu, hT, r⟩ => hb H2 (e1.trans e2) _ fun u' H3 e3 ⟨t', ys, eu', hT', r'⟩ => by
  subst eu eu'
  obtain ⟨n1, n2, hz⟩ := hl xs ys r r'
  exact ⟨t, t', xs, ys, rfl, rfl, ex_t e3 hT, hT', sz_of hz, fun z => absurd z n1, fun _ z => absurd z n2, fun _ _ p hp => q _ _ ((e2.trans e3).trans (Ex.new hp)) ⟨p, xs, ys, rfl, fresh_back ((e1.trans e2).trans e3) hp, upd_same, r, r'⟩⟩)
/-- [..] * k -/
theorem en_rep {xs : List V} {k : Int} (ha : EN X a σ H (.lst xs)) (hb : EV X b σ H (.int k)) (hk : 0 ≤ k ∧ k ≤ 100) (hl : xs.length ≤ 100) : EN X (.BinOp a .Mult b pos) σ H (.lst (List.replicate k.toNat xs).flatten) := fun H1 e1 Q q =>
  to_wE (pe_op op_rep pe_w pe_w) (ha H1 e1 _ fun t H2 ht e2 h2 => hb H2 (e1.trans e2) _ fun H3 e3 => ⟨t, k, xs, rfl, rfl, e3 _ _ h2, by omega, by omega, sz_of (by
    have h1 := Nat.mul_le_mul hl (show k.toNat ≤ 100 by omega)
    omega), fun p hp => q p _ (fresh_back (e2.trans e3) hp) ((e2.trans e3).trans (Ex.new hp)) upd_same⟩)
theorem lay_ints0 : ∀ ns : List Int, PyData.canLayAll0 (ns.map PyData.int) = true
  | [] => (by simp [PyData.canLayAll0])
  | n :: ns => by
    rw [List.map_cons, PyData.canLayAll0, lay_ints0 ns]
    simp [PyData.canLay0]
theorem depth_ints : ∀ ns : List Int, PyData.depthAll (ns.map PyData.int) = 0
  | [] => (by simp [PyData.depthAll])
  | n :: ns => by
    rw [List.map_cons, PyData.depthAll, depth_ints ns]
    simp [PyData.depth]
theorem lay_ints {ns : List Int} (h : ns.length ≤ 60000) : SeqAt.shaped (.list (ns.map PyData.int)) = true := by
  unfold SeqAt.shaped PyData.canLay0 PyData.depth
  rw [depth_ints, lay_ints0]
  simp
  try omega
theorem dp_ints {K : PySem.W.Frag} {H : Hp} : ∀ ns : List Int, DpAll K H (ns.map V.int) (ns.map PyData.int)
  | [] => .nil
  | n :: ns => .cons (.int n) (dp_ints ns)
theorem eqv_nil (ns : List Int) : PyData.eqv (.list (ns.map PyData.int)) (.list []) = decide (ns = []) := by
  cases ns with
  | nil => simp [PyData.eqv, PyData.eqvAll]
  | cons n ns => simp [PyData.eqv, PyData.eqvAll]
/-- xs == [], xs != [] -/
theorem ev_eqNil {l : Addr} {ns : List Int} (hu : X.A.units + 64 < cLine) (ha : EV X a σ H (.ref l)) (hl : SqL X.K H l (ns.map V.int)) (hn : ns.length ≤ 60000) : EV X (.Compare a [.Eq] [.List [] p1] pos) σ H (.bl (decide (ns = []))) :=
  ev_pe (pe_cmpR (op_eqD hu) pe_w pe_w (nomark _)) fun H1 e1 Q q => ha H1 e1 _ fun H2 e2 => (en_lst ea_nil') H2 (e1.trans e2) _ fun p H3 hp e3 h3 => ⟨.list (ns.map PyData.int), .list [], .lst (ex_l ((e1.trans e2).trans e3) hl) (dp_ints ns), .lst (sq_of h3) .nil, lay_ints hn, by decide, by rw [eqv_nil]; exact q H3 (e2.trans e3)⟩
theorem et_neNil {l : Addr} {ns : List Int} (hu : X.A.units + 64 < cLine) (ha : EV X a σ H (.ref l)) (hl : SqL X.K H l (ns.map V.int)) (hn : ns.length ≤ 60000) : ET X (.Compare a [.NotEq] [.List [] p1] pos) σ H (!decide (ns = [])) :=
  et_pt (pt_cmpR (op_neD hu) pe_w pe_w (nomark _)) (et_test fun H1 e1 Q q => ha H1 e1 _ fun H2 e2 => (en_lst ea_nil') H2 (e1.trans e2) _ fun p H3 hp e3 h3 => ⟨.list (ns.map PyData.int), .list [], .lst (ex_l ((e1.trans e2).trans e3) hl) (dp_ints ns), .lst (sq_of h3) .nil, lay_ints hn, by decide, by rw [eqv_nil]; exact q H3 (e2.trans e3)⟩)
/-- d[k], the key by a property -/
theorem er_dgetT {d : Addr} {kvs : List (List Key × V)} {R : V → Hp → Prop} (ho : EV X o σ H (.ref d)) (hk : ER X i σ H R) (h : H d = some (.dT kvs)) (k : ∀ u H1, Ex H H1 → R u H1 → ∃ (b : Addr) (kk : List Key), u = .ref b ∧ H1 b = some (.tup (kk.map kV)) ∧ valV kvs kk = some v) (hr : Room j X.A) (hs : NoSl i := by exact fun _ _ => rfl) : EV X (.Subscript o i pos) σ H v :=
  ev_pe (pe_dget (hu_of hr) pe_w pe_w hs) fun H1 e1 Q q => ho H1 e1 _ fun H2 e2 => hk H2 (e1.trans e2) _ fun u H3 e3 r => by
    obtain ⟨b, kk, eu, hb, hv⟩ := k u H3 ((e1.trans e2).trans e3) r
    exact ⟨d, v, rfl, by rw [← hv, eu]; exact DGet.t (((e1.trans e2).trans e3) _ _ h) hb, q H3 (e2.trans e3)⟩
end
end K27

/-! The law: its parts. -/
namespace K27
open PySem PySem.Spec PyProof.Rows L2 Evl C8
theorem cut_ints (ns : List Int) (l u : Option Int) : ∃ ms : List Int, cutV (ns.map V.int) l u = ms.map V.int ∧ ms.length ≤ ns.length := by
  unfold cutV
  rw [← List.map_drop, ← List.map_take]
  exact ⟨_, rfl, by rw [List.length_take, List.length_drop]; omega⟩
theorem cut_digs {ds : List Int} (hd : Digs ds) {i : Nat} (h : i ≤ 60) : cutV (ds.map V.int) (some (i : Int)) none = (ds.drop i).map V.int ∧ (ds.drop i).length = 60 - i := by
  rw [cut_from (by rw [List.length_map, hd.1]; exact h), List.map_drop]
  exact ⟨rfl, by rw [List.length_drop, hd.1]⟩
/-- some table -/
def GT1 (H : Hp) (t : Addr) : Prop := ∃ T, IsTab H t T ∧ T.length ≤ 30000
theorem GT1.ex {H H' : Hp} {t : Addr} (e : Ex H H') (h : GT1 H t) : GT1 H' t := let ⟨T, h1, h2⟩ := h; ⟨T, h1.ex e, h2⟩
/-- a list of tables, the first of them T0 -/
def Tabs (H : Hp) (ts : List Addr) (T0 : List Ent) : Prop := ∃ t0 tr, ts = t0 :: tr ∧ IsTab H t0 T0 ∧ T0.length ≤ 30000 ∧ ∀ t ∈ tr, GT1 H t
theorem Tabs.ex {H H' : Hp} {ts : List Addr} {T0 : List Ent} (e : Ex H H') (h : Tabs H ts T0) : Tabs H' ts T0 := let ⟨t0, tr, h1, h2, h3, h4⟩ := h; ⟨t0, tr, h1, h2.ex e, h3, fun t ht => (h4 t ht).ex e⟩
theorem Tabs.app {H : Hp} {ts us : List Addr} {T0 : List Ent} (h : Tabs H ts T0) (h' : ∀ t ∈ us, GT1 H t) : Tabs H (ts ++ us) T0 := by
  obtain ⟨t0, tr, rfl, h2, h3, h4⟩ := h
  refine ⟨t0, tr ++ us, rfl, h2, h3, fun t ht => ?_⟩
  rcases List.mem_append.mp ht with z | z
  · exact h4 t z
  · exact h' t z
theorem Tabs.all {H : Hp} {ts : List Addr} {T0 : List Ent} (h : Tabs H ts T0) : ∀ t ∈ ts, GT1 H t := by
  obtain ⟨t0, tr, rfl, h2, h3, h4⟩ := h
  intro t ht
  rcases List.mem_cons.mp ht with z | z
  · rw [z]; exact ⟨T0, h2, h3⟩
  · exact h4 t z
theorem norm_neg {b n e : Int} (h : Norm b n e) : Norm b (-n) e := by
  obtain ⟨h1, h2, h3, h4, h5⟩ := h
  refine ⟨fun z => h1 (by omega), fun z => ?_, by omega, h4, h5⟩
  intro hz
  have hd : b ∣ n := by
    obtain ⟨k, hk⟩ := Int.dvd_of_emod_eq_zero hz
    exact ⟨-k, by rw [Int.mul_neg]; omega⟩
  exact h2 (by omega) (Int.emod_eq_zero_of_dvd hd)
theorem make_len {b ad n e l : Int} {k : Nat} : (makeT b ad n e l k).length = k := by unfold makeT; simp
/-- a spec of the law -/
structure SpecOk (b mv ad : Int) (lo hi : Option Int) : Prop where
  b2 : 2 ≤ b
  b16 : b ≤ 16
  m1 : 1 ≤ mv
  m2 : mv ≤ 3
  a1 : 1 ≤ ad
  a2 : ad ≤ 3
  li : LimOk lo hi
theorem SpecOk.row {b mv ad : Int} {lo hi : Option Int} (S : SpecOk b mv ad lo hi) : RowOk b mv ad lo hi :=
  ⟨S.b2, by have := S.b16; omega, S.m1, by have := S.m2; omega, S.a1, by have := S.a2; omega, fun i h => by have := S.li.lo0 i h; omega, fun i h => by have := S.li.hi0 i h; omega⟩
theorem SpecOk.ends {b mv ad : Int} {lo hi : Option Int} (S : SpecOk b mv ad lo hi) : ∀ i j, lo = some i → hi = some j → i ≤ j := fun i j h h' => by have := S.li.lo0 i h; have := S.li.hi0 j h'; omega
theorem ef_call {X : Cx} {σ : L2.St} {H : Hp} {e : Expr} {es : List Expr} {pos p1 : Pos} {R : Addr → Hp → Prop} {Ra : List V → Hp → Prop} {k j : Nat} {z : Str} {pre : Pre} (cl : Cal X.prog X.w X.K X.mg X.base k z (spR pre) []) (hr : Room j X.A) (ha : EAR X (e :: es) σ H Ra) (hp : ∀ vs H1, Ex H H1 → Ra vs H1 → pre vs H1 (fun v H' => ∃ p, v = .ref p ∧ H1 p = none ∧ R p H')) (hk : k ≤ j := by decide) (hg : Gl X z := by rfl)
    (hdb : (z == ("__debug__" : Str)) = false := by decide) (he : starEach (e :: es) X.env = (false, eval e X.env) :: starEach es X.env := by rfl) (hpl : (backTo pos (starEach es X.env)).any (·.1) = false := by rfl) : EF X (.Call (.Name z p1) (e :: es) [] pos) σ H R :=
  fun H1 e1 Q q => to_wE (pe_c cl hr hk hg pa_w hdb he hpl) (ha H1 e1 _ fun vs H2 e2 ra => ⟨fun v H' => ∃ p, v = .ref p ∧ H2 p = none ∧ R p H', by rw [List.append_nil]; exact hp vs H2 (e1.trans e2) ra, fun v H3 e3 ⟨p, ev, hn, r⟩ => by rw [ev]; exact q p H3 (fresh_back e2 hn) (e2.trans e3) r⟩)
theorem EF.imp {X : Cx} {σ : L2.St} {H : Hp} {e : Expr} {R R' : Addr → Hp → Prop} (h : EF X e σ H R) (k : ∀ p H1, R p H1 → R' p H1) : EF X e σ H R' := fun H1 e1 Q q => h H1 e1 Q fun p H2 hp e2 r => q p H2 hp e2 (k p H2 r)
theorem rs_gt : Rs fun _ p H => GT1 H p :=
  ⟨fun j p H H' e h => h.ex e, fun j p H D xs ys hD hne ⟨T, ⟨ts, h1, h2⟩, hl⟩ => ⟨T, ⟨ts, by rw [upd_ne hne]; exact h1, TabRel.upd (fun vs z => by rw [hD] at z; cases z) h2⟩, hl⟩, fun j p H ⟨T, ⟨ts, h1, _⟩, _⟩ z => by rw [h1] at z; cases z⟩
theorem given_no (n : Nat) (v : Nat → V) : given n (fun _ => false) v = [] := by
  unfold given
  simp
theorem GoalOk.e20 {b : Int} {lo hi : Option Int} {p0 U n e p : Int} (h : GoalOk b lo hi p0 U n e p) : -20 ≤ e ∧ n * b ^ (e + 20).toNat = U := by
  rcases h.sc with ⟨z, hU⟩ | ⟨_, _, h1, h2⟩
  · have := h.ok.nm.1 z
    exact ⟨by omega, by rw [z, hU, Int.zero_mul]⟩
  · exact ⟨h1, h2.symm⟩
section
variable {base : Heap} {mg : Str → Option Value} {K : PySem.W.Frag} {w : World} {P : Program}
def pr_law (K : PySem.W.Frag) : Pre := fun vs H R => ∃ (a : Addr) (ns : List Int), vs = [.ref a] ∧ SqL K H a (ns.map V.int) ∧ ns.length ≤ 63 ∧ R = fun v _ => v = .bl true
theorem c_law_fn (W : Wd K mg) {fd : FuncData} (F : FunD K "law" "law" (defArgs s_law) (defBody s_law) (defScope s_law) [] [] (He.ga K "law") fd) : FnOk P w K mg base C8.CX0 10 (He.ga K "law") fd ["_law_script"] (spR (pr_law K)) :=
  fnok_mk F sc_law (fun vs H R ⟨_, _, e, _⟩ => by rw [e]; rfl) (by
    rintro cdv A outer s H vs Q E R hr ⟨a, ns, rfl, hS, hnl, rfl⟩ q
    refine bl_forE (er_cat (Ra := fun xs _ => ∃ ms : List Int, xs = ms.map V.int ∧ ms.length ≤ 63) (Rb := fun xs _ => ∃ ms : List Int, xs = ms.map V.int ∧ ms.length ≤ 1)
      ((er_en (en_slL (ev_nm 0 rfl) hS po_none (po_some pe_w) eo_none (eo_some (i := 2) ev_int))).imp fun u H1 _ ⟨l, eu, _, hl⟩ => by
        obtain ⟨ms, e1, e2⟩ := cut_ints ns none (some 2)
        exact ⟨l, _, eu, hl, ms, e1, by omega⟩)
      ((er_en (en_rep (k := if decide (ns = []) then 1 else 0) (en_lst (ea_cons' (v := .int 7) ev_int ea_nil')) (ev_cbT call_int1 W.n_int boot_int (ea_cons' (ev_eqNil hr.units (ev_nm 0 rfl) hS (by omega)) ea_nil') fun H1 e1 Q q => .inr ⟨_, rfl, q H1 (Ex.refl _)⟩) (by split <;> decide) (by decide))).imp fun u H1 _ ⟨l, eu, _, hl⟩ => by
        refine ⟨l, _, eu, hl, ?_⟩
        cases decide (ns = []) with
        | true => exact ⟨[7], rfl, Nat.le_refl _⟩
        | false => exact ⟨[], rfl, Nat.zero_le _⟩)
      (fun xs _ _ _ h => h) (fun xs _ _ _ h => h) (fun xs ys _ ⟨m1, z1, l1⟩ ⟨m2, z2, l2⟩ => by rw [z1, z2, List.length_map, List.length_map]; omega)) W.n_enumerate fun u H1 x1 ⟨l, xs, ys, eu, _, hl, ⟨m1, z1, l1⟩, ⟨m2, z2, l2⟩⟩ => ?_
    subst z1 z2
    rw [← List.map_append] at hl
    have hcl : (m1 ++ m2).length ≤ 64 := by rw [List.length_append]; omega
    generalize m1 ++ m2 = cs at hl hcl
    refine ⟨l, cs.map V.int, fun i σ' H' => ∃ (y1 y2 y3 y4 y5 y6 y7 y8 y9 y10 y11 y12 y13 y14 y15 y16 y17 y18 y19 : Option V), σ' = [some (.ref a), y1, y2, y3, y4, y5, y6, y7, y8, y9, y10, y11, y12, y13, y14, y15, y16, y17, y18, y19] ∧ Ex H1 H', eu, sq_of hl, ⟨none, none, none, none, none, none, none, none, none, none, none, none, none, none, none, none, none, none, none, rfl, Ex.refl _⟩, fun i σ' H' _ ⟨_, _, _, _, _, _, _, _, _, _, _, _, _, _, _, _, _, _, _, _, x2⟩ => sq_of (x2 _ _ hl), ?_, ?_⟩
    · rintro i xv Tt σ' H' hx ⟨y1, y2, y3, y4, y5, y6, y7, y8, y9, y10, y11, y12, y13, y14, y15, y16, y17, y18, y19, rfl, x2⟩ H2 x3 hTt
      rw [List.getElem?_map] at hx
      obtain ⟨c, hc, rfl⟩ := Option.map_eq_some_iff.mp hx
      have hi : i < cs.length := (List.getElem?_eq_some_iff.mp hc).1
      refine ⟨_, gt_tup (st_of hTt) (gts_cons (gt_nm 1 sc_law.nd) (gts_cons (gt_nm 2 sc_law.nd) gts_nil)), ?_⟩
      refine bl_setR 3 sc_law.nd (er_call (c_numbers W) hr (Ra := fun vs H3 => ∃ z, vs = [.int c, .int (2700 + (i : Int)), .ref z] ∧ H3 z = some (.lst (List.replicate 60 (.int 420)))) (ear_cons (er_ev (ev_nm 2 rfl)) fun u1 H3 x4 e1 => ear_cons (er_ev (v := .int (2700 + (i : Int))) (ev_add ev_int (ev_nm 1 rfl))) fun u2 H4 x5 e2 => ear_cons (er_en (en_rep (k := 60) (en_lst (ea_cons' (v := .int 420) ev_int ea_nil')) ev_int (by decide) (by decide))) fun u3 H5 x6 ⟨z, e3, _, hz⟩ => ear_nil fun H6 x7 => ⟨z, by rw [e1, e2, e3], x7 _ _ hz⟩) fun vs H3 x4 ⟨z, ev, hz⟩ => ⟨c, 2700 + (i : Int), z, ev, hz, by omega, by omega, rfl⟩) fun u H3 x4 ⟨dg, ds, eu, hD, hdg⟩ => ?_
      subst eu
      refine bl_setR 4 sc_law.nd (er_call1 (c_spec W) hr (ea_cons' (ev_nm 3 rfl) ea_nil') fun H4 x5 => ⟨dg, ds, rfl, hD, x5 _ _ hdg, rfl⟩) fun u H4 x5 ⟨s0, b, c1, c2, lo, hi', eu, hs0, b2, b16, hli⟩ => ?_
      subst eu
      obtain ⟨d6, g6, _, _⟩ := dig_at hD 6 (by decide)
      obtain ⟨d7, g7, _, _⟩ := dig_at hD 7 (by decide)
      obtain ⟨d8, g8, _, _⟩ := dig_at hD 8 (by decide)
      have hdg4 := x5 _ _ hdg
      refine bl_setR 4 sc_law.nd (er_catT (Ra := fun xs => xs = [.int b, .int (1 + d6 % 2), .int (1 + d7 % 2)]) (Rb := fun xs => xs = [oV lo, oV hi'])
        ((er_catT (Ra := fun xs => xs = [.int b]) (Rb := fun xs => xs = [.int (1 + d6 % 2), .int (1 + d7 % 2)])
          ((er_en (er_slT (ev_nm 4 rfl) (st_of hs0) po_none (po_some pe_w) eo_none (eo_some (i := 1) ev_int) (fun z => absurd z.2 (show ¬ (HT.sIx 5 5 (some 1) = 5) by decide)))).imp fun u H5 _ ⟨p, eu, _, hp⟩ => ⟨p, _, eu, st_of hp, rfl⟩)
          ((er_en (en_tup (ea_cons' (ev_add ev_int (ev_mod (ev_ixL (i := 6) (ev_nm 3 rfl) ev_int (sq_of hdg4) (atI_nat g6)) ev_int (by decide))) (ea_cons' (ev_add ev_int (ev_mod (ev_ixL (i := 7) (ev_nm 3 rfl) ev_int (sq_of hdg4) (atI_nat g7)) ev_int (by decide))) ea_nil')))).imp fun u H5 _ ⟨p, eu, _, hp⟩ => ⟨p, _, eu, st_of hp, rfl⟩)
          (fun xs ys h1 h2 => by rw [h1, h2]; simp)).imp fun u H5 _ ⟨p, xs, ys, eu, _, hp, h1, h2⟩ => ⟨p, _, eu, st_of hp, by rw [h1, h2]; rfl⟩)
        ((er_en (er_slT (ev_nm 4 rfl) (st_of hs0) (po_some pe_w) po_none (eo_some (i := 3) ev_int) eo_none (fun z => absurd z.1 (show ¬ (HT.sIx 5 0 (some 3) = 0) by decide)))).imp fun u H5 _ ⟨p, eu, _, hp⟩ => ⟨p, _, eu, st_of hp, rfl⟩)
        (fun xs ys h1 h2 => by rw [h1, h2]; simp)) fun u H5 x6 ⟨sp, xs, ys, eu, _, hsp, h1, h2⟩ => ?_
      subst eu h1 h2
      have hS : SpecOk b (1 + d6 % 2) (1 + d7 % 2) lo hi' := ⟨b2, b16, by omega, by omega, by omega, by omega, hli⟩
      replace hsp : IsSpec H5 sp b (1 + d6 % 2) (1 + d7 % 2) lo hi' := hsp
      have hm3 : 1 + d6 % 2 ≤ 2 := by omega
      have ha3 : 1 + d7 % 2 ≤ 2 := by omega
      generalize 1 + d6 % 2 = mv at hS hsp hm3
      generalize 1 + d7 % 2 = ad at hS hsp ha3
      refine bl_unp (er_tup (R := fun vs H6 => ∃ x, vs = [.ref x, .int b] ∧ IsRow K H6 x b mv ad lo hi') (ear_cons (er_call1 (c_lrow W) hr (ea_cons' (ev_nm 4 rfl) ea_nil') fun H6 x7 => ⟨sp, b, mv, ad, lo, hi', rfl, x7 _ _ hsp, hS.row, by omega, hS.ends, rfl⟩) fun u H6 x7 ⟨x, eu, hR⟩ => ear_cons (er_ev (v := .int b) (ev_ixT (ev_nm 4 rfl) ev_int (st_of (x7 _ _ hsp)) (i := 0) rfl)) fun u' H7 x8 eu' => ear_nil fun H8 x9 => ⟨x, by rw [eu, eu'], hR.ex (x8.trans x9)⟩) (fun vs H6 ⟨_, z, _⟩ => by rw [z]; simp) fun vs H6 H7 x ⟨r, z, h⟩ => ⟨r, z, h.ex x⟩) fun u H6 x7 ⟨tp, vs, eu, _, htp, rw, ev, hR⟩ => ?_
      subst eu ev
      refine ⟨_, gt_tup (st_of htp) (gts_cons (gt_nm 5 sc_law.nd) (gts_cons (gt_nm 6 sc_law.nd) gts_nil)), ?_⟩
      refine bl_setR 7 sc_law.nd (er_tup (R := fun vs H7 => ∃ q p0, vs = [.ref q, .int p0] ∧ H7 q = some (.tup [.int 0, .int 0]) ∧ lo.getD (-6) ≤ p0 ∧ p0 ≤ hi'.getD 6) (ear_cons (er_en (en_tup (ea_cons' ev_int (ea_cons' ev_int ea_nil')))) fun u H7 x8 ⟨q, eu, _, hq⟩ => ear_cons (er_call1 (c_position W) hr (ea_cons' (ev_nm 4 rfl) (ea_cons' (v := .int d8) (ev_ixL (i := 8) (ev_nm 3 rfl) ev_int (sq_of ((x6.trans (x7.trans x8)) _ _ hdg4)) (atI_nat g8)) ea_nil')) fun H8 x9 => ⟨sp, b, mv, ad, d8, lo, hi', rfl, (x7.trans (x8.trans x9)) _ _ hsp, hli, rfl⟩) fun u' H8 x9 ⟨p0, eu', e1, e2⟩ => ear_nil fun H9 x10 => ⟨q, p0, by rw [eu, eu'], x10 _ _ (x9 _ _ hq), e1, e2⟩) (fun vs H7 ⟨_, _, z, _⟩ => by rw [z]; simp) fun vs H7 H8 x ⟨q, p0, z, h, e⟩ => ⟨q, p0, z, x _ _ h, e⟩) fun u H7 x8 ⟨sa, vs, eu, _, hsa, q0, p0, ev, hq0, hp1, hp2⟩ => ?_
      subst eu ev
      have hst : IsSt H7 sa 0 0 p0 := ⟨q0, hsa, hq0⟩
      have hlo : ∀ i, lo = some i → i ≤ p0 := fun i h => by rw [h] at hp1; exact hp1
      have hhi : ∀ i, hi' = some i → p0 ≤ i := fun i h => by rw [h] at hp2; exact hp2
      have h0 : -10 ≤ p0 := by
        cases hq : lo with
        | none => rw [hq] at hp1; simp at hp1; omega
        | some i => have := hli.lo0 i hq; have := hlo i hq; omega
      have h0' : p0 ≤ 10 := by
        cases hq : hi' with
        | none => rw [hq] at hp2; simp at hp2; omega
        | some i => have := hli.hi0 i hq; have := hhi i hq; omega
      have b6 : b < 2 ^ 6 := by omega
      refine bl_setR 8 sc_law.nd (er_call (c_reach W) hr (Ra := fun vs H8 => ∃ ta, vs = [.ref sp, .ref ta, .int 6] ∧ AtS H8 ta (0, p0)) (ear_cons (er_ev (ev_nm 4 rfl)) fun u1 H8 x9 e1 => ear_cons (er_call1 (c_scaled W) hr (ea_cons' (ev_nm 6 rfl) (ea_cons' (ev_nm 7 rfl) ea_nil')) fun H9 x10 => ⟨b, 0, 0, p0, sa, rfl, hst.ex (x9.trans x10), b2, b6, by decide, by decide, by decide, rfl⟩) fun u2 H9 x10 ⟨ta, e2, hta⟩ => ear_cons (er_ev (v := .int 6) ev_int) fun u3 H10 x11 e3 => ear_nil fun H11 x12 => ⟨ta, by rw [e1, e2, e3], by rw [Int.zero_mul] at hta; exact x12 _ _ (x11 _ _ hta)⟩) fun vs H8 x9 ⟨ta, ev, hta⟩ => ⟨sp, ta, b, mv, ad, lo, hi', (0, p0), ev, (x7.trans (x8.trans x9)) _ _ hsp, hta, b2, b6, hS.m1, hS.a1, h0, h0', rfl⟩) fun u H8 x9 ⟨dc, D, eu, hdc, fa, fb, hDl⟩ => ?_
      subst eu
      have F : Found b mv ad lo hi' p0 D := ⟨fa, fb⟩
      have hDn : 0 < D.length := by
        obtain ⟨c0, g0, _⟩ := fb (0, p0) 0 .z (by decide)
        exact List.length_pos_of_mem (getS_some_mem g0)
      refine bl_setR 9 sc_law.nd (R := fun u H9 => ∃ l9 us, u = .ref l9 ∧ H9 l9 = some (.lst (us.map V.ref)) ∧ us.length = D.length ∧ ∀ u ∈ us, ∃ s ∈ D.map (·.1), AtS H9 u s) (er_cbB (cr_sortD rfl) W.n_sorted PyProof.Rows.boot_sorted (ear_ea (ea_cons' (ev_nm 8 rfl) ea_nil')) fun vs H9 x10 ev Q q => ⟨dc, D.map kvS, D.map (·.1), ev, x10 _ _ hdc, by rw [List.map_map, List.map_map]; rfl, fun p us hp hul hus => q _ _ (Ex.new hp) ⟨p, us, rfl, upd_same, by rw [hul, List.length_map], fun u hu => let ⟨s, h1, h2⟩ := hus u hu; ⟨s, h1, (Ex.new hp) _ _ h2⟩⟩⟩) fun u H9 x10 ⟨l9, us, eu, hl9, hul, hus⟩ => ?_
      subst eu
      refine bl_forR1 (n := 4) (fun j σ' H' => ∃ (y10 y11 y12 y13 y14 y15 y16 y17 y18 y19 : Option V), σ' = [some (.ref a), some (.int (i : Int)), some (.int c), some (.ref dg), some (.ref sp), some (.ref rw), some (.int b), some (.ref sa), some (.ref dc), some (.ref l9), y10, y11, y12, y13, y14, y15, y16, y17, y18, y19] ∧ Ex H9 H') ev_int (by decide) W.n_range ⟨y10, y11, y12, y13, y14, y15, y16, y17, y18, y19, rfl, Ex.refl _⟩ ?_ ?_
      · rintro j σ' H' hj ⟨y10, y11, y12, y13, y14, y15, y16, y17, y18, y19, rfl, z1⟩
        have yst := x8.trans (x9.trans (x10.trans z1))
        have hdg' : H' dg = some (.lst (ds.map V.int)) := (x6.trans (x7.trans yst)) _ _ hdg4
        have hsp' : IsSpec H' sp b mv ad lo hi' := (x7.trans yst) _ _ hsp
        have hR' := hR.ex yst
        have hst' := hst.ex (x9.trans (x10.trans z1))
        have hdc' := (x10.trans z1) _ _ hdc
        have hl9' := z1 _ _ hl9
        refine ⟨_, gt_nm 10 sc_law.nd, ?_⟩
        obtain ⟨dj, gj, dj0, dj1⟩ := dig_at hD (9 + j) (by omega)
        have bm := mod_bd (i := dj * 7 + (j : Int)) (j := (D.length : Int)) (by omega)
        have hix : ((dj * 7 + (j : Int)) % (D.length : Int)).toNat < us.length := by rw [hul]; omega
        obtain ⟨⟨U, p⟩, hsm, hAt⟩ := hus _ (List.getElem_mem hix)
        obtain ⟨c0, hg⟩ := getS_of_mem hsm
        have hat9 : atI (us.map V.ref) ((dj * 7 + (j : Int)) % (D.length : Int)) = some (V.ref us[((dj * 7 + (j : Int)) % (D.length : Int)).toNat]) := by
          have h9 := atI_nat (xs := us.map V.ref) (i := ((dj * 7 + (j : Int)) % (D.length : Int)).toNat) (y := V.ref us[((dj * 7 + (j : Int)) % (D.length : Int)).toNat]) (by rw [List.getElem?_map, List.getElem?_eq_getElem hix]; rfl)
          rw [Int.toNat_of_nonneg bm.1] at h9
          exact h9
        generalize us[((dj * 7 + (j : Int)) % (D.length : Int)).toNat] = tg at hAt hat9
        obtain ⟨hrc, hc6⟩ := F.a _ _ hg
        refine bl_setR 11 sc_law.nd (er_call1 (c_plain W) hr (ea_cons' (ev_nm 6 rfl) (ea_cons' (v := .ref tg) (ev_ixL (ev_nm 9 rfl) (ev_mod (j := (D.length : Int)) (ev_add (ev_mulS (i := dj) (ev_ixL (i := ((9 + j : Nat) : Int)) (ev_nm 3 rfl) (ev_to (ev_add ev_int (ev_nm 10 rfl)) (by congr 1)) (sq_of hdg') (atI_nat gj)) ev_int (.inr ⟨by decide, by decide⟩)) (ev_nm 10 rfl)) (ev_to (ev_cbB (v := .int ((us.map V.ref).length : Nat)) call_len_seq W.n_len boot_len (ea_cons' (ev_nm 9 rfl) ea_nil') (fun H9 x9 Q q => ⟨l9, _, rfl, .inl (sq_of (x9 _ _ hl9')), q H9 (Ex.refl H9)⟩)) (by rw [List.length_map, hul])) (by omega)) (sq_of hl9') hat9) ea_nil')) fun Ha xa => ⟨b, U, p, tg, rfl, (z1.trans xa) _ _ hAt, b2, b6, rfl⟩) fun u Ha xa ⟨go, n, e, eu, hgo, hred⟩ => ?_
        subst eu
        have hG := goal_ok (mv := mv) (ad := ad) b2 b16 hS.m1 hS.a1 h0 h0' hlo hhi hrc hc6 hred
        obtain ⟨he20, hnU⟩ := hG.e20
        have hsm := hG.sm
        have hnm := hG.ok.nm
        have hTwo : Two K Ha rw sa go b mv ad lo hi' p0 p n e := by
          have hn0 : Norm b 0 0 := ⟨fun _ => rfl, fun z => absurd rfl z, by decide, by decide, by decide⟩
          have hl0 : loR lo ≤ p0 := by
            unfold loR
            cases hq : lo with
            | none => simp; omega
            | some i => simp; exact hlo i hq
          have hh0 : p0 ≤ hiR hi' := by
            unfold hiR
            cases hq : hi' with
            | none => simp; omega
            | some i => simp; exact hhi i hq
          exact ⟨hR'.ex xa, ⟨0, 0, n, e, hst'.ex xa, hgo, .inl ⟨rfl, rfl, rfl⟩, ⟨hn0, hl0, hh0, fun z => absurd rfl z⟩, hG.ok⟩, hnm, ⟨hl0, hh0, hG.ok.lo, hG.ok.hi⟩, hG.ok.ex, by omega⟩
        have hTwo2 : Two K Ha rw go sa b mv ad lo hi' p p0 (-n) e := by
          obtain ⟨n0, e0, n1, e1, s1, s2, d, o1, o2⟩ := hTwo.st
          exact ⟨hTwo.row, ⟨n, e, 0, 0, hgo, hst'.ex xa, .inr ⟨rfl, rfl, rfl⟩, hG.ok, ⟨⟨fun _ => rfl, fun z => absurd rfl z, by decide, by decide, by decide⟩, hTwo.lo.1, hTwo.lo.2.1, fun z => absurd rfl z⟩⟩, norm_neg hnm, ⟨hTwo.lo.2.2.1, hTwo.lo.2.2.2, hTwo.lo.1, hTwo.lo.2.1⟩, fun z => hG.ok.ex (by omega), by omega⟩
        refine bl_set (v := .int c0) 12 sc_law.nd (er_dgetT (ev_nm 8 rfl) (er_call1 (c_scaled W) hr (ea_cons' (ev_nm 6 rfl) (ea_cons' (ev_nm 11 rfl) ea_nil')) fun Hb xb => ⟨b, n, e, p, go, rfl, hgo.ex xb, b2, b6, hnm.2.2.1, he20, by omega, rfl⟩) (xa _ _ hdc') (fun u Hb xb ⟨qk, eu, hqk⟩ => ⟨qk, keyS (U, p), eu, by rw [hnU] at hqk; exact hqk, by rw [valV_kvS, hg]; rfl⟩) hr) ?_
        refine bl_unp (er_call1 (c_table_range W) hr (ea_cons' (ev_nm 5 rfl) (ea_cons' (ev_nm 7 rfl) (ea_cons' (ev_nm 11 rfl) ea_nil'))) fun Hb xb => ⟨rw, sa, go, b, mv, ad, lo, hi', p0, p, n, e, rfl, hTwo.exx xb, rfl⟩) fun v Hb xb ⟨l, t, ⟨pp, ev, hpp⟩, hSp⟩ => ?_
        subst ev
        refine ⟨_, gt_tup (st_of hpp) (gts_cons (gt_nm 13 sc_law.nd) (gts_cons (gt_nm 14 sc_law.nd) gts_nil)), ?_⟩
        obtain ⟨s1, s2, s3, s4, s5, s6, s7⟩ := span_bounds hTwo hSp
        have yb := xa.trans xb
        refine bl_setR 15 sc_law.nd (er_call (c_lrow W) hr (Ra := fun vs Hc => ∃ s', vs = [.ref s'] ∧ IsSpec Hc s' b (mv + 1) (ad + 1) lo hi') (ear_cons (er_catT (Ra := fun xs => xs = [.int b, .int (mv + 1), .int (ad + 1)]) (Rb := fun xs => xs = [oV lo, oV hi'])
          ((er_en (en_tup (ea_cons' (ev_nm 6 rfl) (ea_cons' (ev_add (ev_ixT (ev_nm 4 rfl) ev_int (st_of (yb _ _ hsp')) (i := 1) rfl) ev_int) (ea_cons' (ev_add (ev_ixT (ev_nm 4 rfl) ev_int (st_of (yb _ _ hsp')) (i := 2) rfl) ev_int) ea_nil'))))).imp fun u Hc _ ⟨p, eu, _, hp⟩ => ⟨p, _, eu, st_of hp, rfl⟩)
          ((er_en (er_slT (ev_nm 4 rfl) (st_of (yb _ _ hsp')) (po_some pe_w) po_none (eo_some (i := 3) ev_int) eo_none (fun z => absurd z.1 (show ¬ (HT.sIx 5 0 (some 3) = 0) by decide)))).imp fun u Hc _ ⟨p, eu, _, hp⟩ => ⟨p, _, eu, st_of hp, rfl⟩)
          (fun xs ys h1 h2 => by rw [h1, h2]; simp)) fun u Hc xc ⟨s', xs, ys, eu, _, hs', h1, h2⟩ => ear_nil fun Hd xd => ⟨s', by rw [eu], by rw [h1, h2] at hs'; exact xd _ _ hs'⟩) fun vs Hc xc ⟨s', ev, hs'⟩ => ⟨s', b, mv + 1, ad + 1, lo, hi', ev, hs', ⟨b2, by omega, by have := hS.m1; omega, by omega, by have := hS.a1; omega, by omega, hS.row.fi0, hS.row.la0⟩, by omega, hS.ends, rfl⟩) fun u Hc xc ⟨dr, eu, hdr⟩ => ?_
        subst eu
        have hTc := hTwo.exx (xb.trans xc)
        have hTc2 := hTwo2.exx (xb.trans xc)
        have hTc3 : Two K Hc dr sa go b (mv + 1) (ad + 1) lo hi' p0 p n e := ⟨hdr, hTc.st, hTc.nm, hTc.lo, hTc.ex, hTc.sm⟩
        have hkl : (t + 1 - l).toNat ≤ 30000 := by omega
        have bnd : ∀ {la : Option Int} {r a a' : Addr} {b mv ad : Int} {fi : Option Int} {p p' n e l t : Int} {H : Hp}, Two K H r a a' b mv ad fi la p p' n e → SpanIs b la p p' n e l t → (t + 1 - l).toNat ≤ 30000 := fun T S => by
          obtain ⟨c1, c2, c3, _⟩ := span_bounds T S
          omega
        refine bl_setR 16 sc_law.nd (R := fun u Hd => ∃ lt ts, u = .ref lt ∧ Hd lt = some (.lst (ts.map V.ref)) ∧ Tabs Hd ts (makeT b ad n e l (t + 1 - l).toNat) ∧ ts.length ≤ 3) ((er_lst (R := fun vs Hd => ∃ ts : List Addr, vs = ts.map V.ref ∧ Tabs Hd ts (makeT b ad n e l (t + 1 - l).toNat) ∧ ts.length ≤ 3)
          (ear_cons (er_call1 (c_make_table W) hr (ea_cons' (ev_nm 5 rfl) (ea_cons' (ev_nm 7 rfl) (ea_cons' (ev_nm 11 rfl) ea_nil'))) fun Hd xd => ⟨rw, sa, go, b, mv, ad, lo, hi', p0, p, n, e, rfl, hTc.exx xd, rfl⟩) fun u1 Hd xd ⟨t1, l1, tt1, e1, sp1, tb1⟩ =>
          ear_cons (er_call1 (c_make_table W) hr (ea_cons' (ev_nm 15 rfl) (ea_cons' (ev_nm 7 rfl) (ea_cons' (ev_nm 11 rfl) ea_nil'))) fun He xe => ⟨dr, sa, go, b, mv + 1, ad + 1, lo, hi', p0, p, n, e, rfl, hTc3.exx (xd.trans xe), rfl⟩) fun u2 He xe ⟨t2, l2, tt2, e2, sp2, tb2⟩ =>
          ear_cons (er_call1 (c_make_table W) hr (ea_cons' (ev_nm 5 rfl) (ea_cons' (ev_nm 11 rfl) (ea_cons' (ev_nm 7 rfl) ea_nil'))) fun Hf xf => ⟨rw, go, sa, b, mv, ad, lo, hi', p, p0, -n, e, rfl, hTc2.exx (xd.trans (xe.trans xf)), rfl⟩) fun u3 Hf xf ⟨t3, l3, tt3, e3, sp3, tb3⟩ => ear_nil fun Hg xg => by
            obtain ⟨q1, q2⟩ := span_uniq hSp sp1
            subst q1 q2
            refine ⟨[t1, t2, t3], by rw [e1, e2, e3]; rfl, ⟨t1, [t2, t3], rfl, tb1.ex (xe.trans (xf.trans xg)), by rw [make_len]; exact hkl, fun tx htx => ?_⟩, Nat.le_refl _⟩
            simp only [List.mem_cons, List.not_mem_nil, or_false] at htx
            rcases htx with z | z
            · rw [z]; exact ⟨_, tb2.ex (xf.trans xg), by rw [make_len]; exact bnd hTc3 sp2⟩
            · rw [z]; exact ⟨_, tb3.ex xg, by rw [make_len]; exact bnd hTc2 sp3⟩)
          (fun vs Hd ⟨ts, z, _, hl⟩ => by rw [z, List.length_map]; omega) fun vs Hd He x ⟨ts, z, h, hl⟩ => ⟨ts, z, h.ex x, hl⟩).imp fun u Hd _ ⟨lt, vs, eu, _, hlt, ts, z, h, hl⟩ => ⟨lt, ts, eu, by rw [hlt, z], h, hl⟩) fun u Hd xd ⟨lt, ts, eu, hlt, hts, htl⟩ => ?_
        subst eu
        have yd := yb.trans (xc.trans xd)
        have hdgd := yd _ _ hdg'
        obtain ⟨g13, l13⟩ := cut_digs hD (i := 13) (by decide)
        obtain ⟨g17, l17⟩ := cut_digs hD (i := 17) (by decide)
        obtain ⟨g20, l20⟩ := cut_digs hD (i := 20) (by decide)
        have hmny : (t - l + 1 : Int) = (((t + 1 - l).toNat : Nat) : Int) := by omega
        refine bl_setR 16 sc_law.nd (R := fun u He => ∃ lt ts, u = .ref lt ∧ He lt = some (.lst (ts.map V.ref)) ∧ Tabs He ts (makeT b ad n e l (t + 1 - l).toNat) ∧ ts.length ≤ 5) ((er_cat (Ra := fun xs He => ∃ ts : List Addr, xs = ts.map V.ref ∧ Tabs He ts (makeT b ad n e l (t + 1 - l).toNat) ∧ ts.length ≤ 3) (Rb := fun xs He => ∃ us : List Addr, xs = us.map V.ref ∧ (∀ u ∈ us, GT1 He u) ∧ us.length ≤ 2)
          ((er_ev (ev_nm 16 rfl)).imp fun u He xe eu => ⟨lt, _, eu, xe _ _ hlt, ts, rfl, hts.ex xe, htl⟩)
          ((er_lst (R := fun vs He => ∃ us : List Addr, vs = us.map V.ref ∧ (∀ u ∈ us, GT1 He u) ∧ us.length ≤ 2)
            (ear_cons (er_call (c_written W) hr (Ra := fun vs He => ∃ z, vs = [.ref z, .int (((t + 1 - l).toNat : Nat) : Int)] ∧ He z = some (.lst ((ds.drop 13).map V.int))) (ear_cons (er_en (en_slL (ev_nm 3 rfl) (sq_of hdgd) (po_some pe_w) po_none (eo_some (i := ((13 : Nat) : Int)) ev_int) eo_none)) fun u1 He xe ⟨z, e1, _, hz⟩ => ear_cons (er_ev (v := .int (((t + 1 - l).toNat : Nat) : Int)) (ev_to (ev_add (ev_sub (ev_nm 14 rfl) (ev_nm 13 rfl)) ev_int) (by rw [hmny]))) fun u2 Hf xf e2 => ear_nil fun Hg xg => ⟨z, by rw [e1, e2], by rw [g13] at hz; exact xg _ _ (xf _ _ hz)⟩) fun vs He xe ⟨z, ev, hz⟩ => ⟨z, _, _, ev, hz, by rw [l13]; decide, by omega, by omega, rfl⟩) fun u1 He xe ⟨w1, T1, e1, hw1, hl1⟩ =>
             ear_cons (er_call (c_written W) hr (Ra := fun vs He => ∃ z, vs = [.ref z, .int (((t + 1 - l).toNat : Nat) : Int)] ∧ He z = some (.lst ((ds.drop 17).map V.int))) (ear_cons (er_en (en_slL (ev_nm 3 rfl) (sq_of (xe _ _ hdgd)) (po_some pe_w) po_none (eo_some (i := ((17 : Nat) : Int)) ev_int) eo_none)) fun u1 He xe ⟨z, e1, _, hz⟩ => ear_cons (er_ev (v := .int (((t + 1 - l).toNat : Nat) : Int)) (ev_to (ev_add (ev_sub (ev_nm 14 rfl) (ev_nm 13 rfl)) ev_int) (by rw [hmny]))) fun u2 Hf xf e2 => ear_nil fun Hg xg => ⟨z, by rw [e1, e2], by rw [g17] at hz; exact xg _ _ (xf _ _ hz)⟩) fun vs He xe ⟨z, ev, hz⟩ => ⟨z, _, _, ev, hz, by rw [l17]; decide, by omega, by omega, rfl⟩) fun u2 Hf xf ⟨w2, T2, e2, hw2, hl2⟩ => ear_nil fun Hg xg => ⟨[w1, w2], by rw [e1, e2]; rfl, fun u hu => by
              simp only [List.mem_cons, List.not_mem_nil, or_false] at hu
              rcases hu with z | z
              · rw [z]; exact ⟨T1, hw1.ex (xf.trans xg), by omega⟩
              · rw [z]; exact ⟨T2, hw2.ex xg, by omega⟩, Nat.le_refl _⟩)
            (fun vs He ⟨us, z, _, hl⟩ => by rw [z, List.length_map]; omega) fun vs He Hf x ⟨us, z, h, hl⟩ => ⟨us, z, fun u hu => (h u hu).ex x, hl⟩).imp fun u He _ ⟨l2, vs, eu, _, hl2, r⟩ => ⟨l2, vs, eu, hl2, r⟩)
          (fun xs He Hf x ⟨ts, z, h, hl⟩ => ⟨ts, z, h.ex x, hl⟩) (fun xs He Hf x ⟨us, z, h, hl⟩ => ⟨us, z, fun u hu => (h u hu).ex x, hl⟩) (fun xs ys He ⟨ts, z, _, hl⟩ ⟨us, z', _, hl'⟩ => by rw [z, z', List.length_map, List.length_map]; omega)).imp fun u He _ ⟨p, xs, ys, eu, _, hp, ⟨ts, z, h, hl⟩, us, z', h', hl'⟩ => ⟨p, ts ++ us, eu, by rw [hp, z, z', List.map_append], h.app h', by rw [List.length_append]; omega⟩) fun u He xe ⟨lt2, ts2, eu, hlt2, hts2, htl2⟩ => ?_
        subst eu
        have ye := yd.trans xe
        have hdge := ye _ _ hdg'
        refine bl_setR 16 sc_law.nd (R := fun u Hf => ∃ lt ts, u = .ref lt ∧ Hf lt = some (.lst (ts.map V.ref)) ∧ Tabs Hf ts (makeT b ad n e l (t + 1 - l).toNat) ∧ ts.length ≤ 10) ((er_cat (Ra := fun xs Hf => ∃ ts : List Addr, xs = ts.map V.ref ∧ Tabs Hf ts (makeT b ad n e l (t + 1 - l).toNat) ∧ ts.length ≤ 5) (Rb := fun xs Hf => ∃ us : List Addr, xs = us.map V.ref ∧ (∀ u ∈ us, GT1 Hf u) ∧ us.length ≤ 5)
          ((er_ev (ev_nm 16 rfl)).imp fun u Hf xf eu => ⟨lt2, _, eu, xf _ _ hlt2, ts2, rfl, hts2.ex xf, htl2⟩)
          ((er_lcLF (i := 17) (xs := ts2.map V.ref) (fun _ p H => GT1 H p) rs_gt ((er_ev (ev_nm 16 rfl)).imp fun u Hf xf eu => ⟨lt2, eu, sq_of (xf _ _ hlt2)⟩) (by rw [List.length_map]; omega) sc_law.nd (fun jx x Hf xf hx _ _ _ _ _ => by
            rw [List.getElem?_map] at hx
            obtain ⟨tx, htx, rfl⟩ := Option.map_eq_some_iff.mp hx
            obtain ⟨Tx, hTx, hTxl⟩ := hts2.all tx (List.mem_of_getElem? htx)
            refine EF.imp (R := fun p H => ∃ T', IsTab H p T' ∧ T'.length = Tx.length) ?_ fun p H1 ⟨T', h1, h2⟩ => ⟨T', h1, by omega⟩
            exact ef_call (c_lowered W) hr (Ra := fun vs Hg => ∃ z, vs = [.ref tx, .ref z] ∧ Hg z = some (.lst ((ds.drop 20).map V.int))) (ear_cons (er_ev (ev_nm 17 rfl)) fun u1 Hg xg e1 => ear_cons (er_en (en_slL (ev_nm 3 rfl) (sq_of ((xf.trans xg) _ _ hdge)) (po_some pe_w) po_none (eo_some (i := ((20 : Nat) : Int)) ev_int) eo_none)) fun u2 Hh xh ⟨z, e2, _, hz⟩ => ear_nil fun Hi xi => ⟨z, by rw [e1, e2], by rw [g20] at hz; exact xi _ _ hz⟩) fun vs Hg xg ⟨z, ev, hz⟩ => ⟨tx, z, Tx, _, ev, hTx.ex (xf.trans xg), hTxl, hz, by rw [l20]; decide, rfl⟩)).imp fun u Hf _ ⟨Pp, bs, eu, _, hP, hl, hb, _⟩ => ⟨Pp, _, eu, hP, bs, rfl, fun u hu => by
              obtain ⟨jx, hjx⟩ := List.mem_iff_getElem?.mp hu
              exact (hb jx u hjx).1, by rw [hl, List.length_map]; exact htl2⟩)
          (fun xs Hf Hg x ⟨ts, z, h, hl⟩ => ⟨ts, z, h.ex x, hl⟩) (fun xs Hf Hg x ⟨us, z, h, hl⟩ => ⟨us, z, fun u hu => (h u hu).ex x, hl⟩) (fun xs ys Hf ⟨ts, z, _, hl⟩ ⟨us, z', _, hl'⟩ => by rw [z, z', List.length_map, List.length_map]; omega)).imp fun u Hf _ ⟨p, xs, ys, eu, _, hp, ⟨ts, z, h, hl⟩, us, z', h', hl'⟩ => ⟨p, ts ++ us, eu, by rw [hp, z, z', List.map_append], h.app h', by rw [List.length_append]; omega⟩) fun u Hf xf ⟨lt3, ts3, eu, hlt3, hts3, htl3⟩ => ?_
        subst eu
        have hTf := hTc.exx (xd.trans (xe.trans xf))
        have hchk : ∀ {bd : Int} {Hg : Hp} {tb : Addr} {T : List Ent}, Two K Hg rw sa go b mv ad lo hi' p0 p n e → IsTab Hg tb T → T.length ≤ 30000 → pr_check K [.ref rw, .ref sa, .ref go, .int bd, .ref tb] Hg (fun u _ => ∃ l t, SpanIs b hi' p0 p n e l t ∧ u = .bl (tabM b mv ad (atP b n e l) ((p - p0).natAbs : Int) bd (t + 1 - l).toNat (max p0 p - l).toNat T)) := fun T1 T2 T3 => ⟨rw, sa, go, _, b, mv, ad, lo, hi', p0, p, n, e, _, _, rfl, T1, T2, T3, rfl⟩
        refine bl_forL (er_ev (ev_nm 16 rfl)) fun u Hg xg eu => ?_
        subst eu
        refine ⟨lt3, ts3.map V.ref, fun k σ' H' => ∃ (y17 y18 y19 : Option V), σ' = [some (.ref a), some (.int (i : Int)), some (.int c), some (.ref dg), some (.ref sp), some (.ref rw), some (.int b), some (.ref sa), some (.ref dc), some (.ref l9), some (.int (j : Int)), some (.ref go), some (.int c0), some (.int l), some (.int t), some (.ref dr), some (.ref lt3), y17, y18, y19] ∧ Ex Hf H', rfl, sq_of (xg _ _ hlt3), ⟨_, _, _, rfl, xg⟩, fun k σ' H' _ ⟨_, _, _, _, x⟩ => sq_of (x _ _ hlt3), ?_, ?_⟩
        · rintro k x σ' H' hx ⟨y17, y18, y19, rfl, xh⟩
          rw [List.getElem?_map] at hx
          obtain ⟨tb, htb, rfl⟩ := Option.map_eq_some_iff.mp hx
          obtain ⟨Tb, hTb, hTbl⟩ := hts3.all tb (List.mem_of_getElem? htb)
          refine ⟨_, gt_nm 17 sc_law.nd, ?_⟩
          refine bl_setLcR2 (k := 18) (i := 19) (l := c0 + 1) (n := c0 + 9) (fun _ => false) (fun _ => .non) (ev_add (ev_nm 12 rfl) ev_int) (ev_add (ev_nm 12 rfl) ev_int) (by have := rch_nn (nex := fun s => nexA b mv ad lo hi' s.1 s.2) (nex_pos hS.m1 hS.a1) hrc; omega) W.n_range sc_law.nd pb_if (fun jj Hh xi hlt => etb fun _ _ _ _ _ => et_val (ev_er (ER.imp (er_call1 (c_check_table W) hr (ea_cons' (ev_nm 5 rfl) (ea_cons' (ev_nm 7 rfl) (ea_cons' (ev_nm 11 rfl) (ea_cons' (ev_nm 19 rfl) (ea_cons' (ev_nm 17 rfl) ea_nil'))))) fun Hi xj => hchk (hTf.exx (xh.trans (xi.trans xj))) (hTb.ex (xh.trans (xi.trans xj))) hTbl) fun v Hi xj ⟨l', t', hS', ev⟩ => by
            rw [ev, tab_no F b2 hS.m1 hS.a1 h0 h0' hlo hhi hG hg hS' (show c0 < c0 + 1 + (jj : Int) by omega) Tb]))) (fun jj Hh xi hlt hf => nomatch hf) fun gp Hh hgp xi hgood => ?_
          rw [given_no] at hgood
          exact bl_when (k := false) (et_to (et_neNil (ns := []) hr.units (ev_nm 18 rfl) (sq_of hgood) (by decide)) rfl) (fun z => nomatch z) fun _ => bl_nil rfl ⟨_, _, _, rfl, xh.trans xi⟩
        · rintro σ' H' ⟨y17, y18, y19, rfl, xh⟩
          obtain ⟨t0, tr, rfl, hT0, hT0l, _⟩ := hts3
          refine bl_when (k := false) (et_to (et_ew (ew_or (k := false) (l := false) (et_to (et_not (k := true) (et_val (ev_er (ER.imp (er_call1 (c_check_table W) hr (ea_cons' (ev_nm 5 rfl) (ea_cons' (ev_nm 7 rfl) (ea_cons' (ev_nm 11 rfl) (ea_cons' (ev_nm 12 rfl) (ea_cons' (v := .ref t0) (ev_ixL (i := ((0 : Nat) : Int)) (ev_nm 16 rfl) ev_int (sq_of (xh _ _ hlt3)) (atI_nat (i := 0) (xs := (t0 :: tr).map V.ref) rfl)) ea_nil'))))) fun Hi xj => hchk (hTf.exx (xh.trans xj)) (hT0.ex (xh.trans xj)) hT0l) fun v Hi xj ⟨l', t', hS', ev⟩ => by
            obtain ⟨q1, q2⟩ := span_uniq hSp hS'
            subst q1 q2
            rw [ev, tab_yes F b2 hS.a1 h0 hlo hG hg hSp])))) rfl) fun _ => ew_or1 (et_to (et_neI (i := c0) (j := c0) (ev_er (ER.imp (er_call1 (c_distance W) hr (ea_cons' (ev_nm 5 rfl) (ea_cons' (ev_nm 7 rfl) (ea_cons' (ev_nm 11 rfl) ea_nil'))) fun Hi xj => ⟨rw, sa, go, b, mv, ad, lo, hi', p0, p, n, e, rfl, hTf.exx (xh.trans xj), rfl⟩) fun v Hi xj ⟨m, l', t', ev, hS', hL⟩ => by
            rw [ev, least_is F b2 hS.m1 hS.a1 h0 h0' hlo hhi hG hg hS' hL])) (ev_nm 12 rfl)) (by simp)))) rfl) (fun z => nomatch z) fun _ => ?_
          exact bl_nil rfl ⟨_, _, _, _, _, _, _, _, _, _, rfl, z1.trans (ye.trans (xf.trans xh))⟩
      · rintro σ' H' ⟨y10, y11, y12, y13, y14, y15, y16, y17, y18, y19, rfl, z1⟩
        exact bl_nil rfl ⟨_, _, _, _, _, _, _, _, _, _, _, _, _, _, _, _, _, _, _, rfl, x2.trans (x3.trans (x4.trans (x5.trans (x6.trans (x7.trans (x8.trans (x9.trans (x10.trans z1))))))))⟩
    · rintro σ' H' ⟨y1, y2, y3, y4, y5, y6, y7, y8, y9, y10, y11, y12, y13, y14, y15, y16, y17, y18, y19, rfl, x2⟩
      exact bl_ret (v := .bl true) ev_bl fun H3 x3 => q _ H3 (x1.trans (x2.trans x3)) rfl)
end
end K27

/-! The end. -/
open PySem PySem.Calls PySem.W PyProof.Rows
theorem PySem.Challenge.cw_abacushead_k27_whole_tables_are_sound_holds : PySem.Challenge.rw_abacushead_k27_whole_tables_are_sound.Holds := by
  w_on; o_law
  refine HandSHeadRun.head_any (r := OpenLaw.row PySem.Challenge.rw_abacushead_k27_whole_tables_are_sound) (q := view (OpenLaw.row PySem.Challenge.rw_abacushead_k27_whole_tables_are_sound).prog [59]) (H := K27.hk) (ob := K27.ob) (M := 4000) (loose := K27.loose) (d := HandSHeadRun.topDef (OpenLaw.row PySem.Challenge.rw_abacushead_k27_whole_tables_are_sound).prog 59) (kwd := []) K27.ob_eq (by kernel_rfl) (fun s => by kernel_rfl) K27.run (by kernel_rfl) (by kernel_rfl) (by kernel_rfl) (by rfl) (by first | assumption | decide +kernel) (by decide +kernel) ⟨rfl, rfl, rfl, rfl, rfl, by decide +kernel⟩ ?own ?walk
  case own => w_witness2
  case walk =>
    refine L2.walk_ofE (l := PySem.Challenge.rw_abacushead_k27_whole_tables_are_sound) (n := 63) (k := 10) (x := "_law_script") (CX := C8.CX0) rfl (by decide) (by kernel_rfl) ⟨rfl, by decide, by decide⟩ (fun w mg fa h ⟨K, KX, c⟩ G hm0 => ?_) fun _ _ _ _ z => z
    have hm : mg ("law" : PySem.Str) = some (.ref fa) := by
      rw [← show (HandSHeadRun.topDef (OpenLaw.row PySem.Challenge.rw_abacushead_k27_whole_tables_are_sound).prog 59).name = ("law" : PySem.Str) by kernel_rfl]
      exact hm0
    have W : K27.Wd K mg := ⟨c, h, KX, G⟩
    obtain ⟨fd, F, _⟩ := W.F_law
    have e := hm.symm.trans W.g_law
    cases e
    have b := L2.FunD.bindsA (ps := ["_law_script"]) F fun _ _ _ _ _ _ us hl => match us, hl with
      | [_], _ => rfl
    exact ⟨K, fd, K27.spR (K27.pr_law K), KX, fun s v => b s [v] rfl, fun H a ns hl _ hS => ⟨_, ⟨a, ns, rfl, hS, hl, rfl⟩, fun v H' _ z => z⟩, fun base _ _ => K27.c_law_fn W F⟩
