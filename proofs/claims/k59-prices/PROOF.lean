import PyProof.Rows.All
import Wide.All
import OpenK.AllK
import Wide.FinOn
import HandS.ForMost
import HandS.IsInst
import HandS.DictComp
import HandS.TupAny
import HandS.Style
import HandS.More
import HandS.Conv
import HandS.TupLen
import HandS.Finally
import HandS.ListItems
import HandS.WideBits
import HandS.Evl
import HandS.Set
import HandS.DeepEq
import PySem.Challenge.RW_elderlink_k59_whole_least_and_greatest_p
import PyProof.Rows.TupDisplay
import KE.GoesMore
import KE.GoesEnum
import HandS.Zip
import KE.KEqNest
import HandS.Strs
import HandS.SetFor
import HandS.DictTup
import KE.KDictWalk
import KE.KDictSum
import KE.SortData
import KE.DataMinMax
set_option Elab.async false
set_option linter.all false
set_option maxRecDepth 100000
set_option maxHeartbeats 4000000
/-! W0: the text by places, the slots, what the top leaves. -/
namespace K59
open PySem L2
def topS (i : Nat) : Stmt := PySem.Challenge.pw_elderlink_k59_whole_least_and_greatest_p.main.body.getD i (.Pass ⟨0, 0, 0, 0⟩)
abbrev s_is_name : Stmt := topS 10
abbrev s_is_count : Stmt := topS 11
abbrev s_are_names : Stmt := topS 12
abbrev s_Asker_init : Stmt := inClass (topS 13) 0
abbrev s_check_line : Stmt := topS 14
abbrev s_is_stock : Stmt := topS 15
abbrev s_check_stock : Stmt := topS 16
abbrev s_Line_init : Stmt := inClass (topS 17) 0
abbrev s_is_whole : Stmt := topS 21
abbrev s_places_of : Stmt := topS 22
abbrev s_check_worths : Stmt := topS 23
abbrev s_Market_init : Stmt := inClass (topS 24) 0
abbrev s_Market_worth : Stmt := inClass (topS 24) 1
abbrev s_Market_held_by : Stmt := inClass (topS 24) 2
abbrev s_Market_has_room : Stmt := inClass (topS 24) 3
abbrev s_Market_ways : Stmt := inClass (topS 24) 4
abbrev s_Market_improve : Stmt := inClass (topS 24) 5
abbrev s_Market_hand_on : Stmt := inClass (topS 24) 6
abbrev s_Market_fill : Stmt := inClass (topS 24) 7
abbrev s_Market_hand_back : Stmt := inClass (topS 24) 10
abbrev s_Market_least : Stmt := inClass (topS 24) 11
abbrev s_Market_over : Stmt := inClass (topS 24) 12
abbrev s_Market_greatest : Stmt := inClass (topS 24) 13
abbrev s_Market_priced : Stmt := inClass (topS 24) 14
abbrev s_market_of : Stmt := topS 25
abbrev s_least_prices : Stmt := topS 26
abbrev s_greatest_prices : Stmt := topS 27
abbrev s_prices : Stmt := topS 28
abbrev s_L_purse : Stmt := topS 30
abbrev s_L_mixed : Stmt := topS 31
abbrev s_L_draw : Stmt := topS 32
abbrev s_L_purses : Stmt := topS 33
abbrev s_L_one_of : Stmt := topS 34
abbrev s_L_shuffled : Stmt := topS 35
abbrev s_L_word : Stmt := topS 36
abbrev s_L_names : Stmt := topS 37
abbrev s_L_kinds : Stmt := topS 38
abbrev s_L_rows : Stmt := topS 39
abbrev s_L_line_of : Stmt := topS 40
abbrev s_L_here : Stmt := topS 41
abbrev s_L_worths : Stmt := topS 42
abbrev s_L_chain : Stmt := topS 43
abbrev s_L_ways : Stmt := topS 44
abbrev s_L_brought : Stmt := topS 45
abbrev s_L_best : Stmt := topS 46
abbrev s_L_any : Stmt := topS 47
abbrev s_L_kinds_in : Stmt := topS 48
abbrev s_L_over : Stmt := topS 49
abbrev s_L_with : Stmt := topS 50
abbrev s_L_all_prices : Stmt := topS 51
abbrev s_L_sum : Stmt := topS 52
abbrev s_L_ends_right : Stmt := topS 53
abbrev s_L_without : Stmt := topS 54
abbrev s_L_altered : Stmt := topS 55
abbrev s_L_again_right : Stmt := topS 56
abbrev s_L_fits : Stmt := topS 57
abbrev s_law : Stmt := topS 58
theorem sc_is_name : FnScope ["value", "sign"] ["value"] (defScope s_is_name) := ⟨rfl, rfl, rfl, by decide +kernel, rfl, by decide +kernel, by decide +kernel⟩
theorem sc_is_count : FnScope ["value"] ["value"] (defScope s_is_count) := ⟨rfl, rfl, rfl, by decide +kernel, rfl, by decide +kernel, by decide +kernel⟩
theorem sc_are_names : FnScope ["value", "one"] ["value"] (defScope s_are_names) := ⟨rfl, rfl, rfl, by decide +kernel, rfl, by decide +kernel, by decide +kernel⟩
theorem sc_Asker_init : FnScope ["self", "name", "fits", "most"] ["self", "name", "fits", "most"] (defScope s_Asker_init) := ⟨rfl, rfl, rfl, by decide +kernel, rfl, by decide +kernel, by decide +kernel⟩
theorem sc_check_line : FnScope ["value"] ["value"] (defScope s_check_line) := ⟨rfl, rfl, rfl, by decide +kernel, rfl, by decide +kernel, by decide +kernel⟩
theorem sc_is_stock : FnScope ["value", "kind"] ["value"] (defScope s_is_stock) := ⟨rfl, rfl, rfl, by decide +kernel, rfl, by decide +kernel, by decide +kernel⟩
theorem sc_check_stock : FnScope ["value"] ["value"] (defScope s_check_stock) := ⟨rfl, rfl, rfl, by decide +kernel, rfl, by decide +kernel, by decide +kernel⟩
theorem sc_Line_init : FnScope ["self", "askers", "names", "one"] ["self", "askers"] (defScope s_Line_init) := ⟨rfl, rfl, rfl, by decide +kernel, rfl, by decide +kernel, by decide +kernel⟩
theorem sc_is_whole : FnScope ["value"] ["value"] (defScope s_is_whole) := ⟨rfl, rfl, rfl, by decide +kernel, rfl, by decide +kernel, by decide +kernel⟩
theorem sc_places_of : FnScope ["line", "row", "kind"] ["line"] (defScope s_places_of) := ⟨rfl, rfl, rfl, by decide +kernel, rfl, by decide +kernel, by decide +kernel⟩
theorem sc_check_worths : FnScope ["line", "value", "known", "one"] ["line", "value"] (defScope s_check_worths) := ⟨rfl, rfl, rfl, by decide +kernel, rfl, by decide +kernel, by decide +kernel⟩
theorem sc_Market_init : FnScope ["self", "rows", "wants", "stock", "worths", "kind", "row"] ["self", "rows", "wants", "stock", "worths"] (defScope s_Market_init) := ⟨rfl, rfl, rfl, by decide +kernel, rfl, by decide +kernel, by decide +kernel⟩
theorem sc_Market_worth : FnScope ["self", "at", "kind"] ["self", "at", "kind"] (defScope s_Market_worth) := ⟨rfl, rfl, rfl, by decide +kernel, rfl, by decide +kernel, by decide +kernel⟩
theorem sc_Market_held_by : FnScope ["self", "at", "kind"] ["self", "at"] (defScope s_Market_held_by) := ⟨rfl, rfl, rfl, by decide +kernel, rfl, by decide +kernel, by decide +kernel⟩
theorem sc_Market_has_room : FnScope ["self", "at"] ["self", "at"] (defScope s_Market_has_room) := ⟨rfl, rfl, rfl, by decide +kernel, rfl, by decide +kernel, by decide +kernel⟩
theorem sc_Market_ways : FnScope ["self", "bags", "gains", "kind", "turned", "at", "row", "gain"] ["self"] (defScope s_Market_ways) := ⟨rfl, rfl, rfl, by decide +kernel, rfl, by decide +kernel, by decide +kernel⟩
theorem sc_Market_improve : FnScope ["self", "must", "bags", "gains", "at", "ready", "takes", "gives"] ["self", "must"] (defScope s_Market_improve) := ⟨rfl, rfl, rfl, by decide +kernel, rfl, by decide +kernel, by decide +kernel⟩
theorem sc_Market_hand_on : FnScope ["self", "takes", "gives", "first", "last", "one", "much"] ["self", "takes", "gives"] (defScope s_Market_hand_on) := ⟨rfl, rfl, rfl, by decide +kernel, rfl, by decide +kernel, by decide +kernel⟩
theorem sc_Market_fill : FnScope ["self", "must", "goes_on"] ["self", "must"] (defScope s_Market_fill) := ⟨rfl, rfl, rfl, by decide +kernel, rfl, by decide +kernel, by decide +kernel⟩
theorem sc_Market_hand_back : FnScope ["self", "at", "found", "kind"] ["self", "at", "found"] (defScope s_Market_hand_back) := ⟨rfl, rfl, rfl, by decide +kernel, rfl, by decide +kernel, by decide +kernel⟩
theorem sc_Market_least : FnScope ["self", "found", "kind", "turned", "at", "row", "back"] ["self"] (defScope s_Market_least) := ⟨rfl, rfl, rfl, by decide +kernel, rfl, by decide +kernel, by decide +kernel⟩
theorem sc_Market_over : FnScope ["self", "at", "found", "kind"] ["self", "at", "found"] (defScope s_Market_over) := ⟨rfl, rfl, rfl, by decide +kernel, rfl, by decide +kernel, by decide +kernel⟩
theorem sc_Market_greatest : FnScope ["self", "found", "kind", "at", "held", "turned", "askers", "wanted", "row"] ["self"] (defScope s_Market_greatest) := ⟨rfl, rfl, rfl, by decide +kernel, rfl, by decide +kernel, by decide +kernel⟩
theorem sc_Market_priced : FnScope ["self", "found", "at", "row"] ["self", "found"] (defScope s_Market_priced) := ⟨rfl, rfl, rfl, by decide +kernel, rfl, by decide +kernel, by decide +kernel⟩
theorem sc_market_of : FnScope ["line", "stock", "worths", "market", "row"] ["line", "stock", "worths"] (defScope s_market_of) := ⟨rfl, rfl, rfl, by decide +kernel, rfl, by decide +kernel, by decide +kernel⟩
theorem sc_least_prices : FnScope ["line", "stock", "worths", "market"] ["line", "stock", "worths"] (defScope s_least_prices) := ⟨rfl, rfl, rfl, by decide +kernel, rfl, by decide +kernel, by decide +kernel⟩
theorem sc_greatest_prices : FnScope ["line", "stock", "worths", "market"] ["line", "stock", "worths"] (defScope s_greatest_prices) := ⟨rfl, rfl, rfl, by decide +kernel, rfl, by decide +kernel, by decide +kernel⟩
theorem sc_prices : FnScope ["line", "stock", "worths"] ["line", "stock", "worths"] (defScope s_prices) := ⟨rfl, rfl, rfl, by decide +kernel, rfl, by decide +kernel, by decide +kernel⟩
theorem sc_L_purse : FnScope ["_law_script", "_law_at", "_law_seed"] ["_law_script", "_law_at"] (defScope s_L_purse) := ⟨rfl, rfl, rfl, by decide +kernel, rfl, by decide +kernel, by decide +kernel⟩
theorem sc_L_mixed : FnScope ["_law_seed", "_law_turn", "_law_at", "_law_mixed_here"] ["_law_seed", "_law_turn", "_law_at"] (defScope s_L_mixed) := ⟨rfl, rfl, rfl, by decide +kernel, rfl, by decide +kernel, by decide +kernel⟩
theorem sc_L_draw : FnScope ["_law_purse_here", "_law_many", "_law_drawn", "_law_found", "_law_piece"] ["_law_purse_here", "_law_many"] (defScope s_L_draw) := ⟨rfl, rfl, rfl, by decide +kernel, rfl, by decide +kernel, by decide +kernel⟩
theorem sc_L_purses : FnScope ["_law_script", "_law_few", "_law_at"] ["_law_script", "_law_few"] (defScope s_L_purses) := ⟨rfl, rfl, rfl, by decide +kernel, rfl, by decide +kernel, by decide +kernel⟩
theorem sc_L_one_of : FnScope ["_law_purse_here", "_law_some"] ["_law_purse_here", "_law_some"] (defScope s_L_one_of) := ⟨rfl, rfl, rfl, by decide +kernel, rfl, by decide +kernel, by decide +kernel⟩
theorem sc_L_shuffled : FnScope ["_law_purse_here", "_law_some", "_law_found", "_law_item"] ["_law_purse_here", "_law_some"] (defScope s_L_shuffled) := ⟨rfl, rfl, rfl, by decide +kernel, rfl, by decide +kernel, by decide +kernel⟩
theorem sc_L_word : FnScope ["_law_purse_here", "_law_found", "_law_turn"] ["_law_purse_here"] (defScope s_L_word) := ⟨rfl, rfl, rfl, by decide +kernel, rfl, by decide +kernel, by decide +kernel⟩
theorem sc_L_names : FnScope ["_law_purse_here", "_law_many", "_law_some", "_law_fresh", "_law_word_here"] ["_law_purse_here", "_law_many"] (defScope s_L_names) := ⟨rfl, rfl, rfl, by decide +kernel, rfl, by decide +kernel, by decide +kernel⟩
theorem sc_L_kinds : FnScope ["_law_purse_here", "_law_many", "_law_some", "_law_fresh", "_law_word_here"] ["_law_purse_here", "_law_many"] (defScope s_L_kinds) := ⟨rfl, rfl, rfl, by decide +kernel, rfl, by decide +kernel, by decide +kernel⟩
theorem sc_L_rows : FnScope ["_law_purse_here", "_law_kinds_here", "_law_most", "_law_found", "_law_name", "_law_some"] ["_law_purse_here", "_law_kinds_here", "_law_most"] (defScope s_L_rows) := ⟨rfl, rfl, rfl, by decide +kernel, rfl, by decide +kernel, by decide +kernel⟩
theorem sc_L_line_of : FnScope ["_law_rows_here", "_law_name", "_law_fits_here", "_law_most"] ["_law_rows_here"] (defScope s_L_line_of) := ⟨rfl, rfl, rfl, by decide +kernel, rfl, by decide +kernel, by decide +kernel⟩
theorem sc_L_here : FnScope ["_law_purse_here", "_law_kinds_here", "_law_found", "_law_kind"] ["_law_purse_here", "_law_kinds_here"] (defScope s_L_here) := ⟨rfl, rfl, rfl, by decide +kernel, rfl, by decide +kernel, by decide +kernel⟩
theorem sc_L_worths : FnScope ["_law_purse_here", "_law_rows_here", "_law_found", "_law_times", "_law_name", "_law_fits_here", "_law_most", "_law_kind", "_law_worth"] ["_law_purse_here", "_law_rows_here"] (defScope s_L_worths) := ⟨rfl, rfl, rfl, by decide +kernel, rfl, by decide +kernel, by decide +kernel⟩
theorem sc_L_chain : FnScope ["_law_purse_here", "_law_names_here", "_law_kinds_here", "_law_rows_here", "_law_stock", "_law_kind", "_law_at"] ["_law_purse_here"] (defScope s_L_chain) := ⟨rfl, rfl, rfl, by decide +kernel, rfl, by decide +kernel, by decide +kernel⟩
theorem sc_L_ways : FnScope ["_law_left", "_law_places", "_law_room", "_law_found", "_law_at", "_law_longer", "_law_rest", "_law_free", "_law_numbers", "_law_number", "_law_less"] ["_law_left", "_law_places", "_law_room"] (defScope s_L_ways) := ⟨rfl, rfl, rfl, by decide +kernel, rfl, by decide +kernel, by decide +kernel⟩
theorem sc_L_brought : FnScope ["_law_numbers", "_law_values", "_law_number", "_law_worth"] ["_law_numbers", "_law_values"] (defScope s_L_brought) := ⟨rfl, rfl, rfl, by decide +kernel, rfl, by decide +kernel, by decide +kernel⟩
theorem sc_L_best : FnScope ["_law_rows_here", "_law_stock", "_law_worths_here", "_law_wants", "_law_kinds_here", "_law_known", "_law_row", "_law_want", "_law_fits_here", "_law_values", "_law_later", "_law_places", "_law_room", "_law_left", "_law_rest", "_law_free", "_law_numbers", "_law_value", "_law_kind"] ["_law_rows_here", "_law_stock", "_law_worths_here", "_law_wants"] (defScope s_L_best) := ⟨rfl, rfl, rfl, by decide +kernel, rfl, by decide +kernel, by decide +kernel⟩
theorem sc_L_any : FnScope ["_law_rows_here", "_law_stock", "_law_worths_here", "_law_row"] ["_law_rows_here", "_law_stock", "_law_worths_here"] (defScope s_L_any) := ⟨rfl, rfl, rfl, by decide +kernel, rfl, by decide +kernel, by decide +kernel⟩
theorem sc_L_kinds_in : FnScope ["_law_rows_here", "_law_found", "_law_name", "_law_fits_here", "_law_most", "_law_kind"] ["_law_rows_here"] (defScope s_L_kinds_in) := ⟨rfl, rfl, rfl, by decide +kernel, rfl, by decide +kernel, by decide +kernel⟩
theorem sc_L_over : FnScope ["_law_row", "_law_worths_here", "_law_kinds_here", "_law_kind"] ["_law_row", "_law_worths_here", "_law_kinds_here"] (defScope s_L_over) := ⟨rfl, rfl, rfl, by decide +kernel, rfl, by decide +kernel, by decide +kernel⟩
theorem sc_L_with : FnScope ["_law_stock", "_law_kind", "_law_more", "_law_found"] ["_law_stock", "_law_kind", "_law_more"] (defScope s_L_with) := ⟨rfl, rfl, rfl, by decide +kernel, rfl, by decide +kernel, by decide +kernel⟩
theorem sc_L_all_prices : FnScope ["_law_kinds_here", "_law_most", "_law_found", "_law_kind", "_law_longer", "_law_one", "_law_number"] ["_law_kinds_here", "_law_most"] (defScope s_L_all_prices) := ⟨rfl, rfl, rfl, by decide +kernel, rfl, by decide +kernel, by decide +kernel⟩
theorem sc_L_sum : FnScope ["_law_rows_here", "_law_stock", "_law_worths_here", "_law_kinds_here", "_law_total", "_law_kind", "_law_row"] ["_law_rows_here", "_law_stock", "_law_worths_here", "_law_kinds_here"] (defScope s_L_sum) := ⟨rfl, rfl, rfl, by decide +kernel, rfl, by decide +kernel, by decide +kernel⟩
theorem sc_L_ends_right : FnScope ["_law_rows_here", "_law_stock", "_law_worths_here", "_law_due", "_law_least", "_law_greatest", "_law_kind", "_law_some", "_law_bare", "_law_row"] ["_law_rows_here", "_law_stock", "_law_worths_here", "_law_due", "_law_least", "_law_greatest"] (defScope s_L_ends_right) := ⟨rfl, rfl, rfl, by decide +kernel, rfl, by decide +kernel, by decide +kernel⟩
theorem sc_L_without : FnScope ["_law_greatest", "_law_stock", "_law_found", "_law_kind"] ["_law_greatest", "_law_stock"] (defScope s_L_without) := ⟨rfl, rfl, rfl, by decide +kernel, rfl, by decide +kernel, by decide +kernel⟩
theorem sc_L_altered : FnScope ["_law_purse_here", "_law_rows_here", "_law_stock", "_law_worths_here", "_law_kind", "_law_one"] ["_law_purse_here", "_law_rows_here", "_law_stock", "_law_worths_here"] (defScope s_L_altered) := ⟨rfl, rfl, rfl, by decide +kernel, rfl, by decide +kernel, by decide +kernel⟩
theorem sc_L_again_right : FnScope ["_law_purse_here", "_law_rows_here", "_law_stock", "_law_worths_here", "_law_line", "_law_due", "_law_low", "_law_high"] ["_law_purse_here", "_law_rows_here", "_law_stock", "_law_worths_here"] (defScope s_L_again_right) := ⟨rfl, rfl, rfl, by decide +kernel, rfl, by decide +kernel, by decide +kernel⟩
theorem sc_L_fits : FnScope ["_law_rows_here", "_law_stock", "_law_worths_here", "_law_line", "_law_due", "_law_kept", "_law_low", "_law_high", "_law_value", "_law_one", "_law_right", "_law_row", "_law_kind"] ["_law_rows_here", "_law_stock", "_law_worths_here"] (defScope s_L_fits) := ⟨rfl, rfl, rfl, by decide +kernel, rfl, by decide +kernel, by decide +kernel⟩
theorem sc_law : FnScope ["_law_script", "_law_purse_here", "_law_kinds_here", "_law_rows_here", "_law_stock", "_law_worths_here", "_law_want", "_law_line", "_law_here_here", "_law_dear", "_law_told"] ["_law_script"] (defScope s_law) := ⟨rfl, rfl, rfl, by decide +kernel, rfl, by decide +kernel, by decide +kernel⟩
/-! ### built-in names -/
theorem boot_len : bootBuiltins "len" = some (.builtin "len") := by decide +kernel
theorem boot_isinstance : bootBuiltins "isinstance" = some (.builtin "isinstance") := by decide +kernel
theorem boot_sum : bootBuiltins "sum" = some (.builtin "sum") := by decide +kernel
theorem boot_max : bootBuiltins "max" = some (.builtin "max") := by decide +kernel
theorem boot_min : bootBuiltins "min" = some (.builtin "min") := by decide +kernel
theorem boot_sorted : bootBuiltins "sorted" = some (.builtin "sorted") := by decide +kernel
theorem boot_int : bootBuiltins "int" = some (.type "int") := by decide +kernel
theorem boot_str : bootBuiltins "str" = some (.type "str") := by decide +kernel
theorem boot_bool : bootBuiltins "bool" = some (.type "bool") := by decide +kernel
theorem boot_list : bootBuiltins "list" = some (.type "list") := by decide +kernel
theorem boot_dict : bootBuiltins "dict" = some (.type "dict") := by decide +kernel
theorem boot_tuple : bootBuiltins "tuple" = some (.type "tuple") := by decide +kernel
theorem boot_set : bootBuiltins "set" = some (.type "set") := by decide +kernel
/-- what the top leaves: built-in names are not the module's, the constants, the classes -/
structure Txt (K : PySem.W.Frag) (mg : Str → Option Value) (CA CL CM : Addr) : Prop where
  g_len : mg "len" = none
  g_isinstance : mg "isinstance" = none
  g_sum : mg "sum" = none
  g_max : mg "max" = none
  g_min : mg "min" = none
  g_sorted : mg "sorted" = none
  g_int : mg "int" = none
  g_str : mg "str" = none
  g_bool : mg "bool" = none
  g_list : mg "list" = none
  g_dict : mg "dict" = none
  g_tuple : mg "tuple" = none
  g_set : mg "set" = none
  g_range : mg "range" = none
  g_enumerate : mg "enumerate" = none
  g_zip : mg "zip" = none
  g_STEP : ∃ u, mg "STEP" = some u ∧ RelV (.int 1000) u
  g_LOWER : ∃ u, mg "LOWER" = some u ∧ RelV (.str "abcdefghijklmnopqrstuvwxyz") u
  g_Asker : mg "Asker" = some (.ref CA)
  g_Line : mg "Line" = some (.ref CL)
  g_Market : mg "Market" = some (.ref CM)
  cc_get : PySem.W.specialIn K (.builtin "object.__class__") "__get__" = some (some (.builtin "getset_descriptor.__get__"))
  cc_tk : PySem.W.takesIn K (.builtin "object.__class__") = some true
  ccA : PySem.W.findIn K (.ref CA) "__class__" = some (some (.builtin "object.__class__"))
  ccL : PySem.W.findIn K (.ref CL) "__class__" = some (some (.builtin "object.__class__"))
  moA : PySem.W.mroIn K CA (.type "object") = some true
  moL : PySem.W.mroIn K CL (.type "object") = some true
  kiA : PySem.W.kitOne K (.ref CA) (.ref CA) = some true
  kiL : PySem.W.kitOne K (.ref CL) (.ref CL) = some true
  clA : Cls K CA
  clL : Cls K CL
  clM : Cls K CM
  nA_row : NoAttr K CA "row"
  nL_all : NoAttr K CL "all"
  nL_every : NoAttr K CL "every"
  nM_rows : NoAttr K CM "rows"
  nM_wants : NoAttr K CM "wants"
  nM_worths : NoAttr K CM "worths"
  nM_sorts : NoAttr K CM "sorts"
  nM_free : NoAttr K CM "free"
  nM_holds : NoAttr K CM "holds"
  nM_got : NoAttr K CM "got"
/-! ### the rules whose reading speaks of the written part, with that part said -/
section
variable {X : Cx} {a b e e2 l o elt : Expr} {es : List Expr} {ta tb te tl : TE} {t : TA} {tg : Expr} {p pos tpos apos : Pos} {kk : Nat} {elts : List Expr} {f : Str}
theorem fldK (K : PySem.W.Frag) (h : X.K = K) (he : PE X e ta) (hb : attributeBase e f X.env (eval e X.env) = eval e X.env := by rfl) : PE X (.Attribute e f pos) (tFld K ta f) := by subst h; exact pe_fld he hb
theorem ixLK (K : PySem.W.Frag) (h : X.K = K) : IxR X (rIxL K) := by subst h; exact ix_list
theorem ixTK (K : PySem.W.Frag) (h : X.K = K) : IxR X (rIxT K) := by subst h; exact ix_tup
theorem listK (K : PySem.W.Frag) (h : X.K = K) (hl : PE X l tl) : PI X tg l (iList K tl) := by subst h; exact pi_list hl
theorem tupK (K : PySem.W.Frag) (h : X.K = K) (hl : PE X l tl) : PI X tg l (iTup K tl) := by subst h; exact pi_tup hl
theorem isiK (K : PySem.W.Frag) (h : X.K = K) : CallR X (.builtin "isinstance") (rIsi K) := by subst h; exact call_isi
theorem lenK (K : PySem.W.Frag) (h : X.K = K) : CallR X (.builtin "len") (Evl.rLenS K) := by subst h; exact call_len_seq
theorem listofK (K : PySem.W.Frag) (h : X.K = K) : CallR X (.type "list") (Evl.rListS K) := by subst h; exact call_list_of
def rTupS (K : PySem.W.Frag) : List V → Hp → VK → Prop := fun xs H Q => ∃ p ys, xs = [.ref p] ∧ ((SqL K H p ys ∧ ∀ l, H l = none → Q (.ref l) (upd H l (.tup ys))) ∨ (SqT K H p ys ∧ Q (.ref p) H))
theorem tupofK (K : PySem.W.Frag) (h : X.K = K) : CallR X (.type "tuple") (rTupS K) := by subst h; exact call_tuple_of
theorem sumK (K : PySem.W.Frag) (h : X.K = K) (hc : X.calm = true) : CallR X (.builtin "sum") (rSum K) := by subst h; exact cr_sum hc
theorem maxK (K : PySem.W.Frag) (h : X.K = K) (hc : X.calm = true) : CallR X (.builtin "max") (rMax K) := by subst h; exact cr_max hc
theorem minK (K : PySem.W.Frag) (h : X.K = K) (hc : X.calm = true) : CallR X (.builtin "min") (rMin K) := by subst h; exact cr_min hc
theorem sortSK (K : PySem.W.Frag) (h : X.K = K) : CallR X (.builtin "sorted") (rSortedS K) := by subst h; exact cr_sortedS
theorem inK (K : PySem.W.Frag) (h : X.K = K) : OpR X (compareOp .In) (rIn K false) := by subst h; exact op_in_seq
theorem notInK (K : PySem.W.Frag) (h : X.K = K) : OpR X (compareOp .NotIn) (rIn K true) := by subst h; exact op_notIn_seq
theorem eqDK (K : PySem.W.Frag) (h : X.K = K) (hu : X.A.units + 64 < cLine) : OpR X (compareOp .Eq) (rEqD K) := by subst h; exact op_eqD hu
theorem neDK (K : PySem.W.Frag) (h : X.K = K) (hu : X.A.units + 64 < cLine) : OpR X (compareOp .NotEq) (rNeD K) := by subst h; exact op_neD hu
theorem revK (K : PySem.W.Frag) (h : X.K = K) {k : Nat} {p1 p2 p3 : Pos} (he : PE X e te) : PE X (.Subscript e (.Slice none none (some (.UnaryOp .USub (.Constant (.int 1) k p1) p2)) p3) pos) (tRevL K te) := by subst h; exact pe_revL he
theorem slLK (K : PySem.W.Frag) (h : X.K = K) : SlR X (rSlL K) := by subst h; exact sl_list
theorem slAK (K : PySem.W.Frag) (h : X.K = K) : SlR X (rSlA K) := by subst h; exact sl_tupA
theorem catAK (K : PySem.W.Frag) (h : X.K = K) : OpR X (binaryOp .Add) (rCatA K) := by subst h; exact op_catA
theorem tupTK (K : PySem.W.Frag) (h : X.K = K) {ts : TGs} {n : Nat} {k : Nat} (hc : X.calm = true) (hp : PGs X es ts)
    (hn : (assignEach es X.env).length = n := by rfl) (hst : (assignEach es X.env).findIdx? (·.1) = none := by rfl) : PG X (.Tuple es k pos) (gTup K n ts) := by subst h; exact pg_tup hc hp hn hst
theorem enumK (K : PySem.W.Frag) (h : X.K = K) (hg : Gl X "enumerate") (hm : X.mg "enumerate" = none) (ha : PA X [e] t) (hs : starEach [e] X.env = [(false, eval e X.env)] := by rfl) :
    PI X (.Tuple elts kk tpos) (.Call (.Name "enumerate" p) [e] [] pos) (iEnum K t) := by subst h; exact pi_enum hg hm ha hs
theorem zipK (K : PySem.W.Frag) (h : X.K = K) (hg : Gl X "zip") (hm : X.mg "zip" = none) (ha : PA X [e, e2] t)
    (hs : starEach [e, e2] X.env = (false, eval e X.env) :: starEach [e2] X.env := by rfl) (hpl : (backTo pos (starEach [e2] X.env)).any (·.1) = false := by rfl) :
    PI X (.Tuple elts kk tpos) (.Call (.Name "zip" p) [e, e2] [] pos) (iZip K t) := by subst h; exact pi_zip hg hm ha hs hpl
theorem pe_bmK (K : PySem.W.Frag) (h : X.K = K) {T id : String} {name : Str} {cpos : Pos} {r : V → List V → Hp → VK → Prop} (pa : PlainAttrs T) (slot : Slot T name id) (hty : typeOf (.builtin id) = pure (.type "method_descriptor")) (hm : MtR X id r) (ho : PE X o ta) (ha : PA X (e :: es) t)
    (hbase : attributeBase o name X.env (eval o X.env) = eval o X.env := by rfl)
    (hfew : ((backTo cpos (starEach (e :: es) X.env)).all (fun x => !x.1) && (backToKw cpos (keywordEach [] X.env)).all (fun x => x.1.isSome)
      && decide ((e :: es).length + ([] : List Keyword).length + (if ([] : List Keyword).isEmpty then 0 else 1) < 30)) = true := by rfl)
    (hline : (apos.endLine == cpos.line) = true := by rfl) (hs : starEach (e :: es) X.env = (false, eval e X.env) :: starEach es X.env := by rfl) (hplain : (backTo cpos (starEach es X.env)).any (·.1) = false := by rfl) :
    PE X (.Call (.Attribute o name apos) (e :: es) [] cpos) (tBM K T r ta t) := by subst h; exact pe_bm pa slot hty hm ho ha hbase hfew hline hs hplain
theorem idxK (K : PySem.W.Frag) (h : X.K = K) : MtR X "list.index" (rIndex K) := by subst h; exact mt_index
end
theorem Txt.tyA {K : PySem.W.Frag} {mg : Str → Option Value} {CA CL CM : Addr} (T : Txt K mg CA CL CM) {H : Hp} {a dx : Addr} {fs : List (Str × V)} (h : H a = some (.ins CA dx fs)) : TyX K H (.ref a) (.ref CA) := .base (.ins h T.clA T.ccA T.cc_get T.cc_tk T.moA)
theorem Txt.tyL {K : PySem.W.Frag} {mg : Str → Option Value} {CA CL CM : Addr} (T : Txt K mg CA CL CM) {H : Hp} {a dx : Addr} {fs : List (Str × V)} (h : H a = some (.ins CL dx fs)) : TyX K H (.ref a) (.ref CL) := .base (.ins h T.clL T.ccL T.cc_get T.cc_tk T.moL)
/-- a def that may be called under its name -/
structure CalK (P : Program) (w : World) (K : PySem.W.Frag) (mg : Str → Option Value) (base : Heap) (k : Nat) (x : Str) (sp : Sp) : Prop where
  ex : ∃ (f : Addr) (fd : FuncData) (ps : List Str), FnOk P w K mg base CX0 k f fd ps sp ∧ mg x = some (.ref f) ∧ PySem.W.keepIn K (.ref f) = true ∧ Binds K fd ps []
/-- a method of the class at C -/
structure MetK (P : Program) (w : World) (K : PySem.W.Frag) (mg : Str → Option Value) (base : Heap) (k : Nat) (C : Addr) (m : Str) (sp : Sp) : Prop where
  ex : ∃ (f : Addr) (fd : FuncData) (ps : List Str), Cls K C ∧ Meth K C m f ∧ FnOk P w K mg base CX0 k f fd ps sp ∧ Binds K fd ps []
/-- a class with its __init__ -/
structure MakK (P : Program) (w : World) (K : PySem.W.Frag) (mg : Str → Option Value) (base : Heap) (k : Nat) (x : Str) (C : Addr) (sp : Sp) : Prop where
  ex : ∃ (f : Addr) (fd : FuncData) (ps : List Str), Mk K C f ∧ FnOk P w K mg base CX0 k f fd ps sp ∧ mg x = some (.ref C) ∧ Binds K fd ps []
section
variable {X : Cx} {k j : Nat} {C : Addr} {x m : Str} {sp : Sp} {p pos apos : Pos} {e o : Expr} {es : List Expr} {ta : TE} {t : TA}
theorem ec (c : CalK X.prog X.w X.K X.mg X.base k x sp) (hr : Room j X.A) (hk : k ≤ j) (hg : Gl X x) (ha : PA X (e :: es) t)
    (hdb : (x == ("__debug__" : Str)) = false := by decide) (he : starEach (e :: es) X.env = (false, eval e X.env) :: starEach es X.env := by rfl) (hpl : (backTo pos (starEach es X.env)).any (·.1) = false := by rfl) :
    PE X (.Call (.Name x p) (e :: es) [] pos) (tCall sp [] E0 t) := by
  obtain ⟨f, fd, ps, F, hm, kp, b⟩ := c.ex
  exact pe_call F (hr.mono hk) hg hm kp b .nil pass0 ha hdb he hpl
theorem ek (c : MakK X.prog X.w X.K X.mg X.base k x C sp) (hr : Room j X.A) (hk : k + 1 ≤ j) (hg : Gl X x) (ha : PA X (e :: es) t)
    (hdb : (x == ("__debug__" : Str)) = false := by decide) (he : starEach (e :: es) X.env = (false, eval e X.env) :: starEach es X.env := by rfl) (hpl : (backTo pos (starEach es X.env)).any (·.1) = false := by rfl) :
    PE X (.Call (.Name x p) (e :: es) [] pos) (tMake C sp [] E0 t) := by
  obtain ⟨f, fd, ps, M, F, hm, b⟩ := c.ex
  exact pe_make M F (hr.mono hk) hg hm b .nil pass0 ha hdb he hpl
theorem em {pl : Sem Bool} (c : MetK X.prog X.w X.K X.mg X.base k C m sp) (hr : Room j X.A) (hk : k ≤ j) (he : PE X o ta) (ha : PA X (e :: es) t)
    (hst : starEach (e :: es) X.env = (false, eval e X.env) :: starEach es X.env := by rfl) (hpl : (backTo pos (starEach es X.env)).any (·.1) = false := by rfl)
    (ht : eval (.Call (.Attribute o m apos) (e :: es) [] pos) X.env = (do
      let ov ← eval o X.env
      standAt apos.atName
      let (f, first) ← holding [ov] (getMethod ov m pl)
      callWith pos f first (backTo pos (starEach (e :: es) X.env)) (backToKw pos (keywordEach [] X.env))) := by rfl) :
    PE X (.Call (.Attribute o m apos) (e :: es) [] pos) (tMeth C m sp [] E0 ta t) := by
  obtain ⟨f, fd, ps, hc, hm, F, b⟩ := c.ex
  exact pe_meth (pl := pl) he hc hm F (hr.mono hk) b .nil pass0 ha hst hpl ht
theorem em0 {pl : Sem Bool} (c : MetK X.prog X.w X.K X.mg X.base k C m sp) (hr : Room j X.A) (hk : k ≤ j) (he : PE X o ta)
    (ht : eval (.Call (.Attribute o m apos) [] [] pos) X.env = (do
      let ov ← eval o X.env
      standAt apos.atName
      let (f, first) ← holding [ov] (getMethod ov m pl)
      callWith pos f first (backTo pos (starEach [] X.env)) (backToKw pos (keywordEach [] X.env))) := by rfl) :
    PE X (.Call (.Attribute o m apos) [] [] pos) (tMeth C m sp [] E0 ta tNil) := by
  obtain ⟨f, fd, ps, hc, hm, F, b⟩ := c.ex
  exact pe_meth0 (pl := pl) he hc hm F (hr.mono hk) b .nil pass0 ht
/-- a global constant whose token is open -/
theorem eg {v : V} (hg : Gl X x) (h : ∃ u, X.mg x = some u ∧ RelV v u) (hdb : (x == ("__debug__" : Str)) = false := by decide) : PE X (.Name x pos) (tC v) := by
  obtain ⟨u, hm, r⟩ := h
  exact pe_glob hg hm r hdb
end
end K59
/-! R0: what my own rules say. -/
namespace K59
open PySem PySem.Spec PyProof.Rows L2
section
variable {X : Cx} {a b e e2 l o : Expr} {es : List Expr} {ta tb te : TE} {t : TA} {tg : Expr} {p p2 q pos tpos apos : Pos} {kk : Nat} {elts : List Expr} {f : Str}
/-! powers -/
def CPowS (i j : Int) : Prop := 0 ≤ j ∧ (Builtin.Int.intBits i : Int) * j ≤ 2 ^ 27
theorem op_powS : OpR X (binaryOp .Pow) (rI CPowS fun i j => .int (i ^ j.toNat)) := opI fun _ _ _ _ _ _ _ hc q => pow_int hc.1 hc.2 q
/-! an attribute as a target -/
def gFld (K : PySem.W.Frag) (ta : TE) (f : Str) : TG := fun v σ H Q => ta σ H fun x H1 => ∃ a C dx fs, x = .ref a ∧ H1 a = some (.ins C dx fs) ∧ Cls K C ∧ NoAttr K C f ∧ fs.length < 1000 ∧ Q σ (upd H1 a (.ins C dx (putF f v fs)))
/-! len(set(xs)), sorted(set(xs)) -/
def tLenSetS (K : PySem.W.Frag) (ta : TE) : TE := fun σ H Q => ta σ H fun x H1 => ∃ (l : Addr) (xs : List Str), x = .ref l ∧ SqL K H1 l (xs.map V.str) ∧ xs.length < 64 ∧ xs.Nodup ∧ Q (.int xs.length) H1
def tSortSetS (K : PySem.W.Frag) (ta : TE) : TE := fun σ H Q => ta σ H fun x H1 => ∃ (l : Addr) (xs : List Str), x = .ref l ∧ SqL K H1 l (xs.map V.str) ∧ xs.length < 64 ∧
  ∀ (ys : List Str) (p : Addr), ys.Nodup → (∀ z, z ∈ ys ↔ z ∈ xs) → sortedS ys = true → H1 p = none → Q (.ref p) (upd H1 p (.lst (ys.map V.str)))
/-! {k: v, ..} with keys that are tuples -/
def mergeT (kvs more : List (List Key × V)) : List (List Key × V) := more.foldl (fun acc kv => putK acc kv.1 kv.2) kvs
def tDispT (trs : List (TE × TE)) : TE := fun σ H Q => ∀ p, H p = none → tPairs trs σ (upd H p (.dT [])) fun ps H2 => H2 p = some (.dT []) ∧ ∃ kbv : List (List Key × Addr × V),
  ps = kbv.map (fun x => (V.ref x.2.1, x.2.2)) ∧ (∀ x ∈ kbv, H2 x.2.1 = some (.tup (x.1.map kV))) ∧ kbv.length ≤ 15 ∧ Q (.ref p) (upd H2 p (.dT (mergeT [] (kbv.map fun x => (x.1, x.2.2)))))
/-! two pairs of dicts compared -/
/-- a dict's keys and values are those of another one -/
def SameD (H : Hp) (x y : V) : Prop := ∃ a b ks ls, x = .ref a ∧ y = .ref b ∧ H a = some (.dK ks) ∧ H b = some (.dK ls) ∧ ks.length = ls.length ∧ ∀ z ∈ ks, valV ls z.1 = some z.2 ∧ flatB z.2 = true
def rPD (K : PySem.W.Frag) (ans : Bool) : R2 := fun x y H Q => ∃ a b x1 x2 y1 y2, x = .ref a ∧ y = .ref b ∧ SqT K H a [x1, x2] ∧ SqT K H b [y1, y2] ∧ SameD H x1 y1 ∧ SameD H x2 y2 ∧ Q (.bl ans) H
/-- d in a list of dicts, one of which has d's keys and values (all values whole numbers) -/
def rInDD (K : PySem.W.Frag) : R2 := fun x y H Q => ∃ (a l : Addr) (ks : List (Key × V)) (ds : List Addr), x = .ref a ∧ y = .ref l ∧ H a = some (.dK ks) ∧ SqL K H l (ds.map V.ref) ∧ (∀ z ∈ ks, ∃ i, z.2 = .int i) ∧
  (∀ d ∈ ds, ∃ ls, H d = some (.dK ls) ∧ ∀ z ∈ ls, ∃ i, z.2 = .int i) ∧ (∃ d ∈ ds, SameD H (.ref d) x) ∧ Q (.bl true) H
/-! list(d.items()), list(d.values()), sorted(d): a dict with tuple keys -/
def tListItemsT (te : TE) : TE := fun σ H Q => te σ H fun x H1 => ∃ (d : Addr) (kvs : List (List Key × V)), x = .ref d ∧ H1 d = some (.dT kvs) ∧
  ∀ (H' : Hp) (p : Addr) (ts : List Addr), (∀ b o, H1 b = some o → H' b = some o) → H1 p = none → H' p = some (.lst (ts.map V.ref)) → Paired (fun (t : Addr) (q : List Key × V) => ∃ b, H' t = some (.tup [.ref b, q.2]) ∧ H1 b = some (.tup (q.1.map kV))) ts kvs → Q (.ref p) H'
def tListValsT (te : TE) : TE := fun σ H Q => te σ H fun x H1 => ∃ (d : Addr) (kvs : List (List Key × V)), x = .ref d ∧ H1 d = some (.dT kvs) ∧ ∀ p, H1 p = none → Q (.ref p) (upd H1 p (.lst (kvs.map (·.2))))
def rSortDT : List V → Hp → VK → Prop := fun vs H Q => ∃ (a : Addr) (kvs : List (List Key × V)), vs = [.ref a] ∧ H a = some (.dT kvs) ∧ kvs.length < 64 ∧ (∀ z ∈ kvs, ∃ x y : Str, z.1 = [.inr x, .inr y]) ∧
  ∀ (p : Addr) (bs : List Addr), H p = none → bs.length = kvs.length → (∀ b ∈ bs, ∃ z ∈ kvs, H b = some (.tup (z.1.map kV))) → Q (.ref p) (upd H p (.lst (bs.map V.ref)))
/-! zip(a tuple, a list) -/
def ItzTL (K : PySem.W.Frag) (a b : Addr) : It :=
  ⟨fun i H => ∃ (xs ys : List V) (x y : V), SqT K H a xs ∧ SqL K H b ys ∧ xs[i]? = some x ∧ ys[i]? = some y,
    fun i H v H' => ∃ T x y, v = .ref T ∧ H T = none ∧ H' = upd H T (.tup [x, y]) ∧ (∀ xs, SqT K H a xs → xs[i]? = some x) ∧ ∀ ys, SqL K H b ys → ys[i]? = some y,
    fun i H => ∃ xs ys : List V, SqT K H a xs ∧ SqL K H b ys ∧ (xs.length ≤ i ∨ ys.length ≤ i)⟩
def iZipTL (K : PySem.W.Frag) (ta : TA) : TI := fun σ H R => ta σ H fun vs H1 => ∃ a b xs ys, vs = [.ref a, .ref b] ∧ SqT K H1 a xs ∧ SqL K H1 b ys ∧ R (ItzTL K a b) H1
/-! max of pairs of whole numbers -/
def rMaxP (K : PySem.W.Frag) : List V → Hp → VK → Prop := fun vs H Q => ∃ (l : Addr) (ts : List (Addr × Int × Int)), vs = [.ref l] ∧ SqL K H l (ts.map fun x => V.ref x.1) ∧ (∀ x ∈ ts, H x.1 = some (.tup [.int x.2.1, .int x.2.2])) ∧ ts ≠ [] ∧
  ∀ x ∈ ts, (∀ y ∈ ts, y.2.1 ≤ x.2.1) → Q (.ref x.1) H
end
end K59
namespace K59
open PySem PySem.Spec PyProof.Rows L2
section
variable {X : Cx} {a b e e2 l o : Expr} {es : List Expr} {ta tb te : TE} {t : TA} {tg : Expr} {p p2 q pos tpos apos : Pos} {kk : Nat} {elts : List Expr} {f : Str}
theorem fldGK (K : PySem.W.Frag) (h : X.K = K) (ha : PE X o ta) : PG X (.Attribute o f pos) (gFld K ta f) := by
  subst h
  refine ⟨fun pins s σ H v u Q I r h => ?_⟩
  rw [show assign (.Attribute o f pos) X.env u = (do
    let ov ← holding [u] (eval o X.env)
    standAt pos.atName
    holding [u, ov] (setAttr ov f u)
    release [u, ov] []) from rfl]
  refine wpAny_bind (wpAny_holding (thn (ha.run pins s σ H _ I h) fun ov s1 ⟨x, H1, I1, r1, a, C, dx, fs, ex, ea, c, n, l, q⟩ => ?_))
  subst ex
  obtain rfl : ov = Value.ref a := r1
  refine wpAny_bind (wpAny_standAt (wpAny_bind (wpAny_holding (setattr_ok I1 ea c n l r fun s3 I3 => ?_))))
  exact wpAny_release ⟨σ, _, I3, q⟩
end
end K59
namespace K59
open PySem PySem.Spec PyProof.Rows L2
section
variable {X : Cx} {a b e e2 l o : Expr} {es : List Expr} {ta tb te : TE} {t : TA} {tg : Expr} {p p2 q pos tpos apos : Pos} {kk : Nat} {elts : List Expr} {f : Str}
theorem upd_id {H : Hp} {d : Addr} {o : HO} (h : H d = some o) : upd H d o = H := by
  funext b
  by_cases e : b = d
  · rw [e, upd_same, h]
  · rw [upd_ne e]
theorem d_dictSetT {pins : List (Addr × Obj)} {σ : L2.St} {H : Hp} {s : Shared} {d c : Addr} {v : V} {r : Value} {A : Around} {E : Value → Shared → Prop} {kvs : List (List Key × V)} {k : List Key} {Q : Unit → Shared → Prop} (hu : A.units + 1 < cLine) (I : L2.Inv X pins σ H s) (e : H d = some (.dT kvs)) (eb : H c = some (.tup (k.map kV))) (l : kvs.length < sizeLine) (rv : L2.RelV v r)
    (h : ∀ s', L2.Inv X pins σ (upd H d (.dT (putK kvs k v))) s' → Q () s') : wpAny (model X.prog X.w) A (dictSet d (.ref c) r) Q E s := by
  obtain ⟨z, hd, xs, rel, dd⟩ := dt_of I.hok e
  have hz : xs.length ≤ sizeLine := by rw [← Paired.length rel]; exact z
  have hl : (putK kvs k v).length ≤ sizeLine := by have := length_putK kvs k v; omega
  refine wpAny_dictSet_heap (knd := tupleKind (mixKind X.prog X.w)) (hsz := hz) (show A.units < cLine by omega) (key_of I.hok eb) dd fun h' dd' hs => h _ ?_
  obtain ⟨q, es, ep, hq, h2, h3, h4, _, h5⟩ := dd'
  refine d_write I (by rw [e]; exact True.intro) hs ⟨q, hq⟩ ⟨hl, hd, _, (rel.put k eb rv).keeps fun c ys ec => ?_, q, es, ep, hq, h2, h3, h4, h5⟩
  rw [upd_ne (ne_of ec e (fun z => nomatch z))]
  exact ec
theorem storeAllT {pins : List (Addr × Obj)} {σ : L2.St} {d : Addr} {A : Around} {E : Value → Shared → Prop} (hu : A.units + 1 < cLine) : ∀ (kbv : List (List Key × Addr × V)) (vs : List (Value × Value)) (kvs : List (List Key × V)) (H : Hp) (s : Shared) (Q : PUnit → Shared → Prop), L2.Inv X pins σ H s → H d = some (.dT kvs) →
    VV (kbv.map fun x => (V.ref x.2.1, x.2.2)) vs → (∀ x ∈ kbv, H x.2.1 = some (.tup (x.1.map kV))) → kvs.length + kbv.length ≤ sizeLine → (∀ s', L2.Inv X pins σ (upd H d (.dT (mergeT kvs (kbv.map fun x => (x.1, x.2.2))))) s' → Q PUnit.unit s') → wpAny (model X.prog X.w) A (storeAll d vs) Q E s := by
  intro kbv
  induction kbv with
  | nil =>
    intro vs kvs H s Q I hd rel _ _ hQ
    cases rel
    unfold storeAll
    rw [List.forIn_nil]
    refine wpAny_pure (hQ s ?_)
    show L2.Inv X pins σ (upd H d (.dT kvs)) s
    rw [upd_id hd]
    exact I
  | cons x kbv ih =>
    intro vs kvs H s Q I hd rel hk hz hQ
    rw [List.map_cons] at rel
    cases rel with
    | @cons p q ps qs h t =>
      obtain ⟨q1, q2⟩ := q
      obtain ⟨h1, h2⟩ := h
      obtain rfl : q1 = Value.ref x.2.1 := h1
      rw [List.length_cons] at hz
      unfold storeAll
      rw [List.forIn_cons]
      refine wpAny_bind (wpAny_bind (d_dictSetT hu I hd (hk x (by simp)) (by omega) h2 fun s' I' => wpAny_pure ?_))
      refine ih qs (putK kvs x.1 x.2.2) _ s' Q I' upd_same t (fun y hy => ?_) (by have := length_putK kvs x.1 x.2.2; omega) fun s2 I2 => hQ s2 ?_
      · rw [upd_ne (ne_of (hk y (by simp [hy])) hd fun z => nomatch z)]
        exact hk y (by simp [hy])
      · rw [upd_upd] at I2
        exact I2
theorem pe_dispT (hu : X.A.units + 1 < cLine) {keys : List (Option Expr)} {values : List Expr} {trs : List (TE × TE)} (h : PPs X pos keys values trs) (hall : keys.all (·.isSome) = true) (hl : keys.length = values.length) (h0 : keys ≠ [])
    (h15 : keys.length ≤ 15) : PE X (.Dict keys values pos) (tDispT trs) := by
  refine ⟨fun pins s σ H Q I q => ?_⟩
  have hn := I.hok.fresh (Nat.le_refl s.heap.objs.size)
  have I1 := I.laid (a := s.heap.objs.size) (o := .dT []) (h' := s.heap.push { cls := .type "dict", data := .dict #[] }) (t' := s.toks) (fun _ _ q => Heap.get?_push_of_some _ q) (Nat.le_refl _) (dt_empty s.heap I.big)
  refine wpAny_Dict_any hall hl h0 h15 (thn (h.run pins _ σ _ _ I1 (q _ hn)) fun ws s2 ⟨ps, H2, I2, rel, e, kbv, ep, hk, hz, q2⟩ => ?_)
  subst ep
  exact storeAllT hu kbv ws [] H2 s2 _ I2 e rel hk (by rw [List.length_nil, sizeLine_eq]; omega) fun s' I' => ⟨.ref s.heap.objs.size, _, I', rfl, q2⟩
end
end K59
namespace K59
open PySem PySem.Spec PyProof.Rows L2
/-- iterators that have come to their end -/
theorem draws_tupEnd {prog : Program} {w : World} {A : Around} (hh : A.handled = none) (it t : Addr) (items : Array Value) {i : Nat} (hi : items.size ≤ i) : Draws prog w A it [it, t] i (fun _ _ => False) (fun j h => j = i ∧ h.IsTupleIter it t i ∧ h.IsTuple t items) where
  live := fun _ _ ⟨_, ⟨o, ho, _⟩, _⟩ => ⟨o, ho⟩
  frame := fun _ _ _ ⟨z, g1, g2⟩ k => ⟨z, g1.at fun o e => k it (by simp) o e, g2.at fun o e => k t (by simp) o e⟩
  item := fun j s Q E hj ⟨z, _⟩ _ => absurd hj (by omega)
  done := fun s Q E ⟨_, g1, g2⟩ hE => wpAny_nextOf_tuple_end hh g1 g2 (by simpa using hi) hE
theorem draws_lstEnd {prog : Program} {w : World} {A : Around} (hh : A.handled = none) (it t : Addr) (items : Array Value) {i : Nat} (hi : items.size ≤ i) : Draws prog w A it [it, t] i (fun _ _ => False) (fun j h => j = i ∧ h.IsListIter it t i ∧ h.IsList t items) where
  live := fun _ _ ⟨_, ⟨o, ho, _⟩, _⟩ => ⟨o, ho⟩
  frame := fun _ _ _ ⟨z, g1, g2⟩ k => ⟨z, g1.at fun o e => k it (by simp) o e, g2.at fun o e => k t (by simp) o e⟩
  item := fun j s Q E hj ⟨z, _⟩ _ => absurd hj (by omega)
  done := fun s Q E ⟨_, g1, g2⟩ hE => wpAny_nextOf_list_end hh g1 g2 (by simpa using hi) hE
/-- the turns of zip(tuple, list) -/
theorem turn_zipTL {P : Program} {w : World} {K : PySem.W.Frag} {elts : List Expr} {kk : Nat} {tpos : Pos} {a b z TI TO i1 i2 : Addr} (D : ZipSep2 z TI TO i1 i2 [i1, a] [i2, b]) (n1 : a ≠ i1) (n2 : b ≠ i2) :
    Turn P w K (.Tuple elts kk tpos) (ItzTL K a b) [z, TI, TO, i1, i2] z (fun i h => IsZip h z TI TO .none ∧ IsTupOf2 h TI (.ref i1) (.ref i2) ∧ (∃ x y, IsTupOf2 h TO x y) ∧ h.IsTupleIter i1 a i ∧ h.IsListIter i2 b i) where
  mem := by simp
  obj := fun i h st c hc => by
    obtain ⟨g1, g2, ⟨x, y, g3⟩, ⟨o1, e1, _, d1⟩, ⟨o2, e2, _, d2⟩⟩ := st
    simp only [List.mem_cons, List.not_mem_nil, or_false] at hc
    rcases hc with rfl | rfl | rfl | rfl | rfl
    · exact ⟨_, g1, fun v q => nomatch q⟩
    · exact ⟨_, g2, fun v q => nomatch q⟩
    · exact ⟨_, g3, fun v q => nomatch q⟩
    · exact ⟨o1, e1, fun v q => by rw [d1] at q; cases q⟩
    · exact ⟨o2, e2, fun v q => by rw [d2] at q; cases q⟩
  keep := fun i h h' ⟨g1, g2, ⟨x, y, g3⟩, g4, g5⟩ k => ⟨k z (by simp) _ g1, k TI (by simp) _ g2, ⟨x, y, k TO (by simp) _ g3⟩, g4.at fun o q => k i1 (by simp) o q, g5.at fun o q => k i2 (by simp) o q⟩
  item := by
    rintro X rfl rfl rfl hc i pins s σ H E I hf ⟨g1, g2, ⟨x0, y0, g3⟩, g4, g5⟩ ⟨xs, ys, x, y, qx, qy, hx, hy⟩
    obtain ⟨us, rv, pt, _⟩ := I.tuple qx
    obtain ⟨vs, rv2, pl, _⟩ := I.list qy
    obtain ⟨u, hu, ru⟩ := rv.get hx
    obtain ⟨v, hv, rv'⟩ := rv2.get hy
    have hh : X.A.in1.handled = none := I.ok.hd hc
    have lu : i < us.toArray.size := by simpa using (List.getElem?_eq_some_iff.mp hu).1
    have lv : i < vs.toArray.size := by simpa using (List.getElem?_eq_some_iff.mp hv).1
    refine wpAny_pyNext_zipD2_item D (Draws.tuple hh i1 a n1 us.toArray) (Draws.list hh i2 b n2 vs.toArray) g1 g2 g3 ⟨g4, pt⟩ ⟨g5, pl.isList⟩ lu lv fun u' v' h1 tk eu ev k1 k2 k3 k4 k5 k6 k7 => ?_
    obtain rfl : u' = u := by rw [List.getElem?_toArray, hu] at eu; exact (Option.some.inj eu).symm
    obtain rfl : v' = v := by rw [List.getElem?_toArray, hv] at ev; exact (Option.some.inj ev).symm
    refine ⟨_, rfl, wpAny_letOwnedTupleGo_zip (s := { s with heap := h1, toks := tk }) k1 fun h2 z2 sb => ?_⟩
    have zl : z < s.heap.objs.size := Heap.lt_size g1
    have other : ∀ c o, c ∉ [z, TI, TO, i1, i2] → s.heap.get? c = some o → h2.get? c = some o := fun c o hb q => by
      simp only [List.mem_cons, List.not_mem_nil, or_false, not_or] at hb
      exact (sb.2 c hb.1).trans (k7 c o hb.1 hb.2.2.1 hb.2.2.2.1 hb.2.2.2.2 q)
    have hT : h2.get? s.heap.objs.size = some { cls := .type "tuple", data := .seq #[u', v'] } := (sb.2 _ (Nat.ne_of_gt zl)).trans k5
    have new : ObjOk X.prog X.w (upd H s.heap.objs.size (.tup [x, y])) h2 s.heap.objs.size (.tup [x, y]) := ⟨by show 2 ≤ sizeLine; decide, [u', v'], .cons ru (.cons rv' .nil), ⟨_, hT, rfl, _, rfl⟩⟩
    refine ⟨.ref s.heap.objs.size, _, I.turnedNew (t' := tk) (ch := [z, TI, TO, i1, i2]) other hf (Nat.le_refl _) new, rfl, ⟨_, x, y, rfl, I.hok.fresh (Nat.le_refl _), rfl, fun l hl => by rw [I.tuple_inj hl qx]; exact hx, fun l hl => by rw [I.list_inj hl qy]; exact hy⟩, ⟨z2, ?_, ⟨u', v', ?_⟩, ?_, ?_⟩, fun c hcm => ?_⟩
    · exact (sb.2 _ D.TIz).trans (k7 _ _ D.TIz D.TITO D.TIi1 D.TIi2 g2)
    · exact (sb.2 _ D.TOz).trans k2
    · exact k3.1.at fun o q => (sb.2 _ D.zi1.symm).trans q
    · exact k4.1.at fun o q => (sb.2 _ D.zi2.symm).trans q
    · have lt : c < s.heap.objs.size := by
        obtain ⟨_, e1, _⟩ := g4
        obtain ⟨_, e2, _⟩ := g5
        simp only [List.mem_cons, List.not_mem_nil, or_false] at hcm
        rcases hcm with rfl | rfl | rfl | rfl | rfl
        · exact zl
        · exact Heap.lt_size g2
        · exact Heap.lt_size g3
        · exact Heap.lt_size e1
        · exact Heap.lt_size e2
      rw [upd_ne (Nat.ne_of_lt lt)]
      exact (hf c hcm).1
  done := by
    rintro X rfl rfl rfl hc i pins s σ H E I hf ⟨g1, g2, ⟨x0, y0, g3⟩, g4, g5⟩ ⟨xs, ys, qx, qy, hend⟩
    obtain ⟨us, rv, pt, _⟩ := I.tuple qx
    obtain ⟨vs, rv2, pl, _⟩ := I.list qy
    have l1 := rv.length
    have l2 := rv2.length
    have hh : X.A.in1.handled = none := I.ok.hd hc
    obtain ⟨na, Pa, Sa, Da, sa, la, ea⟩ : ∃ (n : Nat) (Pv : Nat → Value → Prop) (Sv : Nat → Heap → Prop), Draws X.prog X.w X.A.in1 i1 [i1, a] n Pv Sv ∧ Sv i s.heap ∧ i ≤ n ∧ (us.length ≤ i → i = n) := by
      by_cases q : us.length ≤ i
      · exact ⟨i, _, _, draws_tupEnd hh i1 a us.toArray (by simpa using q), ⟨rfl, g4, pt⟩, Nat.le_refl _, fun _ => rfl⟩
      · exact ⟨_, _, _, Draws.tuple hh i1 a n1 us.toArray, ⟨g4, pt⟩, by simp; omega, fun z => absurd z q⟩
    obtain ⟨nb, Pb, Sb, Db, sb, lb, eb⟩ : ∃ (n : Nat) (Pv : Nat → Value → Prop) (Sv : Nat → Heap → Prop), Draws X.prog X.w X.A.in1 i2 [i2, b] n Pv Sv ∧ Sv i s.heap ∧ i ≤ n ∧ (vs.length ≤ i → i = n) := by
      by_cases q : vs.length ≤ i
      · exact ⟨i, _, _, draws_lstEnd hh i2 b vs.toArray (by simpa using q), ⟨rfl, g5, pl.isList⟩, Nat.le_refl _, fun _ => rfl⟩
      · exact ⟨_, _, _, Draws.list hh i2 b n2 vs.toArray, ⟨g5, pl.isList⟩, by simp; omega, fun z => absurd z q⟩
    refine wpAny_pyNext_zipD2_end D Da Db g1 g2 g3 sa sb la lb (hend.elim (fun z => .inl (ea (by omega))) fun z => .inr (eb (by omega))) fun h1 tk hk => ⟨rfl, I.turnedL (t' := tk) (ch := [z, TI, TO, i1, i2]) (fun c o hb q => ?_) hf⟩
    simp only [List.mem_cons, List.not_mem_nil, or_false, not_or] at hb
    exact hk c o hb.1 hb.2.2.1 hb.2.2.2.1 hb.2.2.2.2 q
  self := fun A i s Q E st h => wpAny_pyIter_zip st.1 h
section
variable {X : Cx} {e e2 : Expr} {t : TA} {p pos tpos : Pos} {kk : Nat} {elts : List Expr}
theorem zipTLK (K : PySem.W.Frag) (h : X.K = K) (hg : Gl X "zip") (hm : X.mg "zip" = none) (ha : PA X [e, e2] t)
    (hs : starEach [e, e2] X.env = (false, eval e X.env) :: starEach [e2] X.env := by rfl) (hpl : (backTo pos (starEach [e2] X.env)).any (·.1) = false := by rfl) :
    PI X (.Tuple elts kk tpos) (.Call (.Name "zip" p) [e, e2] [] pos) (iZipTL K t) := by
  subst h
  refine ⟨fun pins s σ H R I h => ?_⟩
  refine Call_ (ld_blt I hg hm PyProof.Rows.boot_zip (PyProof.Rows.callWith_type1 (thn (ha.run pos pins s σ H _ I h) fun us s1 ⟨vs, H1, I1, r1, a, b, xs, ys, ex, qx, qy, q⟩ => ?_) hs hpl))
  subst ex
  cases r1 with
  | cons r rr =>
    cases rr with
    | cons r' rr =>
      cases rr
      cases r
      cases r'
      obtain ⟨us, rv, pt, _⟩ := I1.tuple qx
      obtain ⟨ws, rv2, pl, _⟩ := I1.list qy
      obtain ⟨o1, ho1, _⟩ := id pt
      have la : a < s1.heap.objs.size := Heap.lt_size ho1
      have lb : b < s1.heap.objs.size := pl.lt
      refine zip_begins2 (begins_tuple a us.toArray) (begins_list b ws.toArray) pt pl.isList fun h1 k1 k2 k3 k4 k5 k6 k7 => wpAny_pyIter_zip k1 ?_
      have I2 : L2.Inv X pins σ H1 { s1 with heap := h1 } := I1.kept (t' := s1.toks) k7
      refine ⟨s1.heap.objs.size + 4, [s1.heap.objs.size + 4, s1.heap.objs.size + 2, s1.heap.objs.size + 3, s1.heap.objs.size, s1.heap.objs.size + 1], _, _, H1, rfl, I2, turn_zipTL (zip_sep2 (fp1 := [a]) (fp2 := [b]) (by simpa using la) (by simpa using lb)) (Nat.ne_of_lt la) (Nat.ne_of_lt (Nat.lt_succ_of_lt lb)), ⟨k1, k2, ⟨_, _, k3⟩, ⟨_, k4, rfl, rfl⟩, ⟨_, k5, rfl, rfl⟩⟩, fun c hcm => ?_, q⟩
      have hle : s1.heap.objs.size ≤ c := by
        simp only [List.mem_cons, List.not_mem_nil, or_false] at hcm
        rcases hcm with rfl | rfl | rfl | rfl | rfl
        · exact Nat.le_add_right _ _
        · exact Nat.le_add_right _ _
        · exact Nat.le_add_right _ _
        · exact Nat.le_refl _
        · exact Nat.le_add_right _ _
      exact I1.fpOk hle (I1.hok.fresh hle)
end
end K59
namespace K59R
open PySem PySem.SeqAt
open AutoSeq1 (wpAny_loadPart')
open MeetsSeq MeetsSeq2 MeetsSeq3 SeqRoads2
/-- two tuples, place by place equal: != gives False -/
theorem tup_neAll {prog : Program} {w : World} (l b : Addr) (items items2 : Array Value) (n n2 : Nat) (dd dd2 : Option Addr) (sl sl2 : Array (Option Value)) (hz : items.size = items2.size) :
    MeetsIn prog w (Builtin.«tuple.__ne__» ⟨[.ref l, .ref b], []⟩)
      (fun A R s => s.heap.get? l = some { cls := .type "tuple", dict := dd, data := .seq items n, slots := sl } ∧ s.heap.get? b = some { cls := .type "tuple", dict := dd2, data := .seq items2 n2, slots := sl2 } ∧
        (∀ p ∈ items.toList.zip items2.toList, EqIn prog w A.in1 s p.1 p.2 true) ∧ R (.ok (.ret (.bool false))) s) :=
  .of_wp fun A R s h => by
    obtain ⟨hp, g, d, tk, os⟩ := s; obtain ⟨hl, hb, he, h⟩ := h
    have f2 := AutoSeq1.sub_tuple_tuple
    wp_walk using wpAny_loadPart' hl, wpAny_loadPart' hb, wpAny_forIn_list _ (fun rest b s' => b.1 = none ∧ s' = ⟨hp, g, d, tk, os⟩ ∧ ∀ p ∈ rest, EqIn prog w A.in1 ⟨hp, g, d, tk, os⟩ p.1 p.2 true) _
    case turn =>
      rintro ⟨y, x⟩ rest b s' ⟨hb', rfl, hr⟩
      refine wpAny_bind (hr (y, x) (by simp) _ _ ?_)
      wp_walk
      exact ⟨rfl, rfl, fun p hm => hr p (by simp [hm])⟩
    case fin =>
      rintro ⟨b1, b2⟩ s' ⟨hb', rfl, -⟩
      simp only at hb'
      subst hb'
      wp_walk
      exact ⟨_, rfl, by simpa [Builtin.Tuple.tupleCompareSizes, bne, hz] using h⟩
    case h =>
      exact ⟨rfl, rfl, he⟩
/-- x in a list, one of whose items is equal -/
theorem in_loopIn {prog : Program} {w : World} (l : Addr) (items : Array Value) (n : Nat) (dd : Option Addr) (sl : Array (Option Value)) (x : Value) (e : Nat → Bool) (k : Nat) :
    ∀ i : Nat, items.size - i = k → MeetsIn prog w (Builtin.«list.__contains__.loop» ⟨[.ref l, x, rawInt i], []⟩)
      (fun A R s => s.heap.get? l = some { cls := .type "list", dict := dd, data := .seq items n, slots := sl } ∧ (∀ j (hj : j < items.size), EqIn prog w A.in1 s items[j] x (e j)) ∧ (∃ j, i ≤ j ∧ j < items.size ∧ e j = true) ∧ R (.ok (.ret (.bool true))) s) := by
  induction k with
  | zero =>
    intro i hk A R s h
    obtain ⟨_, _, ⟨j, h1, h2, _⟩, _⟩ := h
    exact absurd h2 (by omega)
  | succ k ih =>
    intro i hk A R s h
    obtain ⟨hp, g, d, tk, os⟩ := s; obtain ⟨hl, he, hx, h⟩ := h
    have hlt : i < items.size := by omega
    have hi : items[((i : Nat) : Int).toNat]? = some items[i] := by simp [hlt]
    wp_walk using wpAny_loadPart' hl
    rw [hi]
    refine wpAny_bind (he i hlt _ _ ?_)
    cases hb : e i with
    | true =>
      wp_walk
      exact h
    | false =>
      have hc : ((i : Int) + 1) = ((i + 1 : Nat) : Int) := by push_cast; rfl
      wp_walk
      rw [hc]
      obtain ⟨j, h1, h2, h3⟩ := hx
      have hne : i ≠ j := fun z => by rw [z, h3] at hb; cases hb
      exact ⟨plainId_quiet plain_contains_loop _, codeAny_builtin entry_contains_loop (by
        rw [Around.under_plainId plain_contains_loop _]
        exact ih (i + 1) (by omega) A R _ ⟨hl, he, ⟨j, by omega, h2, h3⟩, h⟩)⟩
theorem list_inIn {prog : Program} {w : World} (l : Addr) (items : Array Value) (n : Nat) (dd : Option Addr) (sl : Array (Option Value)) (x : Value) (e : Nat → Bool) :
    MeetsIn prog w (Builtin.«list.__contains__» ⟨[.ref l, x], []⟩)
      (fun A R s => s.heap.get? l = some { cls := .type "list", dict := dd, data := .seq items n, slots := sl } ∧ (∀ j (hj : j < items.size), EqIn prog w A.in1 s items[j] x (e j)) ∧ (∃ j, j < items.size ∧ e j = true) ∧ R (.ok (.ret (.bool true))) s) := by
  intro A R s h
  obtain ⟨hp, g, d, tk, os⟩ := s; obtain ⟨hl, he, ⟨j, h1, h2⟩, h⟩ := h
  wp_walk using wpAny_loadPart' hl
  exact ⟨plainId_quiet plain_contains_loop _, codeAny_builtin entry_contains_loop (by
    rw [Around.under_plainId plain_contains_loop _]
    exact in_loopIn l items n dd sl x e _ 0 rfl A R _ ⟨hl, he, ⟨j, Nat.zero_le _, h1, h2⟩, h⟩)⟩
theorem in_listIn {prog : Program} {w : World} {A : Around} {E Q : Value → Shared → Prop} {s : Shared} {l : Addr} {items : Array Value} {x : Value} (e : Nat → Bool) (hl : s.heap.IsList l items) (he : ∀ j (hj : j < items.size), EqIn prog w A.in1 s items[j] x (e j)) (hx : ∃ j, j < items.size ∧ e j = true) (h : Q (.bool true) s) :
    wpAny (model prog w) A (compareOp .In x (.ref l)) Q E s := by
  obtain ⟨⟨cls, dd, data, sl⟩, ho, hc, n, hd⟩ := id hl
  simp only at hc hd
  subst hc hd
  show wpAny _ A (do return .bool (← contains (.ref l) x)) Q E s
  refine wpAny_bind (wpAny_contains_slot ⟨_, ho, rfl⟩ F.slot_list_contains (wpAny_mono (call_meetsIn (Q := fun v s' => v = .bool true ∧ Q (.bool true) s') F.slot_list_contains ⟨_, ho, rfl⟩ F.entry_list_contains (F.args_list_contains_2 _ _) (list_inIn l items n dd sl x e) ⟨ho, he, hx, rfl, h⟩) (fun v s' hv => ?_) fun _ _ e => e))
  obtain ⟨rfl, hq⟩ := hv
  exact wpAny_truthy_bool (wpAny_pure hq)
end K59R
namespace K59
open PySem PySem.Spec PyProof.Rows L2
section
variable {X : Cx} {pins : List (Addr × Obj)} {σ : L2.St} {H : Hp} {s : Shared}
theorem sameD_eqV {K : PySem.W.Frag} {x y : V} (h : SameD H x y) : EqV K H 2 x y := by
  obtain ⟨a, b, ks, ls, h1, h2, h3, h4, h5, h6⟩ := h
  exact .inr (.inr (.inr ⟨a, b, ks, ls, h1, h2, h3, h4, h5, fun p hp => ⟨p.2, (h6 p hp).1, .inl ⟨rfl, (h6 p hp).2⟩⟩⟩))
theorem sameD_run (I : L2.Inv X pins σ H s) {A : Around} (hu : A.units + 2 < cLine) {x y : V} {v u : Value} (h : SameD H x y) (rx : L2.RelV x v) (ry : L2.RelV y u) : SeqAt.EqIn X.prog X.w A s v u true := eqV_run I 2 A hu x y v u (sameD_eqV h) rx ry
theorem eqPDK (K : PySem.W.Frag) (h : X.K = K) (hu : X.A.units + 64 < cLine) : OpR X (compareOp .Eq) (rPD K true) := by
  subst h
  intro pins s σ H x y v u Q I rx ry h
  obtain ⟨a, b, x1, x2, y1, y2, rfl, rfl, qa, qb, s1, s2, q⟩ := h
  cases rx
  cases ry
  obtain ⟨us, rv, pt, _⟩ := I.tuple qa
  obtain ⟨ws, rv2, pt2, _⟩ := I.tuple qb
  obtain ⟨u1, u2, rfl, r1, r2⟩ := vals2 rv
  obtain ⟨u3, u4, rfl, r3, r4⟩ := vals2 rv2
  refine PySem.SeqAt.rcIn_tuples (e := fun _ => true) pt pt2 (by omega) (fun j h1 h2 => ?_) ⟨.bl true, H, I, rfl, q⟩
  match j, h1, h2 with
  | 0, _, _ => exact sameD_run I (by show X.A.units + 1 + 2 < cLine; omega) s1 r1 r3
  | 1, _, _ => exact sameD_run I (by show X.A.units + 1 + 2 < cLine; omega) s2 r2 r4
theorem nePDK (K : PySem.W.Frag) (h : X.K = K) (hu : X.A.units + 64 < cLine) : OpR X (compareOp .NotEq) (rPD K false) := by
  subst h
  intro pins s σ H x y v u Q I rx ry h
  obtain ⟨a, b, x1, x2, y1, y2, rfl, rfl, qa, qb, s1, s2, q⟩ := h
  cases rx
  cases ry
  obtain ⟨us, rv, pt, _⟩ := I.tuple qa
  obtain ⟨ws, rv2, pt2, _⟩ := I.tuple qb
  obtain ⟨u1, u2, rfl, r1, r2⟩ := vals2 rv
  obtain ⟨u3, u4, rfl, r3, r4⟩ := vals2 rv2
  obtain ⟨⟨cls, dd, data, sl⟩, ho, hc, n, hd⟩ := id pt
  obtain ⟨⟨cls2, dd2, data2, sl2⟩, ho2, hc2, n2, hd2⟩ := id pt2
  simp only at hc hd hc2 hd2
  subst hc hd hc2 hd2
  refine wpAny_richCompare_same_room (T := "tuple") (op := .NotEq) ⟨_, ho, rfl⟩ ⟨_, ho2, rfl⟩ F.slot_tuple_ne (call_meetsIn F.slot_tuple_ne ⟨_, ho, rfl⟩ F.entry_tuple_ne (F.args_tuple_ne_2 _ _) (K59R.tup_neAll a b #[u1, u2] #[u3, u4] n n2 dd dd2 sl sl2 rfl) ⟨ho, ho2, fun p hp => ?_, (fun z => nomatch z), ⟨.bl false, H, I, rfl, q⟩⟩) (by omega)
  simp only [List.zip_cons_cons, List.zip_nil_right, List.mem_cons, List.not_mem_nil, or_false] at hp
  rcases hp with rfl | rfl
  · exact sameD_run I (by show X.A.units + 1 + 2 < cLine; omega) s1 r1 r3
  · exact sameD_run I (by show X.A.units + 1 + 2 < cLine; omega) s2 r2 r4
/-- two tables of whole numbers compared: some answer -/
theorem hits_ex {A : Around} {kb : List (Key × Value)} (hb : ∀ z ∈ kb, ∃ i t, z.2 = Value.int i t) : ∀ ka : List (Key × Value), (∀ z ∈ ka, ∃ i t, z.2 = Value.int i t) → ∃ r, PySem.W.KeqHitsIn X.prog X.w A s kb ka r
  | [], _ => ⟨true, .nil⟩
  | (k, v) :: ka, ha => by
    obtain ⟨r, hr⟩ := hits_ex hb ka fun z hz => ha z (by simp [hz])
    obtain ⟨i, t, e⟩ := ha (k, v) (by simp)
    have e : v = Value.int i t := e
    subst e
    cases hk : valueAt kb k with
    | none => exact ⟨_, .miss hk⟩
    | some y =>
      obtain ⟨j, u, e⟩ : ∃ j u, y = Value.int j u := by
        unfold valueAt at hk
        obtain ⟨z, hz, rfl⟩ := Option.map_eq_some_iff.mp hk
        exact hb z (List.mem_of_find?_eq_some hz)
      subst e
      exact ⟨_, .hit hk ((SeqAt.EqAt.int_int i t j u).inModel X.prog X.w) hr⟩
theorem kv_ints {ks : List (Key × V)} {vs : List (Key × Value)} (r : KV ks vs) (h : ∀ z ∈ ks, ∃ i, z.2 = V.int i) : ∀ z ∈ vs, ∃ i t, z.2 = Value.int i t := by
  unfold KV at r
  induction r with
  | nil => intro z hz; cases hz
  | @cons p q ps qs h' t ih =>
    intro z hz
    rcases List.mem_cons.mp hz with rfl | hz
    · obtain ⟨i, e⟩ := h p (by simp)
      have r2 := h'.2
      rw [e] at r2
      obtain ⟨t, e'⟩ := r2
      exact ⟨i, t, e'⟩
    · exact ih (fun z hz => h z (by simp [hz])) z hz
theorem inDDK (K : PySem.W.Frag) (h : X.K = K) (hu : X.A.units + 64 < cLine) : OpR X (compareOp .In) (rInDD K) := by
  subst h
  intro pins s σ H x y v u Q I rx ry h
  obtain ⟨a, l, ks, ds, rfl, rfl, ha, ql, hks, hds, ⟨d0, hd0, sd⟩, q⟩ := h
  cases rx
  cases ry
  obtain ⟨us, rv, pl, _⟩ := I.list ql
  obtain ⟨_, ya, va, ra, da⟩ := (show ObjOk X.prog X.w H s.heap a (.dK ks) from I.hok a _ ha)
  have hva := kv_ints ra hks
  have hl : us.length = ds.length := by rw [← rv.length, List.length_map]
  have hu' : ∀ j (hj : j < us.length), us[j] = Value.ref (ds[j]'(by omega)) := fun j hj => by
    obtain ⟨u, e1, e2⟩ := rv.get (i := j) (x := .ref (ds[j]'(by omega))) (by rw [List.getElem?_map, List.getElem?_eq_getElem (by omega)]; rfl)
    rw [List.getElem?_eq_getElem hj] at e1
    exact (Option.some.inj e1).trans e2
  obtain ⟨j0, hj0, e0⟩ := List.getElem_of_mem hd0
  have key : ∀ j (hj : j < us.length), ∃ b, SeqAt.EqIn X.prog X.w X.A.in1 s us[j] (.ref a) b ∧ (j = j0 → b = true) := fun j hj => by
    by_cases e : j = j0
    · subst e
      refine ⟨true, ?_, fun _ => rfl⟩
      rw [hu' j hj, e0]
      exact sameD_run I (by show X.A.units + 1 + 2 < cLine; omega) sd rfl rfl
    · rw [hu' j hj]
      obtain ⟨ls, hls, hli⟩ := hds _ (List.getElem_mem (l := ds) (n := j) (by omega))
      obtain ⟨_, yb, vb, rb, db⟩ := (show ObjOk X.prog X.w H s.heap _ (.dK ls) from I.hok _ _ hls)
      by_cases z : ds[j]'(by omega) = a
      · rw [z]
        exact ⟨true, (SeqAt.EqAt.same _).inModel _ _, fun h => absurd h e⟩
      · obtain ⟨r, hr⟩ := hits_ex (X := X) (s := s) (A := X.A.in1.in1) hva vb (kv_ints rb hli)
        exact ⟨_, SeqAt.EqIn.of_refs z fun E Q hq => PySem.W.keq_eqIn (knd := mixKind X.prog X.w) yb ya db da (by show X.A.units + 1 < cLine; omega) (fun _ => hr) hq, fun h => absurd h e⟩
  refine K59R.in_listIn (fun j => if hj : j < us.length then Classical.choose (key j hj) else false) pl.isList (fun j hj => ?_) ⟨j0, by simpa [hl] using hj0, ?_⟩ ⟨.bl true, H, I, rfl, q⟩
  · have hj' : j < us.length := by simpa using hj
    have := (Classical.choose_spec (key j hj')).1
    rw [dif_pos hj']
    simpa using this
  · have hj' : j0 < us.length := by omega
    rw [dif_pos hj']
    exact (Classical.choose_spec (key j0 hj')).2 rfl
end
end K59
namespace K59
open PySem PySem.Spec PyProof.Rows L2
/-! sets of texts -/
abbrev empS (w : World) : Obj := { cls := .type "set", dict := none, data := .set #[] 0 (.fresh 0 0 (!w.params.followText "set-order")) }
/-- the text of an entry -/
def txE (e : Int × Value) : Str := match e.2 with | .str k _ => k | _ => Str.empty
def EntS (P : Program) (w : World) (e : Int × Value) : Prop := ∃ k u, e.2 = Value.str k u ∧ e.1 = (PySem.strKind P w).hash k
/-- es and t hold the texts ys -/
structure TabS (P : Program) (w : World) (es : Array (Int × Value)) (t : SetTable) (ys : List Str) : Prop where
  ent : ∀ e ∈ es.toList, EntS P w e
  keys : (es.toList.map txE).Perm ys
  nd : ys.Nodup
  few : ys.length < scanBound
  fits : t.fits es.size = true
  ris : Ris t.place.toList
  led : w.params.followText "set-order" = true ∨ t.led = true
def SetS (P : Program) (w : World) (h : Heap) (a : Addr) (ys : List Str) : Prop := ∃ o es ep t, h.get? a = some o ∧ o.ExactSet ∧ o.data = .set es ep t ∧ TabS P w es t ys
section
variable {P : Program} {w : World} {A : Around} {E : Value → Shared → Prop} {s : Shared} {a : Addr} {ys : List Str} {es : Array (Int × Value)} {t : SetTable}
theorem TabS.size (T : TabS P w es t ys) : es.size = ys.length := by
  have := T.keys.length_eq
  rw [List.length_map, Array.length_toList] at this
  exact this
theorem TabS.elems (T : TabS P w es t ys) : ElemsOf (PySem.strKind P w) es.toList := fun e he => by
  obtain ⟨k, u, h1, h2⟩ := T.ent e he
  refine ⟨⟨k, ?_, h2⟩, ?_⟩
  · rw [h1]; exact strKind_is P w k u
  · rw [h1]; rfl
theorem EntS.is {e : Int × Value} (g : EntS P w e) (k : Str) : (PySem.strKind P w).is k e.2 = true ↔ txE e = k := by
  obtain ⟨k0, u, h1, _⟩ := g
  have h0 : txE e = k0 := by unfold txE; rw [h1]
  have h2 : (PySem.strKind P w).is k0 e.2 = true := by rw [h1]; exact strKind_is P w k0 u
  rw [h0]
  exact ⟨fun q => (PySem.strKind P w).inj _ _ _ h2 q, fun q => q ▸ h2⟩
theorem SetS.moved {h h' : Heap} (R : SetS P w h a ys) (k : ∀ o, h.get? a = some o → h'.get? a = some o) : SetS P w h' a ys := let ⟨o, es, ep, t, ho, r⟩ := R; ⟨o, es, ep, t, k o ho, r⟩
theorem stored {h : Heap} {o : Obj} {es es' : Array (Int × Value)} {ep : Nat} {t t' : SetTable} (ho : h.get? a = some o) (hd : o.data = .set es ep t) : (h.update a (Obj.putSet es' t')).get? a = some { o with data := .set es' (ep + 1) t' } := L2.store_at ho hd
theorem tailS {g : Bool → Sem Unit} (hg : ∀ (b : Bool) (z : Shared) (Q' : Unit → Shared → Prop), Q' () z → wpAny (model P w) A (g b) Q' E z) {o : Obj} {ep : Nat} {t0 : SetTable} {es0 : Array (Int × Value)} (ho : s.heap.get? a = some o) (hex : o.ExactSet)
    (hd : o.data = .set es0 ep t0) (T : TabS P w es t ys) {wasDummy : Bool} {R : Option Bool → Shared → Prop} (hR : ∀ h', Heap.SameBut a s.heap h' → SetS P w h' a ys → R (some true) { s with heap := h' }) :
    wpAny (model P w) A (do storeSet a es t; if (!wasDummy && t.tooFull) = true then (do g (relayAll t es (SetTable.grown es.size)).2.2; storeSet a (relayAll t es (SetTable.grown es.size)).1 (relayAll t es (SetTable.grown es.size)).2.1; pure (some true)) else pure (some true)) R E s := by
  have few : es.size < scanBound := T.size ▸ T.few
  refine wpAny_bind (wpAny_storeSet_of ho hd ?_ (fits_of_scanBound few))
  have at1 := stored (es' := es) (t' := t) ho hd
  have same1 := Heap.SameBut.update s.heap a (Obj.putSet es t)
  by_cases full : (!wasDummy && t.tooFull) = true
  · rw [if_pos full]
    have p2 := relayAll_perm t es (SetTable.grown es.size); have f2 := relayAll_fits t es (SetTable.grown es.size)
    have r2 := relayAll_ris t es (SetTable.grown es.size); have l2 := relayAll_led t es (SetTable.grown es.size)
    generalize relayAll t es (SetTable.grown es.size) = Z at p2 f2 r2 l2 ⊢
    obtain ⟨es2, t3, gave⟩ := Z
    dsimp only at p2 f2 r2 l2 ⊢
    have z2 : es2.size = es.size := by have := p2.length_eq; rwa [Array.length_toList, Array.length_toList] at this
    refine wpAny_bind (hg _ _ _ (wpAny_bind (wpAny_storeSet_of at1 rfl ?_ (fits_of_scanBound (z2 ▸ few)))))
    have at2 := stored (es' := es2) (t' := t3) at1 rfl
    exact wpAny_pure (hR _ (same1.trans (Heap.SameBut.update _ a _)) ⟨_, es2, _, t3, at2, hex, rfl, fun e he => T.ent e (p2.mem_iff.mp he), (p2.map txE).trans T.keys, T.nd, T.few, f2, r2, T.led.imp id fun z => l2.trans z⟩)
  · rw [if_neg full]
    exact wpAny_pure (hR _ same1 ⟨_, es, _, t, at1, hex, rfl, T⟩)
/-- ys with k -/
def withS (ys : List Str) (k : Str) : List Str := if k ∈ ys then ys else k :: ys
theorem addS {k : Str} {u : Tok} {Q : Bool → Shared → Prop} (R : SetS P w s.heap a ys) (room : ys.length + 1 < scanBound) (hQ : ∀ b h', Heap.SameBut a s.heap h' → SetS P w h' a (withS ys k) → Q b { s with heap := h' }) :
    wpAny (model P w) A (setAddHashed a (.str k u) ((PySem.strKind P w).hash k)) Q E s := by
  obtain ⟨o, es, ep, t, ho, hex, hd, T⟩ := R
  have few : es.size < scanBound := T.size ▸ T.few
  have isk : (PySem.strKind P w).is k (.str k u) = true := strKind_is P w k u
  have sc : (Value.str k u).scannable = true := rfl
  unfold setAddHashed setAddHashedIn
  refine wpAny_holding (wpAny_bind (wpAny_setState_of ho hd T.fits ?_))
  dsimp only; rw [byScan_of sc few T.elems]; simp only [↓reduceIte]
  unfold setAddByScan
  refine wpAny_bind (wpAny_bind (wpAny_rule (wpAny_bind (wpAny_setScan_of isk ho hd T.fits T.elems ?_))))
  cases hfi : List.findIdx? (fun e => (PySem.strKind P w).is k e.2) es.toList with
  | some j =>
    obtain ⟨hj, pj, _⟩ := List.findIdx?_eq_some_iff_getElem.mp hfi
    have hk : k ∈ ys := T.keys.mem_iff.mp (List.mem_map.mpr ⟨es.toList[j], List.getElem_mem hj, (EntS.is (T.ent _ (List.getElem_mem hj)) k).mp pj⟩)
    dsimp only
    refine wpAny_pure (wpAny_pure (hQ _ s.heap (Heap.SameBut.refl a s.heap) ?_))
    unfold withS; rw [if_pos hk]
    exact ⟨o, es, ep, t, ho, hex, hd, T⟩
  | none =>
    have hk : k ∉ ys := fun z => by
      obtain ⟨e, he, q⟩ := List.mem_map.mp (T.keys.mem_iff.mpr z)
      have c := List.findIdx?_eq_none_iff.mp hfi e he
      rw [((T.ent e he).is k).mpr q] at c
      cases c
    have pw : withS ys k = k :: ys := by unfold withS; rw [if_neg hk]
    rw [pw] at hQ
    have gw : ∀ (b : Bool) {z : Shared} {Q' : Unit → Shared → Prop}, Q' () z → wpAny (model P w) A (match b with | true => rule "set.scan.the-table-gave-way" | false => pure ()) Q' E z := fun b z Q' q => by
      cases b
      · exact wpAny_pure q
      · exact wpAny_rule q
    have p1 := layNew_perm t es ((PySem.strKind P w).hash k) (.str k u); have f1 := layNew_fits t es ((PySem.strKind P w).hash k) (.str k u)
    have r1 := layNew_ris t es ((PySem.strKind P w).hash k) (.str k u) T.ris; have l1 := layNew_led t es ((PySem.strKind P w).hash k) (.str k u)
    dsimp only
    generalize layNew t es ((PySem.strKind P w).hash k) (.str k u) = Z at p1 f1 r1 l1 ⊢
    obtain ⟨es1, t1, wasDummy, gave⟩ := Z
    dsimp only at p1 f1 r1 l1 ⊢
    rw [Array.toList_push] at p1
    have pc : es1.toList.Perm (((PySem.strKind P w).hash k, Value.str k u) :: es.toList) := p1.trans (List.perm_append_singleton _ _)
    have T1 : TabS P w es1 t1 (k :: ys) := by
      refine ⟨fun e he => ?_, (pc.map txE).trans (T.keys.cons k), List.nodup_cons.mpr ⟨hk, T.nd⟩, room, f1, r1, T.led.imp id fun z => l1.trans z⟩
      rcases List.mem_cons.mp (pc.mem_iff.mp he) with z | z
      · rw [z]; exact ⟨k, u, rfl, rfl⟩
      · exact T.ent e z
    refine wpAny_bind (gw _ ?_)
    split
    · refine wpAny_bind ?_
      rw [hashByValue_scannable 8 sc]
      refine wpAny_pure (tailS (ys := k :: ys) ?_ ho hex hd ?_ ?_)
      · intro b z Q' q
        cases b
        · exact wpAny_pure q
        · exact wpAny_rule q
      · split
        · exact T1
        · exact ⟨T1.ent, T1.keys, T1.nd, T1.few, SetTable.fits_plain_off f1, T1.ris, T1.led⟩
      · intro h' sb r
        exact wpAny_pure (hQ _ h' sb r)
    · refine wpAny_bind (wpAny_pure ?_)
      simp only [↓reduceIte]
      refine tailS (ys := k :: ys) ?_ ho hex hd T1 ?_
      · intro b z Q' q
        cases b
        · exact wpAny_pure q
        · exact wpAny_rule q
      · intro h' sb r
        exact wpAny_pure (hQ _ h' sb r)
/-- the first i of xs, each once -/
def metS (xs : List Str) : Nat → List Str
  | 0 => []
  | i + 1 => withS (metS xs i) (xs.getD i Str.empty)
theorem metS_len (xs : List Str) : ∀ i, (metS xs i).length ≤ i
  | 0 => Nat.le_refl _
  | i + 1 => by
    have := metS_len xs i
    show (withS _ _).length ≤ i + 1
    unfold withS
    split
    · omega
    · rw [List.length_cons]; omega
theorem metS_mem {xs : List Str} {z : Str} : ∀ i, i ≤ xs.length → (z ∈ metS xs i ↔ z ∈ xs.take i)
  | 0, _ => by simp [metS]
  | i + 1, h => by
    have hi : i ≤ xs.length := Nat.le_of_succ_le h
    have ih := metS_mem (z := z) i hi
    have e1 : xs.getD i Str.empty = xs[i] := by rw [List.getD_eq_getElem?_getD, List.getElem?_eq_getElem (by omega)]; rfl
    rw [List.take_add_one, List.getElem?_eq_getElem (by omega)]
    show z ∈ withS _ _ ↔ _
    rw [e1]
    unfold withS
    split
    · rename_i hm
      rw [ih, List.mem_append]
      refine ⟨.inl, fun q => q.elim id fun q => ?_⟩
      have q := List.mem_singleton.mp q
      rw [q]
      exact (metS_mem i hi).mp hm
    · rw [List.mem_cons, ih, List.mem_append]
      exact ⟨fun q => q.elim (fun q => .inr (List.mem_singleton.mpr q)) .inl, fun q => q.elim .inr fun q => .inl (List.mem_singleton.mp q)⟩
theorem metS_nodup {xs : List Str} (nd : xs.Nodup) : ∀ i, i ≤ xs.length → (metS xs i).length = i
  | 0, _ => rfl
  | i + 1, h => by
    have e1 : xs.getD i Str.empty = xs[i] := by rw [List.getD_eq_getElem?_getD, List.getElem?_eq_getElem (by omega)]; rfl
    show (withS _ _).length = _
    rw [e1]
    unfold withS
    rw [if_neg, List.length_cons, metS_nodup nd i (by omega)]
    intro q
    obtain ⟨j, hj, e⟩ := List.mem_take_iff_getElem.mp ((metS_mem i (by omega)).mp q)
    exact List.pairwise_iff_getElem.mp nd j i (by omega) (by omega) (by omega) e
theorem loopS {I : Addr} {fp wr : List Addr} {G : Array GenState → Array GenState → Prop} {n : Nat} {Pv : Nat → Value → Prop} {St : Nat → Shared → Prop} {R : Result → Shared → Prop} (W : WalksS P w A.in1 I fp wr G n Pv St) (S : Addr) (nS : S ∉ fp) (xs : List Str) (hz : xs.length = n) (hn : n + 1 < scanBound)
    (hval : ∀ i v, Pv i v → ∃ u, v = .str (xs.getD i Str.empty) u) : ∀ (k i : Nat) (s : Shared), n - i = k → i ≤ n → St i s → SetS P w s.heap S (metS xs i) →
      (∀ s', Moved (S :: wr) G s s' → SetS P w s'.heap S (metS xs n) → R (.ok (.ret .none)) s') → codeAny (model P w) A (.builtin "set.update.loop" ⟨[.ref S, .ref I], []⟩) R s := by
  have nW : S ∉ wr := fun h => nS (W.sub _ h)
  have inn : ∀ b ∈ wr, b ∈ S :: wr := fun b hb => .tail _ hb
  intro k
  induction k with
  | zero =>
    intro i s hk hi hst hS hR
    obtain rfl : i = n := by omega
    refine codeAny_builtin PyProof.Rows.F.entry_set_update_loop ?_
    rw [Around.under_plainId PyProof.Rows.F.plain_set_update_loop _]
    show wpAny _ A.in1 (pyNext (.ref I) >>= fun _ => _) _ _ s
    refine wpAny_bind (W.done s _ _ hst fun s' hm => ?_)
    show wpAny _ A.in1 (ret Value.none) _ _ s'
    exact wpAny_pure (hR s' (hm.mono inn) (hS.moved fun o e => hm.heap S o nW e))
  | succ k ih =>
    intro i s hk hi hst hS hR
    have lt : i < n := by omega
    refine codeAny_builtin PyProof.Rows.F.entry_set_update_loop ?_
    rw [Around.under_plainId PyProof.Rows.F.plain_set_update_loop _]
    show wpAny _ A.in1 (pyNext (.ref I) >>= fun _ => _) _ _ s
    refine wpAny_bind (W.item i s _ _ lt hst fun v s' hP hst' hm => ?_)
    obtain ⟨u, rfl⟩ := hval i v hP
    have S1 : SetS P w s'.heap S (metS xs i) := hS.moved fun o e => hm.heap S o nW e
    show wpAny _ A.in1 (holding [Value.str (xs.getD i Str.empty) u] (setAdd S (.str (xs.getD i Str.empty) u)) >>= fun _ => _) _ _ s'
    refine wpAny_bind (wpAny_holding ?_)
    unfold setAdd
    refine wpAny_holding (wpAny_bind ((PySem.strKind P w).pyHash (k := xs.getD i Str.empty) (strKind_is _ _ _ _) ?_))
    refine addS (s := { s' with toks := s'.toks + 1 }) S1 (by have := metS_len xs i; omega) fun b h' sb S2 => ?_
    refine wpAny_pure ⟨plainId_quiet PyProof.Rows.F.plain_set_update_loop _, ih (i + 1) _ (by omega) lt (W.frame _ s' _ _ hst' (Nat.le_succ _) fun c hc o e => ?_) S2 fun s'' m2 S3 => hR s'' (Moved.trans W.gtrans ((hm.mono inn).then_heap (Nat.le_succ _) fun c o hc e => ?_) m2) S3⟩
    · rw [sb.2 c (fun h : c = S => nS (h ▸ hc))]; exact e
    · rw [sb.2 c (fun h : c = S => hc (h ▸ List.mem_cons_self))]; exact e
theorem setS_new {h : Heap} (ho : h.get? a = some (empS w)) : SetS P w h a [] := by
  refine ⟨_, #[], 0, _, ho, ⟨rfl, rfl, rfl⟩, rfl, fun e he => by simp at he, .refl _, List.nodup_nil, by decide, by rfl, List.Pairwise.nil, ?_⟩
  show _ ∨ (!w.params.followText "set-order") = true
  cases w.params.followText "set-order"
  · exact .inr rfl
  · exact .inl rfl
/-- set(a list of texts) -/
theorem call_setS {l : Addr} {items : Array Value} {xs : List Str} {Q : Value → Shared → Prop} (hh : A.handled = none) (hl : s.heap.IsList l items) (hi : PyProof.Rows.StrsAre items.toList xs) (hn : xs.length + 1 < scanBound)
    (h : ∀ (h' : Heap) (tk : Nat), SetS P w h' s.heap.objs.size (metS xs xs.length) → (∀ b o, s.heap.get? b = some o → h'.get? b = some o) → Q (.ref s.heap.objs.size) { s with heap := h', toks := tk }) : wpAny (model P w) A (call (.type "set") [.ref l]) Q E s := by
  have hz : xs.length = items.size := by rw [← StrsAre.len_eq hi, Array.length_toList]
  obtain ⟨c, tl, hmro⟩ := PySem.F.called_set.mro
  have hmade := PySem.F.called_set.made; have hsub := PySem.F.called_set.sub
  refine wpAny_call (codeAny_of_tree ?_)
  show wpAny _ _ (callAny (.type "set") ⟨[.ref l], []⟩) _ _ _
  refine wpAny_pure ⟨Code.quiet_builtin _ (by decide +kernel), codeAny_builtin PySem.F.entry_type_call ?_⟩
  rw [Around.under_plain (weight_type_call_type "set" [.ref l] []) rfl]
  have h1 := PySem.F.called_set.notType; have h2 := PySem.F.called_set.canCreate; have hct := PySem.F.typeCall_set_1 (.ref l)
  repeat (any_goals (first | assumption | wp_step))
  refine codeAny_mono (L2.code_set_led1 (.ref l) (E := E) (Q₁ := fun obj z => obj = .ref s.heap.objs.size ∧ z = { s with heap := s.heap.push (empS w) }) ⟨rfl, rfl⟩) fun r s₁ hr => ?_
  rcases r with e | fl
  · exact hr
  · cases fl with
    | ret obj =>
      obtain ⟨rfl, rfl⟩ := hr
      have hS : (s.heap.push (empS w)).get? s.heap.objs.size = some (empS w) := Heap.get?_push_size _ rfl
      have hT : Shared.TypeIs { s with heap := s.heap.push (empS w) } (.ref s.heap.objs.size) "set" := ⟨_, hS, rfl⟩
      have hli := PySem.F.called_set.init.lookup; have hbi := PySem.F.called_set.init.bind (.ref s.heap.objs.size)
      repeat (any_goals (first | assumption | wp_step))
      refine codeAny_mono (codeAny_call_builtin (R := wants (fun r z => r = .none ∧ ∃ h' tk, z = { s with heap := h', toks := tk } ∧ SetS P w h' s.heap.objs.size (metS xs xs.length) ∧ (∀ b o, s.heap.get? b = some o → h'.get? b = some o)) E) PySem.F.called_set.init.plain PySem.F.entry_set_init (check_set_init_1 hT ?_)) fun r₂ s₂ hr₂ => ?_
      · obtain ⟨ol, hol, hcl, nl, hdl⟩ := hl
        obtain ⟨ocls, odict, odata, oslots⟩ := ol
        simp only at hcl hdl
        subst hcl; subst hdl
        have hol' : (s.heap.push (empS w)).get? l = some { cls := .type "list", dict := odict, data := .seq items nl, slots := oslots } := Heap.get?_push_of_some _ hol
        have hsls := PySem.F.sub_list_set; have hslf := PySem.F.sub_list_frozenset
        have hne : (Value.type "list" == Value.type "dict") = false := by decide
        have hl1 : (s.heap.push (empS w)).IsList l items := ⟨_, hol', rfl, nl, rfl⟩
        unfold Builtin.«set.__init__» noKeywords Builtin.Frozenset.updateFrom
        generalize hPI : pyIter = PI
        wp_walk
        subst hPI
        refine wpAny_pyIter_list hl1 (wpAny_bind (wpAny_runValue ?_))
        have hlS : l < s.heap.objs.size := Heap.lt_size hol
        have hh3 : A.in1.in1.in1.handled = none := by simp [hh]
        have neI : l ≠ (s.heap.push (empS w)).objs.size := by rw [Heap.size_push]; exact Nat.ne_of_lt (Nat.lt_succ_of_lt hlS)
        have nf : s.heap.objs.size ∉ [(s.heap.push (empS w)).objs.size, l] := by
          rw [Heap.size_push]
          intro z
          rcases List.mem_cons.mp z with z | z
          · exact Nat.ne_of_lt (Nat.lt_succ_self _) z
          · exact Nat.ne_of_gt hlS (List.mem_singleton.mp z)
        have hval : ∀ (i : Nat) (v : Value), items[i]? = some v → ∃ u, v = .str (xs.getD i Str.empty) u := fun i v hv => SS.strs_at hi i v (by rw [Array.getElem?_toList]; exact hv)
        refine loopS ((Walks.list hh3 _ l neI items).toS) s.heap.objs.size nf xs hz (by omega) hval (items.size - 0) 0 _ (by omega) (Nat.zero_le _) ⟨⟨_, Heap.get?_push_size _ rfl, rfl, rfl⟩, hl1.push _⟩ (setS_new (Heap.get?_push_of_some _ hS)) fun s' hm hS' => ?_
        obtain ⟨h', g', d', tk', os'⟩ := s'
        obtain rfl : g' = s.gens := hm.gens
        obtain rfl : d' = s.drawn := hm.drawn
        obtain rfl : os' = s.os := hm.os
        show wpAny _ _ _ _ _ _
        refine wpAny_pure ?_
        show wpAny _ _ (ret Value.none) _ _ _
        refine wpAny_pure ⟨rfl, h', tk', rfl, by rw [hz]; exact hS', fun b o e => ?_⟩
        have hb := Heap.lt_size e
        refine hm.heap b o (fun z => ?_) (Heap.get?_push_of_some _ (Heap.get?_push_of_some _ e))
        rcases List.mem_cons.mp z with z | z
        · exact Nat.ne_of_lt hb z
        · have z := List.mem_singleton.mp z
          rw [Heap.size_push] at z
          exact Nat.ne_of_lt (Nat.lt_succ_of_lt hb) z
      · rcases r₂ with e | fl₂
        · exact hr₂
        · cases fl₂ with
          | ret r =>
            obtain ⟨rfl, h', tk, rfl, hS', hk'⟩ := hr₂
            repeat (any_goals (first | assumption | wp_step))
            exact h _ _ hS' hk'
          | _ => exact hr₂.elim
    | _ => exact hr.elim
/-- sorted(a set of texts) -/
theorem sorted_setS {Q : Value → Shared → Prop} (R : SetS P w s.heap a ys) (hh : A.handled = none) (h64 : ys.length < 64)
    (hQ : ∀ s' p (out : Array Value) (c : Nat) (zs : List Str), (∀ b o, s.heap.get? b = some o → s'.heap.get? b = some o) → s'.gens = s.gens → s'.os = s.os → s.heap.objs.size ≤ p → s'.heap.get? p = some (seqObj "list" out c) → StrsAre out.toList zs → zs.Perm ys → sortedS zs = true → Q (.ref p) s') :
    wpAny (model P w) A (call (.builtin "sorted") [.ref a]) Q E s := by
  obtain ⟨o, es, ep, t, ho, hex, hd, T⟩ := R
  refine Calls.call_function_entry kind_sorted plain_sorted entry_sorted (args_sorted1 _) ?_
  unfold Builtin.«sorted»
  refine wpAny_bind (m := checkCount "sorted" 1 1 _) (wpAny_pure ?_)
  refine wpAny_bind (collect_set (A := A.in1) hh ⟨o, ho, hex.1, hd⟩ T.fits (T.size ▸ T.few) T.ris T.led fun s1 vs k1 hz g1 o1 pm => ?_)
  have hv : vs.length = ys.length := by rw [pm.length_eq, List.length_map, Array.length_toList, T.size]
  have hS : StrsAre vs (vs.map PyProof.Rows.strOf) := strsAre_map vs fun v m => by
    obtain ⟨e, he, q⟩ := List.mem_map.mp (pm.mem_iff.mp m)
    obtain ⟨k, u, h1, _⟩ := T.ent e he
    exact ⟨k, u, q ▸ h1⟩
  have pk : (vs.map PyProof.Rows.strOf).Perm ys := by
    refine (pm.map PyProof.Rows.strOf).trans ?_
    rw [List.map_map]
    refine List.Perm.trans (List.Perm.of_eq (List.map_congr_left fun e he => ?_)) T.keys
    obtain ⟨k, u, h1, _⟩ := T.ent e he
    show PyProof.Rows.strOf e.2 = txE e
    unfold txE
    rw [h1]; rfl
  refine wpAny_bind (wpAny_newList ?_ (by rw [hv, sizeLine_eq]; omega))
  have hoL : (s1.heap.push (seqObj "list" vs.toArray 0)).get? s1.heap.objs.size = some (seqObj "list" vs.toArray 0) := Heap.get?_push_size _ rfl
  refine wpAny_bind (wpAny_holding (wpAny_call_entry slot_list_sort ⟨_, hoL, rfl⟩ entry_list_sort (list_sort_treeK strKind_oneLt hoL hS.keysOf (fun v₁ v₂ rest e => keyKind_strs (by rw [← e]; exact hS)) (by omega) fun st' hp hs => ?_) (args_list_sort _)))
  obtain ⟨zs, b1, b2, b3⟩ := sorted_out_str hS hp hs
  refine ⟨_, rfl, ?_⟩
  obtain ⟨c, hc⟩ := sortedHeap_at (vs := vs) (out := (arrOf st').map (·.2)) hoL
  refine wpAny_pure ⟨_, rfl, hQ _ s1.heap.objs.size _ c zs (fun b u e => ?_) g1 o1 hz hc b1 (b2.trans pk) b3⟩
  have q := k1 b u e
  have lt := Heap.lt_size q
  show (sortedHeap (s1.heap.push (seqObj "list" vs.toArray 0)) s1.heap.objs.size vs _).get? b = some u
  rw [sortedHeap_old (Nat.ne_of_lt lt) (by rw [size_push']; exact Nat.lt_succ_of_lt lt)]
  exact Heap.get?_push_of_some _ q
end
section
variable {X : Cx} {a : Expr} {ta : TE} {p p2 q pos : Pos}
theorem strs_vals : ∀ {ys : List Str} {us : List Value}, StrsAre us ys → Vals (ys.map V.str) us
  | _, _, .nil => .nil
  | _, _, .cons _ _ t => .cons ⟨_, rfl⟩ (strs_vals t)
theorem pe_lenSetS (K : PySem.W.Frag) (h : X.K = K) (hc : X.calm = true) (hg : Gl X "len") (hm : X.mg "len" = none) (hg2 : Gl X "set") (hm2 : X.mg "set" = none) (ha : PE X a ta) (na : starEach [a] X.env = (false, eval a X.env) :: starEach [] X.env := by rfl) :
    PE X (.Call (.Name "len" p) [.Call (.Name "set" p2) [a] [] q] [] pos) (tLenSetS K ta) := by
  subst h
  refine ⟨fun pins s σ H Q I h => ?_⟩
  refine Call_ (ld_blt I hg hm boot_len ?_)
  refine PyProof.Rows.callWith_builtin1 (PyProof.Rows.args_cons ?_ rfl) rfl rfl
  refine Call_ (ld_blt I hg2 hm2 boot_set ?_)
  refine PyProof.Rows.callWith_type1 (PyProof.Rows.args_cons (thn (ha.run pins s σ H _ I h) fun v s1 ⟨x, H1, I1, r1, q1⟩ => PyProof.Rows.args_nil ?_) na) na rfl
  obtain ⟨l, xs, rfl, hq, h1, nd, q1⟩ := q1
  cases r1
  obtain ⟨its, r, pl, hz⟩ := I1.list hq
  refine call_setS (xs := xs) (I1.ok.hd hc) pl.isList (by simpa using strsAre_of r) (by unfold scanBound; omega) fun h' tk R hk => PyProof.Rows.args_nil ?_
  obtain ⟨o, es, ep, t, ho, hex, hd, T⟩ := R
  have n : es.size = xs.length := by rw [T.size, metS_nodup nd _ (Nat.le_refl _)]
  have I2 : L2.Inv X pins σ H1 { s1 with heap := h', toks := tk } := I1.kept fun b o e => hk b o e
  refine call_len_set ho hex hd T.fits (by rw [n]; omega) ⟨.int xs.length, H1, I2.tok _, ⟨_, by rw [n]⟩, q1⟩
theorem pe_sortedSetS (K : PySem.W.Frag) (h : X.K = K) (hc : X.calm = true) (hg : Gl X "sorted") (hm : X.mg "sorted" = none) (hg2 : Gl X "set") (hm2 : X.mg "set" = none) (ha : PE X a ta) (na : starEach [a] X.env = (false, eval a X.env) :: starEach [] X.env := by rfl) :
    PE X (.Call (.Name "sorted" p) [.Call (.Name "set" p2) [a] [] q] [] pos) (tSortSetS K ta) := by
  subst h
  refine ⟨fun pins s σ H Q I h => ?_⟩
  refine Call_ (ld_blt I hg hm boot_sorted ?_)
  refine PyProof.Rows.callWith_builtin1 (PyProof.Rows.args_cons ?_ rfl) rfl rfl
  refine Call_ (ld_blt I hg2 hm2 boot_set ?_)
  refine PyProof.Rows.callWith_type1 (PyProof.Rows.args_cons (thn (ha.run pins s σ H _ I h) fun v s1 ⟨x, H1, I1, r1, q1⟩ => PyProof.Rows.args_nil ?_) na) na rfl
  obtain ⟨l, xs, rfl, hq, h1, q1⟩ := q1
  cases r1
  obtain ⟨its, r, pl, hz⟩ := I1.list hq
  refine call_setS (xs := xs) (I1.ok.hd hc) pl.isList (by simpa using strsAre_of r) (by unfold scanBound; omega) fun h' tk R hk => PyProof.Rows.args_nil ?_
  have few : (metS xs xs.length).length < 64 := by have := metS_len xs xs.length; omega
  have nd : (metS xs xs.length).Nodup := let ⟨_, _, _, _, _, _, _, T⟩ := R; T.nd
  have I2 : L2.Inv X pins σ H1 { s1 with heap := h', toks := tk } := I1.kept fun b o e => hk b o e
  refine sorted_setS R (I2.ok.hd hc) few fun s' p out c zs k g o hp hg hs pm st => ?_
  have hlen : (zs.map V.str).length ≤ sizeLine := by rw [List.length_map, pm.length_eq, sizeLine_eq]; omega
  have hn : H1 p = none := I2.hok.fresh hp
  have J : L2.Inv X pins σ (upd H1 p (.lst (zs.map V.str))) s' := I2.call' (ch := []) o (Un.laid k hp hn) (I2.hok.laid k hp ⟨hlen, out.toList, c, strs_vals hs, hg⟩) (by rw [g]; exact I2.bare) (fun _ z => nomatch z)
  refine ⟨.ref p, _, J, rfl, q1 zs p (pm.nodup_iff.mpr nd) (fun z => ?_) st hn⟩
  rw [pm.mem_iff, metS_mem _ (Nat.le_refl _), List.take_length]
end
end K59
namespace K59
open PySem PySem.Spec PyProof.Rows L2
section
variable {prog : Program} {w : World} {A : Around} {E : Value → Shared → Prop} {s : Shared} {r d : Addr} {es : Array DictEntry} {ep : Nat}
/-- list(a view of items), the entries as they stand -/
theorem initI {R : Result → Shared → Prop} (hh : A.handled = none) (hv : s.heap.IsItemsView r d) (hm : DT.Raw s.heap d es ep) (S : Addr) (nr : S ≠ r) (nd : d ≠ S) (hS : s.heap.get? S = some { cls := .type "list", data := .seq #[] }) (hn : es.size ≤ sizeLine)
    (hR : ∀ h' tk acc c as, (∀ b o, b ≠ S → s.heap.get? b = some o → h'.get? b = some o) → h'.get? S = some { cls := .type "list", dict := none, data := .seq acc c, slots := #[] } → as.length = es.size → DT.Made es S h' as → acc.toList = as.map Value.ref → R (.ok (.ret .none)) { s with heap := h', toks := tk }) :
    wpAny (model prog w) A.in1 (Builtin.«list.__init__» ⟨[.ref S, .ref r], []⟩) (fun fin s' => match fin with | .done f => R (.ok f) s' | .again c' => c'.quiet = true ∧ codeAny (model prog w) A c' R s') (fun e s' => R (.error e) s') s := by
  show wpAny _ _ (Builtin.List.listItems (.ref S) >>= fun old => Builtin.List.listUpdate (.ref S) (fun _ => #[]) >>= fun _ => letGo old.toList.reverse >>= fun _ => Builtin.List.listExtendWith (.ref S) (.ref r) .none) _ _ s
  refine wpAny_bind ?_
  unfold Builtin.List.listItems
  refine wpAny_bind (wpAny_seqItems hS rfl (wpAny_pure ?_))
  show wpAny _ _ (updateSeq S (fun _ => #[]) >>= fun _ => letGo (#[] : Array Value).toList.reverse >>= fun _ => Builtin.List.listExtendWith (.ref S) (.ref r) .none) _ _ s
  refine wpAny_bind (wpAny_updateSeq hS rfl ?_)
  have at2 := Heap.get?_update_self (Obj.mapSeq (fun _ => (#[] : Array Value))) hS rfl
  have off : ∀ b o, b ≠ S → s.heap.get? b = some o → (s.heap.update S (Obj.mapSeq (fun _ => (#[] : Array Value)))).get? b = some o := fun b o hb e => (Heap.get?_update_other _ _ (Ne.symm hb)).trans e
  refine wpAny_bind (wpAny_letGo ?_)
  exact DT.extI (es := es) (ep := ep) hh (let ⟨o, ho, x⟩ := hv; ⟨o, off r o nr.symm ho, x⟩) (hm.at' fun o e => off d o nd e) S nr nd .none _ at2 (fun h' tk acc c as hk hS' hl hG hacc => hR h' tk acc c as (fun b o hb e => hk b o hb (off b o hb e)) hS' hl (hG.low (Nat.le_of_lt (Heap.lt_size at2))) hacc) hn
theorem callIL {Q : Value → Shared → Prop} (hh : A.handled = none) (hv : s.heap.IsItemsView r d) (hm : DT.Raw s.heap d es ep) (hn : es.size ≤ sizeLine)
    (hQ : ∀ h' tk acc c as, (∀ b o, s.heap.get? b = some o → h'.get? b = some o) → h'.get? s.heap.objs.size = some { cls := .type "list", dict := none, data := .seq acc c, slots := #[] } → as.length = es.size → DT.Made es s.heap.objs.size h' as → acc.toList = as.map Value.ref → Q (.ref s.heap.objs.size) { s with heap := h', toks := tk }) :
    wpAny (model prog w) A (call (.type "list") [.ref r]) Q E s := by
  refine PySem.callType_codes (Q₁ := fun obj s₁ => obj = .ref s.heap.objs.size ∧ s₁ = { s with heap := s.heap.push { cls := .type "list", data := .seq #[] } }) PySem.F.called_list (PySem.F.typeCall_list_1 _) PySem.F.entry_list_init (PySem.code_list_new _ ⟨rfl, rfl⟩) fun obj s₁ h₁ => ?_
  obtain ⟨rfl, rfl⟩ := h₁
  have hS : (s.heap.push { cls := .type "list", data := .seq #[] }).get? s.heap.objs.size = some { cls := .type "list", data := .seq #[] } := Heap.get?_push_size _ rfl
  have hr : r < s.heap.objs.size := let ⟨_, ho, _⟩ := hv; Heap.lt_size ho
  refine ⟨⟨_, hS, rfl⟩, PySem.F.args_list_init_2 _ _, initI (es := es) (ep := ep) (A := A.in1) hh (let ⟨o, ho, x⟩ := hv; ⟨o, Heap.get?_push_of_some _ ho, x⟩) (hm.push _) _ (Nat.ne_of_gt hr) (Nat.ne_of_lt hm.lt) hS hn fun h' tk acc c as hk hS' hl hG hacc => ?_⟩
  exact ⟨rfl, hQ h' tk acc c as (fun b o e => hk b o (Nat.ne_of_lt (Heap.lt_size e)) (Heap.get?_push_of_some _ e)) hS' hl hG hacc⟩
end
section
variable {X : Cx} {e : Expr} {te : TE} {p q apos pos : Pos}
theorem pairedIx {α β : Type} {F : α → β → Prop} : ∀ (xs : List α) (ys : List β), xs.length = ys.length → (∀ (j : Nat) x y, xs[j]? = some x → ys[j]? = some y → F x y) → Paired F xs ys
  | [], [], _, _ => .nil
  | [], _ :: _, h, _ => by cases h
  | _ :: _, [], h, _ => by cases h
  | x :: xs, y :: ys, h, k => .cons (k 0 x y rfl rfl) (pairedIx xs ys (Nat.succ.inj h) fun j a b ha hb => k (j + 1) a b ha hb)
theorem pe_listItemsT (hc : X.calm = true) (he : PE X e te) (hg : Gl X "list") (hm : X.mg "list" = none) (hv : bootBuiltins "list" = some (.type "list")) (hbase : attributeBase e "items" X.env (eval e X.env) = eval e X.env := by rfl) (hline : (apos.endLine == q.line) = true := by rfl)
    (hs : starEach [.Call (.Attribute e "items" apos) [] [] q] X.env = (false, eval (.Call (.Attribute e "items" apos) [] [] q) X.env) :: starEach [] X.env := by rfl) :
    PE X (.Call (.Name "list" p) [.Call (.Attribute e "items" apos) [] [] q] [] pos) (tListItemsT te) := by
  refine ⟨fun pins s σ H Q I hq => ?_⟩
  refine wpAny_Call_Name_kw (ld_blt I hg hm hv ?_)
  refine PyProof.Rows.callWith_type1 ?_ hs rfl
  rw [hs]
  show wpAny _ _ (spliced ((false, eval (.Call (.Attribute e "items" apos) [] [] q) X.env) :: backTo pos (starEach [] X.env))) _ _ s
  refine Calls.spliced_cons ?_
  refine wpAny_Call_method (T := "dict") (id := "dict.items") hbase rfl hline F.plainAttrs_dict F.slot_dict_items F.type_dict_items (thn (he.run pins s σ H _ I hq) fun u s1 ⟨x, H1, I1, rx, d, kvs, ex, hd, q⟩ => ?_)
  subst ex
  obtain rfl : u = Value.ref d := rx
  obtain ⟨z, hs0, xs', rel, o, es, ep, ho, hx, hdat, hes, his, hn⟩ := dt_of I1.hok hd
  have raw : DT.Raw s1.heap d es ep := ⟨o, ho, hx, hdat⟩
  have l1 : kvs.length = xs'.length := Paired.length rel
  have l2 : es.size = xs'.length := size_of_entries hes
  refine ⟨raw.typeIs, fun b e => ⟨o, by cases e; exact ho, hx.2.1⟩, ?_⟩
  show wpAny _ _ (callWith _ (.builtin "dict.items") [.ref d] [] []) _ X.xe s1
  refine method_meetsIn F.slot_dict_items F.entry_dict_items rfl (PySem.evalArgs_none ⟨rfl, raw.typeIs, F.args_dict_items_1 _, _, DT.meetsItems (es := es) (ep := ep) hs0, ⟨raw, ?_⟩⟩)
  refine Calls.spliced_nil ?_
  refine callIL (es := es) (ep := ep) (I1.ok.hd hc) ⟨_, Heap.get?_push_size _ rfl, rfl, rfl⟩ (raw.push _) (by omega) fun h' tk acc c as hk hS hl hG hacc => ?_
  -- what stands at the pairs
  have pr : ∀ (j : Nat) (b : Addr) (qv : List Key × V), as[j]? = some b → kvs[j]? = some qv → ∃ kb v, H1 kb = some (.tup (qv.1.map kV)) ∧ RelV qv.2 v ∧ h'.get? b = some { cls := .type "tuple", data := .seq #[Value.ref kb, v] } := by
    intro j b qv hj hq'
    obtain ⟨en, he', hg'⟩ := hG.pairs j b hj
    rw [entry_at hes j] at he'
    cases hxj : xs'[j]? with
    | none =>
      rw [hxj] at he'
      exact nomatch (show (none : Option DictEntry) = some en from he')
    | some x =>
      rw [hxj] at he'
      have een : entryOfKey (tupleKind (mixKind X.prog X.w)) x = en := Option.some.inj he'
      obtain ⟨e0, he0, r1, r2, r3⟩ := DX.pget rel hxj
      obtain rfl : e0 = qv := Option.some.inj (he0.symm.trans hq')
      refine ⟨x.2.1, x.2.2, r2, r3, ?_⟩
      rw [hg', ← een]
      rfl
  have lak : as.length = kvs.length := by omega
  have nd : as.Nodup := List.Pairwise.imp (fun h => Nat.ne_of_lt h) hG.rise
  have sz : (s1.heap.push { cls := .type "dict_items", data := .fields #[.ref d] }).objs.size = s1.heap.objs.size + 1 := Heap.size_push ..
  have lo : s1.heap.objs.size ≤ (s1.heap.push { cls := .type "dict_items", data := .fields #[.ref d] }).objs.size := by rw [sz]; exact Nat.le_succ _
  have hk1 : ∀ b o, s1.heap.get? b = some o → h'.get? b = some o := fun b o e => hk b o (Heap.get?_push_of_some _ e)
  generalize (s1.heap.push { cls := .type "dict_items", data := .fields #[.ref d] }).objs.size = L at hS hG lo ⊢
  have hn0 : H1 L = none := I1.hok.fresh lo
  have J1 : L2.Inv X pins σ H1 { s1 with heap := h', toks := tk } := I1.kept (t' := tk) hk1
  have J2 : L2.Inv X pins σ (upd H1 L (.lst (as.map V.ref))) { s1 with heap := h', toks := tk } := J1.take (h' := h') (t' := tk) (fun b ob _ e => e) (I1.fpOk lo hn0) ⟨by rw [List.length_map, lak]; exact z, acc.toList, c, by rw [hacc]; exact LiI.vals_refs as, by rw [Array.toArray_toList]; exact hS⟩
  obtain ⟨H2, J3, g, qt⟩ := DX.takeT (P := fun b vs => ∃ (j : Nat) (qv : List Key × V) (kb : Addr), as[j]? = some b ∧ kvs[j]? = some qv ∧ vs = [.ref kb, qv.2] ∧ H1 kb = some (.tup (qv.1.map kV))) I1 as _ J2 nd fun b hb => by
    obtain ⟨j, hj⟩ := List.mem_iff_getElem?.mp hb
    have hjl : j < kvs.length := by rw [← lak]; exact (List.getElem?_eq_some_iff.mp hj).1
    obtain ⟨kb, v, hkb, rv, hgb⟩ := pr j b kvs[j] hj (List.getElem?_eq_getElem hjl)
    have above : s1.heap.objs.size ≤ b := Nat.le_trans lo (Nat.le_of_lt (hG.above b hb))
    refine ⟨above, ?_, [.ref kb, kvs[j].2], ⟨j, kvs[j], kb, hj, List.getElem?_eq_getElem hjl, rfl, hkb⟩, fun H3 => ⟨(by show 2 ≤ sizeLine; decide), [Value.ref kb, v], .cons rfl (.cons rv .nil), ⟨_, hgb, rfl, 0, rfl⟩⟩⟩
    rw [upd_ne (Nat.ne_of_gt (hG.above b hb))]
    exact I1.hok.fresh above
  refine ⟨.ref L, H2, J3, rfl, q H2 L as (fun b o e => g b o (by rw [upd_ne (ne_of_none e hn0)]; exact e)) hn0 (g _ _ upd_same) (pairedIx as kvs lak fun j t qv hj hq' => ?_)⟩
  obtain ⟨vs, ⟨j2, qv2, kb, a1, a2, a3, a4⟩, hH⟩ := qt t (List.mem_of_getElem? hj)
  obtain rfl : j = j2 := (List.getElem?_inj (List.getElem?_eq_some_iff.mp hj).1 nd).mp (hj.trans a1.symm)
  obtain rfl : qv2 = qv := Option.some.inj (a2.symm.trans hq')
  rw [a3] at hH
  exact ⟨kb, hH, a4⟩
end
end K59
namespace K59
open PySem PySem.Spec PyProof.Rows L2
/-- the walk over a view of values, the entries as they stand -/
theorem srcVals {prog : Program} {w : World} {r d : Addr} {es : Array DictEntry} {ep : Nat} : PySem.W.KdlSrc prog w "dict_values" r d es.size (fun i v => ∃ hi : i < es.size, v = es[i].val) (fun h => h.IsValuesView r d ∧ h.DictRaw d es ep) where
  type := fun _ hm => hm.1.typeIs
  there := fun _ hm => ⟨let ⟨_, ho, _⟩ := hm.1; Heap.lt_size ho, let ⟨_, ho, _⟩ := hm.2; Heap.lt_size ho⟩
  keep := fun _ _ hm hk => ⟨let ⟨o, ho, x⟩ := hm.1; ⟨o, hk r (.inl rfl) o ho, x⟩, hm.2.at fun o e => hk d (.inr rfl) o e⟩
  notList := by decide
  notTuple := by decide
  hint := fun _ _ _ _ hm hq => PySem.W.kdl_hint_values hm.1.typeIs hq
  iter := fun _ s hh hm => ⟨_, _, (fun _ _ hq => wpAny_pyIter_values_raw hm.1 hm.2 hq), Walks.rawValues hh _ d (Nat.ne_of_lt (let ⟨_, ho, _⟩ := hm.2; Heap.lt_size ho)) es ep, ⟨⟨_, Heap.get?_push_size _ rfl, rfl, rfl⟩, hm.2.at fun o e => Heap.get?_push_of_some _ e⟩⟩
theorem valsIx : ∀ (xs : List V) (us : List Value), xs.length = us.length → (∀ (j : Nat) x u, xs[j]? = some x → us[j]? = some u → RelV x u) → Vals xs us
  | [], [], _, _ => .nil
  | [], _ :: _, h, _ => by cases h
  | _ :: _, [], h, _ => by cases h
  | x :: xs, u :: us, h, k => .cons (k 0 x u rfl rfl) (valsIx xs us (Nat.succ.inj h) fun j a b ha hb => k (j + 1) a b ha hb)
section
variable {X : Cx} {e : Expr} {te : TE} {p q apos pos : Pos}
theorem pe_listValuesT (hc : X.calm = true) (he : PE X e te) (hg : Gl X "list") (hm : X.mg "list" = none) (hv : bootBuiltins "list" = some (.type "list")) (hbase : attributeBase e "values" X.env (eval e X.env) = eval e X.env := by rfl) (hline : (apos.endLine == q.line) = true := by rfl)
    (hs : starEach [.Call (.Attribute e "values" apos) [] [] q] X.env = (false, eval (.Call (.Attribute e "values" apos) [] [] q) X.env) :: starEach [] X.env := by rfl) :
    PE X (.Call (.Name "list" p) [.Call (.Attribute e "values" apos) [] [] q] [] pos) (tListValsT te) := by
  refine ⟨fun pins s σ H Q I hq => ?_⟩
  refine wpAny_Call_Name_kw (ld_blt I hg hm hv ?_)
  refine PyProof.Rows.callWith_type1 ?_ hs rfl
  rw [hs]
  show wpAny _ _ (spliced ((false, eval (.Call (.Attribute e "values" apos) [] [] q) X.env) :: backTo pos (starEach [] X.env))) _ _ s
  refine Calls.spliced_cons ?_
  refine wpAny_Call_method (T := "dict") (id := "dict.values") hbase rfl hline F.plainAttrs_dict F.slot_dict_values F.type_dict_values (thn (he.run pins s σ H _ I hq) fun u s1 ⟨x, H1, I1, rx, d, kvs, ex, hd, q⟩ => ?_)
  subst ex
  obtain rfl : u = Value.ref d := rx
  obtain ⟨z, hs0, xs', rel, o, es, ep, ho, hx, hdat, hes, his, hn⟩ := dt_of I1.hok hd
  have raw : s1.heap.DictRaw d es ep := ⟨o, ho, hx, hdat⟩
  have l1 : kvs.length = xs'.length := Paired.length rel
  have l2 : es.size = xs'.length := size_of_entries hes
  refine ⟨raw.typeIs, fun b e => ⟨o, by cases e; exact ho, hx.2.1⟩, ?_⟩
  show wpAny _ _ (callWith _ (.builtin "dict.values") [.ref d] [] []) _ X.xe s1
  refine method_meetsIn F.slot_dict_values F.entry_dict_values rfl (PySem.evalArgs_none ⟨rfl, raw.typeIs, F.args_dict_values_1 _, _, meets_dict_values_raw d hs0, ⟨⟨es, ep, raw⟩, ?_⟩⟩)
  refine Calls.spliced_nil ?_
  have sz : (s1.heap.push { cls := .type "dict_values", data := .fields #[.ref d] }).objs.size = s1.heap.objs.size + 1 := Heap.size_push ..
  have lo : s1.heap.objs.size ≤ (s1.heap.push { cls := .type "dict_values", data := .fields #[.ref d] }).objs.size := by rw [sz]; exact Nat.le_succ _
  refine PySem.W.kdl_call (srcVals (r := s1.heap.objs.size) (d := d) (es := es) (ep := ep)) (I1.ok.hd hc) ⟨⟨_, Heap.get?_push_size _ rfl, rfl, rfl⟩, raw.at fun o e => Heap.get?_push_of_some _ e⟩ (by omega) fun h' tk acc c hk hS hacc => ?_
  have hk1 : ∀ b o, s1.heap.get? b = some o → h'.get? b = some o := fun b o e => hk b o (Heap.get?_push_of_some _ e)
  have vs : Vals (kvs.map (·.2)) acc.toList := by
    refine valsIx _ _ (by rw [List.length_map, (Array.length_toList (xs := acc)).trans hacc.1]; omega) fun j x u hx' hu => ?_
    obtain ⟨hi, ev⟩ := hacc.2 j u (by rw [← Array.getElem?_toList]; exact hu)
    rw [List.getElem?_map] at hx'
    have en := entry_at hes j
    rw [Array.getElem?_eq_getElem hi] at en
    cases hxj : xs'[j]? with
    | none => rw [hxj] at en; exact nomatch (show some es[j] = none from en)
    | some y =>
      rw [hxj] at en
      obtain ⟨e0, he0, r1, r2, r3⟩ := DX.pget rel hxj
      rw [he0] at hx'
      obtain rfl : e0.2 = x := Option.some.inj hx'
      have e3 : es[j] = entryOfKey (tupleKind (mixKind X.prog X.w)) y := Option.some.inj en
      rw [ev, e3]
      exact r3
  exact ⟨.ref _, _, I1.laid (t' := tk) (o := .lst (kvs.map (·.2))) hk1 lo ⟨by rw [List.length_map]; exact z, acc.toList, c, vs, by rw [Array.toArray_toList]; exact hS⟩, rfl, q _ (I1.hok.fresh lo)⟩
/-- the pairs of a dict whose keys are pairs of texts -/
theorem eachIx {α β : Type} {R : α → β → Prop} : ∀ (xs : List α) (ys : List β), xs.length = ys.length → (∀ (j : Nat) x y, xs[j]? = some x → ys[j]? = some y → R x y) → PySem.W.EachIs R xs ys
  | [], [], _, _ => .nil
  | [], _ :: _, h, _ => by cases h
  | _ :: _, [], h, _ => by cases h
  | x :: xs, y :: ys, h, k => .cons (k 0 x y rfl rfl) (eachIx xs ys (Nat.succ.inj h) fun j a b ha hb => k (j + 1) a b ha hb)
def dSS (p : Str × Str) : PyData := .tuple [.str p.1, .str p.2]
theorem cr_sortedDT (hc : X.calm = true) (hu : X.A.units + 64 < cLine) : CallR X (.builtin "sorted") rSortDT := by
  intro pins s σ H xs us Q I r q
  obtain ⟨a, kvs, rfl, hd, h64, hkeys, q⟩ := q
  obtain ⟨u, rfl, rx⟩ := r.one
  cases rx
  obtain ⟨z, hs0, ks, rel, o, es, ep, ho, hx, hdat, hes, his, hn⟩ := dt_of I.hok hd
  have l1 : kvs.length = ks.length := Paired.length rel
  have l2 : es.size = ks.length := size_of_entries hes
  refine Calls.call_function_entry PyProof.Rows.kind_sorted PyProof.Rows.plain_sorted PyProof.Rows.entry_sorted (PyProof.Rows.args_sorted1 _) ?_
  unfold Builtin.«sorted»
  refine wpAny_bind (m := checkCount "sorted" 1 1 _) (wpAny_pure ?_)
  refine wpAny_bind (PySem.W.kdu_collect (A := X.A.in1) (kdl_raw hs0 hx hdat) (I.ok.hd hc) ho (by omega) fun h' tk acc hk hacc => ?_)
  have la : acc.toList.length = kvs.length := by have := (Array.length_toList (xs := acc)).trans hacc.1; omega
  -- each item is a key
  have pr : ∀ (j : Nat) (v : Value), acc.toList[j]? = some v → ∃ (b : Addr) (zk : List Key × V) (x y : Str), v = .ref b ∧ kvs[j]? = some zk ∧ zk.1 = [.inr x, .inr y] ∧ H b = some (.tup (zk.1.map kV)) := by
    intro j v hv
    obtain ⟨en, hen, ev⟩ := hacc.2 j v (by rw [← Array.getElem?_toList]; exact hv)
    have qe := entry_at hes j
    rw [hen] at qe
    cases hxj : ks[j]? with
    | none => rw [hxj] at qe; exact nomatch (show some en = none from qe)
    | some y =>
      rw [hxj] at qe
      have e2 : en = entryOfKey (tupleKind (mixKind X.prog X.w)) y := Option.some.inj qe
      obtain ⟨e0, he0, r1, r2, r3⟩ := DX.pget rel hxj
      obtain ⟨x1, y1, ez⟩ := hkeys e0 (List.mem_of_getElem? he0)
      exact ⟨y.2.1, e0, x1, y1, by rw [ev, e2]; rfl, he0, ez, r2⟩
  -- the pair of texts of a key
  let tx : List Key × V → Str × Str := fun zk => match zk.1 with
    | [.inr x, .inr y] => (x, y)
    | _ => (Str.empty, Str.empty)
  have I1 : L2.Inv X pins σ H { s with heap := h', toks := tk } := I.kept hk
  refine wpAny_bind (wpAny_newList ?_ (by rw [la, sizeLine_eq]; omega))
  have hoL : (h'.push (seqObj "list" acc.toList.toArray 0)).get? h'.objs.size = some (seqObj "list" acc.toList.toArray 0) := Heap.get?_push_size _ rfl
  show wpAny _ _ _ _ _ { s with heap := h'.push (seqObj "list" acc.toList.toArray 0), toks := tk }
  have rds : PySem.W.EachIs (fun v (zk : List Key × V) => ∃ as, Reads (h'.push (seqObj "list" acc.toList.toArray 0)) v (dSS (tx zk)) as ∧ h'.objs.size ∉ as) acc.toList kvs := by
    refine eachIx _ _ la fun j v zk hv hz => ?_
    obtain ⟨b, zk', x, y, rfl, hz', ez, hb⟩ := pr j v hv
    obtain rfl : zk' = zk := Option.some.inj (hz'.symm.trans hz)
    have hb' : H b = some (.tup [.str x, .str y]) := by rw [hb, ez]; rfl
    obtain ⟨_, its, rv, ot, hot, hct, nt, hdt⟩ := (show ObjOk X.prog X.w H s.heap b (.tup [.str x, .str y]) from I.hok b _ hb')
    obtain ⟨t1, t2, rfl⟩ : ∃ t1 t2, its = [Value.str x t1, Value.str y t2] := by
      cases rv with
      | cons r1 r2 =>
        cases r2 with
        | cons r2 r3 =>
          cases r3
          obtain ⟨t1, rfl⟩ := r1
          obtain ⟨t2, rfl⟩ := r2
          exact ⟨t1, t2, rfl⟩
    have etx : tx zk' = (x, y) := by show (match zk'.1 with | [.inr x, .inr y] => (x, y) | _ => (Str.empty, Str.empty)) = _; rw [ez]
    refine ⟨[] ++ ([] ++ []), ?_, by simp⟩
    rw [etx]
    exact .tuple (Heap.get?_push_of_some _ (hk _ _ hot)) hct hdt (.cons (.str _ _) (.cons (.str _ _) .nil))
  have rel2 : PySem.W.EachIs (fun v (zk : List Key × V) => ∃ b, v = Value.ref b ∧ H b = some (.tup (zk.1.map kV))) acc.toList kvs := by
    refine eachIx _ _ la fun j v zk hv hz => ?_
    obtain ⟨b, zk', x, y, rfl, hz', ez, hb⟩ := pr j v hv
    obtain rfl : zk' = zk := Option.some.inj (hz'.symm.trans hz)
    exact ⟨b, rfl, hb⟩
  refine wpAny_bind (wpAny_holding (PySem.W.list_sort_data (s := { s with heap := h'.push (seqObj "list" acc.toList.toArray 0), toks := tk }) (enc := fun zk => dSS (tx zk)) (bs := kvs) hoL rel2 rds (PySem.W.AllAlike.of fun _ _ => by simp [PySem.W.alike, PySem.W.alikeAll, dSS]) (PySem.W.Sortable.tuples fun _ => ⟨_, _, rfl⟩) z (fun b _ => ?_) fun out hl ho' => ?_))
  · have hd : (dSS (tx b)).depth = 1 := by simp [dSS, PyData.depth, PyData.depthAll]
    show X.A.units + 1 + 1 + _ < cLine
    omega
  obtain ⟨e', he'⟩ := PyProof.Rows.sortedHeap_at (vs := acc.toList) (out := out.toArray) hoL
  have outs : ∃ bs : List Addr, out = bs.map Value.ref ∧ ∀ b ∈ bs, ∃ zk ∈ kvs, H b = some (.tup (zk.1.map kV)) := by
    have gen : ∀ {o : List Value} {zs : List (List Key × V)}, PySem.W.EachIs (fun v (zk : List Key × V) => ∃ b, v = Value.ref b ∧ H b = some (.tup (zk.1.map kV))) o zs → (∀ zk ∈ zs, zk ∈ kvs) → ∃ bs : List Addr, o = bs.map Value.ref ∧ ∀ b ∈ bs, ∃ zk ∈ kvs, H b = some (.tup (zk.1.map kV)) := by
      intro o zs hh
      induction hh with
      | nil => exact fun _ => ⟨[], rfl, fun _ z => nomatch z⟩
      | cons h1 h2 ih =>
        intro hm
        obtain ⟨b, rfl, hb⟩ := h1
        obtain ⟨bs, rfl, hbs⟩ := ih fun zk m => hm zk (.tail _ m)
        refine ⟨b :: bs, rfl, fun c hc => ?_⟩
        rcases List.mem_cons.mp hc with rfl | hc
        · exact ⟨_, hm _ (.head _), hb⟩
        · exact hbs c hc
    exact gen ho' fun zk m => List.mem_mergeSort.mp m
  obtain ⟨bs, rfl, hbs⟩ := outs
  have lb : bs.length = kvs.length := by rw [List.length_map] at hl; exact hl
  refine wpAny_pure ⟨_, rfl, .ref h'.objs.size, upd H h'.objs.size (.lst (bs.map V.ref)), I1.laid (t' := tk) (fun b u e => ?_) (Nat.le_refl _) (show ObjOk X.prog X.w _ _ _ (.lst (bs.map V.ref)) from ⟨by rw [List.length_map, lb]; exact z, bs.map Value.ref, e', LiI.vals_refs bs, he'⟩), rfl, q _ bs (I1.hok.fresh (Nat.le_refl _)) lb hbs⟩
  have hb : b < h'.objs.size := Heap.lt_size e
  rw [PyProof.Rows.sortedHeap_old (Nat.ne_of_lt hb) (by rw [size_push']; exact Nat.lt_succ_of_lt hb)]
  exact Heap.get?_push_of_some _ e
end
end K59
namespace K59
open PySem PySem.Spec PyProof.Rows L2
def dPI (x : Addr × Int × Int) : PyData := .tuple [.int x.2.1, .int x.2.2]
theorem maxD_pairs : ∀ (ts : List (Addr × Int × Int)) (x : Addr × Int × Int), ∃ m, m ∈ x :: ts ∧ PySem.W.maxD (dPI x) (ts.map dPI) = dPI m ∧ ∀ y ∈ x :: ts, y.2.1 ≤ m.2.1
  | [], x => ⟨x, .head _, rfl, fun y hy => by rw [List.mem_singleton.mp hy]; exact Int.le_refl _⟩
  | t :: ts, x => by
    have e : PySem.W.dataLt (dPI x) (dPI t) = decide (x.2.1 < t.2.1 ∨ (x.2.1 = t.2.1 ∧ x.2.2 < t.2.2)) := PySem.W.dataLt_ii _ _ _ _
    by_cases c : x.2.1 < t.2.1 ∨ (x.2.1 = t.2.1 ∧ x.2.2 < t.2.2)
    · obtain ⟨m, hm, hd, hy⟩ := maxD_pairs ts t
      refine ⟨m, .tail _ hm, ?_, fun y h => ?_⟩
      · show PySem.W.maxD (if PySem.W.dataLt (dPI x) (dPI t) then dPI t else dPI x) (ts.map dPI) = _
        rw [e, if_pos (by simpa using c)]
        exact hd
      · rcases List.mem_cons.mp h with rfl | h
        · have := hy t (.head _)
          omega
        · exact hy y h
    · obtain ⟨m, hm, hd, hy⟩ := maxD_pairs ts x
      refine ⟨m, ?_, ?_, fun y h => ?_⟩
      · rcases List.mem_cons.mp hm with rfl | hm
        · exact .head _
        · exact .tail _ (.tail _ hm)
      · show PySem.W.maxD (if PySem.W.dataLt (dPI x) (dPI t) then dPI t else dPI x) (ts.map dPI) = _
        rw [e, if_neg (by simpa using c)]
        exact hd
      · rcases List.mem_cons.mp h with rfl | h
        · exact hy _ (.head _)
        · rcases List.mem_cons.mp h with rfl | h
          · have := hy x (.head _)
            omega
          · exact hy y (.tail _ h)
theorem reads_int {h : Heap} {i : Int} {t : Tok} {d : PyData} {as : List Addr} (r : Reads h (.int i t) d as) : d = .int i := by cases r; rfl
theorem depth_pairs : ∀ ts : List (Addr × Int × Int), PyData.depthAll (ts.map dPI) ≤ 1
  | [] => by simp [PyData.depthAll]
  | t :: ts => by
    have := depth_pairs ts
    simp [PyData.depthAll, PyData.depth, dPI] at this ⊢
    omega
section
variable {X : Cx}
theorem maxPK (K : PySem.W.Frag) (h : X.K = K) (hc : X.calm = true) (hu : X.A.units + 64 < cLine) : CallR X (.builtin "max") (rMaxP K) := by
  subst h
  intro pins s σ H vs us Q I r h
  obtain ⟨l, ts, rfl, hs, hts, hne, q⟩ := h
  obtain ⟨its, rv, hl, _⟩ := I.list hs
  rw [Vals.ref1 r]
  cases ts with
  | nil => exact absurd rfl hne
  | cons x ts =>
  have refs : ∀ (zs : List (Addr × Int × Int)) (us : List Value), Vals (zs.map fun z => V.ref z.1) us → us = zs.map fun z => Value.ref z.1 := by
    intro zs
    induction zs with
    | nil => intro us h; cases h; rfl
    | cons z zs ih => intro us h; cases h with | cons r1 r2 => cases r1; rw [ih _ r2]; rfl
  have ei := refs _ _ rv
  have tup : ∀ z ∈ x :: ts, ∃ o n t1 t2, s.heap.get? z.1 = some o ∧ o.cls = .type "tuple" ∧ o.data = .seq #[Value.int z.2.1 t1, Value.int z.2.2 t2] n := by
    intro z hz
    obtain ⟨_, its, rv, ot, hot, hct, nt, hdt⟩ := (show ObjOk X.prog X.w H s.heap z.1 (.tup [.int z.2.1, .int z.2.2]) from I.hok _ _ (hts z hz))
    cases rv with
    | cons r1 r2 =>
      cases r2 with
      | cons r2 r3 =>
        cases r3
        obtain ⟨t1, rfl⟩ := r1
        obtain ⟨t2, rfl⟩ := r2
        exact ⟨ot, nt, t1, t2, hot, hct, hdt⟩
  have reads : ∀ zs : List (Addr × Int × Int), (∀ z ∈ zs, z ∈ x :: ts) → ∃ as, ReadsAll s.heap (zs.map fun z => Value.ref z.1) (zs.map dPI) as := by
    intro zs
    induction zs with
    | nil => intro _; exact ⟨_, .nil⟩
    | cons z zs ih =>
      intro hz
      obtain ⟨as, ha⟩ := ih fun y hy => hz y (.tail _ hy)
      obtain ⟨o, n, t1, t2, h1, h2, h3⟩ := tup z (hz z (.head _))
      exact ⟨_, .cons (.tuple h1 h2 h3 (.cons (.int _ _) (.cons (.int _ _) .nil))) ha⟩
  obtain ⟨as, ra⟩ := reads (x :: ts) fun z h => h
  refine PySem.W.max_list_data (vs := its.toArray) (x := dPI x) (xs := ts.map dPI) (as := as) (I.ok.hd hc) hl.isList (by rw [ei]; simpa using ra) ⟨?_, ?_⟩ ?_ fun i v h' tk bs hv hr hk => ?_
  · intro a ha b hb
    rw [← List.map_cons] at ha hb
    obtain ⟨a, _, rfl⟩ := List.mem_map.mp ha
    obtain ⟨b, _, rfl⟩ := List.mem_map.mp hb
    simp [PySem.W.alike, PySem.W.alikeAll, dPI]
  · intro a ha
    rw [← List.map_cons] at ha
    obtain ⟨a, _, rfl⟩ := List.mem_map.mp ha
    exact fun z => nomatch z
  · have := depth_pairs (x :: ts)
    rw [List.map_cons] at this
    omega
  · obtain ⟨m, hm, hd, hy⟩ := maxD_pairs ts x
    rw [hd] at hr
    have hv' : its[i]? = some v := by simpa using hv
    rw [ei, List.getElem?_map] at hv'
    cases hz : (x :: ts)[i]? with
    | none => rw [hz] at hv'; cases hv'
    | some z =>
      rw [hz] at hv'
      obtain rfl : Value.ref z.1 = v := Option.some.inj hv'
      have hzm := List.mem_of_getElem? hz
      obtain ⟨o, n, t1, t2, h1, h2, h3⟩ := tup z hzm
      have e1 : z.2.1 = m.2.1 := by
        unfold dPI at hr
        cases hr with
        | tuple g1 g2 g3 g4 =>
          rw [hk _ _ h1] at g1
          cases g1
          rw [h3] at g3
          cases g3
          cases g4 with
          | cons k1 _ => exact (PyData.int.inj (reads_int k1)).symm
      exact ⟨.ref z.1, H, I.kept hk, rfl, q z hzm fun y h => e1 ▸ hy y h⟩
end
end K59
/-! R1: rules of my own, proved. -/
namespace K59
end K59
/-! M1: sums over lists, the transport problem, weak duality, certificates. Plain Lean. -/
namespace K59
/-! ### sums -/
def sm {α : Type} : List α → (α → Int) → Int
  | [], _ => 0
  | a :: l, f => f a + sm l f
section
variable {α β : Type}
theorem sm_nil (f : α → Int) : sm [] f = 0 := rfl
theorem sm_cons (a : α) (l : List α) (f : α → Int) : sm (a :: l) f = f a + sm l f := rfl
theorem sm_congr {l : List α} {f g : α → Int} (h : ∀ a ∈ l, f a = g a) : sm l f = sm l g := by
  induction l with
  | nil => rfl
  | cons a l ih =>
    rw [sm_cons, sm_cons, h a (by simp), ih fun b hb => h b (by simp [hb])]
theorem sm_add (l : List α) (f g : α → Int) : sm l (fun a => f a + g a) = sm l f + sm l g := by
  induction l with
  | nil => rfl
  | cons a l ih => simp only [sm_cons, ih]; omega
theorem sm_sub (l : List α) (f g : α → Int) : sm l (fun a => f a - g a) = sm l f - sm l g := by
  induction l with
  | nil => rfl
  | cons a l ih => simp only [sm_cons, ih]; omega
theorem sm_mul (l : List α) (c : Int) (f : α → Int) : sm l (fun a => c * f a) = c * sm l f := by
  induction l with
  | nil => simp [sm_nil]
  | cons a l ih => simp only [sm_cons, ih, Int.mul_add]
theorem sm_mulr (l : List α) (c : Int) (f : α → Int) : sm l (fun a => f a * c) = sm l f * c := by
  induction l with
  | nil => simp [sm_nil]
  | cons a l ih => simp only [sm_cons, ih, Int.add_mul]
theorem sm_zero {l : List α} {f : α → Int} (h : ∀ a ∈ l, f a = 0) : sm l f = 0 := by
  induction l with
  | nil => rfl
  | cons a l ih => rw [sm_cons, h a (by simp), ih fun b hb => h b (by simp [hb])]; rfl
theorem sm_le {l : List α} {f g : α → Int} (h : ∀ a ∈ l, f a ≤ g a) : sm l f ≤ sm l g := by
  induction l with
  | nil => exact Int.le_refl _
  | cons a l ih =>
    rw [sm_cons, sm_cons]
    have h1 := h a (by simp)
    have h2 := ih fun b hb => h b (by simp [hb])
    omega
theorem sm_nonneg {l : List α} {f : α → Int} (h : ∀ a ∈ l, 0 ≤ f a) : 0 ≤ sm l f := by
  have := sm_le (f := fun _ => 0) h
  rwa [sm_zero fun _ _ => rfl] at this
theorem le_sm {l : List α} {f : α → Int} (h : ∀ a ∈ l, 0 ≤ f a) {a : α} (ha : a ∈ l) : f a ≤ sm l f := by
  induction l with
  | nil => simp at ha
  | cons b l ih =>
    rw [sm_cons]
    have h0 := sm_nonneg (l := l) (f := f) fun c hc => h c (by simp [hc])
    have hb := h b (by simp)
    rcases List.mem_cons.mp ha with e | e
    · subst e; omega
    · have := ih (fun c hc => h c (by simp [hc])) e
      omega
theorem sm_pos_ex {l : List α} {f : α → Int} (h : 0 < sm l f) : ∃ a ∈ l, 0 < f a := by
  induction l with
  | nil => rw [sm_nil] at h; omega
  | cons b l ih =>
    rw [sm_cons] at h
    by_cases hb : 0 < f b
    · exact ⟨b, by simp, hb⟩
    · obtain ⟨a, ha, q⟩ := ih (by omega)
      exact ⟨a, by simp [ha], q⟩
theorem sm_eq_zero {l : List α} {f : α → Int} (h : ∀ a ∈ l, 0 ≤ f a) (e : sm l f ≤ 0) : ∀ a ∈ l, f a = 0 := fun a ha => by
  have := le_sm h ha
  have := h a ha
  omega
theorem sm_append (l r : List α) (f : α → Int) : sm (l ++ r) f = sm l f + sm r f := by
  induction l with
  | nil => simp [sm_nil]
  | cons a l ih => rw [List.cons_append, sm_cons, sm_cons, ih]; omega
theorem sm_map (l : List α) (g : α → β) (f : β → Int) : sm (l.map g) f = sm l fun a => f (g a) := by
  induction l with
  | nil => rfl
  | cons a l ih => rw [List.map_cons, sm_cons, sm_cons, ih]
theorem sm_sum (l : List α) (f : α → Int) : (l.map f).sum = sm l f := by
  induction l with
  | nil => rfl
  | cons a l ih => rw [List.map_cons, List.sum_cons, sm_cons, ih]
theorem sm_comm (l : List α) (r : List β) (f : α → β → Int) : sm l (fun a => sm r (f a)) = sm r fun b => sm l fun a => f a b := by
  induction l with
  | nil => exact (sm_zero fun _ _ => rfl).symm
  | cons a l ih => rw [sm_cons, ih, ← sm_add]; rfl
theorem sm_range_succ (n : Nat) (f : Nat → Int) : sm (List.range (n + 1)) f = sm (List.range n) f + f n := by
  rw [List.range_succ, sm_append, sm_cons, sm_nil]; omega
section
variable [DecidableEq α]
theorem sm_one {l : List α} (hn : l.Nodup) {a : α} (ha : a ∈ l) (c : Int) : sm l (fun b => if b = a then c else 0) = c := by
  induction l with
  | nil => simp at ha
  | cons b l ih =>
    obtain ⟨h1, h2⟩ := List.nodup_cons.mp hn
    rw [sm_cons]
    by_cases e : b = a
    · subst e
      rw [if_pos rfl, sm_zero fun d hd => if_neg fun (e : d = b) => h1 (by rw [← e]; exact hd)]
      omega
    · rw [if_neg e, ih h2 (by rcases List.mem_cons.mp ha with q | q; exact absurd q.symm e; exact q)]
      omega
theorem sm_one_not {l : List α} {a : α} (ha : a ∉ l) (c : Int) : sm l (fun b => if b = a then c else 0) = 0 :=
  sm_zero fun d hd => if_neg fun (e : d = a) => ha (by rw [← e]; exact hd)
theorem sm_erase {l : List α} {a : α} (ha : a ∈ l) (f : α → Int) : sm l f = f a + sm (l.erase a) f := by
  induction l with
  | nil => simp at ha
  | cons b l ih =>
    by_cases e : b = a
    · subst e; rw [List.erase_cons_head, sm_cons]
    · rw [List.erase_cons_tail (by simpa using e), sm_cons, sm_cons, ih (by rcases List.mem_cons.mp ha with q | q; exact absurd q.symm e; exact q)]
      omega
/-- a sum over a part, f being nought outside -/
theorem sm_part : ∀ {l r : List α} {f : α → Int}, l.Nodup → r.Nodup → (∀ a ∈ l, a ∈ r) → (∀ a ∈ r, a ∉ l → f a = 0) → sm l f = sm r f
  | [], r, f, _, _, _, h => (sm_zero fun a ha => h a ha (by simp)).symm
  | a :: l, r, f, hl, hr, hs, h => by
    obtain ⟨h1, h2⟩ := List.nodup_cons.mp hl
    rw [sm_erase (hs a (by simp)) f, sm_cons]
    congr 1
    refine sm_part h2 (hr.erase a) (fun b hb => ?_) fun b hb hn => ?_
    · rw [hr.mem_erase_iff]
      exact ⟨fun e => h1 (by rw [← e]; exact hb), hs b (by simp [hb])⟩
    · rw [hr.mem_erase_iff] at hb
      exact h b hb.2 (by simp [hb.1, hn])
/-- two lists of the same things -/
theorem sm_same {l r : List α} {f : α → Int} (hl : l.Nodup) (hr : r.Nodup) (h : ∀ a, a ∈ l ↔ a ∈ r) : sm l f = sm r f :=
  sm_part hl hr (fun a ha => (h a).mp ha) fun a ha hn => absurd ((h a).mpr ha) hn
theorem len_le_of_sub : ∀ {l r : List α}, l.Nodup → (∀ a ∈ l, a ∈ r) → l.length ≤ r.length
  | [], _, _, _ => Nat.zero_le _
  | a :: l, r, hl, hs => by
    obtain ⟨h1, h2⟩ := List.nodup_cons.mp hl
    have ha := hs a (by simp)
    have := len_le_of_sub (r := r.erase a) h2 fun b hb => by
      have hne : b ≠ a := fun e => h1 (by rw [← e]; exact hb)
      exact (List.mem_erase_of_ne hne).mpr (hs b (by simp [hb]))
    rw [List.length_erase_of_mem ha] at this
    have : 0 < r.length := List.length_pos_of_mem ha
    rw [List.length_cons]
    omega
end
end
/-- a list of naturals that holds with each its predecessor: each is below the length -/
theorem level_lt {l : List Nat} (h : ∀ x, x + 1 ∈ l → x ∈ l) {x : Nat} (hx : x ∈ l) : x < l.length := by
  have all : ∀ d y, y + d = x → y ∈ l := by
    intro d
    induction d with
    | zero => intro y e; rw [show y = x by omega]; exact hx
    | succ d ih => intro y e; exact h y (ih (y + 1) (by omega))
  have := len_le_of_sub (l := List.range (x + 1)) (r := l) List.nodup_range fun y hy => all (x - y) y (by have := List.mem_range.mp hy; omega)
  rw [List.length_range] at this
  omega
/-! ### the greatest of nought and some numbers -/
def mx0 : List Int → Int
  | [] => 0
  | a :: l => if mx0 l < a then a else mx0 l
theorem mx0_nonneg : ∀ l : List Int, 0 ≤ mx0 l
  | [] => Int.le_refl _
  | a :: l => by
    have := mx0_nonneg l
    unfold mx0
    split <;> omega
theorem le_mx0 : ∀ {l : List Int} {a : Int}, a ∈ l → a ≤ mx0 l
  | b :: l, a, h => by
    unfold mx0
    rcases List.mem_cons.mp h with e | e
    · subst e; split <;> omega
    · have := le_mx0 e
      split <;> omega
theorem mx0_le : ∀ {l : List Int} {c : Int}, 0 ≤ c → (∀ a ∈ l, a ≤ c) → mx0 l ≤ c
  | [], _, h, _ => h
  | b :: l, c, h, q => by
    have h1 := q b (by simp)
    have h2 := mx0_le (l := l) h fun a ha => q a (by simp [ha])
    unfold mx0
    split <;> omega
theorem mx0_cases : ∀ l : List Int, mx0 l = 0 ∨ mx0 l ∈ l
  | [] => .inl rfl
  | a :: l => by
    unfold mx0
    split
    · exact .inr (by simp)
    · rcases mx0_cases l with h | h
      · exact .inl h
      · exact .inr (by simp [h])
/-! ### the transport problem -/
structure Inst (κ : Type) where
  n : Nat
  fits : Nat → List κ
  want : Nat → Int
  w : Nat → κ → Int
  K : List κ
section
variable {κ : Type} [DecidableEq κ]
structure Inst.Ok (I : Inst κ) : Prop where
  nd : I.K.Nodup
  fnd : ∀ i, i < I.n → (I.fits i).Nodup
  sub : ∀ i, i < I.n → ∀ k ∈ I.fits i, k ∈ I.K
  want1 : ∀ i, i < I.n → 1 ≤ I.want i
  small : I.n + I.K.length ≤ 900
/-- what an asker gets; how many of a kind are used -/
def Inst.got (I : Inst κ) (y : Nat → κ → Int) (i : Nat) : Int := sm (I.fits i) (y i)
def Inst.used (I : Inst κ) (y : Nat → κ → Int) (k : κ) : Int := sm (List.range I.n) fun i => y i k
def Inst.worth (I : Inst κ) (y : Nat → κ → Int) : Int := sm (List.range I.n) fun i => sm (I.fits i) fun k => y i k * I.w i k
structure Feas (I : Inst κ) (s : κ → Int) (y : Nat → κ → Int) : Prop where
  nn : ∀ i k, 0 ≤ y i k
  sup : ∀ i k, y i k ≠ 0 → i < I.n ∧ k ∈ I.fits i
  row : ∀ i, i < I.n → I.got y i ≤ I.want i
  col : ∀ k ∈ I.K, I.used y k ≤ s k
structure IsOpt (I : Inst κ) (s : κ → Int) (M : Int) : Prop where
  le : ∀ y, Feas I s y → I.worth y ≤ M
  ex : ∃ y, Feas I s y ∧ I.worth y = M
theorem IsOpt.one {I : Inst κ} {s : κ → Int} {M N : Int} (h : IsOpt I s M) (g : IsOpt I s N) : M = N := by
  obtain ⟨y, hy, e⟩ := h.ex
  obtain ⟨z, hz, f⟩ := g.ex
  have := h.le z hz
  have := g.le y hy
  omega
def Inst.over (I : Inst κ) (p : κ → Int) (i : Nat) : Int := mx0 ((I.fits i).map fun k => I.w i k - p k)
theorem over_nonneg (I : Inst κ) (p : κ → Int) (i : Nat) : 0 ≤ I.over p i := mx0_nonneg _
theorem le_over (I : Inst κ) (p : κ → Int) {i : Nat} {k : κ} (hk : k ∈ I.fits i) : I.w i k ≤ p k + I.over p i := by
  have : I.w i k - p k ≤ I.over p i := le_mx0 (List.mem_map.mpr ⟨k, hk, rfl⟩)
  omega
theorem over_le (I : Inst κ) (p : κ → Int) {i : Nat} {c : Int} (h0 : 0 ≤ c) (h : ∀ k ∈ I.fits i, I.w i k ≤ p k + c) : I.over p i ≤ c := mx0_le h0 fun a ha => by
  obtain ⟨k, hk, rfl⟩ := List.mem_map.mp ha
  have := h k hk
  omega
/-- the sum of prices -/
def Inst.dobj (I : Inst κ) (s : κ → Int) (p : κ → Int) (q : Nat → Int) : Int := sm I.K (fun k => s k * p k) + sm (List.range I.n) fun i => I.want i * q i
/-- the sum of y times p + q -/
theorem sum_pq {I : Inst κ} (ok : I.Ok) {s : κ → Int} {y : Nat → κ → Int} (f : Feas I s y) (p : κ → Int) (q : Nat → Int) :
    (sm (List.range I.n) fun i => sm (I.fits i) fun k => y i k * (p k + q i)) = sm I.K (fun k => I.used y k * p k) + sm (List.range I.n) fun i => I.got y i * q i := by
  have e1 : (sm (List.range I.n) fun i => sm (I.fits i) fun k => y i k * (p k + q i)) = sm (List.range I.n) fun i => (sm I.K fun k => y i k * p k) + I.got y i * q i := by
    refine sm_congr fun i hi => ?_
    have hi := List.mem_range.mp hi
    have a1 : (sm (I.fits i) fun k => y i k * (p k + q i)) = sm (I.fits i) fun k => y i k * p k + y i k * q i := sm_congr fun k _ => by rw [Int.mul_add]
    rw [a1, sm_add, sm_mulr]
    congr 1
    refine sm_part (ok.fnd i hi) ok.nd (ok.sub i hi) fun k _ hn => ?_
    by_cases z : y i k = 0
    · rw [z, Int.zero_mul]
    · exact absurd (f.sup i k z).2 hn
  rw [e1, sm_add, sm_comm]
  congr 1
  refine sm_congr fun k _ => ?_
  rw [sm_mulr]
  rfl
/-- what the sum of prices lacks to the worth, put together of parts that are no less than nought -/
theorem gap {I : Inst κ} (ok : I.Ok) {s : κ → Int} {y : Nat → κ → Int} (f : Feas I s y) (p : κ → Int) (q : Nat → Int) :
    I.dobj s p q - I.worth y = (sm (List.range I.n) fun i => sm (I.fits i) fun k => y i k * (p k + q i - I.w i k)) + sm I.K (fun k => (s k - I.used y k) * p k) + sm (List.range I.n) fun i => (I.want i - I.got y i) * q i := by
  have e := sum_pq ok f p q
  have e1 : (sm (List.range I.n) fun i => sm (I.fits i) fun k => y i k * (p k + q i - I.w i k)) = (sm (List.range I.n) fun i => sm (I.fits i) fun k => y i k * (p k + q i)) - I.worth y := by
    unfold Inst.worth
    rw [← sm_sub]
    refine sm_congr fun i _ => ?_
    rw [← sm_sub]
    exact sm_congr fun k _ => by rw [Int.mul_sub]
  have e2 : (sm I.K fun k => (s k - I.used y k) * p k) = (sm I.K fun k => s k * p k) - sm I.K fun k => I.used y k * p k := by
    rw [← sm_sub]
    exact sm_congr fun k _ => by rw [Int.sub_mul]
  have e3 : (sm (List.range I.n) fun i => (I.want i - I.got y i) * q i) = (sm (List.range I.n) fun i => I.want i * q i) - sm (List.range I.n) fun i => I.got y i * q i := by
    rw [← sm_sub]
    exact sm_congr fun i _ => by rw [Int.sub_mul]
  rw [e1, e2, e3, e]
  unfold Inst.dobj
  omega
/-- prices that hold -/
structure Holds (I : Inst κ) (p : κ → Int) (q : Nat → Int) : Prop where
  pn : ∀ k ∈ I.K, 0 ≤ p k
  qn : ∀ i, i < I.n → 0 ≤ q i
  le : ∀ i, i < I.n → ∀ k ∈ I.fits i, I.w i k ≤ p k + q i
theorem Holds.over {I : Inst κ} {p : κ → Int} (h : ∀ k ∈ I.K, 0 ≤ p k) : Holds I p (I.over p) := ⟨h, fun i _ => over_nonneg I p i, fun i _ k hk => le_over I p hk⟩
theorem weak {I : Inst κ} (ok : I.Ok) {s : κ → Int} {y : Nat → κ → Int} (f : Feas I s y) {p : κ → Int} {q : Nat → Int} (h : Holds I p q) : I.worth y ≤ I.dobj s p q := by
  have g := gap ok f p q
  have g1 : 0 ≤ sm (List.range I.n) fun i => sm (I.fits i) fun k => y i k * (p k + q i - I.w i k) := sm_nonneg fun i hi => sm_nonneg fun k hk =>
    Int.mul_nonneg (f.nn i k) (by have := h.le i (List.mem_range.mp hi) k hk; omega)
  have g2 : 0 ≤ sm I.K fun k => (s k - I.used y k) * p k := sm_nonneg fun k hk => Int.mul_nonneg (by have := f.col k hk; omega) (h.pn k hk)
  have g3 : 0 ≤ sm (List.range I.n) fun i => (I.want i - I.got y i) * q i := sm_nonneg fun i hi => Int.mul_nonneg (by have := f.row i (List.mem_range.mp hi); omega) (h.qn i (List.mem_range.mp hi))
  omega
/-- a spread and prices that show each other -/
structure Cert (I : Inst κ) (s : κ → Int) (y : Nat → κ → Int) (p : κ → Int) (q : Nat → Int) : Prop where
  f : Feas I s y
  h : Holds I p q
  tight : ∀ i k, y i k ≠ 0 → I.w i k = p k + q i
  left : ∀ k ∈ I.K, I.used y k ≠ s k → p k = 0
  room : ∀ i, i < I.n → I.got y i ≠ I.want i → q i = 0
theorem Cert.eq {I : Inst κ} (ok : I.Ok) {s : κ → Int} {y : Nat → κ → Int} {p : κ → Int} {q : Nat → Int} (c : Cert I s y p q) : I.dobj s p q = I.worth y := by
  have g := gap ok c.f p q
  have e1 : (sm (List.range I.n) fun i => sm (I.fits i) fun k => y i k * (p k + q i - I.w i k)) = 0 := sm_zero fun i hi => sm_zero fun k hk => by
    by_cases z : y i k = 0
    · rw [z, Int.zero_mul]
    · rw [c.tight i k z, Int.sub_self, Int.mul_zero]
  have e2 : (sm I.K fun k => (s k - I.used y k) * p k) = 0 := sm_zero fun k hk => by
    by_cases z : I.used y k = s k
    · rw [z, Int.sub_self, Int.zero_mul]
    · rw [c.left k hk z, Int.mul_zero]
  have e3 : (sm (List.range I.n) fun i => (I.want i - I.got y i) * q i) = 0 := sm_zero fun i hi => by
    by_cases z : I.got y i = I.want i
    · rw [z, Int.sub_self, Int.zero_mul]
    · rw [c.room i (List.mem_range.mp hi) z, Int.mul_zero]
  omega
theorem Cert.opt {I : Inst κ} (ok : I.Ok) {s : κ → Int} {y : Nat → κ → Int} {p : κ → Int} {q : Nat → Int} (c : Cert I s y p q) : IsOpt I s (I.worth y) :=
  ⟨fun z hz => by rw [← c.eq ok]; exact weak ok hz c.h, y, c.f, rfl⟩
theorem Cert.of_eq {I : Inst κ} (ok : I.Ok) {s : κ → Int} {y : Nat → κ → Int} {p : κ → Int} {q : Nat → Int} (f : Feas I s y) (h : Holds I p q) (e : I.dobj s p q = I.worth y) : Cert I s y p q := by
  have g := gap ok f p q
  have t1 : ∀ i ∈ List.range I.n, ∀ k ∈ I.fits i, 0 ≤ y i k * (p k + q i - I.w i k) := fun i hi k hk =>
    Int.mul_nonneg (f.nn i k) (by have := h.le i (List.mem_range.mp hi) k hk; omega)
  have t2 : ∀ k ∈ I.K, 0 ≤ (s k - I.used y k) * p k := fun k hk => Int.mul_nonneg (by have := f.col k hk; omega) (h.pn k hk)
  have t3 : ∀ i ∈ List.range I.n, 0 ≤ (I.want i - I.got y i) * q i := fun i hi => Int.mul_nonneg (by have := f.row i (List.mem_range.mp hi); omega) (h.qn i (List.mem_range.mp hi))
  have g1 := sm_nonneg (l := List.range I.n) (f := fun i => sm (I.fits i) fun k => y i k * (p k + q i - I.w i k)) fun i hi => sm_nonneg (t1 i hi)
  have g2 := sm_nonneg t2
  have g3 := sm_nonneg t3
  refine ⟨f, h, fun i k z => ?_, fun k hk z => ?_, fun i hi z => ?_⟩
  · obtain ⟨hi, hk⟩ := f.sup i k z
    have a := sm_eq_zero (l := List.range I.n) (f := fun i => sm (I.fits i) fun k => y i k * (p k + q i - I.w i k)) (fun i hi => sm_nonneg (t1 i hi)) (by omega) i (List.mem_range.mpr hi)
    have b := sm_eq_zero (t1 i (List.mem_range.mpr hi)) (Int.le_of_eq a) k hk
    rcases Int.mul_eq_zero.mp b with b | b
    · exact absurd b z
    · omega
  · have a := sm_eq_zero t2 (by omega) k hk
    rcases Int.mul_eq_zero.mp a with b | b
    · omega
    · exact b
  · have a := sm_eq_zero t3 (by omega) i (List.mem_range.mpr hi)
    rcases Int.mul_eq_zero.mp a with b | b
    · omega
    · exact b
/-- an asker's price is what is over -/
theorem Cert.over {I : Inst κ} (ok : I.Ok) {s : κ → Int} {y : Nat → κ → Int} {p : κ → Int} {q : Nat → Int} (c : Cert I s y p q) {i : Nat} (hi : i < I.n) : q i = I.over p i := by
  have h1 := over_le I p (c.h.qn i hi) (c.h.le i hi)
  have h0 := over_nonneg I p i
  by_cases z : I.got y i = I.want i
  · have w1 := ok.want1 i hi
    obtain ⟨k, hk, hy⟩ := sm_pos_ex (l := I.fits i) (f := y i) (by show 0 < I.got y i; omega)
    have t := c.tight i k (by omega)
    have := le_over I p hk
    omega
  · rw [c.room i hi z] at h1 ⊢
    omega
/-- prices of kinds whose sum is the greatest worth -/
structure Opt (I : Inst κ) (s : κ → Int) (p : κ → Int) : Prop where
  pn : ∀ k ∈ I.K, 0 ≤ p k
  eq : IsOpt I s (I.dobj s p (I.over p))
theorem dobj_congr {I : Inst κ} {s : κ → Int} {p p' : κ → Int} {q q' : Nat → Int} (hp : ∀ k ∈ I.K, p k = p' k) (hq : ∀ i, i < I.n → q i = q' i) : I.dobj s p q = I.dobj s p' q' := by
  unfold Inst.dobj
  rw [sm_congr fun k hk => by rw [hp k hk], sm_congr (l := List.range I.n) fun i hi => by rw [hq i (List.mem_range.mp hi)]]
theorem Cert.dual {I : Inst κ} (ok : I.Ok) {s : κ → Int} {y : Nat → κ → Int} {p : κ → Int} {q : Nat → Int} (c : Cert I s y p q) : Opt I s p :=
  ⟨c.h.pn, by rw [← dobj_congr (fun _ _ => rfl) fun i hi => c.over ok hi, c.eq ok]; exact c.opt ok⟩
theorem Opt.cert {I : Inst κ} (ok : I.Ok) {s : κ → Int} {p : κ → Int} (o : Opt I s p) {y : Nat → κ → Int} (f : Feas I s y) (m : IsOpt I s (I.worth y)) : Cert I s y p (I.over p) :=
  Cert.of_eq ok f (Holds.over o.pn) (o.eq.one m)
theorem Opt.val {I : Inst κ} {s : κ → Int} {p : κ → Int} {M : Int} (o : Opt I s p) (m : IsOpt I s M) : I.dobj s p (I.over p) = M := o.eq.one m
theorem Opt.of {I : Inst κ} {s : κ → Int} {p : κ → Int} {M : Int} (pn : ∀ k ∈ I.K, 0 ≤ p k) (m : IsOpt I s M) (e : I.dobj s p (I.over p) = M) : Opt I s p := ⟨pn, by rw [e]; exact m⟩
theorem over_congr {I : Inst κ} {p p' : κ → Int} {i : Nat} (h : ∀ k ∈ I.fits i, p k = p' k) : I.over p i = I.over p' i := by
  unfold Inst.over
  rw [List.map_congr_left fun k hk => by rw [h k hk]]
end
end K59
/-! M2: labels, levels, new potentials, the step along a way. Plain Lean. -/
namespace K59
section
variable {κ : Type} [DecidableEq κ]
theorem sm_change {α : Type} [DecidableEq α] {l : List α} (hl : l.Nodup) {a : α} (ha : a ∈ l) {f g : α → Int} (h : ∀ b ∈ l, b ≠ a → f b = g b) : sm l f + g a = sm l g + f a := by
  rw [sm_erase ha f, sm_erase ha g]
  have : sm (l.erase a) f = sm (l.erase a) g := sm_congr fun b hb => by
    rw [hl.mem_erase_iff] at hb
    exact h b hb.2 hb.1
  omega
/-- a state: potentials of kinds and askers, the sink's -/
structure SV (I : Inst κ) (s : κ → Int) (h : Nat → κ → Int) (p : κ → Int) (q : Nat → Int) (lam : Int) : Prop where
  f : Feas I s h
  F : ∀ i, i < I.n → ∀ k ∈ I.fits i, I.w i k ≤ p k + q i
  C : ∀ i k, 0 < h i k → I.w i k = p k + q i
  pn : ∀ k ∈ I.K, 0 ≤ p k
  pf : ∀ k ∈ I.K, I.used h k < s k → p k = 0
  lo : ∀ i, i < I.n → 0 < I.got h i → lam ≤ q i
  hi : ∀ i, i < I.n → I.got h i < I.want i → q i ≤ lam
  l0 : 0 ≤ lam
abbrev Bags (κ : Type) := κ → Option (Int × Option Nat)
abbrev Gains (κ : Type) := Nat → Option (Int × κ)
def upG (G : Gains κ) (i : Nat) (v : Int × κ) : Gains κ := fun j => if j = i then some v else G j
def upB (B : Bags κ) (k : κ) (v : Int × Option Nat) : Bags κ := fun j => if j = k then some v else B j
theorem upG_same (G : Gains κ) (i : Nat) (v : Int × κ) : upG G i v i = some v := if_pos rfl
theorem upG_ne (G : Gains κ) {i j : Nat} (v : Int × κ) (h : j ≠ i) : upG G i v j = G j := if_neg h
theorem upB_same (B : Bags κ) (k : κ) (v : Int × Option Nat) : upB B k v k = some v := if_pos rfl
theorem upB_ne (B : Bags κ) {k j : κ} (v : Int × Option Nat) (h : j ≠ k) : upB B k v j = B j := if_neg h
/-! ### sizes -/
def ab (x : Int) : Int := if x < 0 then -x else x
theorem ab_nn (x : Int) : 0 ≤ ab x := by unfold ab; split <;> omega
theorem le_ab (x : Int) : x ≤ ab x := by unfold ab; split <;> omega
theorem neg_le_ab (x : Int) : -x ≤ ab x := by unfold ab; split <;> omega
def Inst.cw (I : Inst κ) : Int := 1 + sm (List.range I.n) fun i => sm (I.fits i) fun k => ab (1000 * I.w i k)
theorem le_cw (I : Inst κ) {i : Nat} {k : κ} (hi : i < I.n) (hk : k ∈ I.fits i) : ab (1000 * I.w i k) + 1 ≤ I.cw := by
  have h1 := le_sm (l := I.fits i) (f := fun k => ab (1000 * I.w i k)) (fun _ _ => ab_nn _) hk
  have h2 := le_sm (l := List.range I.n) (f := fun i => sm (I.fits i) fun k => ab (1000 * I.w i k)) (fun _ _ => sm_nonneg fun _ _ => ab_nn _) (List.mem_range.mpr hi)
  unfold Inst.cw
  have h1 : ab (1000 * I.w i k) ≤ sm (I.fits i) fun k => ab (1000 * I.w i k) := h1
  have h2 : (sm (I.fits i) fun k => ab (1000 * I.w i k)) ≤ sm (List.range I.n) fun i => sm (I.fits i) fun k => ab (1000 * I.w i k) := h2
  omega
theorem cw_pos (I : Inst κ) : 1 ≤ I.cw := by
  have := sm_nonneg (l := List.range I.n) (f := fun i => sm (I.fits i) fun k => ab (1000 * I.w i k)) fun _ _ => sm_nonneg fun _ _ => ab_nn _
  unfold Inst.cw
  omega
def Inst.au (I : Inst κ) (p : κ → Int) (q : Nat → Int) : Int := sm I.K (fun k => ab (1000 * p k)) + sm (List.range I.n) fun i => ab (1000 * q i)
theorem le_au_p (I : Inst κ) (p : κ → Int) (q : Nat → Int) {k : κ} (hk : k ∈ I.K) : ab (1000 * p k) ≤ I.au p q := by
  have h1 := le_sm (l := I.K) (f := fun k => ab (1000 * p k)) (fun _ _ => ab_nn _) hk
  have h2 := sm_nonneg (l := List.range I.n) (f := fun i => ab (1000 * q i)) fun _ _ => ab_nn _
  unfold Inst.au
  have h1 : ab (1000 * p k) ≤ sm I.K fun k => ab (1000 * p k) := h1
  omega
theorem le_au_q (I : Inst κ) (p : κ → Int) (q : Nat → Int) {i : Nat} (hi : i < I.n) : ab (1000 * q i) ≤ I.au p q := by
  have h1 := le_sm (l := List.range I.n) (f := fun i => ab (1000 * q i)) (fun _ _ => ab_nn _) (List.mem_range.mpr hi)
  have h2 := sm_nonneg (l := I.K) (f := fun k => ab (1000 * p k)) fun _ _ => ab_nn _
  unfold Inst.au
  have h1 : ab (1000 * q i) ≤ sm (List.range I.n) fun i => ab (1000 * q i) := h1
  omega
def one {α : Type} : Option α → Int
  | none => 0
  | some _ => 1
def cnt (I : Inst κ) (B : Bags κ) (G : Gains κ) : Int := sm I.K (fun k => one (B k)) + sm (List.range I.n) fun i => one (G i)
theorem one_le {α : Type} (o : Option α) : one o ≤ 1 ∧ 0 ≤ one o := by cases o <;> simp [one]
theorem sm_one_le {α β : Type} (l : List α) (f : α → Option β) : sm l (fun a => one (f a)) ≤ l.length := by
  induction l with
  | nil => exact Int.le_refl _
  | cons a l ih =>
    rw [sm_cons, List.length_cons]
    have := (one_le (f a)).1
    omega
theorem cnt_le (I : Inst κ) (B : Bags κ) (G : Gains κ) : cnt I B G ≤ (I.n + I.K.length : Nat) := by
  have h1 := sm_one_le I.K B
  have h2 := sm_one_le (List.range I.n) G
  rw [List.length_range] at h2
  unfold cnt
  omega
theorem cnt_nn (I : Inst κ) (B : Bags κ) (G : Gains κ) : 0 ≤ cnt I B G := by
  have h1 := sm_nonneg (l := I.K) (f := fun k => one (B k)) fun k _ => (one_le (B k)).2
  have h2 := sm_nonneg (l := List.range I.n) (f := fun i => one (G i)) fun i _ => (one_le (G i)).2
  unfold cnt
  omega
/-- labels under way -/
structure Lab (I : Inst κ) (s : κ → Int) (h : Nat → κ → Int) (p : κ → Int) (q : Nat → Int) (B : Bags κ) (G : Gains κ) : Prop where
  bK : ∀ k g o, B k = some (g, o) → k ∈ I.K ∧ g ≤ -(1000 * p k)
  bS : ∀ k g, B k = some (g, none) → I.used h k < s k ∧ g = 0
  bP : ∀ k g i, B k = some (g, some i) → 0 < h i k ∧ ∃ g' k', G i = some (g', k') ∧ g ≤ g' - 1000 * I.w i k - 1
  gP : ∀ i g k, G i = some (g, k) → i < I.n ∧ k ∈ I.fits i ∧ g ≤ 1000 * q i ∧ ∃ g' o, B k = some (g', o) ∧ g ≤ g' + 1000 * I.w i k - 1
  fr : ∀ k ∈ I.K, I.used h k < s k → B k = some (0, none)
  lB : ∀ k g o, B k = some (g, o) → -(I.cw * cnt I B G) ≤ g
  lG : ∀ i g k, G i = some (g, k) → -(I.cw * cnt I B G) ≤ g
def top (I : Inst κ) (p : κ → Int) (q : Nat → Int) : Int := I.au p q + I.cw * (I.n + I.K.length : Nat) + 1
def phi (T u : Int) : Option Int → Int
  | none => T
  | some g => u - g
def mu (I : Inst κ) (p : κ → Int) (q : Nat → Int) (B : Bags κ) (G : Gains κ) : Int :=
  sm I.K (fun k => phi (top I p q) (-(1000 * p k)) ((B k).map (·.1))) + sm (List.range I.n) fun i => phi (top I p q) (1000 * q i) ((G i).map (·.1))
theorem top_nn (I : Inst κ) (p : κ → Int) (q : Nat → Int) : 0 ≤ top I p q := by
  have h1 := sm_nonneg (l := I.K) (f := fun k => ab (1000 * p k)) fun _ _ => ab_nn _
  have h2 := sm_nonneg (l := List.range I.n) (f := fun i => ab (1000 * q i)) fun _ _ => ab_nn _
  have h3 : 0 ≤ I.cw * (I.n + I.K.length : Nat) := Int.mul_nonneg (by have := cw_pos I; omega) (by omega)
  unfold top Inst.au
  omega
theorem cw_cnt_le (I : Inst κ) (B : Bags κ) (G : Gains κ) : I.cw * cnt I B G ≤ I.cw * (I.n + I.K.length : Nat) :=
  Int.mul_le_mul_of_nonneg_left (cnt_le I B G) (by have := cw_pos I; omega)
section
variable {I : Inst κ} {s : κ → Int} {h : Nat → κ → Int} {p : κ → Int} {q : Nat → Int} {lam : Int} {B : Bags κ} {G : Gains κ}
theorem mu_nn (L : Lab I s h p q B G) : 0 ≤ mu I p q B G := by
  have h1 := sm_nonneg (l := I.K) (f := fun k => phi (top I p q) (-(1000 * p k)) ((B k).map (·.1))) fun k _ => by
    show 0 ≤ phi _ _ ((B k).map (·.1))
    cases e : B k with
    | none => exact top_nn I p q
    | some x =>
      obtain ⟨g, o⟩ := x
      have := (L.bK k g o e).2
      simp only [Option.map_some, phi]
      omega
  have h2 := sm_nonneg (l := List.range I.n) (f := fun i => phi (top I p q) (1000 * q i) ((G i).map (·.1))) fun i _ => by
    show 0 ≤ phi _ _ ((G i).map (·.1))
    cases e : G i with
    | none => exact top_nn I p q
    | some x =>
      obtain ⟨g, k⟩ := x
      have := (L.gP i g k e).2.2.1
      simp only [Option.map_some, phi]
      omega
  unfold mu
  omega
theorem relaxG (sv : SV I s h p q lam) (L : Lab I s h p q B G) {i : Nat} {k : κ} {g : Int} {o : Option Nat} (hi : i < I.n) (hk : k ∈ I.fits i) (hb : B k = some (g, o))
    (hg : ∀ g0 k0, G i = some (g0, k0) → g0 < g + 1000 * I.w i k - 1) :
    Lab I s h p q B (upG G i (g + 1000 * I.w i k - 1, k)) ∧ mu I p q B (upG G i (g + 1000 * I.w i k - 1, k)) < mu I p q B G := by
  have hgq : g + 1000 * I.w i k - 1 ≤ 1000 * q i := by
    have h1 := (L.bK k g o hb).2
    have h2 := sv.F i hi k hk
    omega
  have hc : cnt I B (upG G i (g + 1000 * I.w i k - 1, k)) + one (G i) = cnt I B G + 1 := by
    have := sm_change (l := List.range I.n) List.nodup_range (List.mem_range.mpr hi) (f := fun j => one (upG G i (g + 1000 * I.w i k - 1, k) j)) (g := fun j => one (G j)) fun j _ hj => by rw [upG_ne _ _ hj]
    simp only [upG_same, one] at this
    unfold cnt
    simp only [one] at this ⊢
    omega
  have hcw := cw_pos I
  have hlab : -(I.cw * cnt I B G) ≤ g := L.lB k g o hb
  have hwk := le_cw I hi hk
  have hwk2 := neg_le_ab (1000 * I.w i k)
  have hmono : I.cw * cnt I B G ≤ I.cw * cnt I B (upG G i (g + 1000 * I.w i k - 1, k)) := Int.mul_le_mul_of_nonneg_left (by have := (one_le (G i)).1; omega) (by omega)
  have hnew : -(I.cw * cnt I B (upG G i (g + 1000 * I.w i k - 1, k))) ≤ g + 1000 * I.w i k - 1 := by
    cases e : G i with
    | none =>
      rw [e] at hc
      simp only [one] at hc
      have : cnt I B (upG G i (g + 1000 * I.w i k - 1, k)) = cnt I B G + 1 := by omega
      rw [this, Int.mul_add]
      omega
    | some x =>
      obtain ⟨g0, k0⟩ := x
      have := L.lG i g0 k0 e
      have := hg g0 k0 e
      omega
  refine ⟨⟨L.bK, L.bS, fun k1 g1 i1 e => ?_, fun i1 g1 k1 e => ?_, L.fr, fun k1 g1 o1 e => ?_, fun i1 g1 k1 e => ?_⟩, ?_⟩
  · obtain ⟨h1, g', k', e1, h2⟩ := L.bP k1 g1 i1 e
    refine ⟨h1, ?_⟩
    by_cases z : i1 = i
    · subst z
      exact ⟨_, _, upG_same _ _ _, by have := hg g' k' e1; omega⟩
    · exact ⟨g', k', by rw [upG_ne _ _ z]; exact e1, h2⟩
  · by_cases z : i1 = i
    · subst z
      rw [upG_same] at e
      cases e
      exact ⟨hi, hk, hgq, g, o, hb, Int.le_refl _⟩
    · rw [upG_ne _ _ z] at e
      exact L.gP i1 g1 k1 e
  · have := L.lB k1 g1 o1 e
    omega
  · by_cases z : i1 = i
    · subst z
      rw [upG_same] at e
      cases e
      exact hnew
    · rw [upG_ne _ _ z] at e
      have := L.lG i1 g1 k1 e
      omega
  · have := sm_change (l := List.range I.n) List.nodup_range (List.mem_range.mpr hi) (f := fun j => phi (top I p q) (1000 * q j) ((upG G i (g + 1000 * I.w i k - 1, k) j).map (·.1))) (g := fun j => phi (top I p q) (1000 * q j) ((G j).map (·.1)))
      fun j _ hj => by rw [upG_ne _ _ hj]
    simp only [upG_same, Option.map_some] at this
    have h2 : phi (top I p q) (1000 * q i) (some (g + 1000 * I.w i k - 1)) < phi (top I p q) (1000 * q i) ((G i).map (·.1)) := by
      cases e : G i with
      | none =>
        simp only [Option.map_none, phi]
        have h3 := cw_cnt_le I B (upG G i (g + 1000 * I.w i k - 1, k))
        have h4 := le_au_q I p q hi
        have h5 := le_ab (1000 * q i)
        unfold top
        omega
      | some x =>
        obtain ⟨g0, k0⟩ := x
        have := hg g0 k0 e
        simp only [Option.map_some, phi]
        omega
    unfold mu
    omega
theorem relaxB (ok : I.Ok) (sv : SV I s h p q lam) (L : Lab I s h p q B G) {i : Nat} {k k0 : κ} {g : Int} (hk : 0 < h i k) (hb : G i = some (g, k0))
    (hg : ∀ g0 o0, B k = some (g0, o0) → g0 < g - 1000 * I.w i k - 1) :
    Lab I s h p q (upB B k (g - 1000 * I.w i k - 1, some i)) G ∧ mu I p q (upB B k (g - 1000 * I.w i k - 1, some i)) G < mu I p q B G := by
  obtain ⟨hi, hki⟩ := sv.f.sup i k (by omega)
  have hK : k ∈ I.K := ok.sub i hi k hki
  have hgq : g - 1000 * I.w i k - 1 ≤ -(1000 * p k) := by
    have h1 := (L.gP i g k0 hb).2.2.1
    have h2 := sv.C i k hk
    omega
  have hc : cnt I (upB B k (g - 1000 * I.w i k - 1, some i)) G + one (B k) = cnt I B G + 1 := by
    have := sm_change (l := I.K) ok.nd hK (f := fun j => one (upB B k (g - 1000 * I.w i k - 1, some i) j)) (g := fun j => one (B j)) fun j _ hj => by rw [upB_ne _ _ hj]
    simp only [upB_same, one] at this
    unfold cnt
    simp only [one] at this ⊢
    omega
  have hcw := cw_pos I
  have hlab : -(I.cw * cnt I B G) ≤ g := L.lG i g k0 hb
  have hwk := le_cw I hi hki
  have hwk2 := le_ab (1000 * I.w i k)
  have hmono : I.cw * cnt I B G ≤ I.cw * cnt I (upB B k (g - 1000 * I.w i k - 1, some i)) G := Int.mul_le_mul_of_nonneg_left (by have := (one_le (B k)).1; omega) (by omega)
  have hnew : -(I.cw * cnt I (upB B k (g - 1000 * I.w i k - 1, some i)) G) ≤ g - 1000 * I.w i k - 1 := by
    cases e : B k with
    | none =>
      rw [e] at hc
      simp only [one] at hc
      have : cnt I (upB B k (g - 1000 * I.w i k - 1, some i)) G = cnt I B G + 1 := by omega
      rw [this, Int.mul_add]
      omega
    | some x =>
      obtain ⟨g0, o0⟩ := x
      have := L.lB k g0 o0 e
      have := hg g0 o0 e
      omega
  have nofree : ¬ I.used h k < s k := fun z => by
    have h1 := L.fr k hK z
    have h2 := hg 0 none h1
    have h3 := sv.pf k hK z
    omega
  refine ⟨⟨fun k1 g1 o1 e => ?_, fun k1 g1 e => ?_, fun k1 g1 i1 e => ?_, fun i1 g1 k1 e => ?_, fun k1 hk1 z => ?_, fun k1 g1 o1 e => ?_, fun i1 g1 k1 e => ?_⟩, ?_⟩
  · by_cases z : k1 = k
    · subst z
      rw [upB_same] at e
      cases e
      exact ⟨hK, hgq⟩
    · rw [upB_ne _ _ z] at e
      exact L.bK k1 g1 o1 e
  · by_cases z : k1 = k
    · subst z
      rw [upB_same] at e
      cases e
    · rw [upB_ne _ _ z] at e
      exact L.bS k1 g1 e
  · by_cases z : k1 = k
    · subst z
      rw [upB_same] at e
      cases e
      exact ⟨hk, g, k0, hb, Int.le_refl _⟩
    · rw [upB_ne _ _ z] at e
      exact L.bP k1 g1 i1 e
  · obtain ⟨h1, h2, h3, g', o', e1, h4⟩ := L.gP i1 g1 k1 e
    refine ⟨h1, h2, h3, ?_⟩
    by_cases z : k1 = k
    · subst z
      exact ⟨_, _, upB_same _ _ _, by have := hg g' o' e1; omega⟩
    · exact ⟨g', o', by rw [upB_ne _ _ z]; exact e1, h4⟩
  · by_cases e : k1 = k
    · subst e
      exact absurd z nofree
    · rw [upB_ne _ _ e]
      exact L.fr k1 hk1 z
  · by_cases z : k1 = k
    · subst z
      rw [upB_same] at e
      cases e
      exact hnew
    · rw [upB_ne _ _ z] at e
      have := L.lB k1 g1 o1 e
      omega
  · have := L.lG i1 g1 k1 e
    omega
  · have := sm_change (l := I.K) ok.nd hK (f := fun j => phi (top I p q) (-(1000 * p j)) ((upB B k (g - 1000 * I.w i k - 1, some i) j).map (·.1))) (g := fun j => phi (top I p q) (-(1000 * p j)) ((B j).map (·.1)))
      fun j _ hj => by rw [upB_ne _ _ hj]
    simp only [upB_same, Option.map_some] at this
    have h2 : phi (top I p q) (-(1000 * p k)) (some (g - 1000 * I.w i k - 1)) < phi (top I p q) (-(1000 * p k)) ((B k).map (·.1)) := by
      cases e : B k with
      | none =>
        simp only [Option.map_none, phi]
        have h3 := cw_cnt_le I (upB B k (g - 1000 * I.w i k - 1, some i)) G
        have h4 := le_au_p I p q hK
        have h5 := neg_le_ab (1000 * p k)
        unfold top
        omega
      | some x =>
        obtain ⟨g0, o0⟩ := x
        have := hg g0 o0 e
        simp only [Option.map_some, phi]
        omega
    unfold mu
    omega
/-- no label can be made greater -/
structure Fix (I : Inst κ) (h : Nat → κ → Int) (B : Bags κ) (G : Gains κ) : Prop where
  fG : ∀ i, i < I.n → ∀ k ∈ I.fits i, ∀ g o, B k = some (g, o) → ∃ g' k', G i = some (g', k') ∧ g + 1000 * I.w i k - 1 ≤ g'
  fB : ∀ i g k', G i = some (g, k') → ∀ k, 0 < h i k → ∃ g' o, B k = some (g', o) ∧ g - 1000 * I.w i k - 1 ≤ g'
theorem tightB (L : Lab I s h p q B G) (X : Fix I h B G) {k : κ} {g : Int} {i : Nat} (e : B k = some (g, some i)) : 0 < h i k ∧ ∃ k', G i = some (g + 1000 * I.w i k + 1, k') := by
  obtain ⟨h1, g', k', e1, h2⟩ := L.bP k g i e
  obtain ⟨g2, o2, e2, h3⟩ := X.fB i g' k' e1 k h1
  rw [e] at e2
  cases e2
  exact ⟨h1, k', by rw [e1]; congr 2; omega⟩
theorem tightG (L : Lab I s h p q B G) (X : Fix I h B G) {i : Nat} {g : Int} {k : κ} (e : G i = some (g, k)) : i < I.n ∧ k ∈ I.fits i ∧ ∃ o, B k = some (g - 1000 * I.w i k + 1, o) := by
  obtain ⟨h1, h2, _, g', o, e1, h3⟩ := L.gP i g k e
  obtain ⟨g2, k2, e2, h4⟩ := X.fG i h1 k h2 g' o e1
  rw [e] at e2
  cases e2
  exact ⟨h1, h2, o, by rw [e1]; congr 2; omega⟩
/-! ### levels -/
def lv (g : Int) : Nat := ((-g) % 1000).toNat
def W (g : Int) : Int := -((-g) / 1000)
theorem lv_W (g : Int) : g = 1000 * W g - (lv g : Int) ∧ lv g < 1000 := by unfold lv W; omega
theorem lv_of {g V : Int} {l : Nat} (e : g = 1000 * V - (l : Int)) (h : l < 1000) : lv g = l ∧ W g = V := by unfold lv W; omega
theorem lev (ok : I.Ok) (L : Lab I s h p q B G) (X : Fix I h B G) : (∀ k g o, B k = some (g, o) → lv g < 900) ∧ ∀ i g k, G i = some (g, k) → lv g < 900 := by
  let ls : List Nat := (I.K.filterMap fun k => (B k).map fun x => lv x.1) ++ (List.range I.n).filterMap fun i => (G i).map fun x => lv x.1
  have len : ls.length ≤ 900 := by
    have h1 := List.length_filterMap_le (fun k => (B k).map fun x => lv x.1) I.K
    have h2 := List.length_filterMap_le (fun i => (G i).map fun x => lv x.1) (List.range I.n)
    rw [List.length_range] at h2
    have := ok.small
    show (_ ++ _ : List Nat).length ≤ 900
    rw [List.length_append]
    omega
  have inB : ∀ k g o, B k = some (g, o) → lv g ∈ ls := fun k g o e => List.mem_append.mpr (.inl (List.mem_filterMap.mpr ⟨k, (L.bK k g o e).1, by rw [e]; rfl⟩))
  have inG : ∀ i g k, G i = some (g, k) → lv g ∈ ls := fun i g k e => List.mem_append.mpr (.inr (List.mem_filterMap.mpr ⟨i, List.mem_range.mpr (L.gP i g k e).1, by rw [e]; rfl⟩))
  have cl : ∀ x, x + 1 ∈ ls → x ∈ ls := fun x hx => by
    rcases List.mem_append.mp hx with hx | hx
    · obtain ⟨k, _, e⟩ := List.mem_filterMap.mp hx
      cases eb : B k with
      | none => rw [eb] at e; cases e
      | some y =>
        obtain ⟨g, o⟩ := y
        rw [eb] at e
        have el : lv g = x + 1 := Option.some.inj e
        cases o with
        | none =>
          have := (L.bS k g eb).2
          subst this
          have : lv 0 = 0 := by decide
          omega
        | some i =>
          obtain ⟨_, k', e1⟩ := tightB L X eb
          have h1 := inG _ _ _ e1
          have : lv (g + 1000 * I.w i k + 1) = x := by
            have h2 := lv_W g
            rw [el] at h2
            exact (lv_of (V := W g + I.w i k) (by omega) (by omega)).1
          rw [this] at h1
          exact h1
    · obtain ⟨i, _, e⟩ := List.mem_filterMap.mp hx
      cases eb : G i with
      | none => rw [eb] at e; cases e
      | some y =>
        obtain ⟨g, k⟩ := y
        rw [eb] at e
        have el : lv g = x + 1 := Option.some.inj e
        obtain ⟨_, _, o, e1⟩ := tightG L X eb
        have h1 := inB _ _ _ e1
        have : lv (g - 1000 * I.w i k + 1) = x := by
          have h2 := lv_W g
          rw [el] at h2
          exact (lv_of (V := W g - I.w i k) (by omega) (by omega)).1
        rw [this] at h1
        exact h1
  exact ⟨fun k g o e => Nat.lt_of_lt_of_le (level_lt cl (inB k g o e)) len, fun i g k e => Nat.lt_of_lt_of_le (level_lt cl (inG i g k e)) len⟩
/-! ### new potentials -/
def newp (B : Bags κ) (p : κ → Int) (D : Int) (k : κ) : Int := match B k with
  | none => p k + D
  | some x => if -W x.1 < p k + D then -W x.1 else p k + D
def newq (G : Gains κ) (q : Nat → Int) (D : Int) (i : Nat) : Int := match G i with
  | none => q i - D
  | some x => if q i - D < W x.1 then W x.1 else q i - D
theorem newp_some {k : κ} {g : Int} {o : Option Nat} {D : Int} (e : B k = some (g, o)) : newp B p D k = if -W g < p k + D then -W g else p k + D := by unfold newp; rw [e]
theorem newp_none {k : κ} {D : Int} (e : B k = none) : newp B p D k = p k + D := by unfold newp; rw [e]
theorem newq_some {i : Nat} {g : Int} {k : κ} {D : Int} (e : G i = some (g, k)) : newq G q D i = if q i - D < W g then W g else q i - D := by unfold newq; rw [e]
theorem newq_none {i : Nat} {D : Int} (e : G i = none) : newq G q D i = q i - D := by unfold newq; rw [e]
theorem new_SV (ok : I.Ok) (sv : SV I s h p q lam) (L : Lab I s h p q B G) (X : Fix I h B G) {lam' : Int} (h0 : 0 ≤ lam') (hl : lam' ≤ lam)
    (hr : ∀ i g k, G i = some (g, k) → I.got h i < I.want i → W g ≤ lam') : SV I s h (newp B p (lam - lam')) (newq G q (lam - lam')) lam' := by
  obtain ⟨lvB, lvG⟩ := lev ok L X
  refine ⟨sv.f, fun i hi k hk => ?_, fun i k hik => ?_, fun k hk => ?_, fun k hk hf => ?_, fun i hi hg => ?_, fun i hi hg => ?_, h0⟩
  · have F := sv.F i hi k hk
    have q1 : q i - (lam - lam') ≤ newq G q (lam - lam') i := by
      cases e : G i with
      | none => rw [newq_none e]; omega
      | some x => obtain ⟨g, k'⟩ := x; rw [newq_some e]; split <;> omega
    cases e : B k with
    | none => rw [newp_none e]; omega
    | some x =>
      obtain ⟨g, o⟩ := x
      rw [newp_some e]
      split
      · obtain ⟨g', k', e1, h1⟩ := X.fG i hi k hk g o e
        have h2 := lv_W g
        have h3 := lv_W g'
        have h4 := lvB k g o e
        have : W g + I.w i k ≤ W g' := by omega
        rw [newq_some e1]
        split <;> omega
      · omega
  · obtain ⟨hi, hk⟩ := sv.f.sup i k (by omega)
    have C := sv.C i k hik
    have p1 : newp B p (lam - lam') k ≤ p k + (lam - lam') := by
      cases e : B k with
      | none => rw [newp_none e]; omega
      | some x => obtain ⟨g, o⟩ := x; rw [newp_some e]; split <;> omega
    have q1 : q i - (lam - lam') ≤ newq G q (lam - lam') i := by
      cases e : G i with
      | none => rw [newq_none e]; omega
      | some x => obtain ⟨g, k'⟩ := x; rw [newq_some e]; split <;> omega
    have le1 : I.w i k ≤ newp B p (lam - lam') k + newq G q (lam - lam') i := by
      cases e : B k with
      | none => rw [newp_none e]; omega
      | some x =>
        obtain ⟨g, o⟩ := x
        rw [newp_some e]
        split
        · obtain ⟨g', k', e1, h1⟩ := X.fG i hi k hk g o e
          have h2 := lv_W g
          have h3 := lv_W g'
          have h4 := lvB k g o e
          have : W g + I.w i k ≤ W g' := by omega
          rw [newq_some e1]
          split <;> omega
        · omega
    have ge1 : newp B p (lam - lam') k + newq G q (lam - lam') i ≤ I.w i k := by
      cases e : G i with
      | none => rw [newq_none e]; omega
      | some x =>
        obtain ⟨g, k'⟩ := x
        rw [newq_some e]
        split
        · obtain ⟨g', o', e1, h1⟩ := X.fB i g k' e k hik
          have h2 := lv_W g
          have h3 := lv_W g'
          have h4 := lvG i g k' e
          have : W g - I.w i k ≤ W g' := by omega
          rw [newp_some e1]
          split <;> omega
        · omega
    omega
  · have := sv.pn k hk
    cases e : B k with
    | none => rw [newp_none e]; omega
    | some x =>
      obtain ⟨g, o⟩ := x
      rw [newp_some e]
      have h1 := (L.bK k g o e).2
      have h2 := lv_W g
      split <;> omega
  · rw [newp_some (L.fr k hk hf), sv.pf k hk hf]
    have : W 0 = 0 := by decide
    rw [this]
    split <;> omega
  · have := sv.lo i hi hg
    cases e : G i with
    | none => rw [newq_none e]; omega
    | some x => obtain ⟨g, k'⟩ := x; rw [newq_some e]; split <;> omega
  · have := sv.hi i hi hg
    cases e : G i with
    | none => rw [newq_none e]; omega
    | some x =>
      obtain ⟨g, k'⟩ := x
      rw [newq_some e]
      have := hr i g k' e hg
      split <;> omega
end
end
end K59
/-! M3: the way, handing on, strong duality, one bag more or less. Plain Lean. -/
namespace K59
section
variable {κ : Type} [DecidableEq κ]
/-! ### counting on lists of pairs -/
def ct (l : List (Nat × κ)) (i : Nat) (j : κ) : Int := sm l fun x => if x.1 = i ∧ x.2 = j then 1 else 0
def ct1 (l : List (Nat × κ)) (i : Nat) : Int := sm l fun x => if x.1 = i then 1 else 0
def ct2 (l : List (Nat × κ)) (j : κ) : Int := sm l fun x => if x.2 = j then 1 else 0
theorem ct_nn (l : List (Nat × κ)) (i : Nat) (j : κ) : 0 ≤ ct l i j := sm_nonneg fun x _ => by
  show (0 : Int) ≤ if x.1 = i ∧ x.2 = j then 1 else 0
  split <;> omega
theorem ct_pos {l : List (Nat × κ)} {i : Nat} {j : κ} (h : ct l i j ≠ 0) : (i, j) ∈ l := by
  have := ct_nn l i j
  obtain ⟨x, hx, q⟩ := sm_pos_ex (l := l) (f := fun x => if x.1 = i ∧ x.2 = j then 1 else 0) (by show 0 < ct l i j; omega)
  have q : (0 : Int) < if x.1 = i ∧ x.2 = j then 1 else 0 := q
  by_cases z : x.1 = i ∧ x.2 = j
  · obtain ⟨a, b⟩ := x
    obtain ⟨e1, e2⟩ := z
    simp only at e1 e2
    subst e1; subst e2
    exact hx
  · rw [if_neg z] at q
    omega
theorem ct_le_one {l : List (Nat × κ)} (hn : l.Nodup) (i : Nat) (j : κ) : ct l i j ≤ 1 := by
  induction l with
  | nil => simp [ct, sm_nil]
  | cons x l ih =>
    obtain ⟨h1, h2⟩ := List.nodup_cons.mp hn
    have := ih h2
    unfold ct at this ⊢
    rw [sm_cons]
    by_cases z : x.1 = i ∧ x.2 = j
    · rw [if_pos z]
      have : ct l i j = 0 := by
        by_cases e : ct l i j = 0
        · exact e
        · have := ct_pos e
          obtain ⟨a, b⟩ := x
          obtain ⟨e1, e2⟩ := z
          simp only at e1 e2
          subst e1; subst e2
          exact absurd this h1
      unfold ct at this
      omega
    · rw [if_neg z]
      omega
theorem ct_app (l r : List (Nat × κ)) (i : Nat) (j : κ) : ct (l ++ r) i j = ct l i j + ct r i j := sm_append _ _ _
theorem ct1_app (l r : List (Nat × κ)) (i : Nat) : ct1 (l ++ r) i = ct1 l i + ct1 r i := sm_append _ _ _
theorem ct2_app (l r : List (Nat × κ)) (j : κ) : ct2 (l ++ r) j = ct2 l j + ct2 r j := sm_append _ _ _
theorem ct1_one (x : Nat × κ) (i : Nat) : ct1 [x] i = if x.1 = i then 1 else 0 := by simp [ct1, sm_cons, sm_nil]
theorem ct2_one (x : Nat × κ) (j : κ) : ct2 [x] j = if x.2 = j then 1 else 0 := by simp [ct2, sm_cons, sm_nil]
theorem ct_one (x : Nat × κ) (i : Nat) (j : κ) : ct [x] i j = if x.1 = i ∧ x.2 = j then 1 else 0 := by simp [ct, sm_cons, sm_nil]
theorem sum_ct1 {l : List (Nat × κ)} {fs : List κ} {i : Nat} (hn : fs.Nodup) (h : ∀ x ∈ l, x.1 = i → x.2 ∈ fs) : sm fs (fun j => ct l i j) = ct1 l i := by
  unfold ct ct1
  rw [sm_comm]
  refine sm_congr fun x hx => ?_
  by_cases z : x.1 = i
  · rw [if_pos z]
    exact Eq.trans (sm_congr fun j _ => by simp only [z, true_and, eq_comm]) (sm_one hn (h x hx z) 1)
  · rw [if_neg z]
    exact sm_zero fun j _ => if_neg fun q => z q.1
theorem sum_ct2 {l : List (Nat × κ)} {n : Nat} {j : κ} (h : ∀ x ∈ l, x.1 < n) : sm (List.range n) (fun i => ct l i j) = ct2 l j := by
  unfold ct ct2
  rw [sm_comm]
  refine sm_congr fun x hx => ?_
  by_cases z : x.2 = j
  · rw [if_pos z]
    exact Eq.trans (sm_congr fun i _ => by simp only [z, and_true, eq_comm]) (sm_one (l := List.range n) List.nodup_range (List.mem_range.mpr (h x hx)) 1)
  · rw [if_neg z]
    exact sm_zero fun j _ => if_neg fun q => z q.2
section
variable {I : Inst κ} {s : κ → Int} {h : Nat → κ → Int} {p : κ → Int} {q : Nat → Int} {lam : Int} {B : Bags κ} {G : Gains κ}
theorem stepB {g g' w : Int} (e : g' = g + 1000 * w + 1) (hl : lv g' < 900) : lv g = lv g' + 1 ∧ W g' = W g + w := by
  have h2 := lv_W g'
  have h3 := lv_of (g := g) (V := W g' - w) (l := lv g' + 1) (by omega) (by omega)
  omega
theorem stepG {g g' w : Int} (e : g' = g - 1000 * w + 1) (hl : lv g' < 900) : lv g = lv g' + 1 ∧ W g = W g' + w := by
  have h2 := lv_W g'
  have h3 := lv_of (g := g) (V := W g' + w) (l := lv g' + 1) (by omega) (by omega)
  omega
/-- a way under way: from a0 back to the kind k -/
structure Way (I : Inst κ) (h : Nat → κ → Int) (p : κ → Int) (q : Nat → Int) (B : Bags κ) (G : Gains κ) (D : Int) (a0 : Nat) (ts gs : List (Nat × κ)) (a : Nat) (k : κ) (gk : Int) (o : Option Nat) : Prop where
  last : ∃ t, ts = t ++ [(a, k)]
  first : ∃ k0 r, ts = (a0, k0) :: r
  bk : B k = some (gk, o)
  un : -(p k + D) ≤ W gk
  tk : ∀ x ∈ ts, x.1 < I.n ∧ x.2 ∈ I.fits x.1 ∧ I.w x.1 x.2 = newp B p D x.2 + newq G q D x.1
  gv : ∀ x ∈ gs, 0 < h x.1 x.2 ∧ ∃ g1 o1, B x.2 = some (g1, o1) ∧ lv gk < lv g1
  nd : gs.Nodup
  c1 : ∀ i, ct1 ts i = ct1 gs i + if a0 = i then 1 else 0
  c2 : ∀ j, ct2 ts j = ct2 gs j + if k = j then 1 else 0
/-- one asker of the way: what it takes is tight -/
theorem take_ok (ok : I.Ok) (sv : SV I s h p q lam) (L : Lab I s h p q B G) (X : Fix I h B G) {D g : Int} {a : Nat} {k : κ} (e : G a = some (g, k)) (hu : q a - D ≤ W g) :
    a < I.n ∧ k ∈ I.fits a ∧ I.w a k = newp B p D k + newq G q D a ∧ ∃ o, B k = some (g - 1000 * I.w a k + 1, o) ∧ -(p k + D) ≤ W (g - 1000 * I.w a k + 1) ∧ lv g = lv (g - 1000 * I.w a k + 1) + 1 := by
  obtain ⟨h1, h2, o, e1⟩ := tightG L X e
  have h3 := (lev ok L X).1 _ _ _ e1
  obtain ⟨h4, h5⟩ := stepG (g := g) (w := I.w a k) rfl h3
  have F := sv.F a h1 k h2
  refine ⟨h1, h2, ?_, o, e1, by omega, h4⟩
  rw [newp_some e1, newq_some e]
  split <;> split <;> omega
theorem way_start (ok : I.Ok) (sv : SV I s h p q lam) (L : Lab I s h p q B G) (X : Fix I h B G) {D g : Int} {a : Nat} {k : κ} (e : G a = some (g, k)) (hu : q a - D ≤ W g) :
    ∃ gk o, Way I h p q B G D a [(a, k)] [] a k gk o := by
  obtain ⟨h1, h2, h3, o, e1, h4, _⟩ := take_ok ok sv L X e hu
  refine ⟨_, o, ⟨[], rfl⟩, ⟨k, [], rfl⟩, e1, h4, fun x hx => ?_, fun x hx => by simp at hx, List.nodup_nil, fun i => ?_, fun j => ?_⟩
  · rw [List.mem_singleton] at hx
    subst hx
    exact ⟨h1, h2, h3⟩
  · rw [ct1_one]; simp [ct1, sm_nil]
  · rw [ct2_one]; simp [ct2, sm_nil]
theorem way_step (ok : I.Ok) (sv : SV I s h p q lam) (L : Lab I s h p q B G) (X : Fix I h B G) {D : Int} {a0 a b : Nat} {k k' : κ} {ts gs : List (Nat × κ)} {gk g' : Int}
    (w : Way I h p q B G D a0 ts gs a k gk (some b)) (e : G b = some (g', k')) : ∃ gk' o', lv gk' < lv gk ∧ Way I h p q B G D a0 (ts ++ [(b, k')]) (gs ++ [(b, k)]) b k' gk' o' := by
  obtain ⟨h1, k2, e2⟩ := tightB L X w.bk
  rw [e] at e2
  cases e2
  have l1 := (lev ok L X).2 _ _ _ e
  obtain ⟨h2, h3⟩ := stepB (g := gk) (w := I.w b k) rfl l1
  have C := sv.C b k h1
  have un := w.un
  obtain ⟨h4, h5, h6, o, e1, h7, h8⟩ := take_ok ok sv L X (D := D) e (by omega)
  refine ⟨_, o, by omega, ⟨ts, rfl⟩, ?_, e1, h7, fun x hx => ?_, fun x hx => ?_, ?_, fun i => ?_, fun j => ?_⟩
  · obtain ⟨k0, r, q⟩ := w.first
    exact ⟨k0, r ++ [(b, k')], by rw [q]; rfl⟩
  · rcases List.mem_append.mp hx with hx | hx
    · exact w.tk x hx
    · rw [List.mem_singleton] at hx
      subst hx
      exact ⟨h4, h5, h6⟩
  · rcases List.mem_append.mp hx with hx | hx
    · obtain ⟨a1, g1, o1, a2, a3⟩ := w.gv x hx
      exact ⟨a1, g1, o1, a2, by omega⟩
    · rw [List.mem_singleton] at hx
      subst hx
      exact ⟨h1, gk, _, w.bk, by omega⟩
  · rw [List.nodup_append]
    refine ⟨w.nd, by simp, fun x hx y hy z => ?_⟩
    rw [List.mem_singleton] at hy
    subst hy
    subst z
    obtain ⟨_, g1, o1, a2, a3⟩ := w.gv _ hx
    have a2 : B k = some (g1, o1) := a2
    rw [w.bk] at a2
    cases a2
    omega
  · rw [ct1_app, ct1_app, ct1_one, ct1_one, w.c1 i]
    simp only
    omega
  · rw [ct2_app, ct2_app, ct2_one, ct2_one, w.c2 j]
/-- what is held behind handing on -/
def hand (h : Nat → κ → Int) (ts gs : List (Nat × κ)) (m : Int) (i : Nat) (j : κ) : Int := h i j + m * ct ts i j - m * ct gs i j
theorem hand_got (ok : I.Ok) (sv : SV I s h p q lam) {D : Int} {a0 a : Nat} {k : κ} {ts gs : List (Nat × κ)} {gk m : Int} {o : Option Nat} (w : Way I h p q B G D a0 ts gs a k gk o) {i : Nat} (hi : i < I.n) :
    I.got (hand h ts gs m) i = I.got h i + if a0 = i then m else 0 := by
  unfold Inst.got hand
  rw [sm_sub, sm_add, sm_mul, sm_mul, sum_ct1 (ok.fnd i hi) fun x hx z => by rw [← z]; exact (w.tk x hx).2.1, sum_ct1 (ok.fnd i hi) fun x hx z => by rw [← z]; exact (sv.f.sup _ _ (by have := (w.gv x hx).1; omega)).2, w.c1 i, Int.mul_add]
  split <;> omega
theorem hand_used (ok : I.Ok) (sv : SV I s h p q lam) {D : Int} {a0 a : Nat} {k : κ} {ts gs : List (Nat × κ)} {gk m : Int} {o : Option Nat} (w : Way I h p q B G D a0 ts gs a k gk o) (j : κ) :
    I.used (hand h ts gs m) j = I.used h j + if k = j then m else 0 := by
  unfold Inst.used hand
  rw [sm_sub, sm_add, sm_mul, sm_mul, sum_ct2 fun x hx => (w.tk x hx).1, sum_ct2 fun x hx => (sv.f.sup x.1 x.2 (by have := (w.gv x hx).1; omega)).1, w.c2 j, Int.mul_add]
  split <;> omega
theorem hand_SV (ok : I.Ok) (sv : SV I s h p q lam) (L : Lab I s h p q B G) (X : Fix I h B G) {lam' : Int} (h0 : 0 ≤ lam') (hl : lam' ≤ lam)
    (hr : ∀ i g k, G i = some (g, k) → I.got h i < I.want i → W g ≤ lam') {a0 a : Nat} {k k0 : κ} {ts gs : List (Nat × κ)} {gk g0 m : Int} {o : Option Nat} (w : Way I h p q B G (lam - lam') a0 ts gs a k gk o)
    (e0 : G a0 = some (g0, k0)) (hg0 : W g0 = lam') (m1 : 1 ≤ m) (m2 : m ≤ I.want a0 - I.got h a0) (m3 : m ≤ s k - I.used h k) (m4 : ∀ x ∈ gs, m ≤ h x.1 x.2) :
    SV I s (hand h ts gs m) (newp B p (lam - lam')) (newq G q (lam - lam')) lam' := by
  have S := new_SV ok sv L X h0 hl hr
  have ha0 : a0 < I.n := (L.gP _ _ _ e0).1
  have hq0 : lam' ≤ newq G q (lam - lam') a0 := by
    rw [newq_some e0]
    split <;> omega
  have nn : ∀ i j, 0 ≤ hand h ts gs m i j := fun i j => by
    have h1 := ct_nn ts i j
    have h2 := ct_le_one w.nd i j
    have h3 := ct_nn gs i j
    have h4 : 0 ≤ m * ct ts i j := Int.mul_nonneg (by omega) h1
    have h5 := sv.f.nn i j
    unfold hand
    by_cases z : ct gs i j = 0
    · rw [z, Int.mul_zero]
      omega
    · have h6 := m4 _ (ct_pos z)
      have h7 : ct gs i j = 1 := by omega
      rw [h7, Int.mul_one]
      have h6 : m ≤ h i j := h6
      omega
  refine ⟨⟨nn, fun i j z => ?_, fun i hi => ?_, fun j hj => ?_⟩, S.F, fun i j z => ?_, S.pn, fun j hj z => S.pf j hj ?_, fun i hi z => ?_, fun i hi z => S.hi i hi ?_, h0⟩
  · by_cases y : h i j = 0
    · by_cases x : ct ts i j = 0
      · unfold hand at z
        have h2 := nn i j
        unfold hand at h2
        have h3 : 0 ≤ m * ct gs i j := Int.mul_nonneg (by omega) (ct_nn gs i j)
        rw [y, x, Int.mul_zero] at z h2
        omega
      · have := w.tk _ (ct_pos x)
        exact ⟨this.1, this.2.1⟩
    · exact sv.f.sup i j y
  · rw [hand_got ok sv w hi]
    have := sv.f.row i hi
    split
    · rename_i z
      subst z
      omega
    · omega
  · rw [hand_used ok sv w j]
    have := sv.f.col j hj
    split
    · rename_i z
      subst z
      omega
    · omega
  · by_cases y : h i j = 0
    · by_cases x : ct ts i j = 0
      · unfold hand at z
        have h3 : 0 ≤ m * ct gs i j := Int.mul_nonneg (by omega) (ct_nn gs i j)
        rw [y, x, Int.mul_zero] at z
        omega
      · exact (w.tk _ (ct_pos x)).2.2
    · exact S.C i j (by have := sv.f.nn i j; omega)
  · rw [hand_used ok sv w j] at z
    split at z <;> omega
  · rw [hand_got ok sv w hi] at z
    by_cases y : a0 = i
    · subst y
      exact hq0
    · rw [if_neg y] at z
      exact S.lo i hi (by omega)
  · rw [hand_got ok sv w hi] at z
    split at z <;> omega
/-! ### there are such things -/
theorem lab_start (sv : SV I s h p q lam) : Lab I s h p q (fun k => if k ∈ I.K ∧ I.used h k < s k then some (0, none) else none) (fun _ => none) := by
  refine ⟨fun k g o e => ?_, fun k g e => ?_, fun k g i e => ?_, fun i g k e => (nomatch e), fun k hk hf => if_pos ⟨hk, hf⟩, fun k g o e => ?_, fun i g k e => (nomatch e)⟩
  all_goals
    split at e
    · rename_i z
      cases e <;> first
        | exact ⟨z.1, by have := sv.pf k z.1 z.2; omega⟩
        | exact ⟨z.2, rfl⟩
        | (have := Int.mul_nonneg (a := I.cw) (b := cnt I (fun k => if k ∈ I.K ∧ I.used h k < s k then some (0, none) else none) (fun _ => none)) (by have := cw_pos I; omega) (cnt_nn _ _ _); omega)
    · cases e
theorem exFix (ok : I.Ok) (sv : SV I s h p q lam) : ∃ B G, Lab I s h p q B G ∧ Fix I h B G := by
  have all : ∀ (n : Nat) (B : Bags κ) (G : Gains κ), (mu I p q B G).toNat ≤ n → Lab I s h p q B G → ∃ B G, Lab I s h p q B G ∧ Fix I h B G := by
    intro n
    induction n using Nat.strongRecOn with
    | ind n ih =>
      intro B G hn L
      by_cases X : Fix I h B G
      · exact ⟨B, G, L, X⟩
      by_cases x1 : ∃ i k g o, i < I.n ∧ k ∈ I.fits i ∧ B k = some (g, o) ∧ ∀ g0 k0, G i = some (g0, k0) → g0 < g + 1000 * I.w i k - 1
      · obtain ⟨i, k, g, o, hi, hk, hb, hg⟩ := x1
        obtain ⟨L', hm⟩ := relaxG sv L hi hk hb hg
        have h1 := mu_nn L
        have h2 := mu_nn L'
        exact ih _ (by omega) _ _ (Nat.le_refl _) L'
      by_cases x2 : ∃ i k g k0, 0 < h i k ∧ G i = some (g, k0) ∧ ∀ g0 o0, B k = some (g0, o0) → g0 < g - 1000 * I.w i k - 1
      · obtain ⟨i, k, g, k0, hk, hb, hg⟩ := x2
        obtain ⟨L', hm⟩ := relaxB ok sv L hk hb hg
        have h1 := mu_nn L
        have h2 := mu_nn L'
        exact ih _ (by omega) _ _ (Nat.le_refl _) L'
      · refine absurd ⟨fun i hi k hk g o e => ?_, fun i g k' e k hk => ?_⟩ X
        · cases eg : G i with
          | none => exact absurd ⟨i, k, g, o, hi, hk, e, fun g0 k0 z => by rw [eg] at z; cases z⟩ x1
          | some y =>
            obtain ⟨g', k'⟩ := y
            refine ⟨g', k', rfl, ?_⟩
            by_cases z : g + 1000 * I.w i k - 1 ≤ g'
            · exact z
            · exact absurd ⟨i, k, g, o, hi, hk, e, fun g0 k0 z' => by rw [eg] at z'; cases z'; omega⟩ x1
        · cases eb : B k with
          | none => exact absurd ⟨i, k, g, k', hk, e, fun g0 k0 z => by rw [eb] at z; cases z⟩ x2
          | some y =>
            obtain ⟨g', o'⟩ := y
            refine ⟨g', o', rfl, ?_⟩
            by_cases z : g - 1000 * I.w i k - 1 ≤ g'
            · exact z
            · exact absurd ⟨i, k, g, k', hk, e, fun g0 k0 z' => by rw [eb] at z'; cases z'; omega⟩ x2
  exact all _ _ _ (Nat.le_refl _) (lab_start sv)
theorem exWay (ok : I.Ok) (sv : SV I s h p q lam) (L : Lab I s h p q B G) (X : Fix I h B G) {D g : Int} {a : Nat} {k : κ} (e : G a = some (g, k)) (hu : q a - D ≤ W g) :
    ∃ ts gs b j gk, Way I h p q B G D a ts gs b j gk none := by
  have all : ∀ (n : Nat) ts gs b j gk o, lv gk ≤ n → Way I h p q B G D a ts gs b j gk o → ∃ ts gs b j gk, Way I h p q B G D a ts gs b j gk none := by
    intro n
    induction n with
    | zero =>
      intro ts gs b j gk o hn w
      cases o with
      | none => exact ⟨_, _, _, _, _, w⟩
      | some c =>
        obtain ⟨_, k', e1⟩ := tightB L X w.bk
        obtain ⟨_, _, h1, _⟩ := way_step ok sv L X w e1
        omega
    | succ n ih =>
      intro ts gs b j gk o hn w
      cases o with
      | none => exact ⟨_, _, _, _, _, w⟩
      | some c =>
        obtain ⟨_, k', e1⟩ := tightB L X w.bk
        obtain ⟨_, _, h1, w'⟩ := way_step ok sv L X w e1
        exact ih _ _ _ _ _ _ (by omega) w'
  obtain ⟨gk, o, w⟩ := way_start ok sv L X e hu
  exact all _ _ _ _ _ _ _ (Nat.le_refl _) w
/-- among finitely many there is a greatest -/
theorem exMax {P : Nat → Prop} (n : Nat) (f : Nat → Int) (h : ∃ i, i < n ∧ P i) : ∃ i, i < n ∧ P i ∧ ∀ j, j < n → P j → f j ≤ f i := by
  induction n with
  | zero => obtain ⟨i, hi, _⟩ := h; omega
  | succ n ih =>
    by_cases hx : ∃ i, i < n ∧ P i
    · obtain ⟨i, hi, pi, hm⟩ := ih hx
      by_cases pn : P n ∧ f i < f n
      · refine ⟨n, by omega, pn.1, fun j hj pj => ?_⟩
        by_cases z : j = n
        · subst z; exact Int.le_refl _
        · have := hm j (by omega) pj
          omega
      · refine ⟨i, by omega, pi, fun j hj pj => ?_⟩
        by_cases z : j = n
        · subst z
          by_cases y : f i < f j
          · exact absurd ⟨pj, y⟩ pn
          · omega
        · exact hm j (by omega) pj
    · obtain ⟨i, hi, pi⟩ := h
      have : i = n := by
        by_cases z : i = n
        · exact z
        · exact absurd ⟨i, by omega, pi⟩ hx
      subst this
      refine ⟨i, by omega, pi, fun j hj pj => ?_⟩
      by_cases z : j = i
      · subst z; exact Int.le_refl _
      · exact absurd ⟨j, by omega, pj⟩ hx
theorem SV.cert (sv : SV I s h p q 0) : Cert I s h p (fun i => if q i < 0 then 0 else q i) := by
  have gpos : ∀ i k, h i k ≠ 0 → 0 < I.got h i := fun i k z => by
    obtain ⟨hi, hk⟩ := sv.f.sup i k z
    have := le_sm (l := I.fits i) (f := h i) (fun k _ => sv.f.nn i k) hk
    have := sv.f.nn i k
    show 0 < sm (I.fits i) (h i)
    omega
  refine ⟨sv.f, ⟨sv.pn, fun i hi => ?_, fun i hi k hk => ?_⟩, fun i k z => ?_, fun k hk z => sv.pf k hk ?_, fun i hi z => ?_⟩
  · show (0 : Int) ≤ if q i < 0 then 0 else q i
    split <;> omega
  · have := sv.F i hi k hk
    show I.w i k ≤ p k + if q i < 0 then 0 else q i
    split <;> omega
  · have := sv.C i k (by have := sv.f.nn i k; omega)
    have := sv.lo i (sv.f.sup i k z).1 (gpos i k z)
    show I.w i k = p k + if q i < 0 then 0 else q i
    split <;> omega
  · have := sv.f.col k hk
    omega
  · have := sv.f.row i hi
    have := sv.hi i hi (by omega)
    show (if q i < 0 then (0 : Int) else q i) = 0
    split <;> omega
theorem sv_start (ok : I.Ok) (hs : ∀ k ∈ I.K, 0 ≤ s k) : SV I s (fun _ _ => 0) (fun _ => 0) (fun _ => I.cw) I.cw := by
  have z1 : ∀ i, I.got (fun _ _ => 0) i = 0 := fun i => sm_zero fun _ _ => rfl
  have z2 : ∀ k, I.used (fun _ _ => 0) k = 0 := fun i => sm_zero fun _ _ => rfl
  refine ⟨⟨fun _ _ => Int.le_refl _, fun _ _ z => absurd rfl z, fun i hi => ?_, fun k hk => by rw [z2]; exact hs k hk⟩, fun i hi k hk => ?_, fun i k z => by omega, fun _ _ => Int.le_refl _, fun _ _ _ => rfl, fun i hi z => by rw [z1] at z; omega, fun _ _ _ => Int.le_refl _, by have := cw_pos I; omega⟩
  · rw [z1]
    have := ok.want1 i hi
    omega
  · have h1 := le_cw I hi hk
    have h2 := le_ab (1000 * I.w i k)
    have h3 := ab_nn (1000 * I.w i k)
    omega
end
end
end K59
/-! M4: strong duality, one bag more or less, the least and the greatest prices. Plain Lean. -/
namespace K59
section
variable {κ : Type} [DecidableEq κ]
section
variable {I : Inst κ} {s : κ → Int} {h : Nat → κ → Int} {p : κ → Int} {q : Nat → Int} {lam : Int} {B : Bags κ} {G : Gains κ}
/-- all that is got -/
def Inst.all (I : Inst κ) (h : Nat → κ → Int) : Int := sm (List.range I.n) fun i => I.got h i
theorem all_le (f : Feas I s h) : I.all h ≤ sm (List.range I.n) I.want := sm_le fun i hi => f.row i (List.mem_range.mp hi)
theorem hand_all (ok : I.Ok) (sv : SV I s h p q lam) {D : Int} {a0 a : Nat} {k : κ} {ts gs : List (Nat × κ)} {gk m : Int} {o : Option Nat} (w : Way I h p q B G D a0 ts gs a k gk o) (h0 : a0 < I.n) :
    I.all (hand h ts gs m) = I.all h + m := by
  unfold Inst.all
  have e : (sm (List.range I.n) fun i => I.got (hand h ts gs m) i) = sm (List.range I.n) fun i => I.got h i + if i = a0 then m else 0 := sm_congr fun i hi => by
    rw [hand_got ok sv w (List.mem_range.mp hi)]
    simp only [eq_comm]
  rw [e, sm_add, sm_one List.nodup_range (List.mem_range.mpr h0)]
theorem exCert (ok : I.Ok) (hs : ∀ k ∈ I.K, 0 ≤ s k) : ∃ h p q, Cert I s h p q := by
  have all : ∀ (n : Nat) (h : Nat → κ → Int) (p : κ → Int) (q : Nat → Int) (lam : Int), (sm (List.range I.n) I.want - I.all h).toNat ≤ n → SV I s h p q lam → ∃ h p q, Cert I s h p q := by
    intro n
    induction n using Nat.strongRecOn with
    | ind n ih =>
      intro h p q lam hn sv
      obtain ⟨B, G, L, X⟩ := exFix ok sv
      by_cases hx : ∃ i, i < I.n ∧ (I.got h i < I.want i ∧ ∃ g k, G i = some (g, k) ∧ 0 ≤ g)
      · obtain ⟨a0, ha0, ⟨hroom, g0, k0, e0, hg0⟩, hmax⟩ := exMax I.n (fun i => ((G i).map (·.1)).getD 0) hx
        have l0 := (lev ok L X).2 _ _ _ e0
        have W0 := lv_W g0
        have hW0 : 0 ≤ W g0 := by omega
        have hq := sv.hi a0 ha0 hroom
        have hgq := (L.gP _ _ _ e0).2.2.1
        have hle : W g0 ≤ lam := by omega
        have hr : ∀ i g k, G i = some (g, k) → I.got h i < I.want i → W g ≤ W g0 := fun i g k e z => by
          have li := (lev ok L X).2 _ _ _ e
          have Wi := lv_W g
          by_cases y : 0 ≤ g
          · have := hmax i (L.gP _ _ _ e).1 ⟨z, g, k, e, y⟩
            rw [e, e0] at this
            have : g ≤ g0 := this
            omega
          · omega
        obtain ⟨ts, gs, b, j, gk, w⟩ := exWay ok sv L X (D := lam - W g0) e0 (by omega)
        have hfree := (L.bS _ _ w.bk).1
        have sv' := hand_SV ok sv L X hW0 hle hr (m := 1) w e0 rfl (Int.le_refl _) (by omega) (by omega) fun x hx => by have := (w.gv x hx).1; omega
        have h1 := hand_all ok sv w (m := 1) ha0
        have h2 := all_le sv'.f
        exact ih _ (by omega) _ _ _ _ (Nat.le_refl _) sv'
      · have hr : ∀ i g k, G i = some (g, k) → I.got h i < I.want i → W g ≤ 0 := fun i g k e z => by
          have Wi := lv_W g
          by_cases y : 0 ≤ g
          · exact absurd ⟨i, (L.gP _ _ _ e).1, z, g, k, e, y⟩ hx
          · omega
        exact ⟨_, _, _, (new_SV ok sv L X (Int.le_refl 0) sv.l0 hr).cert⟩
  exact all _ _ _ _ _ (Nat.le_refl _) (sv_start ok hs)
theorem exOpt (ok : I.Ok) (hs : ∀ k ∈ I.K, 0 ≤ s k) : ∃ M p, IsOpt I s M ∧ Opt I s p := by
  obtain ⟨h, p, q, c⟩ := exCert ok hs
  exact ⟨_, p, c.opt ok, c.dual ok⟩
end
/-! ### one bag more of a kind -/
def inc (s : κ → Int) (k : κ) : κ → Int := fun j => if j = k then s j + 1 else s j
theorem inc_same (s : κ → Int) (k : κ) : inc s k k = s k + 1 := if_pos rfl
theorem inc_ne (s : κ → Int) {k j : κ} (h : j ≠ k) : inc s k j = s j := if_neg h
theorem dobj_inc {I : Inst κ} (ok : I.Ok) (s : κ → Int) {k : κ} (hk : k ∈ I.K) (p : κ → Int) (q : Nat → Int) : I.dobj (inc s k) p q = I.dobj s p q + p k := by
  unfold Inst.dobj
  have e : (sm I.K fun j => inc s k j * p j) = (sm I.K fun j => s j * p j) + p k := by
    have e1 : (sm I.K fun j => inc s k j * p j) = sm I.K fun j => s j * p j + if j = k then p k else 0 := sm_congr fun j _ => by
      unfold inc
      split
      · rename_i z
        subst z
        rw [Int.add_mul, Int.one_mul]
      · omega
    rw [e1, sm_add, sm_one ok.nd hk]
  rw [e]
  omega
/-- one asker more, who wants one bag of the kind k -/
def Inst.ext (I : Inst κ) (k : κ) (d : Int) : Inst κ :=
  ⟨I.n + 1, fun i => if i = I.n then [k] else I.fits i, fun i => if i = I.n then 1 else I.want i, fun i j => if i = I.n then d else I.w i j, I.K⟩
section
variable {I : Inst κ} {s : κ → Int} {k : κ} {d : Int}
theorem ext_n : (I.ext k d).n = I.n + 1 := rfl
theorem ext_K : (I.ext k d).K = I.K := rfl
theorem ext_fits {i : Nat} (h : i < I.n) : (I.ext k d).fits i = I.fits i := if_neg (by omega)
theorem ext_want {i : Nat} (h : i < I.n) : (I.ext k d).want i = I.want i := if_neg (by omega)
theorem ext_w {i : Nat} (h : i < I.n) (j : κ) : (I.ext k d).w i j = I.w i j := if_neg (by omega)
theorem ext_fitsN : (I.ext k d).fits I.n = [k] := if_pos rfl
theorem ext_wantN : (I.ext k d).want I.n = 1 := if_pos rfl
theorem ext_wN (j : κ) : (I.ext k d).w I.n j = d := if_pos rfl
theorem ext_ok (ok : I.Ok) (hz : I.n + I.K.length ≤ 800) (hk : k ∈ I.K) : (I.ext k d).Ok := by
  refine ⟨ok.nd, fun i hi => ?_, fun i hi j hj => ?_, fun i hi => ?_, by rw [ext_n, ext_K]; omega⟩
  all_goals rw [ext_n] at hi
  · by_cases z : i = I.n
    · subst z; rw [ext_fitsN]; simp
    · rw [ext_fits (by omega)]; exact ok.fnd i (by omega)
  · rw [ext_K]
    by_cases z : i = I.n
    · subst z
      rw [ext_fitsN, List.mem_singleton] at hj
      rw [hj]; exact hk
    · rw [ext_fits (by omega)] at hj; exact ok.sub i (by omega) j hj
  · by_cases z : i = I.n
    · subst z; rw [ext_wantN]; omega
    · rw [ext_want (by omega)]; exact ok.want1 i (by omega)
/-- the askers of I, and what the new one has of k -/
def glue (I : Inst κ) (k : κ) (y : Nat → κ → Int) (c : Int) : Nat → κ → Int := fun i j => if i = I.n then (if j = k then c else 0) else y i j
theorem glue_lt {y : Nat → κ → Int} {c : Int} {i : Nat} (h : i < I.n) (j : κ) : glue I k y c i j = y i j := if_neg (by omega)
theorem glue_got {y : Nat → κ → Int} {c : Int} {i : Nat} (h : i < I.n) : (I.ext k d).got (glue I k y c) i = I.got y i := by
  unfold Inst.got
  rw [ext_fits h]
  exact sm_congr fun j _ => glue_lt h j
theorem glue_gotN {y : Nat → κ → Int} {c : Int} : (I.ext k d).got (glue I k y c) I.n = c := by
  unfold Inst.got
  rw [ext_fitsN, sm_cons, sm_nil]
  simp [glue]
theorem glue_used {y : Nat → κ → Int} {c : Int} (j : κ) : (I.ext k d).used (glue I k y c) j = I.used y j + if j = k then c else 0 := by
  unfold Inst.used
  rw [ext_n, sm_range_succ, sm_congr (l := List.range I.n) (g := fun i => y i j) fun i hi => glue_lt (List.mem_range.mp hi) j]
  simp [glue]
theorem glue_worth {y : Nat → κ → Int} {c : Int} : (I.ext k d).worth (glue I k y c) = I.worth y + c * d := by
  unfold Inst.worth
  rw [ext_n, sm_range_succ, ext_fitsN, sm_cons, sm_nil, ext_wN, sm_congr (l := List.range I.n) (g := fun i => sm (I.fits i) fun j => y i j * I.w i j) fun i hi => ?_]
  · simp [glue]
  · have hi := List.mem_range.mp hi
    rw [ext_fits hi]
    exact sm_congr fun j _ => by rw [glue_lt hi, ext_w hi]
theorem glue_feas {s : κ → Int} {y : Nat → κ → Int} {c : Int} (c0 : 0 ≤ c) (c1 : c ≤ 1) (f : Feas I s y) : Feas (I.ext k d) (fun j => if j = k then s j + c else s j) (glue I k y c) := by
  refine ⟨fun i j => ?_, fun i j z => ?_, fun i hi => ?_, fun j hj => ?_⟩
  · unfold glue
    split
    · split <;> omega
    · exact f.nn i j
  · by_cases e : i = I.n
    · subst e
      rw [ext_n, ext_fitsN]
      refine ⟨by omega, ?_⟩
      unfold glue at z
      rw [if_pos rfl] at z
      by_cases y : j = k
      · subst y; simp
      · rw [if_neg y] at z; exact absurd rfl z
    · unfold glue at z
      rw [if_neg e] at z
      obtain ⟨h1, h2⟩ := f.sup i j z
      rw [ext_n, ext_fits h1]
      exact ⟨by omega, h2⟩
  · rw [ext_n] at hi
    by_cases e : i = I.n
    · subst e; rw [glue_gotN, ext_wantN]; exact c1
    · rw [glue_got (by omega), ext_want (by omega)]; exact f.row i (by omega)
  · rw [glue_used]
    have := f.col j hj
    split <;> omega
def firstN (I : Inst κ) (z : Nat → κ → Int) : Nat → κ → Int := fun i j => if i < I.n then z i j else 0
theorem firstN_lt {z : Nat → κ → Int} {i : Nat} (h : i < I.n) (j : κ) : firstN I z i j = z i j := if_pos h
/-- a spread of the greater line is one of the old line and what the new asker has -/
theorem glue_back {s : κ → Int} {z : Nat → κ → Int} (ok : I.Ok) (hk : k ∈ I.K) (f : Feas (I.ext k d) s z) : ∃ y c, 0 ≤ c ∧ c ≤ 1 ∧ (I.ext k d).worth z = I.worth y + c * d ∧ Feas I (fun j => if j = k then s j - c else s j) y := by
  have hz : glue I k z (z I.n k) = fun i j => if i < I.n + 1 then z i j else z i j := by
    funext i j
    unfold glue
    by_cases e : i = I.n
    · subst e
      rw [if_pos rfl]
      by_cases y : j = k
      · subst y; simp
      · rw [if_neg y, ite_self]
        by_cases x : z I.n j = 0
        · exact x.symm
        · have := (f.sup _ _ x).2
          rw [ext_fitsN, List.mem_singleton] at this
          exact absurd this y
    · rw [if_neg e, ite_self]
  have hz : glue I k z (z I.n k) = z := by rw [hz]; funext i j; rw [ite_self]
  have c1 : z I.n k ≤ 1 := by
    have := f.row I.n (by rw [ext_n]; omega)
    rw [← hz, glue_gotN, ext_wantN] at this
    exact this
  refine ⟨firstN I z, z I.n k, f.nn _ _, c1, ?_, ⟨fun i j => ?_, fun i j x => ?_, fun i hi => ?_, fun j hj => ?_⟩⟩
  · have e := glue_worth (I := I) (k := k) (d := d) (y := z) (c := z I.n k)
    rw [hz] at e
    rw [e]
    congr 1
    unfold Inst.worth
    exact sm_congr fun i hi => sm_congr fun j _ => by rw [firstN_lt (List.mem_range.mp hi)]
  · unfold firstN
    split
    · exact f.nn i j
    · omega
  · unfold firstN at x
    by_cases e : i < I.n
    · rw [if_pos e] at x
      have := (f.sup i j x).2
      rw [ext_fits e] at this
      exact ⟨e, this⟩
    · rw [if_neg e] at x
      exact absurd rfl x
  · have := f.row i (by rw [ext_n]; omega)
    rw [← hz, glue_got hi, ext_want hi] at this
    refine Int.le_trans (Int.le_of_eq ?_) this
    unfold Inst.got
    exact sm_congr fun j _ => firstN_lt hi j
  · have := f.col j hj
    rw [← hz, glue_used] at this
    have e : I.used (firstN I z) j = I.used z j := by
      unfold Inst.used
      exact sm_congr fun i hi => firstN_lt (List.mem_range.mp hi) j
    rw [e]
    split at this <;> split <;> first | omega | contradiction
/-- prices of the greater line at which a spread of the old one is best: they are right for the old line -/
theorem ext_cert {s' : κ → Int} {y : Nat → κ → Int} {c : Int} {p : κ → Int} {q : Nat → Int} (f : Feas I s y) (hs : ∀ j ∈ I.K, s' j = s j + if j = k then c else 0) (C : Cert (I.ext k d) s' (glue I k y c) p q) : Cert I s y p q := by
  refine ⟨f, ⟨C.h.pn, fun i hi => C.h.qn i (by rw [ext_n]; omega), fun i hi j hj => ?_⟩, fun i j z => ?_, fun j hj z => C.left j hj ?_, fun i hi z => C.room i (by rw [ext_n]; omega) ?_⟩
  · have := C.h.le i (by rw [ext_n]; omega) j (by rw [ext_fits hi]; exact hj)
    rw [ext_w hi] at this
    exact this
  · have hi := (f.sup i j z).1
    have := C.tight i j (by rw [glue_lt hi]; exact z)
    rw [ext_w hi] at this
    exact this
  · rw [glue_used, hs j hj]
    omega
  · rw [glue_got hi, ext_want hi]
    exact z
theorem more (ok : I.Ok) (hz : I.n + I.K.length ≤ 800) (hs : ∀ j ∈ I.K, 0 ≤ s j) (hk : k ∈ I.K) {M M' : Int} (m : IsOpt I s M) (m' : IsOpt I (inc s k) M') :
    ∃ p, p k = M' - M ∧ Opt I s p ∧ Opt I (inc s k) p := by
  have okJ : (I.ext k (M' - M)).Ok := ext_ok ok hz hk
  obtain ⟨x, fx, ex⟩ := m.ex
  obtain ⟨x', fx', ex'⟩ := m'.ex
  have hinc : ∀ j ∈ I.K, 0 ≤ inc s k j := fun j hj => by
    have := hs j hj
    unfold inc
    split <;> omega
  obtain ⟨y, p, q, C⟩ := exCert (I := I.ext k (M' - M)) okJ (s := inc s k) hinc
  have fA : Feas (I.ext k (M' - M)) (inc s k) (glue I k x 1) := glue_feas (by omega) (by omega) fx
  have fB : Feas (I.ext k (M' - M)) (inc s k) (glue I k x' 0) := by
    have := glue_feas (k := k) (d := M' - M) (c := 0) (by omega) (by omega) fx'
    have e : (fun j => if j = k then inc s k j + 0 else inc s k j) = inc s k := by funext j; split <;> omega
    rw [e] at this
    exact this
  have wA : (I.ext k (M' - M)).worth (glue I k x 1) = M' := by rw [glue_worth, ex]; omega
  have wB : (I.ext k (M' - M)).worth (glue I k x' 0) = M' := by rw [glue_worth, ex']; omega
  have oJ : IsOpt (I.ext k (M' - M)) (inc s k) M' := by
    refine ⟨fun z fz => ?_, _, fA, wA⟩
    obtain ⟨y, c, c0, c1, e, fy⟩ := glue_back ok hk fz
    rw [e]
    by_cases hc : c = 0
    · subst hc
      have e1 : (fun j => if j = k then inc s k j - 0 else inc s k j) = inc s k := by funext j; split <;> omega
      rw [e1] at fy
      have := m'.le y fy
      omega
    · have hc : c = 1 := by omega
      subst hc
      have e1 : (fun j => if j = k then inc s k j - 1 else inc s k j) = s := by
        funext j
        unfold inc
        split <;> omega
      rw [e1] at fy
      have := m.le y fy
      omega
  have D := C.dual okJ
  have CA := D.cert okJ fA (by rw [wA]; exact oJ)
  have CB := D.cert okJ fB (by rw [wB]; exact oJ)
  have hn : I.n < (I.ext k (M' - M)).n := by rw [ext_n]; omega
  have q0 := CB.room I.n hn (by rw [glue_gotN, ext_wantN]; omega)
  have t := CA.tight I.n k (by simp [glue])
  rw [ext_wN, q0] at t
  refine ⟨p, by omega, (ext_cert fx (fun j _ => ?_) CA).dual ok, (ext_cert fx' (fun j _ => ?_) CB).dual ok⟩
  · unfold inc
    split <;> omega
  · split <;> omega
theorem least_is (ok : I.Ok) (hz : I.n + I.K.length ≤ 800) (hs : ∀ j ∈ I.K, 0 ≤ s j) (hk : k ∈ I.K) {M M' : Int} (m : IsOpt I s M) (m' : IsOpt I (inc s k) M') {p : κ → Int} (o : Opt I s p)
    (hl : ∀ p', Opt I s p' → p k ≤ p' k) : p k = M' - M := by
  obtain ⟨p', e, o1, _⟩ := more ok hz hs hk m m'
  have h1 := hl p' o1
  obtain ⟨x', fx', ex'⟩ := m'.ex
  have h2 := weak ok fx' (Holds.over o.pn)
  rw [dobj_inc ok s hk, o.val m, ex'] at h2
  omega
theorem greatest_is (ok : I.Ok) (hz : I.n + I.K.length ≤ 800) (hs : ∀ j ∈ I.K, 0 ≤ s j) (hk : k ∈ I.K) {M M' : Int} (m : IsOpt I s M) (m' : IsOpt I (inc s k) M') {p : κ → Int} (o : Opt I (inc s k) p)
    (hl : ∀ p', Opt I (inc s k) p' → p' k ≤ p k) : p k = M' - M := by
  obtain ⟨p', e, _, o1⟩ := more ok hz hs hk m m'
  have h1 := hl p' o1
  obtain ⟨x, fx, ex⟩ := m.ex
  have h2 := weak ok fx (Holds.over o.pn)
  have h3 := dobj_inc ok s hk p (I.over p)
  rw [o.val m'] at h3
  rw [ex] at h2
  omega
end
/-! ### the least prices -/
section
variable {I : Inst κ} {s : κ → Int} {h : Nat → κ → Int}
/-- what is known of a best spread: at all right prices it is tight -/
structure Best (I : Inst κ) (s : κ → Int) (h : Nat → κ → Int) : Prop where
  f : Feas I s h
  o : IsOpt I s (I.worth h)
  ex : ∃ p, Opt I s p
theorem Best.of (ok : I.Ok) {p : κ → Int} {q : Nat → Int} (c : Cert I s h p q) : Best I s h := ⟨c.f, c.opt ok, p, c.dual ok⟩
theorem Best.cert (b : Best I s h) (ok : I.Ok) {p : κ → Int} (o : Opt I s p) : Cert I s h p (I.over p) := o.cert ok b.f b.o
theorem Best.zero (b : Best I s h) (ok : I.Ok) {p : κ → Int} (o : Opt I s p) {k : κ} (hk : k ∈ I.K) (hf : I.used h k < s k) : p k = 0 := (b.cert ok o).left k hk (by omega)
/-- prices of kinds under way to the least ones -/
structure Low (I : Inst κ) (s : κ → Int) (f : κ → Int) : Prop where
  nn : ∀ k ∈ I.K, 0 ≤ f k
  le : ∀ p, Opt I s p → ∀ k ∈ I.K, f k ≤ p k
/-- what an asker brings by handing on -/
structure Back (I : Inst κ) (h : Nat → κ → Int) (f : κ → Int) (i : Nat) (b : Int) : Prop where
  room : I.got h i < I.want i → b = 0
  full : ¬ I.got h i < I.want i → (∀ k, 0 < h i k → f k - I.w i k ≤ b) ∧ ∃ k, 0 < h i k ∧ b = f k - I.w i k
theorem Back.le (ok : I.Ok) (B : Best I s h) {f : κ → Int} (lo : ∀ p, Opt I s p → ∀ k ∈ I.K, f k ≤ p k) {i : Nat} {b : Int} (hi : i < I.n) (bk : Back I h f i b) {p : κ → Int} (o : Opt I s p) : b ≤ -I.over p i := by
  have C := B.cert ok o
  by_cases z : I.got h i < I.want i
  · rw [bk.room z, C.room i hi (by omega)]
    omega
  · obtain ⟨_, k, hk, e⟩ := bk.full z
    have hs := B.f.sup i k (by omega)
    have t := C.tight i k (by omega)
    have := lo p o k (ok.sub i hi k hs.2)
    omega
theorem Low.relax (ok : I.Ok) (B : Best I s h) {f0 f : κ → Int} (l0 : ∀ p, Opt I s p → ∀ k ∈ I.K, f0 k ≤ p k) (l : Low I s f) {i : Nat} {k : κ} {b : Int} (hi : i < I.n) (hk : k ∈ I.fits i) (bk : Back I h f0 i b) (hg : f k < I.w i k + b) :
    Low I s (fun j => if j = k then I.w i k + b else f j) := by
  refine ⟨fun j hj => ?_, fun p o j hj => ?_⟩
  · have := l.nn j hj
    show 0 ≤ if j = k then I.w i k + b else f j
    split
    · rename_i e
      subst e
      omega
    · exact this
  · show (if j = k then I.w i k + b else f j) ≤ p j
    split
    · rename_i e
      subst e
      have h1 := bk.le ok B l0 hi o
      have h2 := le_over I p hk
      omega
    · exact l.le p o j hj
theorem Low.done (ok : I.Ok) (B : Best I s h) {f : κ → Int} (l : Low I s f) {bs : Nat → Int} (hb : ∀ i, i < I.n → Back I h f i (bs i)) (hx : ∀ i, i < I.n → ∀ k ∈ I.fits i, I.w i k + bs i ≤ f k) : Opt I s f := by
  obtain ⟨p, o⟩ := B.ex
  have C := B.cert ok o
  have c : Cert I s h f (fun i => -bs i) := by
    refine ⟨B.f, ⟨l.nn, fun i hi => ?_, fun i hi k hk => ?_⟩, fun i k z => ?_, fun k hk z => ?_, fun i hi z => ?_⟩
    · have h1 := (hb i hi).le ok B l.le hi o
      have h2 := over_nonneg I p i
      show 0 ≤ -bs i
      omega
    · have := hx i hi k hk
      show I.w i k ≤ f k + -bs i
      omega
    · obtain ⟨hi, hk⟩ := B.f.sup i k z
      have hp : 0 < h i k := by have := B.f.nn i k; omega
      have h1 := hx i hi k hk
      show I.w i k = f k + -bs i
      by_cases y : I.got h i < I.want i
      · have h2 := (hb i hi).room y
        have h3 := C.room i hi (by omega)
        have h4 := C.tight i k z
        have h5 := l.le p o k (ok.sub i hi k hk)
        omega
      · have h2 := ((hb i hi).full y).1 k hp
        omega
    · have h1 := C.left k hk z
      have h2 := l.le p o k hk
      have h3 := l.nn k hk
      omega
    · have h1 := B.f.row i hi
      have h2 := (hb i hi).room (by omega)
      show -bs i = 0
      omega
  exact c.dual ok
/-! ### the greatest prices -/
/-- over, at prices of some kinds -/
def Inst.overP (I : Inst κ) (f : κ → Option Int) (i : Nat) : Int := mx0 ((I.fits i).filterMap fun k => (f k).map fun x => I.w i k - x)
theorem overP_nonneg (f : κ → Option Int) (i : Nat) : 0 ≤ I.overP f i := mx0_nonneg _
theorem le_overP {f : κ → Option Int} {i : Nat} {k : κ} {x : Int} (hk : k ∈ I.fits i) (e : f k = some x) : I.w i k - x ≤ I.overP f i := le_mx0 (List.mem_filterMap.mpr ⟨k, hk, by rw [e]; rfl⟩)
theorem overP_le {f : κ → Option Int} {i : Nat} {c : Int} (h0 : 0 ≤ c) (h : ∀ k ∈ I.fits i, ∀ x, f k = some x → I.w i k - x ≤ c) : I.overP f i ≤ c := mx0_le h0 fun a ha => by
  obtain ⟨k, hk, e⟩ := List.mem_filterMap.mp ha
  cases z : f k with
  | none => rw [z] at e; cases e
  | some x =>
    rw [z] at e
    have e : I.w i k - x = a := Option.some.inj e
    rw [← e]
    exact h k hk x z
structure High (I : Inst κ) (s : κ → Int) (h : Nat → κ → Int) (f : κ → Option Int) : Prop where
  dom : ∀ k x, f k = some x → k ∈ I.K
  ge : ∀ p, Opt I s p → ∀ k x, f k = some x → p k ≤ x
  free : ∀ k ∈ I.K, I.used h k < s k → f k = some 0
theorem High.over_le (ok : I.Ok) (B : Best I s h) {f : κ → Option Int} (H : High I s h f) {i : Nat} (hi : i < I.n) {p : κ → Int} (o : Opt I s p) : I.overP f i ≤ I.over p i :=
  overP_le (over_nonneg I p i) fun k hk x e => by
    have h1 := H.ge p o k x e
    have h2 := le_over I p hk
    omega
theorem High.relax (ok : I.Ok) (B : Best I s h) {f : κ → Option Int} (H : High I s h f) {i : Nat} {k : κ} (hk : 0 < h i k) (hf : ¬ I.used h k < s k) : High I s h (fun j => if j = k then some (I.w i k - I.overP f i) else f j) := by
  obtain ⟨hi, hki⟩ := B.f.sup i k (by omega)
  refine ⟨fun j x e => ?_, fun p o j x e => ?_, fun j hj z => ?_⟩
  · by_cases y : j = k
    · subst y
      exact ok.sub i hi j hki
    · rw [if_neg y] at e
      exact H.dom j x e
  · by_cases y : j = k
    · subst y
      rw [if_pos rfl] at e
      have e := Option.some.inj e
      have h1 := H.over_le ok B hi o
      have h2 := (B.cert ok o).tight i j (by omega)
      omega
    · rw [if_neg y] at e
      exact H.ge p o j x e
  · by_cases y : j = k
    · subst y
      exact absurd z hf
    · show (if j = k then _ else f j) = _
      rw [if_neg y]
      exact H.free j hj z
/-- at the start -/
theorem High.put (ok : I.Ok) (B : Best I s h) {f : κ → Option Int} (H : High I s h f) {i : Nat} {k : κ} {x : Int} (hk : 0 < h i k) (hf : ¬ I.used h k < s k) (hx : x = I.w i k ∨ f k = some x) : High I s h (fun j => if j = k then some x else f j) := by
  obtain ⟨hi, hki⟩ := B.f.sup i k (by omega)
  refine ⟨fun j y e => ?_, fun p o j y e => ?_, fun j hj z => ?_⟩
  · by_cases z : j = k
    · subst z
      exact ok.sub i hi j hki
    · rw [if_neg z] at e
      exact H.dom j y e
  · by_cases z : j = k
    · subst z
      rw [if_pos rfl] at e
      have e := Option.some.inj e
      subst e
      rcases hx with hx | hx
      · have h2 := (B.cert ok o).tight i j (by omega)
        have := over_nonneg I p i
        omega
      · exact H.ge p o j _ hx
    · rw [if_neg z] at e
      exact H.ge p o j y e
  · by_cases y : j = k
    · subst y
      exact absurd z hf
    · show (if j = k then _ else f j) = _
      rw [if_neg y]
      exact H.free j hj z
/-- the greatest prices: what was found; of others the least that hold -/
def Inst.rest (I : Inst κ) (f : κ → Option Int) (k : κ) : Int := mx0 (((List.range I.n).filter fun i => decide (k ∈ I.fits i)).map fun i => I.w i k - I.overP f i)
def Inst.full (I : Inst κ) (f : κ → Option Int) (k : κ) : Int := (f k).getD (I.rest f k)
theorem le_rest {f : κ → Option Int} {i : Nat} {k : κ} (hi : i < I.n) (hk : k ∈ I.fits i) : I.w i k - I.overP f i ≤ I.rest f k :=
  le_mx0 (List.mem_map.mpr ⟨i, List.mem_filter.mpr ⟨List.mem_range.mpr hi, decide_eq_true hk⟩, rfl⟩)
theorem High.done (ok : I.Ok) (hs : ∀ k ∈ I.K, 0 ≤ s k) (B : Best I s h) {f : κ → Option Int} (H : High I s h f) (hd : ∀ k ∈ I.K, f k ≠ none ↔ 0 < s k)
    (hx : ∀ i k x, 0 < h i k → ¬ I.used h k < s k → f k = some x → x ≤ I.w i k - I.overP f i) : Opt I s (I.full f) ∧ ∀ i, i < I.n → I.overP f i = I.over (I.full f) i := by
  obtain ⟨p, o⟩ := B.ex
  have C := B.cert ok o
  have some_ : ∀ k x, f k = some x → I.full f k = x := fun k x e => by unfold Inst.full; rw [e]; rfl
  have none_ : ∀ k, f k = none → I.full f k = I.rest f k := fun k e => by unfold Inst.full; rw [e]; rfl
  have le_ : ∀ i, i < I.n → ∀ k ∈ I.fits i, I.w i k ≤ I.full f k + I.overP f i := fun i hi k hk => by
    cases e : f k with
    | none =>
      rw [none_ k e]
      have := le_rest (f := f) hi hk
      omega
    | some x =>
      rw [some_ k x e]
      have := le_overP hk e
      omega
  have c : Cert I s h (I.full f) (I.overP f) := by
    refine ⟨B.f, ⟨fun k hk => ?_, fun i _ => overP_nonneg f i, le_⟩, fun i k z => ?_, fun k hk z => ?_, fun i hi z => ?_⟩
    · cases e : f k with
      | none => rw [none_ k e]; exact mx0_nonneg _
      | some x =>
        rw [some_ k x e]
        have h1 := H.ge p o k x e
        have h2 := o.pn k hk
        omega
    · obtain ⟨hi, hk⟩ := B.f.sup i k z
      have hK := ok.sub i hi k hk
      have hp : 0 < h i k := by have := B.f.nn i k; omega
      have hu : h i k ≤ I.used h k := le_sm (l := List.range I.n) (f := fun i => h i k) (fun i _ => B.f.nn i k) (List.mem_range.mpr hi)
      have hc := B.f.col k hK
      have h1 := le_ i hi k hk
      cases e : f k with
      | none => exact absurd e ((hd k hK).mpr (by omega))
      | some x =>
        rw [some_ k x e] at h1 ⊢
        by_cases y : I.used h k < s k
        · have h2 := H.free k hK y
          rw [e] at h2
          have h2 := Option.some.inj h2
          have h3 := C.left k hK (by omega)
          have h4 := C.tight i k z
          have h5 := H.over_le ok B hi o
          omega
        · have := hx i k x hp y e
          omega
    · have hc := B.f.col k hk
      exact some_ k 0 (H.free k hk (by omega))
    · have h1 := H.over_le ok B hi o
      have h2 := C.room i hi z
      have h3 := overP_nonneg (I := I) f i
      omega
  exact ⟨c.dual ok, fun i hi => c.over ok hi⟩
end
end
end K59
/-! W1: data in the heap, what evaluates to what. -/
namespace K59
open PySem PySem.Spec L2 Evl
/-! ### tables of whole numbers -/
section
variable {κ : Type} [DecidableEq κ]
def mI (l : List (κ × Int)) : List (κ × V) := l.map fun x => (x.1, V.int x.2)
def lkI (l : List (κ × Int)) (k : κ) : Option Int := (l.find? fun x => decide (x.1 = k)).map (·.2)
def putI (l : List (κ × Int)) (k : κ) (v : Int) : List (κ × Int) := if (l.any fun x => decide (x.1 = k)) = true then l.map (fun x => if x.1 = k then (x.1, v) else x) else l ++ [(k, v)]
def gtI (l : List (κ × Int)) (k : κ) : Int := (lkI l k).getD 0
theorem lkI_nil (k : κ) : lkI ([] : List (κ × Int)) k = none := rfl
theorem lkI_cons (x : κ × Int) (l : List (κ × Int)) (k : κ) : lkI (x :: l) k = if x.1 = k then some x.2 else lkI l k := by
  unfold lkI
  by_cases e : x.1 = k <;> simp [List.find?_cons, e]
theorem valV_mI (l : List (κ × Int)) (k : κ) : valV (mI l) k = (lkI l k).map V.int := by
  induction l with
  | nil => rfl
  | cons x l ih =>
    rw [lkI_cons]
    by_cases e : x.1 = k
    · rw [if_pos e]; exact valV_pos (p := (x.1, V.int x.2)) e
    · rw [if_neg e, ← ih]; exact valV_neg (p := (x.1, V.int x.2)) e
theorem putK_mI (l : List (κ × Int)) (k : κ) (v : Int) : putK (mI l) k (V.int v) = mI (putI l k v) := by
  unfold putK putI mI
  rw [List.any_map]
  show (if (l.any fun x => decide (x.1 = k)) = true then _ else _) = _
  split
  · rw [List.map_map, List.map_map]
    refine List.map_congr_left fun x _ => ?_
    show (if x.1 = k then (x.1, V.int v) else (x.1, V.int x.2)) = ((if x.1 = k then (x.1, v) else x).1, V.int (if x.1 = k then (x.1, v) else x).2)
    split <;> rfl
  · rw [List.map_append]; rfl
theorem lkI_put (l : List (κ × Int)) (k j : κ) (v : Int) : lkI (putI l k v) j = if j = k then some v else lkI l j := by
  have h := valV_put (mI l) k j (V.int v)
  rw [putK_mI, valV_mI, valV_mI] at h
  by_cases e : j = k
  · rw [if_pos e] at h ⊢
    cases q : lkI (putI l k v) j with
    | none => rw [q] at h; cases h
    | some y => rw [q] at h; cases h; rfl
  · rw [if_neg e] at h ⊢
    cases q : lkI (putI l k v) j with
    | none =>
      rw [q] at h
      cases q2 : lkI l j with
      | none => rfl
      | some z => rw [q2] at h; cases h
    | some y =>
      rw [q] at h
      cases q2 : lkI l j with
      | none => rw [q2] at h; cases h
      | some z => rw [q2] at h; cases h; rfl
theorem gtI_put (l : List (κ × Int)) (k j : κ) (v : Int) : gtI (putI l k v) j = if j = k then v else gtI l j := by
  unfold gtI
  rw [lkI_put]
  split <;> rfl
theorem lkI_isSome {l : List (κ × Int)} {k : κ} : (lkI l k).isSome = true ↔ k ∈ l.map (·.1) := by
  induction l with
  | nil => simp [lkI_nil]
  | cons x l ih =>
    rw [lkI_cons, List.map_cons, List.mem_cons]
    by_cases e : x.1 = k
    · rw [if_pos e]; simp [e]
    · rw [if_neg e, ih]
      constructor
      · exact .inr
      · rintro (h | h)
        · exact absurd h.symm e
        · exact h
theorem lkI_none {l : List (κ × Int)} {k : κ} : lkI l k = none ↔ k ∉ l.map (·.1) := by
  rw [← lkI_isSome]
  cases lkI l k <;> simp
theorem mem_of_lkI {l : List (κ × Int)} {k : κ} {v : Int} (h : lkI l k = some v) : (k, v) ∈ l := by
  induction l with
  | nil => cases h
  | cons x l ih =>
    rw [lkI_cons] at h
    by_cases e : x.1 = k
    · rw [if_pos e] at h
      cases h
      subst e
      simp
    · rw [if_neg e] at h
      exact List.mem_cons_of_mem _ (ih h)
theorem lkI_of_mem {l : List (κ × Int)} (hn : (l.map (·.1)).Nodup) {k : κ} {v : Int} (h : (k, v) ∈ l) : lkI l k = some v := by
  induction l with
  | nil => simp at h
  | cons x l ih =>
    rw [List.map_cons] at hn
    obtain ⟨h1, h2⟩ := List.nodup_cons.mp hn
    rw [lkI_cons]
    rcases List.mem_cons.mp h with e | e
    · subst e; rw [if_pos rfl]
    · rw [if_neg fun z => h1 (by rw [z]; exact List.mem_map.mpr ⟨_, e, rfl⟩)]
      exact ih h2 e
theorem keys_put (l : List (κ × Int)) (k : κ) (v : Int) : ∀ j, j ∈ (putI l k v).map (·.1) ↔ j = k ∨ j ∈ l.map (·.1) := fun j => by
  rw [← lkI_isSome, ← lkI_isSome, lkI_put]
  by_cases e : j = k <;> simp [e]
theorem nodup_put {l : List (κ × Int)} (hn : (l.map (·.1)).Nodup) (k : κ) (v : Int) : ((putI l k v).map (·.1)).Nodup := by
  unfold putI
  split
  · rw [List.map_map]
    have e : (l.map ((fun x : κ × Int => x.1) ∘ fun x => if x.1 = k then (x.1, v) else x)) = l.map (·.1) := List.map_congr_left fun x _ => by
      show (if x.1 = k then (x.1, v) else x).1 = x.1
      split <;> rfl
    rw [e]
    exact hn
  · rename_i h
    rw [List.map_append]
    refine nd_snoc hn fun m => h ?_
    obtain ⟨x, hx, e⟩ := List.mem_map.mp m
    exact List.any_eq_true.mpr ⟨x, hx, decide_eq_true e⟩
theorem length_put (l : List (κ × Int)) (k : κ) (v : Int) : (putI l k v).length ≤ l.length + 1 := by
  unfold putI
  split
  · rw [List.length_map]; omega
  · rw [List.length_append]; simp
theorem len_keys {l : List (κ × Int)} (hn : (l.map (·.1)).Nodup) {S : List κ} (h : ∀ k ∈ l.map (·.1), k ∈ S) : l.length ≤ S.length := by
  have := len_le_of_sub hn h
  rwa [List.length_map] at this
theorem len_mI (l : List (κ × Int)) : (mI l).length = l.length := List.length_map _
end
/-! ### more of what evaluates to what -/
section
variable {K : PySem.W.Frag} {σ : L2.St} {H H' : Hp} {ta tb te td ty tx : TE} {t u : TT} {x y z v : V} {r : R2}
theorem sq_get {a : Addr} {xs : List V} (h : H a = some (.lst xs)) : SqL K H a xs := Or.inl (Or.inl h)
theorem st_get {a : Addr} {xs : List V} (h : H a = some (.tup xs)) : SqT K H a xs := Or.inl (Or.inl h)
theorem ev_fld {a C dx : Addr} {f : Str} {fs : List (Str × V)} (h : Ev ta σ H (.ref a)) (ha : H a = some (.ins C dx fs)) (c : Cls K C) (n : NoAttr K C f) (l : fs.lookup f = some v) : Ev (tFld K ta f) σ H v := fun H1 e Q q =>
  h H1 e _ fun H2 e2 => ⟨a, C, dx, fs, v, rfl, (e.trans e2) _ _ ha, c, n, l, q H2 e2⟩
theorem ev_dget {a : Addr} (hd : Ev td σ H (.ref a)) (hy : Ev ty σ H y) (g : ∀ H1, Ex H H1 → DGet H1 a y (some v)) : Ev (tDGet td ty) σ H v := fun H1 e Q q =>
  hd H1 e _ fun H2 e2 => hy H2 (e.trans e2) _ fun H3 e3 => ⟨a, v, rfl, g H3 ((e.trans e2).trans e3), q H3 (e2.trans e3)⟩
/-- d[(x, y)]: the key made on the way -/
theorem ev_dgetU {a : Addr} {ks : List Key} {kvs : List (List Key × V)} (hd : Ev td σ H (.ref a)) (hy : EvU ty σ H (ks.map kV)) (hk : H a = some (.dT kvs)) (g : valV kvs ks = some v) : Ev (tDGet td ty) σ H v := fun H1 e Q q =>
  hd H1 e _ fun H2 e2 => hy H2 (e.trans e2) _ fun p H3 hp e3 h3 => ⟨a, v, rfl, .inr ⟨kvs, ks, p, .inl (((e.trans e2).trans e3) _ _ hk), rfl, h3, g.symm⟩, q H3 (e2.trans e3)⟩
theorem ev_get2 {a : Addr} {o : Option V} (hd : Ev td σ H (.ref a)) (hi : ∀ H1, Ex H H1 → IsD H1 a) (hy : Ev ty σ H y) (hx : Ev tx σ H x) (g : ∀ H1, Ex H H1 → DGet H1 a y o) : Ev (tDGet2 td ty tx) σ H (o.getD x) := fun H1 e Q q =>
  hd H1 e _ fun H2 e2 => ⟨a, rfl, hi H2 (e.trans e2), hy H2 (e.trans e2) _ fun H3 e3 => hx H3 ((e.trans e2).trans e3) _ fun H4 e4 => ⟨o, g H4 (((e.trans e2).trans e3).trans e4), q H4 ((e2.trans e3).trans e4)⟩⟩
theorem ev_get2U {a : Addr} {ks : List Key} {kvs : List (List Key × V)} (hd : Ev td σ H (.ref a)) (hy : EvU ty σ H (ks.map kV)) (hx : Ev tx σ H x) (hk : H a = some (.dT kvs)) : Ev (tDGet2 td ty tx) σ H ((valV kvs ks).getD x) := fun H1 e Q q =>
  hd H1 e _ fun H2 e2 => ⟨a, rfl, .inr ⟨kvs, .inl ((e.trans e2) _ _ hk)⟩, hy H2 (e.trans e2) _ fun p H3 hp e3 h3 => hx H3 ((e.trans e2).trans e3) _ fun H4 e4 =>
    ⟨_, .inr ⟨kvs, ks, p, .inl ((((e.trans e2).trans e3).trans e4) _ _ hk), rfl, e4 _ _ h3, rfl⟩, q H4 ((e2.trans e3).trans e4)⟩⟩
theorem ev_meth {a C dx : Addr} {fs : List (Str × V)} {m : Str} {sp : Sp} {E : XK} {t : TA} {vs : List V} (h : Ev ta σ H (.ref a)) (ha : H a = some (.ins C dx fs)) (l : fs.lookup m = none) (ht : EvA t σ H vs) (hs : SpV sp (.ref a :: vs) H z) : Ev (tMeth C m sp [] E ta t) σ H z := fun H1 e Q q =>
  h H1 e _ fun H2 e2 => ⟨a, dx, fs, rfl, (e.trans e2) _ _ ha, l, ht H2 (e.trans e2) _ fun H3 e3 => by
    rw [List.append_nil]
    exact hs H3 ((e.trans e2).trans e3) Q (fun H4 e4 => q H4 ((e2.trans e3).trans e4)) E⟩
theorem el_meth {a C dx : Addr} {fs : List (Str × V)} {m : Str} {sp : Sp} {E : XK} {t : TA} {vs xs : List V} (h : Ev ta σ H (.ref a)) (ha : H a = some (.ins C dx fs)) (l : fs.lookup m = none) (ht : EvA t σ H vs) (hs : SpL sp (.ref a :: vs) H xs) : EvL (tMeth C m sp [] E ta t) σ H xs := fun H1 e Q q =>
  h H1 e _ fun H2 e2 => ⟨a, dx, fs, rfl, (e.trans e2) _ _ ha, l, ht H2 (e.trans e2) _ fun H3 e3 => by
    rw [List.append_nil]
    exact hs H3 ((e.trans e2).trans e3) Q (fun p H4 hp e4 h4 => q p H4 (fresh_back (e2.trans e3) hp) ((e2.trans e3).trans e4) h4) E⟩
theorem ev_callN {sp : Sp} {vs : List V} {E : XK} {ta : TA} (h : EvA ta σ H vs) (hs : SpV sp vs H z) : Ev (tCall sp [] E ta) σ H z := ev_call h (by rw [List.append_nil]; exact hs)
theorem el_callN {sp : Sp} {vs xs : List V} {E : XK} {ta : TA} (h : EvA ta σ H vs) (hs : SpL sp vs H xs) : EvL (tCall sp [] E ta) σ H xs := el_call h (by rw [List.append_nil]; exact hs)
theorem ev_isi {c : V} {t0 u0 : Value} {b : Bool} (h : EvA (tCons ta (tCons tb tNil)) σ H [x, c]) (hc : ClsV c u0) (hty : ∀ H1, Ex H H1 → TyX K H1 x t0) (hb : PySem.W.kitOne K t0 u0 = some b) : Ev (tCB (rIsi K) (tCons ta (tCons tb tNil))) σ H (.bl b) := fun H1 e Q q =>
  h H1 e _ fun H2 e2 => ⟨x, c, t0, u0, b, rfl, hc, hty H2 (e.trans e2), hb, q H2 e2⟩
theorem ea2 {v1 v2 : V} (h1 : Ev ta σ H v1) (h2 : Ev tb σ H v2) : EvA (tCons ta (tCons tb tNil)) σ H [v1, v2] := ea_cons h1 (ea_cons h2 ea_nil)
theorem ea1 {v1 : V} (h1 : Ev ta σ H v1) : EvA (tCons ta tNil) σ H [v1] := ea_cons h1 ea_nil
theorem ea3 {v1 v2 v3 : V} {tc : TE} (h1 : Ev ta σ H v1) (h2 : Ev tb σ H v2) (h3 : Ev tc σ H v3) : EvA (tCons ta (tCons tb (tCons tc tNil))) σ H [v1, v2, v3] := ea_cons h1 (ea2 h2 h3)
theorem eu2 {v1 v2 : V} (h1 : Ev ta σ H v1) (h2 : Ev tb σ H v2) : EvU (tTup (tCons ta (tCons tb tNil))) σ H [v1, v2] := eu_tup (ea2 h1 h2) (by simp)
theorem ev_add {i j : Int} (ha : Ev ta σ H (.int i)) (hb : Ev tb σ H (.int j)) : Ev (tOp (rI0 fun i j => .int (i + j)) ta tb) σ H (.int (i + j)) := ev_op ha hb rv_I0
theorem ev_sub {i j : Int} (ha : Ev ta σ H (.int i)) (hb : Ev tb σ H (.int j)) : Ev (tOp (rI0 fun i j => .int (i - j)) ta tb) σ H (.int (i - j)) := ev_op ha hb rv_I0
theorem ev_mul {i j : Int} (ha : Ev ta σ H (.int i)) (hb : Ev tb σ H (.int j)) (h : CMul i j) : Ev (tOp (rI CMul fun i j => .int (i * j)) ta tb) σ H (.int (i * j)) := ev_op ha hb (rv_I h)
theorem ev_ixL {p : Addr} {xs : List V} {i : Int} (ha : Ev ta σ H (.ref p)) (hb : Ev tb σ H (.int i)) (h : SqL K H p xs) (g : atI xs i = some v) : Ev (tOp (rIxL K) ta tb) σ H v := ev_op ha hb (rv_ixL h g)
theorem ev_ixT {p : Addr} {xs : List V} {i : Int} (ha : Ev ta σ H (.ref p)) (hb : Ev tb σ H (.int i)) (h : SqT K H p xs) (g : atI xs i = some v) : Ev (tOp (rIxT K) ta tb) σ H v := ev_op ha hb (rv_ixT h g)
theorem ev_lt {i j : Int} (ha : Ev ta σ H (.int i)) (hb : Ev tb σ H (.int j)) : Ev (tOp (rI0 fun i j => .bl (decide (i < j))) ta tb) σ H (.bl (decide (i < j))) := ev_op ha hb rv_I0
theorem ev_gt {i j : Int} (ha : Ev ta σ H (.int i)) (hb : Ev tb σ H (.int j)) : Ev (tOp (rI0 fun i j => .bl (decide (j < i))) ta tb) σ H (.bl (decide (j < i))) := ev_op ha hb rv_I0
theorem ev_ge {i j : Int} (ha : Ev ta σ H (.int i)) (hb : Ev tb σ H (.int j)) : Ev (tOp (rI0 fun i j => .bl (decide (j ≤ i))) ta tb) σ H (.bl (decide (j ≤ i))) := ev_op ha hb rv_I0
theorem ev_le {i j : Int} (ha : Ev ta σ H (.int i)) (hb : Ev tb σ H (.int j)) : Ev (tOp (rI0 fun i j => .bl (decide (i ≤ j))) ta tb) σ H (.bl (decide (i ≤ j))) := ev_op ha hb rv_I0
theorem ev_eqS (ha : Ev ta σ H x) (hb : Ev tb σ H y) (h : scal x y = true) : Ev (tOp rEq ta tb) σ H (.bl (decide (x = y))) := ev_op ha hb (rv_eq h)
theorem ev_neS (ha : Ev ta σ H x) (hb : Ev tb σ H y) (h : scal x y = true) : Ev (tOp rNe ta tb) σ H (.bl (!decide (x = y))) := ev_op ha hb (rv_ne h)
/-- a promise that leaves all as it was, and more -/
theorem spv_of {sp : Sp} {vs : List V} (h : ∀ H1, Ex H H1 → ∀ Q : VK, (∀ H2, Ex H1 H2 → Q z H2) → ∀ E : XK, sp vs H1 Q E) : SpV sp vs H z := h
end
/-! ### lists by places -/
theorem atI_get {xs : List V} {i : Nat} {v : V} (h : xs[i]? = some v) : atI xs (i : Int) = some v := atI_nat h
theorem map_get {α β : Type} {f : α → β} {l : List α} {i : Nat} {a : α} (h : l[i]? = some a) : (l.map f)[i]? = some (f a) := by rw [List.getElem?_map, h]; rfl
theorem get_map {α β : Type} {f : α → β} {l : List α} {i : Nat} {b : β} (h : (l.map f)[i]? = some b) : ∃ a, l[i]? = some a ∧ b = f a := by
  rw [List.getElem?_map] at h
  cases e : l[i]? with
  | none => rw [e] at h; cases h
  | some a => rw [e] at h; exact ⟨a, rfl, (Option.some.inj h).symm⟩
/-! ### askers' rows -/
structure Row where
  name : Str
  fits : List Str
  most : Int
instance : Inhabited Row := ⟨⟨⟨#[]⟩, [], 0⟩⟩
/-- a row of the program: (name, (kinds), most) -/
def PRow (H : Hp) (v : V) (r : Row) : Prop := ∃ t f, v = .ref t ∧ H t = some (.tup [.str r.name, .ref f, .int r.most]) ∧ H f = some (.tup (r.fits.map V.str))
/-- a row of the law: (name, [kinds], most) -/
def LRow (H : Hp) (v : V) (r : Row) : Prop := ∃ t f, v = .ref t ∧ H t = some (.tup [.str r.name, .ref f, .int r.most]) ∧ H f = some (.lst (r.fits.map V.str))
structure Rel (R : V → Row → Prop) (vs : List V) (rs : List Row) : Prop where
  len : vs.length = rs.length
  get : ∀ (i : Nat) (v : V) (r : Row), vs[i]? = some v → rs[i]? = some r → R v r
theorem PRow.mono {H H' : Hp} (e : Ex H H') {v : V} {r : Row} (h : PRow H v r) : PRow H' v r := by
  obtain ⟨t, f, h1, h2, h3⟩ := h
  exact ⟨t, f, h1, e _ _ h2, e _ _ h3⟩
theorem LRow.mono {H H' : Hp} (e : Ex H H') {v : V} {r : Row} (h : LRow H v r) : LRow H' v r := by
  obtain ⟨t, f, h1, h2, h3⟩ := h
  exact ⟨t, f, h1, e _ _ h2, e _ _ h3⟩
theorem Rel.imp {R S : V → Row → Prop} {vs : List V} {rs : List Row} (h : Rel R vs rs) (k : ∀ v r, R v r → S v r) : Rel S vs rs := ⟨h.len, fun i v r a b => k v r (h.get i v r a b)⟩
def PRowsL (H : Hp) (a : Addr) (rs : List Row) : Prop := ∃ vs, H a = some (.lst vs) ∧ Rel (PRow H) vs rs
def PRowsT (H : Hp) (a : Addr) (rs : List Row) : Prop := ∃ vs, H a = some (.tup vs) ∧ Rel (PRow H) vs rs
def LRowsL (H : Hp) (a : Addr) (rs : List Row) : Prop := ∃ vs, H a = some (.lst vs) ∧ Rel (LRow H) vs rs
theorem PRowsL.mono {H H' : Hp} (e : Ex H H') {a : Addr} {rs : List Row} (h : PRowsL H a rs) : PRowsL H' a rs := let ⟨vs, h1, h2⟩ := h; ⟨vs, e _ _ h1, h2.imp fun _ _ => PRow.mono e⟩
theorem PRowsT.mono {H H' : Hp} (e : Ex H H') {a : Addr} {rs : List Row} (h : PRowsT H a rs) : PRowsT H' a rs := let ⟨vs, h1, h2⟩ := h; ⟨vs, e _ _ h1, h2.imp fun _ _ => PRow.mono e⟩
theorem LRowsL.mono {H H' : Hp} (e : Ex H H') {a : Addr} {rs : List Row} (h : LRowsL H a rs) : LRowsL H' a rs := let ⟨vs, h1, h2⟩ := h; ⟨vs, e _ _ h1, h2.imp fun _ _ => LRow.mono e⟩
/-- a name: 1 to 10 signs a to z -/
def NameOk (z : Str) : Prop := 1 ≤ z.length ∧ z.length ≤ 10 ∧ ∀ c ∈ z.cps.toList, c ∈ ("abcdefghijklmnopqrstuvwxyz" : Str).cps.toList
structure RowOk (r : Row) : Prop where
  nm : NameOk r.name
  ne : r.fits ≠ []
  nd : r.fits.Nodup
  srt : PyProof.Rows.sortedS r.fits = true
  nms : ∀ k ∈ r.fits, NameOk k
  few : r.fits.length ≤ 6
  m1 : 1 ≤ r.most
  m2 : r.most ≤ 2
structure RowsOk (rs : List Row) : Prop where
  ok : ∀ r ∈ rs, RowOk r
  nd : (rs.map (·.name)).Nodup
  ne : rs ≠ []
  few : rs.length ≤ 6
end K59
/-! W2: the market in the heap. -/
namespace K59
open PySem PySem.Spec L2 Evl
structure MA where
  dx : Addr
  ar : Addr
  aw : Addr
  awo : Addr
  aso : Addr
  af : Addr
  ah : Addr
  ag : Addr
def mfl (a : MA) : List (Str × V) := [("rows", .ref a.ar), ("wants", .ref a.aw), ("worths", .ref a.awo), ("sorts", .ref a.aso), ("free", .ref a.af), ("holds", .ref a.ah), ("got", .ref a.ag)]
/-- what of a market never changes -/
structure Mkt where
  rows : List Row
  wants : List Int
  ws : List (List Key × Int)
  sorts : List Str
/-- what changes -/
structure Mst where
  free : List (Key × Int)
  holds : List (List Key × Int)
  got : List Int
structure MIm (CM : Addr) (H : Hp) (m : Addr) (a : MA) (M : Mkt) : Prop where
  ins : H m = some (.ins CM a.dx (mfl a))
  rows : PRowsL H a.ar M.rows
  wants : H a.aw = some (.lst (M.wants.map V.int))
  ws : H a.awo = some (.dT (mI M.ws))
  sorts : H a.aso = some (.lst (M.sorts.map V.str))
structure MMu (H : Hp) (a : MA) (S : Mst) : Prop where
  free : H a.af = some (.dK (mI S.free))
  holds : H a.ah = some (.dT (mI S.holds))
  got : H a.ag = some (.lst (S.got.map V.int))
theorem MIm.mono {CM : Addr} {H H' : Hp} (e : Ex H H') {m : Addr} {a : MA} {M : Mkt} (h : MIm CM H m a M) : MIm CM H' m a M := ⟨e _ _ h.ins, h.rows.mono e, e _ _ h.wants, e _ _ h.ws, e _ _ h.sorts⟩
theorem MMu.mono {H H' : Hp} (e : Ex H H') {a : MA} {S : Mst} (h : MMu H a S) : MMu H' a S := ⟨e _ _ h.free, e _ _ h.holds, e _ _ h.got⟩
def rowAt (M : Mkt) (i : Nat) : Row := M.rows.getD i default
theorem rowAt_get {M : Mkt} {i : Nat} (h : i < M.rows.length) : M.rows[i]? = some (rowAt M i) := by
  unfold rowAt
  rw [List.getD_eq_getElem?_getD, List.getElem?_eq_getElem h]
  rfl
def Mkt.I (M : Mkt) : Inst Str := ⟨M.rows.length, fun i => (rowAt M i).fits, fun i => M.wants.getD i 0, fun i k => gtI M.ws [.inr (rowAt M i).name, .inr k], M.sorts⟩
def Mst.h (S : Mst) : Nat → Str → Int := fun i k => gtI S.holds [.inl (i : Int), .inr k]
/-- the keys that holds may have -/
def pairs (M : Mkt) : List (List Key) := (List.range M.rows.length).flatMap fun i => (rowAt M i).fits.map fun k => [.inl (i : Int), .inr k]
theorem mem_pairs {M : Mkt} {x : List Key} : x ∈ pairs M ↔ ∃ i k, i < M.rows.length ∧ k ∈ (rowAt M i).fits ∧ x = [.inl (i : Int), .inr k] := by
  unfold pairs
  rw [List.mem_flatMap]
  constructor
  · rintro ⟨i, hi, h⟩
    obtain ⟨k, hk, e⟩ := List.mem_map.mp h
    exact ⟨i, k, List.mem_range.mp hi, hk, e.symm⟩
  · rintro ⟨i, k, hi, hk, e⟩
    exact ⟨i, List.mem_range.mpr hi, List.mem_map.mpr ⟨k, hk, e.symm⟩⟩
structure MOk (M : Mkt) : Prop where
  few : M.rows.length ≤ 6
  fw : ∀ i, i < M.rows.length → (rowAt M i).fits.length ≤ 6
  wl : M.wants.length = M.rows.length
  wk : ∀ i, i < M.rows.length → ∀ k ∈ (rowAt M i).fits, (lkI M.ws [.inr (rowAt M i).name, .inr k]).isSome = true
  ok : M.I.Ok
  sf : M.sorts.length ≤ 36
  sm : ∀ k, k ∈ M.sorts ↔ ∃ i, i < M.rows.length ∧ k ∈ (rowAt M i).fits
theorem pairs_len {M : Mkt} (o : MOk M) : (pairs M).length ≤ 36 := by
  unfold pairs
  rw [List.length_flatMap]
  have h : ∀ l : List Nat, (∀ i ∈ l, i < M.rows.length) → (l.map fun i => ((rowAt M i).fits.map fun k => ([.inl (i : Int), .inr k] : List Key)).length).sum ≤ 6 * l.length := by
    intro l
    induction l with
    | nil => intro _; exact Nat.zero_le _
    | cons i l ih =>
      intro hi
      rw [List.map_cons, List.sum_cons, List.length_map, List.length_cons]
      have h1 := o.fw i (hi i (by simp))
      have h2 := ih fun j hj => hi j (by simp [hj])
      omega
  have h1 := h (List.range M.rows.length) fun i hi => List.mem_range.mp hi
  rw [List.length_range] at h1
  have := o.few
  omega
/-- the state fits the stock s -/
structure SOk (M : Mkt) (s : Str → Int) (S : Mst) : Prop where
  gl : S.got.length = M.rows.length
  gt : ∀ i, i < M.rows.length → S.got[i]? = some (M.I.got S.h i)
  fk : ∀ k ∈ M.sorts, lkI S.free (.inr k) = some (s k - M.I.used S.h k)
  fn : (S.free.map (·.1)).Nodup
  fs : ∀ x ∈ S.free.map (·.1), ∃ k ∈ M.sorts, x = .inr k
  hn : (S.holds.map (·.1)).Nodup
  hk : ∀ x ∈ S.holds.map (·.1), x ∈ pairs M
theorem w_some {M : Mkt} (o : MOk M) {i : Nat} (hi : i < M.rows.length) {k : Str} (hk : k ∈ (rowAt M i).fits) : lkI M.ws [.inr (rowAt M i).name, .inr k] = some (M.I.w i k) := by
  have := o.wk i hi k hk
  cases e : lkI M.ws [.inr (rowAt M i).name, .inr k] with
  | none => rw [e] at this; cases this
  | some v =>
    show some v = some (gtI M.ws [.inr (rowAt M i).name, .inr k])
    unfold gtI
    rw [e]
    rfl
theorem want_get {M : Mkt} (o : MOk M) {i : Nat} (hi : i < M.rows.length) : M.wants[i]? = some (M.I.want i) := by
  show M.wants[i]? = some (M.wants.getD i 0)
  rw [List.getD_eq_getElem?_getD, List.getElem?_eq_getElem (by rw [o.wl]; exact hi)]
  rfl
/-- the i-th row of a list of rows, as it stands -/
theorem PRowsL.at {H : Hp} {a : Addr} {rs : List Row} (h : PRowsL H a rs) {i : Nat} {r : Row} (hr : rs[i]? = some r) : ∃ vs t f, H a = some (.lst vs) ∧ vs[i]? = some (.ref t) ∧ H t = some (.tup [.str r.name, .ref f, .int r.most]) ∧ H f = some (.tup (r.fits.map V.str)) := by
  obtain ⟨vs, h1, h2⟩ := h
  obtain ⟨hi, _⟩ := List.getElem?_eq_some_iff.mp hr
  have hv : vs[i]? = some (vs[i]'(by rw [h2.len]; exact hi)) := List.getElem?_eq_getElem _
  obtain ⟨t, f, e, h3, h4⟩ := h2.get i _ r hv hr
  rw [e] at hv
  exact ⟨vs, t, f, h1, hv, h3, h4⟩
end K59
/-! W3: comprehensions and loops over anything that is walked. -/
namespace K59
open PySem PySem.Spec L2 Evl
section
variable {K : PySem.W.Frag} {σ : L2.St} {H : Hp} {te : TE} {t : TT} {g : TG} {vs : List Nat}
/-- one turn of a comprehension: the item is assigned, the test and the element evaluate -/
def TurnC (σ : L2.St) (vs : List Nat) (g : TG) (t : TT) (te : TE) (x : V) (H : Hp) (b : Bool) (v : V) : Prop :=
  ∃ σ2, (∀ Q : L2.St → Hp → Prop, Q σ2 H → g x (wipe σ vs) H Q) ∧ wipe σ2 vs = wipe σ vs ∧ EvT t σ2 H b ∧ (b = true → Ev te σ2 H v)
theorem lcG {J : It} {n : Nat} {Q : VK} (f : Nat → Bool) (v : Nat → V) (hz : n ≤ 50000) (hgo : ∀ i H', Ex H H' → i < n → J.go i H') (hstop : ∀ H', Ex H H' → J.stop n H')
    (hy : ∀ i x H' H'', Ex H H' → i < n → J.yld i H' x H'' → Ex H' H'' ∧ TurnC σ vs g t te x H'' (f i) (v i)) (q : ∀ p H2, H p = none → Ex H H2 → H2 p = some (.lst (given n f v)) → Q (.ref p) H2) :
    ∀ D, H D = none → ∃ W : Nat → Nat → Hp → Prop, (∃ m, W 0 m (upd H D (.lst []))) ∧ ∀ i m H, W i m H →
      (J.stop i H ∧ Q (.ref D) H) ∨ (J.go i H ∧ ∃ Nx : Hp → Prop, (∀ H', Nx H' → ∃ m', m' < m ∧ W (i + 1) m' H') ∧ ∀ x H', J.yld i H x H' → g x (wipe σ vs) H' fun σ2 H2 => wipe σ2 vs = wipe σ vs ∧ t σ2 H2 fun b H3 =>
        if b = true then te σ2 H3 fun y H4 => ∃ acc, H4 D = some (.lst acc) ∧ acc.length < sizeLine ∧ Nx (upd H4 D (.lst (acc ++ [y]))) else Nx H3) := by
  intro D hD
  refine ⟨fun i m H' => m = n - i ∧ i ≤ n ∧ Cw H f v D i H', ⟨n, by simp, Nat.zero_le _, hD, Ex.new hD, upd_same⟩, ?_⟩
  rintro i m H' ⟨rfl, hi, p⟩
  by_cases hlt : i < n
  · refine .inr ⟨hgo i H' p.2.1 hlt, fun H'' => Cw H f v D (i + 1) H'', fun H'' p' => ⟨n - (i + 1), by omega, rfl, hlt, p'⟩, fun x H'' y => ?_⟩
    obtain ⟨e1, σ2, hg, hw, ht, he⟩ := hy i x H' H'' p.2.1 hlt y
    refine hg _ ⟨hw, ht H'' (Ex.refl H'') _ fun H3 e3 => ?_⟩
    cases hf : f i with
    | true =>
      show te σ2 H3 fun y H4 => ∃ acc, H4 D = some (.lst acc) ∧ acc.length < sizeLine ∧ Cw H f v D (i + 1) (upd H4 D (.lst (acc ++ [y])))
      refine he hf H3 e3 _ fun H4 e4 => ⟨given i f v, e4 D _ (e3 D _ (e1 D _ p.2.2)), sz_lt (by have := given_len i f v; omega), hD, Ex.mut (((p.2.1.trans e1).trans e3).trans e4) hD, ?_⟩
      rw [given_yes hf]
      exact upd_same
    | false =>
      show Cw H f v D (i + 1) H3
      refine ⟨hD, (p.2.1.trans e1).trans e3, ?_⟩
      rw [given_no hf]
      exact e3 D _ (e1 D _ p.2.2)
  · have e : i = n := by omega
    subst e
    exact .inl ⟨hstop H' p.2.1, q D H' hD p.2.1 p.2.2⟩
/-- the sources -/
theorem el_lcT {a : Addr} {xs : List V} {tl : TE} (f : Nat → Bool) (v : Nat → V) (h : Ev tl σ H (.ref a)) (hx : SqT K H a xs) (hz : xs.length ≤ 50000)
    (ht : ∀ (i : Nat) (x : V) H1, Ex H H1 → xs[i]? = some x → TurnC σ vs g t te x H1 (f i) (v i)) : EvL (tLc (iTup K tl) g t te vs) σ H (given xs.length f v) := fun H0 e Q q => h H0 e _ fun H1 e1 =>
  ⟨a, rfl, ⟨xs, ex_t (e.trans e1) hx⟩, lcG f v hz (fun i H' e2 hi => ⟨xs, xs[i], ex_t ((e.trans e1).trans e2) hx, List.getElem?_eq_getElem hi⟩) (fun H' e2 => ⟨xs, ex_t ((e.trans e1).trans e2) hx, Nat.le_refl _⟩)
    (fun i x H' H'' e2 hi y => by
      obtain ⟨rfl, y⟩ := y
      exact ⟨Ex.refl _, ht i x H'' ((e.trans e1).trans e2) (y xs (ex_t ((e.trans e1).trans e2) hx))⟩) fun p H2 hp e2 h2 => q p H2 (fresh_back e1 hp) (e1.trans e2) h2⟩
theorem el_lcLg {a : Addr} {xs : List V} {tl : TE} (f : Nat → Bool) (v : Nat → V) (h : Ev tl σ H (.ref a)) (hx : SqL K H a xs) (hz : xs.length ≤ 50000)
    (ht : ∀ (i : Nat) (x : V) H1, Ex H H1 → xs[i]? = some x → TurnC σ vs g t te x H1 (f i) (v i)) : EvL (tLc (iList K tl) g t te vs) σ H (given xs.length f v) := fun H0 e Q q => h H0 e _ fun H1 e1 =>
  ⟨a, rfl, ⟨xs, ex_l (e.trans e1) hx⟩, lcG f v hz (fun i H' e2 hi => ⟨xs, xs[i], ex_l ((e.trans e1).trans e2) hx, List.getElem?_eq_getElem hi⟩) (fun H' e2 => ⟨xs, ex_l ((e.trans e1).trans e2) hx, Nat.le_refl _⟩)
    (fun i x H' H'' e2 hi y => by
      obtain ⟨rfl, y⟩ := y
      exact ⟨Ex.refl _, ht i x H'' ((e.trans e1).trans e2) (y xs (ex_l ((e.trans e1).trans e2) hx))⟩) fun p H2 hp e2 h2 => q p H2 (fresh_back e1 hp) (e1.trans e2) h2⟩
theorem el_lcNLg {xs : List V} {tl : TE} (f : Nat → Bool) (v : Nat → V) (h : EvL tl σ H xs) (hz : xs.length ≤ 50000)
    (ht : ∀ (i : Nat) (x : V) H1, Ex H H1 → xs[i]? = some x → TurnC σ vs g t te x H1 (f i) (v i)) : EvL (tLc (iList K tl) g t te vs) σ H (given xs.length f v) := fun H0 e Q q => h H0 e _ fun a H1 ha e1 hx =>
  ⟨a, rfl, ⟨xs, sq_get hx⟩, lcG f v hz (fun i H' e2 hi => ⟨xs, xs[i], ex_l e2 (sq_get hx), List.getElem?_eq_getElem hi⟩) (fun H' e2 => ⟨xs, ex_l e2 (sq_get hx), Nat.le_refl _⟩)
    (fun i x H' H'' e2 hi y => by
      obtain ⟨rfl, y⟩ := y
      exact ⟨Ex.refl _, ht i x H'' ((e.trans e1).trans e2) (y xs (ex_l e2 (sq_get hx)))⟩) fun p H2 hp e2 h2 => q p H2 (fresh_back e1 hp) (e1.trans e2) h2⟩
theorem el_lcS {z : Str} {ts : TE} (f : Nat → Bool) (v : Nat → V) (h : Ev ts σ H (.str z)) (hz : z.length ≤ 50000)
    (ht : ∀ (i : Nat) (c : Nat) H1, Ex H H1 → z.cps.toList[i]? = some c → TurnC σ vs g t te (.str ⟨#[c]⟩) H1 (f i) (v i)) : EvL (tLc (iStr ts) g t te vs) σ H (given z.length f v) := fun H0 e Q q => h H0 e _ fun H1 e1 =>
  ⟨z, rfl, lcG f v hz (fun i H' e2 hi => hi) (fun H' e2 => Nat.le_refl _)
    (fun i x H' H'' e2 hi y => by
      obtain ⟨rfl, c, hc, rfl⟩ := y
      exact ⟨Ex.refl _, ht i c H'' ((e.trans e1).trans e2) (by rw [Array.getElem?_toList]; exact hc)⟩) fun p H2 hp e2 h2 => q p H2 (fresh_back e1 hp) (e1.trans e2) h2⟩
/-- enumerate -/
theorem el_lcE {a : Addr} {xs : List V} {tl : TE} (f : Nat → Bool) (v : Nat → V) (h : Ev tl σ H (.ref a)) (hx : SqL K H a xs) (hz : xs.length ≤ 50000)
    (ht : ∀ (i : Nat) (x : V) (p : Addr) H1, Ex H H1 → xs[i]? = some x → H1 p = some (.tup [.int (i : Int), x]) → TurnC σ vs g t te (.ref p) H1 (f i) (v i)) : EvL (tLc (iEnum K (tCons tl tNil)) g t te vs) σ H (given xs.length f v) := fun H0 e Q q => h H0 e _ fun H1 e1 =>
  ⟨a, xs, rfl, ex_l (e.trans e1) hx, lcG f v hz (fun i H' e2 hi => ⟨xs, xs[i], ex_l ((e.trans e1).trans e2) hx, List.getElem?_eq_getElem hi⟩) (fun H' e2 => ⟨xs, ex_l ((e.trans e1).trans e2) hx, Nat.le_refl _⟩)
    (fun i x H' H'' e2 hi y => by
      obtain ⟨p, x', rfl, hp, rfl, hx'⟩ := y
      have e3 := Ex.new (o := .tup [.int (i : Int), x']) hp
      exact ⟨e3, ht i x' p _ (((e.trans e1).trans e2).trans e3) (hx' xs (ex_l ((e.trans e1).trans e2) hx)) upd_same⟩) fun p H2 hp e2 h2 => q p H2 (fresh_back e1 hp) (e1.trans e2) h2⟩
/-- over a dict's keys -/
theorem ex_upd {H H' : Hp} (e : Ex H H') (d : Addr) (o : HO) : Ex (upd H d o) (upd H' d o) := fun b u hb => by
  by_cases z : b = d
  · subst z; rw [upd_same] at hb ⊢; exact hb
  · rw [upd_ne z] at hb ⊢; exact e b u hb
theorem ex_unlock {H H' : Hp} {d : Addr} {o u : HO} (hd : H d = some u) (e : Ex (upd H d o) H') : Ex H (upd H' d u) := fun b v hb => by
  by_cases z : b = d
  · subst z; rw [upd_same]; rw [hd] at hb; exact hb
  · rw [upd_ne z]; exact e b v (by rw [upd_ne z]; exact hb)
theorem el_lcK {d : Addr} {kvs : List (Key × V)} {td : TE} (f : Nat → Bool) (v : Nat → V) (hd : H d = some (.dK kvs)) (h : ∀ od, Ev td σ (upd H d (.frz od (.dK kvs))) (.ref d)) (hz : kvs.length ≤ 50000)
    (ht : ∀ od (i : Nat) (k : Key) (x : V) H1, Ex (upd H d (.frz od (.dK kvs))) H1 → kvs[i]? = some (k, x) → TurnC σ vs g t te (kV k) H1 (f i) (v i)) : EvL (tLockE (tLc (iKeys td) g t te vs)) σ H (given kvs.length f v) := fun H0 e Q q =>
  ⟨d, .dK kvs, e _ _ hd, True.intro, fun od => h od _ (ex_upd e d _) _ fun H1 e1 => ⟨d, od, rfl, .inl ⟨kvs, e1 _ _ upd_same, lcG (J := Itk d od kvs) (Q := fun y H' => H' d = some (.frz od (.dK kvs)) ∧ Q y (upd H' d (.dK kvs))) f v hz (fun i H' e2 hi => ⟨e2 _ _ (e1 _ _ upd_same), hi⟩) (fun H' e2 => ⟨e2 _ _ (e1 _ _ upd_same), Nat.le_refl _⟩)
    (fun i x H' H'' e2 hi y => by
      obtain ⟨rfl, k, x, hk, rfl⟩ := y
      exact ⟨Ex.refl _, ht od i k x H'' (((ex_upd e d _).trans e1).trans e2) hk⟩)
    fun p H2 hp e2 h2 => ⟨e2 _ _ (e1 _ _ upd_same), by
      have hpd : p ≠ d := fun z => by subst z; rw [e1 _ _ upd_same] at hp; cases hp
      refine q p _ ?_ (ex_unlock (e _ _ hd) (e1.trans e2)) (by rw [upd_ne hpd]; exact h2)
      have := fresh_back e1 hp
      rw [upd_ne hpd] at this
      exact this⟩⟩⟩⟩
/-- over a dict with tuple keys -/
theorem el_lcKt {d : Addr} {kvs : List (List Key × V)} {td : TE} (f : Nat → Bool) (v : Nat → V) (hd : H d = some (.dT kvs)) (h : ∀ od, Ev td σ (upd H d (.frz od (.dT kvs))) (.ref d)) (hz : kvs.length ≤ 50000)
    (ht : ∀ od (i : Nat) (k : List Key) (x : V) (b : Addr) H1, Ex (upd H d (.frz od (.dT kvs))) H1 → kvs[i]? = some (k, x) → H1 b = some (.tup (k.map kV)) → TurnC σ vs g t te (.ref b) H1 (f i) (v i)) : EvL (tLockE (tLc (iKeys td) g t te vs)) σ H (given kvs.length f v) := fun H0 e Q q =>
  ⟨d, .dT kvs, e _ _ hd, True.intro, fun od => h od _ (ex_upd e d _) _ fun H1 e1 => ⟨d, od, rfl, .inr ⟨kvs, e1 _ _ upd_same, lcG (J := Itkt d od kvs) (Q := fun y H' => H' d = some (.frz od (.dT kvs)) ∧ Q y (upd H' d (.dT kvs))) f v hz (fun i H' e2 hi => ⟨e2 _ _ (e1 _ _ upd_same), hi⟩) (fun H' e2 => ⟨e2 _ _ (e1 _ _ upd_same), Nat.le_refl _⟩)
    (fun i x H' H'' e2 hi y => by
      obtain ⟨rfl, k, x, b, hk, rfl, hb⟩ := y
      exact ⟨Ex.refl _, ht od i k x b H'' (((ex_upd e d _).trans e1).trans e2) hk hb⟩)
    fun p H2 hp e2 h2 => ⟨e2 _ _ (e1 _ _ upd_same), by
      have hpd : p ≠ d := fun z => by subst z; rw [e1 _ _ upd_same] at hp; cases hp
      refine q p _ ?_ (ex_unlock (e _ _ hd) (e1.trans e2)) (by rw [upd_ne hpd]; exact h2)
      have := fresh_back e1 hp
      rw [upd_ne hpd] at this
      exact this⟩⟩⟩⟩
/-- range(n) -/
theorem el_lcR {ta : TA} {n : Nat} (f : Nat → Bool) (v : Nat → V) (h : EvA ta σ H [.int (n : Int)]) (hz : n ≤ 50000)
    (ht : ∀ (i : Nat) H1, Ex H H1 → i < n → TurnC σ vs g t te (.int (i : Int)) H1 (f i) (v i)) : EvL (tLc (iRng1 ta) g t te vs) σ H (given n f v) := fun H0 e Q q => h H0 e _ fun H1 e1 =>
  ⟨(n : Int), rfl, by omega, by omega, by
    rw [Int.toNat_natCast]
    exact lcG f v hz (fun i H' e2 hi => hi) (fun H' e2 => Nat.le_refl _)
      (fun i x H' H'' e2 hi y => by
        obtain ⟨rfl, rfl⟩ := y
        rw [Int.zero_add]
        exact ⟨Ex.refl _, ht i H'' ((e.trans e1).trans e2) hi⟩) fun p H2 hp e2 h2 => q p H2 (fresh_back e1 hp) (e1.trans e2) h2⟩
/-- targets -/
theorem turnN {j : Nat} {x : V} {b : Bool} {v : V} (hw : wipe ((wipe σ vs).set j (some x)) vs = wipe σ vs) (ht : EvT t ((wipe σ vs).set j (some x)) H b) (he : b = true → Ev te ((wipe σ vs).set j (some x)) H v) : TurnC σ vs (gName j) t te x H b v := ⟨_, fun _ q => q, hw, ht, he⟩
theorem turn2 {i j : Nat} {p : Addr} {x y : V} {b : Bool} {v : V} (hp : H p = some (.tup [x, y])) (hw : wipe (((wipe σ vs).set i (some x)).set j (some y)) vs = wipe σ vs) (ht : EvT t (((wipe σ vs).set i (some x)).set j (some y)) H b)
    (he : b = true → Ev te (((wipe σ vs).set i (some x)).set j (some y)) H v) : TurnC σ vs (gTup K 2 (gCons (gName i) (gCons (gName j) gNil))) t te (.ref p) H b v :=
  ⟨_, fun _ q => ⟨p, [x, y], rfl, st_get hp, rfl, x, [y], rfl, y, [], rfl, rfl, q⟩, hw, ht, he⟩
theorem turn3 {i j l : Nat} {p : Addr} {x y z : V} {b : Bool} {v : V} (hp : H p = some (.tup [x, y, z])) (hw : wipe ((((wipe σ vs).set i (some x)).set j (some y)).set l (some z)) vs = wipe σ vs) (ht : EvT t ((((wipe σ vs).set i (some x)).set j (some y)).set l (some z)) H b)
    (he : b = true → Ev te ((((wipe σ vs).set i (some x)).set j (some y)).set l (some z)) H v) : TurnC σ vs (gTup K 3 (gCons (gName i) (gCons (gName j) (gCons (gName l) gNil)))) t te (.ref p) H b v :=
  ⟨_, fun _ q => ⟨p, [x, y, z], rfl, st_get hp, rfl, x, [y, z], rfl, y, [z], rfl, z, [], rfl, rfl, q⟩, hw, ht, he⟩
theorem et_yes : EvT tYes σ H true := fun H1 e Q q => q H1 (Ex.refl H1)
end
/-- the given ones of typed data -/
theorem given_map {α : Type} (l : List α) (p : α → Bool) (c : α → V) {f : Nat → Bool} {v : Nat → V} (h : ∀ i a, l[i]? = some a → f i = p a ∧ v i = c a) : given l.length f v = (l.filter p).map c := by
  have all : ∀ n, n ≤ l.length → given n f v = ((l.take n).filter p).map c := by
    intro n
    induction n with
    | zero => intro _; rfl
    | succ n ih =>
      intro hn
      have hg : l[n]? = some l[n] := List.getElem?_eq_getElem (by omega)
      obtain ⟨h1, h2⟩ := h n _ hg
      rw [List.take_add_one, hg]
      show given (n + 1) f v = ((l.take n ++ [l[n]]).filter p).map c
      rw [List.filter_append, List.map_append, ← ih (by omega)]
      cases e : p l[n] with
      | true =>
        rw [given_yes (by rw [h1, e]), h2]
        simp [e]
      | false =>
        rw [given_no (by rw [h1, e])]
        simp [e]
  rw [all l.length (Nat.le_refl _), List.take_length]
end K59
/-! W4: sums, greatest and least of new lists, tables asked. -/
namespace K59
open PySem PySem.Spec L2 Evl
section
variable {K : PySem.W.Frag} {σ : L2.St} {H : Hp} {ta tb te td ty : TE} {x y z v : V}
theorem el_cat {xs ys : List V} (ha : EvL ta σ H xs) (hb : EvL tb σ H ys) (hz : xs.length + ys.length ≤ 100000) : EvL (tOp rCat ta tb) σ H (xs ++ ys) := fun H1 e Q q =>
  ha H1 e _ fun p H2 hp e2 h2 => hb H2 (e.trans e2) _ fun p' H3 hp' e3 h3 => ⟨p, p', xs, ys, rfl, rfl, e3 _ _ h2, h3, sz_of hz, fun l hl => q l _ (fresh_back (e2.trans e3) hl) ((e2.trans e3).trans (Ex.new hl)) upd_same⟩
/-- an old list and a new one -/
theorem el_catO {xs ys : List V} {p : Addr} (ha : Ev ta σ H (.ref p)) (hx : H p = some (.lst xs)) (hb : EvL tb σ H ys) (hz : xs.length + ys.length ≤ 100000) : EvL (tOp rCat ta tb) σ H (xs ++ ys) := fun H1 e Q q =>
  ha H1 e _ fun H2 e2 => hb H2 (e.trans e2) _ fun p' H3 hp' e3 h3 => ⟨p, p', xs, ys, rfl, rfl, ((e.trans e2).trans e3) _ _ hx, h3, sz_of hz, fun l hl => q l _ (fresh_back (e2.trans e3) hl) ((e2.trans e3).trans (Ex.new hl)) upd_same⟩
theorem ev_maxL {ns : List Int} {m : Int} (ha : EvL ta σ H (ns.map V.int)) (h1 : m ∈ ns) (h2 : ∀ y ∈ ns, y ≤ m) : Ev (tCB (rMax K) (tCons ta tNil)) σ H (.int m) := fun H1 e Q q =>
  ha H1 e _ fun p H2 hp e2 h => ⟨p, ns, rfl, sq_get h, List.length_pos_of_mem h1, fun m' a b => by
    have e : m' = m := Int.le_antisymm (h2 m' a) (b m h1)
    subst e
    exact q H2 e2⟩
theorem ev_minL {ns : List Int} {m : Int} (ha : EvL ta σ H (ns.map V.int)) (h1 : m ∈ ns) (h2 : ∀ y ∈ ns, m ≤ y) : Ev (tCB (rMin K) (tCons ta tNil)) σ H (.int m) := fun H1 e Q q =>
  ha H1 e _ fun p H2 hp e2 h => ⟨p, ns, rfl, sq_get h, List.length_pos_of_mem h1, fun m' a b => by
    have e : m' = m := Int.le_antisymm (b m h1) (h2 m' a)
    subst e
    exact q H2 e2⟩
theorem ev_sumL {ns : List Int} (ha : EvL ta σ H (ns.map V.int)) : Ev (tCB (rSum K) (tCons ta tNil)) σ H (.int ns.sum) := fun H1 e Q q =>
  ha H1 e _ fun p H2 hp e2 h => ⟨p, ns, rfl, sq_get h, q H2 e2⟩
theorem ev_din {a : Addr} {o : Option V} (hy : Ev ty σ H y) (hd : Ev td σ H (.ref a)) (g : ∀ H1, Ex H H1 → DGet H1 a y o) : Ev (tDIn ty td) σ H (.bl o.isSome) := fun H1 e Q q =>
  hy H1 e _ fun H2 e2 => hd H2 (e.trans e2) _ fun H3 e3 => ⟨a, o, rfl, g H3 ((e.trans e2).trans e3), q H3 (e2.trans e3)⟩
theorem ev_dnotin {a : Addr} {o : Option V} (hy : Ev ty σ H y) (hd : Ev td σ H (.ref a)) (g : ∀ H1, Ex H H1 → DGet H1 a y o) : Ev (tDNotIn ty td) σ H (.bl (!o.isSome)) := fun H1 e Q q =>
  hy H1 e _ fun H2 e2 => hd H2 (e.trans e2) _ fun H3 e3 => ⟨a, o, rfl, g H3 ((e.trans e2).trans e3), q H3 (e2.trans e3)⟩
theorem dget_str {H : Hp} {a : Addr} {kvs : List (Key × V)} {k : Str} (h : H a = some (.dK kvs)) : ∀ H1, Ex H H1 → DGet H1 a (.str k) (valV kvs (.inr k)) := fun H1 e => .inl ⟨kvs, .inr k, .inl (e _ _ h), rfl, rfl⟩
theorem dget_int {H : Hp} {a : Addr} {kvs : List (Key × V)} {k : Int} (h : H a = some (.dK kvs)) : ∀ H1, Ex H H1 → DGet H1 a (.int k) (valV kvs (.inl k)) := fun H1 e => .inl ⟨kvs, .inl k, .inl (e _ _ h), rfl, rfl⟩
theorem dget_strF {H : Hp} {a : Addr} {o : Obj} {kvs : List (Key × V)} {k : Str} (h : H a = some (.frz o (.dK kvs))) : ∀ H1, Ex H H1 → DGet H1 a (.str k) (valV kvs (.inr k)) := fun H1 e => .inl ⟨kvs, .inr k, .inr ⟨o, e _ _ h⟩, rfl, rfl⟩
theorem dget_intF {H : Hp} {a : Addr} {o : Obj} {kvs : List (Key × V)} {k : Int} (h : H a = some (.frz o (.dK kvs))) : ∀ H1, Ex H H1 → DGet H1 a (.int k) (valV kvs (.inl k)) := fun H1 e => .inl ⟨kvs, .inl k, .inr ⟨o, e _ _ h⟩, rfl, rfl⟩
theorem dget_tup {H : Hp} {a b : Addr} {kvs : List (List Key × V)} {k : List Key} (h : H a = some (.dT kvs)) (hb : H b = some (.tup (k.map kV))) : ∀ H1, Ex H H1 → DGet H1 a (.ref b) (valV kvs k) := fun H1 e => .inr ⟨kvs, k, b, .inl (e _ _ h), rfl, e _ _ hb, rfl⟩
theorem isD_K {H : Hp} {a : Addr} {kvs : List (Key × V)} (h : H a = some (.dK kvs)) : ∀ H1, Ex H H1 → IsD H1 a := fun H1 e => .inl ⟨kvs, .inl (e _ _ h)⟩
theorem isD_T {H : Hp} {a : Addr} {kvs : List (List Key × V)} (h : H a = some (.dT kvs)) : ∀ H1, Ex H H1 → IsD H1 a := fun H1 e => .inr ⟨kvs, .inl (e _ _ h)⟩
theorem isD_KF {H : Hp} {a : Addr} {o : Obj} {kvs : List (Key × V)} (h : H a = some (.frz o (.dK kvs))) : ∀ H1, Ex H H1 → IsD H1 a := fun H1 e => .inl ⟨kvs, .inr ⟨o, e _ _ h⟩⟩
/-- d[k], a table of whole numbers by texts -/
theorem ev_getS {a : Addr} {l : List (Key × Int)} {k : Str} {i : Int} (hd : Ev td σ H (.ref a)) (hy : Ev ty σ H (.str k)) (h : H a = some (.dK (mI l))) (g : lkI l (.inr k) = some i) : Ev (tDGet td ty) σ H (.int i) :=
  ev_dget hd hy fun H1 e => by
    have := dget_str (k := k) h H1 e
    rw [valV_mI, g] at this
    exact this
/-- d.get(k, n) -/
theorem getD_intN {κ : Type} [DecidableEq κ] (l : List (κ × Int)) (k : κ) (n : Int) : (valV (mI l) k).getD (.int n) = .int ((lkI l k).getD n) := by
  rw [valV_mI]
  cases lkI l k <;> rfl
theorem ev_get2S {a : Addr} {l : List (Key × Int)} {k : Str} {n : Int} {tx : TE} (hd : Ev td σ H (.ref a)) (hy : Ev ty σ H (.str k)) (hx : Ev tx σ H (.int n)) (h : H a = some (.dK (mI l))) : Ev (tDGet2 td ty tx) σ H (.int ((lkI l (.inr k)).getD n)) :=
  ev_is (ev_get2 hd (isD_K h) hy hx (dget_str h)) (getD_intN _ _ _)
theorem ev_inS {a : Addr} {l : List (Key × Int)} {k : Str} (hy : Ev ty σ H (.str k)) (hd : Ev td σ H (.ref a)) (h : H a = some (.dK (mI l))) : Ev (tDIn ty td) σ H (.bl (lkI l (.inr k)).isSome) :=
  ev_is (ev_din hy hd (dget_str h)) (by rw [valV_mI, Option.isSome_map])
theorem ev_notinS {a : Addr} {l : List (Key × Int)} {k : Str} (hy : Ev ty σ H (.str k)) (hd : Ev td σ H (.ref a)) (h : H a = some (.dK (mI l))) : Ev (tDNotIn ty td) σ H (.bl (!(lkI l (.inr k)).isSome)) :=
  ev_is (ev_dnotin hy hd (dget_str h)) (by rw [valV_mI, Option.isSome_map])
end
theorem mx0_top (l : List Int) : mx0 l ∈ 0 :: l ∧ ∀ y ∈ 0 :: l, y ≤ mx0 l := by
  refine ⟨?_, fun y hy => ?_⟩
  · rcases mx0_cases l with h | h
    · rw [h]; simp
    · exact List.mem_cons_of_mem _ h
  · rcases List.mem_cons.mp hy with h | h
    · subst h; exact mx0_nonneg l
    · exact le_mx0 h
theorem getD_of {α : Type} [Inhabited α] {l : List α} {j : Nat} {k : α} (h : l[j]? = some k) : l.getD j default = k := by rw [List.getD_eq_getElem?_getD, h]; rfl
end K59
/-! W5: new tables: displays, dict comprehensions; stores to tables. -/
namespace K59
open PySem PySem.Spec L2 Evl
/-- a new table of whole numbers -/
def EvD (te : TE) (σ : L2.St) (H : Hp) (l : List (Key × Int)) : Prop := ∀ H1, Ex H H1 → ∀ Q : VK, (∀ p H2, H1 p = none → Ex H1 H2 → H2 p = some (.dK (mI l)) → Q (.ref p) H2) → te σ H1 Q
def putsI {κ : Type} [DecidableEq κ] (kf : Nat → κ) (vf : Nat → Int) : Nat → List (κ × Int)
  | 0 => []
  | n + 1 => putI (putsI kf vf n) (kf n) (vf n)
theorem putsI_len {κ : Type} [DecidableEq κ] (kf : Nat → κ) (vf : Nat → Int) : ∀ n, (putsI kf vf n).length ≤ n
  | 0 => Nat.le_refl _
  | n + 1 => by
    have h1 := putsI_len kf vf n
    have h2 := length_put (putsI kf vf n) (kf n) (vf n)
    unfold putsI
    omega
theorem putI_new {κ : Type} [DecidableEq κ] {l : List (κ × Int)} {k : κ} (h : k ∉ l.map (·.1)) (v : Int) : putI l k v = l ++ [(k, v)] := by
  unfold putI
  rw [if_neg]
  intro z
  obtain ⟨x, hx, e⟩ := List.any_eq_true.mp z
  exact h (List.mem_map.mpr ⟨x, hx, of_decide_eq_true e⟩)
theorem putsI_eq {κ : Type} [DecidableEq κ] (kf : Nat → κ) (vf : Nat → Int) : ∀ n, (∀ i j, i < n → j < n → kf i = kf j → i = j) → putsI kf vf n = (List.range n).map fun i => (kf i, vf i)
  | 0, _ => rfl
  | n + 1, h => by
    have ih := putsI_eq kf vf n fun i j hi hj => h i j (by omega) (by omega)
    have hk : kf n ∉ (putsI kf vf n).map (·.1) := by
      rw [ih, List.map_map]
      intro m
      obtain ⟨i, hi, e⟩ := List.mem_map.mp m
      have hi := List.mem_range.mp hi
      have := h i n (by omega) (by omega) e
      omega
    have e : putsI kf vf (n + 1) = putsI kf vf n ++ [(kf n, vf n)] := putI_new hk (vf n)
    rw [e, ih, List.range_succ, List.map_append]
    rfl
section
variable {K : PySem.W.Frag} {σ : L2.St} {H : Hp} {te tk tv tl : TE} {t : TT} {g : TG} {vs : List Nat}
def TurnD (σ : L2.St) (vs : List Nat) (g : TG) (tk tv : TE) (x : V) (H : Hp) (k : Key) (v : Int) : Prop :=
  ∃ σ2, (∀ Q : L2.St → Hp → Prop, Q σ2 H → g x (wipe σ vs) H Q) ∧ wipe σ2 vs = wipe σ vs ∧ Ev tk σ2 H (kV k) ∧ Ev tv σ2 H (.int v)
theorem dcG {J : It} {n : Nat} {Q : VK} (kf : Nat → Key) (vf : Nat → Int) (hz : n ≤ 40000) (hgo : ∀ i H', Ex H H' → i < n → J.go i H') (hstop : ∀ H', Ex H H' → J.stop n H')
    (hy : ∀ i x H' H'', Ex H H' → i < n → J.yld i H' x H'' → Ex H' H'' ∧ TurnD σ vs g tk tv x H'' (kf i) (vf i)) (q : ∀ p H2, H p = none → Ex H H2 → H2 p = some (.dK (mI (putsI kf vf n))) → Q (.ref p) H2) :
    ∀ D, H D = none → ∃ W : Nat → Nat → Hp → Prop, (∃ m, W 0 m (upd H D (.dK []))) ∧ ∀ i m H, W i m H →
      (J.stop i H ∧ Q (.ref D) H) ∨ (J.go i H ∧ ∃ Nx : Hp → Prop, (∀ H', Nx H' → ∃ m', m' < m ∧ W (i + 1) m' H') ∧ ∀ x H', J.yld i H x H' → g x (wipe σ vs) H' fun σ2 H2 => wipe σ2 vs = wipe σ vs ∧ tYes σ2 H2 fun b H3 =>
        if b = true then tk σ2 H3 fun y H4 => tv σ2 H4 fun z H5 => ∃ kvs k, y = kV k ∧ H5 D = some (.dK kvs) ∧ kvs.length < sizeLine ∧ Nx (upd H5 D (.dK (putK kvs k z))) else Nx H3) := by
  intro D hD
  refine ⟨fun i m H' => m = n - i ∧ i ≤ n ∧ Ex H H' ∧ H' D = some (.dK (mI (putsI kf vf i))), ⟨n, by simp, Nat.zero_le _, Ex.new hD, upd_same⟩, ?_⟩
  rintro i m H' ⟨rfl, hi, p1, p2⟩
  by_cases hlt : i < n
  · refine .inr ⟨hgo i H' p1 hlt, fun H'' => Ex H H'' ∧ H'' D = some (.dK (mI (putsI kf vf (i + 1)))), fun H'' p' => ⟨n - (i + 1), by omega, rfl, hlt, p'⟩, fun x H'' y => ?_⟩
    obtain ⟨e1, σ2, hg, hw, hk, hv⟩ := hy i x H' H'' p1 hlt y
    refine hg _ ⟨hw, ?_⟩
    show tk σ2 H'' fun y H4 => tv σ2 H4 fun z H5 => ∃ kvs k, y = kV k ∧ H5 D = some (.dK kvs) ∧ kvs.length < sizeLine ∧ _
    refine hk H'' (Ex.refl _) _ fun H4 e4 => hv H4 e4 _ fun H5 e5 => ⟨_, kf i, rfl, e5 _ _ (e4 _ _ (e1 _ _ p2)), ?_, Ex.mut (((p1.trans e1).trans e4).trans e5) hD, ?_⟩
    · rw [len_mI]
      exact sz_lt (by have := putsI_len kf vf i; omega)
    · rw [upd_same, putK_mI]
      rfl
  · have e : i = n := by omega
    subst e
    exact .inl ⟨hstop H' p1, q D H' hD p1 p2⟩
theorem ed_dcE {a : Addr} {xs : List V} (kf : Nat → Key) (vf : Nat → Int) (h : Ev tl σ H (.ref a)) (hx : SqL K H a xs) (hz : xs.length ≤ 40000)
    (ht : ∀ (i : Nat) (x : V) (p : Addr) H1, Ex H H1 → xs[i]? = some x → H1 p = some (.tup [.int (i : Int), x]) → TurnD σ vs g tk tv (.ref p) H1 (kf i) (vf i)) : EvD (tDc (iEnum K (tCons tl tNil)) g tYes tk tv vs) σ H (putsI kf vf xs.length) := fun H0 e Q q => h H0 e _ fun H1 e1 =>
  ⟨a, xs, rfl, ex_l (e.trans e1) hx, dcG kf vf hz (fun i H' e2 hi => ⟨xs, xs[i], ex_l ((e.trans e1).trans e2) hx, List.getElem?_eq_getElem hi⟩) (fun H' e2 => ⟨xs, ex_l ((e.trans e1).trans e2) hx, Nat.le_refl _⟩)
    (fun i x H' H'' e2 hi y => by
      obtain ⟨p, x', rfl, hp, rfl, hx'⟩ := y
      have e3 := Ex.new (o := .tup [.int (i : Int), x']) hp
      exact ⟨e3, ht i x' p _ (((e.trans e1).trans e2).trans e3) (hx' xs (ex_l ((e.trans e1).trans e2) hx)) upd_same⟩) fun p H2 hp e2 h2 => q p H2 (fresh_back e1 hp) (e1.trans e2) h2⟩
theorem turnD2 {i j : Nat} {p : Addr} {x y : V} {k : Key} {v : Int} (hp : H p = some (.tup [x, y])) (hw : wipe (((wipe σ vs).set i (some x)).set j (some y)) vs = wipe σ vs) (hk : Ev tk (((wipe σ vs).set i (some x)).set j (some y)) H (kV k))
    (hv : Ev tv (((wipe σ vs).set i (some x)).set j (some y)) H (.int v)) : TurnD σ vs (gTup K 2 (gCons (gName i) (gCons (gName j) gNil))) tk tv (.ref p) H k v :=
  ⟨_, fun _ q => ⟨p, [x, y], rfl, st_get hp, rfl, x, [y], rfl, y, [], rfl, rfl, q⟩, hw, hk, hv⟩
/-- {} -/
theorem ed_new : EvD tDNewK σ H [] := fun H1 e Q q p hp => q p _ hp (Ex.new hp) upd_same
/-! ### stores -/
variable {D : Ends} {tz : TS} {td ty : TE}
/-- d[k] = v, d a table by texts -/
theorem q_putS {d : Addr} {l : List (Key × Int)} {k : Str} {v : Int} (h : Ev tv σ H (.int v)) (hd : Ev td σ H (.ref d)) (hy : Ev ty σ H (.str k)) (hl : H d = some (.dK (mI l))) (hz : l.length < 100000)
    (q : ∀ H1, Ex H H1 → tz D σ (upd H1 d (.dK (mI (putI l (.inr k) v))))) : tSeq (sDPut td ty tv) tz D σ H := h H (Ex.refl H) _ fun H1 e1 => hd H1 e1 _ fun H2 e2 => hy H2 (e1.trans e2) _ fun H3 e3 =>
  ⟨d, _, rfl, .inl ⟨mI l, .inr k, ((e1.trans e2).trans e3) _ _ hl, rfl, by rw [len_mI]; exact sz_lt hz, rfl⟩, by rw [putK_mI]; exact q H3 ((e1.trans e2).trans e3)⟩
theorem s_putS {d : Addr} {l : List (Key × Int)} {k : Str} {v : Int} (h : Ev tv σ H (.int v)) (hd : Ev td σ H (.ref d)) (hy : Ev ty σ H (.str k)) (hl : H d = some (.dK (mI l))) (hz : l.length < 100000)
    (q : ∀ H1, Ex H H1 → D.nx σ (upd H1 d (.dK (mI (putI l (.inr k) v))))) : sDPut td ty tv D σ H := h H (Ex.refl H) _ fun H1 e1 => hd H1 e1 _ fun H2 e2 => hy H2 (e1.trans e2) _ fun H3 e3 =>
  ⟨d, _, rfl, .inl ⟨mI l, .inr k, ((e1.trans e2).trans e3) _ _ hl, rfl, by rw [len_mI]; exact sz_lt hz, rfl⟩, by rw [putK_mI]; exact q H3 ((e1.trans e2).trans e3)⟩
/-- .. a new pair stored, any key -/
theorem s_putU {d : Addr} {kvs : List (Key × V)} {k : Key} {xs : List V} (h : EvU tv σ H xs) (hd : Ev td σ H (.ref d)) (hy : Ev ty σ H (kV k)) (hl : H d = some (.dK kvs)) (hz : kvs.length < 100000)
    (q : ∀ p H1, H p = none → Ex H H1 → H1 p = some (.tup xs) → D.nx σ (upd H1 d (.dK (putK kvs k (.ref p))))) : sDPut td ty tv D σ H := h H (Ex.refl H) _ fun p H1 hp e1 h1 => hd H1 e1 _ fun H2 e2 => hy H2 (e1.trans e2) _ fun H3 e3 =>
  ⟨d, _, rfl, .inl ⟨kvs, k, ((e1.trans e2).trans e3) _ _ hl, rfl, sz_lt hz, rfl⟩, q p H3 hp ((e1.trans e2).trans e3) ((e2.trans e3) _ _ h1)⟩
theorem q_putU {d : Addr} {kvs : List (Key × V)} {k : Key} {xs : List V} (h : EvU tv σ H xs) (hd : Ev td σ H (.ref d)) (hy : Ev ty σ H (kV k)) (hl : H d = some (.dK kvs)) (hz : kvs.length < 100000)
    (q : ∀ p H1, H p = none → Ex H H1 → H1 p = some (.tup xs) → tz D σ (upd H1 d (.dK (putK kvs k (.ref p))))) : tSeq (sDPut td ty tv) tz D σ H := h H (Ex.refl H) _ fun p H1 hp e1 h1 => hd H1 e1 _ fun H2 e2 => hy H2 (e1.trans e2) _ fun H3 e3 =>
  ⟨d, _, rfl, .inl ⟨kvs, k, ((e1.trans e2).trans e3) _ _ hl, rfl, sz_lt hz, rfl⟩, q p H3 hp ((e1.trans e2).trans e3) ((e2.trans e3) _ _ h1)⟩
/-- d[k] = v, d a table by tuples, the key a tuple that stands -/
theorem q_putT {d b : Addr} {l : List (List Key × Int)} {k : List Key} {v : Int} (h : Ev tv σ H (.int v)) (hd : Ev td σ H (.ref d)) (hy : Ev ty σ H (.ref b)) (hb : H b = some (.tup (k.map kV))) (hl : H d = some (.dT (mI l))) (hz : l.length < 100000)
    (q : ∀ H1, Ex H H1 → tz D σ (upd H1 d (.dT (mI (putI l k v))))) : tSeq (sDPut td ty tv) tz D σ H := h H (Ex.refl H) _ fun H1 e1 => hd H1 e1 _ fun H2 e2 => hy H2 (e1.trans e2) _ fun H3 e3 =>
  ⟨d, _, rfl, .inr ⟨mI l, k, b, ((e1.trans e2).trans e3) _ _ hl, rfl, ((e1.trans e2).trans e3) _ _ hb, by rw [len_mI]; exact sz_lt hz, rfl⟩, by rw [putK_mI]; exact q H3 ((e1.trans e2).trans e3)⟩
theorem s_putT {d b : Addr} {l : List (List Key × Int)} {k : List Key} {v : Int} (h : Ev tv σ H (.int v)) (hd : Ev td σ H (.ref d)) (hy : Ev ty σ H (.ref b)) (hb : H b = some (.tup (k.map kV))) (hl : H d = some (.dT (mI l))) (hz : l.length < 100000)
    (q : ∀ H1, Ex H H1 → D.nx σ (upd H1 d (.dT (mI (putI l k v))))) : sDPut td ty tv D σ H := h H (Ex.refl H) _ fun H1 e1 => hd H1 e1 _ fun H2 e2 => hy H2 (e1.trans e2) _ fun H3 e3 =>
  ⟨d, _, rfl, .inr ⟨mI l, k, b, ((e1.trans e2).trans e3) _ _ hl, rfl, ((e1.trans e2).trans e3) _ _ hb, by rw [len_mI]; exact sz_lt hz, rfl⟩, by rw [putK_mI]; exact q H3 ((e1.trans e2).trans e3)⟩
/-- .. the key a new tuple -/
theorem s_putTU {d : Addr} {l : List (List Key × Int)} {k : List Key} {v : Int} (h : Ev tv σ H (.int v)) (hd : Ev td σ H (.ref d)) (hy : EvU ty σ H (k.map kV)) (hl : H d = some (.dT (mI l))) (hz : l.length < 100000)
    (q : ∀ H1, Ex H H1 → D.nx σ (upd H1 d (.dT (mI (putI l k v))))) : sDPut td ty tv D σ H := h H (Ex.refl H) _ fun H1 e1 => hd H1 e1 _ fun H2 e2 => hy H2 (e1.trans e2) _ fun b H3 hb e3 h3 =>
  ⟨d, _, rfl, .inr ⟨mI l, k, b, ((e1.trans e2).trans e3) _ _ hl, rfl, h3, by rw [len_mI]; exact sz_lt hz, rfl⟩, by rw [putK_mI]; exact q H3 ((e1.trans e2).trans e3)⟩
end
end K59
namespace K59
open PySem PySem.Spec L2 Evl
section
variable {P : Program} {w : World} {K : PySem.W.Frag} {mg : Str → Option Value} {base : Heap} {CA CL CM : Addr}
theorem scal_ii (i j : Int) : scal (.int i) (.int j) = true := rfl
/-- a call that answers and leaves all as it was -/
def spB (vs0 : List V) (pre : Hp → Prop) (z : V) : Sp := fun vs H Q _ => vs = vs0 ∧ pre H ∧ ∀ H', Ex H H' → Q z H'
def spWhole : Sp := fun vs H Q _ => ∃ i : Int, vs = [.int i] ∧ ∀ H', Ex H H' → Q (.bl true) H'
theorem d_is_whole {f : Addr} {fd : FuncData} (F : Fun K "is_whole" "is_whole" s_is_whole f fd) (T : Txt K mg CA CL CM) : FnOk P w K mg base CX0 1 f fd ["value"] spWhole := by
  refine F.ok sc_is_whole (fun vs H Q E h => ?_) (fun cdv A outer s H vs Q E hr h => ?_)
  · obtain ⟨i, rfl, _⟩ := h
    rfl
  · obtain ⟨i, rfl, q⟩ := h
    refine ⟨_, (pss_one (ps_ret (pe_and (pe_callB (isiK K rfl) (by rfl) T.g_isinstance boot_isinstance (pa_cons (pv 0) (pa_cons (pe_bltn (v := .ty "int") (by rfl) T.g_int boot_int rfl) pa_nil))) (pe_one (pe_not (pe_callB (isiK K rfl) (by rfl) T.g_isinstance boot_isinstance (pa_cons (pv 0) (pa_cons (pe_bltn (v := .ty "bool") (by rfl) T.g_bool boot_bool rfl) pa_nil)))))))), ?_⟩
    refine s_ret (v := .bl true) (ev_andV (a := true) (b := true) (ev_isi (t0 := .type "int") (u0 := .type "int") (b := true) (ea2 (ev_var rfl) ev_c) (.ty _) (fun _ _ => .base (.int i)) (kit_ty (by decide +kernel))) fun _ => ?_) q
    exact ev_notV (a := false) (ev_isi (t0 := .type "int") (u0 := .type "bool") (b := false) (ea2 (ev_var rfl) ev_c) (.ty _) (fun _ _ => .base (.int i)) (kit_ty (by decide +kernel)))
def spCount : Sp := fun vs H Q _ => ∃ i : Int, vs = [.int i] ∧ 0 ≤ i ∧ ∀ H', Ex H H' → Q (.bl true) H'
theorem d_is_count {f : Addr} {fd : FuncData} (F : Fun K "is_count" "is_count" s_is_count f fd) (T : Txt K mg CA CL CM) : FnOk P w K mg base CX0 1 f fd ["value"] spCount := by
  refine F.ok sc_is_count (fun vs H Q E h => ?_) (fun cdv A outer s H vs Q E hr h => ?_)
  · obtain ⟨i, rfl, _⟩ := h
    rfl
  · obtain ⟨i, rfl, hi, q⟩ := h
    refine ⟨_, (pss_one (ps_ret (pe_and (pe_callB (isiK K rfl) (by rfl) T.g_isinstance boot_isinstance (pa_cons (pv 0) (pa_cons (pe_bltn (v := .ty "int") (by rfl) T.g_int boot_int rfl) pa_nil))) (pe_and (pe_not (pe_callB (isiK K rfl) (by rfl) T.g_isinstance boot_isinstance (pa_cons (pv 0) (pa_cons (pe_bltn (v := .ty "bool") (by rfl) T.g_bool boot_bool rfl) pa_nil)))) (pe_one (pe_cmpR op_ge (pv 0) pe_int (nomark _))))))), ?_⟩
    refine s_ret (v := .bl true) (ev_andV (a := true) (b := true) (ev_isi (t0 := .type "int") (u0 := .type "int") (b := true) (ea2 (ev_var rfl) ev_c) (.ty _) (fun _ _ => .base (.int i)) (kit_ty (by decide +kernel))) fun _ => ?_) q
    refine ev_andV (a := true) (b := true) (ev_notV (a := false) (ev_isi (t0 := .type "int") (u0 := .type "bool") (b := false) (ea2 (ev_var rfl) ev_c) (.ty _) (fun _ _ => .base (.int i)) (kit_ty (by decide +kernel)))) fun _ => ?_
    exact ev_is (ev_ge (ev_var rfl) ev_c) (by rw [decide_eq_true hi])
/-- a line stands at l: its rows -/
def LineAt (CL : Addr) (H : Hp) (l : Addr) (rs : List Row) : Prop := ∃ dx a e, H l = some (.ins CL dx [("all", .ref a), ("every", .ref e)]) ∧ PRowsT H e rs
theorem LineAt.mono {H H' : Hp} (x : Ex H H') {l : Addr} {rs : List Row} (h : LineAt CL H l rs) : LineAt CL H' l rs := let ⟨dx, a, e, h1, h2⟩ := h; ⟨dx, a, e, x _ _ h1, h2.mono x⟩
def spCkLine (CL : Addr) : Sp := fun vs H Q _ => ∃ l rs, vs = [.ref l] ∧ LineAt CL H l rs ∧ ∀ H', Ex H H' → Q .non H'
theorem d_check_line {f : Addr} {fd : FuncData} (F : Fun K "check_line" "check_line" s_check_line f fd) (T : Txt K mg CA CL CM) : FnOk P w K mg base CX0 1 f fd ["value"] (spCkLine CL) := by
  refine F.ok sc_check_line (fun vs H Q E h => ?_) (fun cdv A outer s H vs Q E hr h => ?_)
  · obtain ⟨l, rs, rfl, _⟩ := h
    rfl
  · obtain ⟨l, rs, rfl, ⟨dx, a, e, h1, h2⟩, q⟩ := h
    refine ⟨_, (pss_one (ps_if (pt_not (pt_val (pe_callB (isiK K rfl) (by rfl) T.g_isinstance boot_isinstance (pa_cons (pv 0) (pa_cons (eg (v := .ref CL) rfl ⟨_, T.g_Line, rfl⟩) pa_nil))))) (pss_one ps_never) pss_nil)), ?_⟩
    refine s_if (b := false) (et_not (a := true) (et_B (ev_isi (t0 := .ref CL) (u0 := .ref CL) (b := true) (ea2 (ev_var rfl) ev_c) (.own _) (fun H1 x => T.tyL (x _ _ h1)) T.kiL))) (fun z => nomatch z) fun _ H1 e1 => q H1 e1
end
end K59
namespace K59
open PySem PySem.Spec L2 Evl
section
variable {P : Program} {w : World} {K : PySem.W.Frag} {mg : Str → Option Value} {base : Heap} {CA CL CM : Addr}
/-- self's fields -/
theorem ev_self {σ : L2.St} {H : Hp} {ta : TE} {m : Addr} {a : MA} {M : Mkt} {f : Str} {v : V} (h : Ev ta σ H (.ref m)) (X : MIm CM H m a M) (c : Cls K CM) (n : NoAttr K CM f) (l : (mfl a).lookup f = some v) : Ev (tFld K ta f) σ H v := ev_fld h X.ins c n l
def spWorth (CM : Addr) : Sp := fun vs H Q _ => ∃ (m : Addr) (a : MA) (M : Mkt) (i : Nat) (k : Str), vs = [.ref m, .int (i : Int), .str k] ∧ MIm CM H m a M ∧ MOk M ∧ i < M.rows.length ∧ k ∈ (rowAt M i).fits ∧ ∀ H', Ex H H' → Q (.int (M.I.w i k)) H'
theorem d_worth {f : Addr} {fd : FuncData} (F : Fun K "worth" "Market.worth" s_Market_worth f fd) (T : Txt K mg CA CL CM) : FnOk P w K mg base CX0 1 f fd ["self", "at", "kind"] (spWorth CM) := by
  refine F.ok sc_Market_worth (fun vs H Q E h => ?_) (fun cdv A outer s H vs Q E hr h => ?_)
  · obtain ⟨_, _, _, _, _, rfl, _⟩ := h
    rfl
  · obtain ⟨m, a, M, i, k, rfl, X, o, hi, hk, q⟩ := h
    refine ⟨_, (pss_one (ps_ret (pe_dget (hu_of hr) (fldK K rfl (pv 0)) (pe_tup (pa_cons (pe_ix (ixTK K rfl) (pe_ix (ixLK K rfl) (fldK K rfl (pv 0)) (pv 1) (fun _ _ => rfl)) pe_int (fun _ _ => rfl)) (pa_cons (pv 2) pa_nil))) (fun _ _ => rfl)))), ?_⟩
    obtain ⟨vs, t, f, h1, h2, h3, h4⟩ := X.rows.at (rowAt_get hi)
    refine s_ret (v := .int (M.I.w i k)) (ev_dgetU (ks := [.inr (rowAt M i).name, .inr k]) (ev_self (ev_var rfl) X T.clM T.nM_worths rfl) (eu2 (ev_ixT (ev_ixL (ev_self (ev_var rfl) X T.clM T.nM_rows rfl) (ev_var rfl) (sq_get h1) (atI_get h2)) ev_c (st_get h3) (atI_get (i := 0) rfl)) (ev_var rfl)) X.ws ?_) q
    rw [valV_mI, w_some o hi hk]
    rfl
def spRoom (CM : Addr) : Sp := fun vs H Q _ => ∃ (m : Addr) (a : MA) (M : Mkt) (S : Mst) (i : Nat) (g : Int), vs = [.ref m, .int (i : Int)] ∧ MIm CM H m a M ∧ MMu H a S ∧ MOk M ∧ i < M.rows.length ∧ S.got[i]? = some g ∧ ∀ H', Ex H H' → Q (.bl (decide (g < M.I.want i))) H'
theorem d_has_room {f : Addr} {fd : FuncData} (F : Fun K "has_room" "Market.has_room" s_Market_has_room f fd) (T : Txt K mg CA CL CM) : FnOk P w K mg base CX0 1 f fd ["self", "at"] (spRoom CM) := by
  refine F.ok sc_Market_has_room (fun vs H Q E h => ?_) (fun cdv A outer s H vs Q E hr h => ?_)
  · obtain ⟨_, _, _, _, _, _, rfl, _⟩ := h
    rfl
  · obtain ⟨m, a, M, S, i, g, rfl, X, Y, o, hi, hg, q⟩ := h
    refine ⟨_, (pss_one (ps_ret (pe_cmpR op_lt (pe_ix (ixLK K rfl) (fldK K rfl (pv 0)) (pv 1) (fun _ _ => rfl)) (pe_ix (ixLK K rfl) (fldK K rfl (pv 0)) (pv 1) (fun _ _ => rfl)) (nomark _)))), ?_⟩
    refine s_ret (ev_lt (ev_ixL (ev_self (ev_var rfl) X T.clM T.nM_got rfl) (ev_var rfl) (sq_get Y.got) (atI_get (map_get hg))) (ev_ixL (ev_self (ev_var rfl) X T.clM T.nM_wants rfl) (ev_var rfl) (sq_get X.wants) (atI_get (map_get (want_get o hi))))) q
end
end K59
namespace K59
open PySem PySem.Spec L2 Evl
section
variable {P : Program} {w : World} {K : PySem.W.Frag} {mg : Str → Option Value} {base : Heap} {CA CL CM : Addr}
theorem getD_int {κ : Type} [DecidableEq κ] (l : List (κ × Int)) (k : κ) : (valV (mI l) k).getD (.int 0) = .int (gtI l k) := by
  rw [valV_mI]
  unfold gtI
  cases lkI l k <;> rfl
def heldL (M : Mkt) (S : Mst) (i : Nat) : List Str := (rowAt M i).fits.filter fun k => decide (0 < S.h i k)
def spHeld (CM : Addr) : Sp := fun vs H Q _ => ∃ (m : Addr) (a : MA) (M : Mkt) (S : Mst) (i : Nat), vs = [.ref m, .int (i : Int)] ∧ MIm CM H m a M ∧ MMu H a S ∧ MOk M ∧ i < M.rows.length ∧
  ∀ p H', H p = none → Ex H H' → H' p = some (.lst ((heldL M S i).map V.str)) → Q (.ref p) H'
theorem d_held_by {f : Addr} {fd : FuncData} (F : Fun K "held_by" "Market.held_by" s_Market_held_by f fd) (T : Txt K mg CA CL CM) : FnOk P w K mg base CX0 1 f fd ["self", "at"] (spHeld CM) := by
  refine F.ok sc_Market_held_by (fun vs H Q E h => ?_) (fun cdv A outer s H vs Q E hr h => ?_)
  · obtain ⟨_, _, _, _, _, rfl, _⟩ := h
    rfl
  · obtain ⟨m, a, M, S, i, rfl, X, Y, o, hi, q⟩ := h
    refine ⟨_, (pss_one (ps_ret (pe_lc (own := [("kind", 2)]) (g := (gName 2)) rfl sc_Market_held_by.nd (tupK K rfl (pe_ix (ixTK K rfl) (pe_ix (ixLK K rfl) (fldK K rfl (pv 0)) (pv 1) (fun _ _ => rfl)) pe_int (fun _ _ => rfl))) (blkOk_by (own := [("kind", 2)]) (N := ["self", "at", "kind"]) (sc := defScope s_Market_held_by) (by decide +kernel)) (fun _ _ _ _ _ => (pg_name (i := 2) sc_Market_held_by.nd rfl (by first | exact Or.inl rfl | exact Or.inr rfl))) (fun _ _ _ _ _ => (pts_one (pt_cmpR op_gt (pe_dget2 (hu_of hr) (fldK K rfl (pv 0)) (pe_tup (pa_cons (pv 1) (pa_cons (pv 2) pa_nil))) pe_int (.mk rfl rfl rfl rfl)) pe_int (nomark _)))) (fun _ _ _ _ _ => (pv 2))))), ?_⟩
    obtain ⟨vs, t, f, h1, h2, h3, h4⟩ := X.rows.at (rowAt_get hi)
    have hl := o.fw i hi
    refine s_retL (el_lcT (xs := (rowAt M i).fits.map V.str) (fun j => decide (0 < S.h i ((rowAt M i).fits.getD j default))) (fun j => .str ((rowAt M i).fits.getD j default))
      (ev_ixT (ev_ixL (ev_self (ev_var rfl) X T.clM T.nM_rows rfl) (ev_var rfl) (sq_get h1) (atI_get h2)) ev_c (st_get h3) (atI_get (i := 1) rfl)) (st_get h4) (by rw [List.length_map]; omega) fun j x H1 e hx => ?_) fun p H1 hp e h => ?_
    · obtain ⟨k, hk, rfl⟩ := get_map hx
      have ek : (rowAt M i).fits.getD j default = k := by rw [List.getD_eq_getElem?_getD, hk]; rfl
      refine turnN rfl (et_test ?_) fun _ => ?_
      · rw [ek]
        refine ev_is (ev_gt (ev_get2U (ks := [.inl (i : Int), .inr k]) (ev_self (ev_var rfl) (X.mono e) T.clM T.nM_holds rfl) (eu2 (ev_var rfl) (ev_var rfl)) ev_c (Y.mono e).holds |> (ev_is · (getD_int _ _))) ev_c) rfl
      · rw [ek]
        exact ev_var rfl
    · refine q p H1 hp e ?_
      rw [h, List.length_map]
      exact congrArg (fun z => some (HO.lst z)) (given_map _ (fun k => decide (0 < S.h i k)) V.str fun j k hk => by
        have ek : (rowAt M i).fits.getD j default = k := by rw [List.getD_eq_getElem?_getD, hk]; rfl
        rw [ek]
        exact ⟨rfl, rfl⟩)
end
end K59
namespace K59
open PySem PySem.Spec L2 Evl
section
variable {P : Program} {w : World} {K : PySem.W.Frag} {mg : Str → Option Value} {base : Heap} {CA CL CM : Addr}
theorem spv_worth {H : Hp} {m : Addr} {a : MA} {M : Mkt} {i : Nat} {k : Str} (X : MIm CM H m a M) (o : MOk M) (hi : i < M.rows.length) (hk : k ∈ (rowAt M i).fits) : SpV (spWorth CM) [.ref m, .int (i : Int), .str k] H (.int (M.I.w i k)) :=
  fun H1 e Q q _ => ⟨m, a, M, i, k, rfl, X.mono e, o, hi, hk, q⟩
theorem ev_worth {σ : L2.St} {H : Hp} {ta tb tc : TE} {E : XK} {m : Addr} {a : MA} {M : Mkt} {i : Nat} {k : Str} (h0 : Ev ta σ H (.ref m)) (h1 : Ev tb σ H (.int (i : Int))) (h2 : Ev tc σ H (.str k)) (X : MIm CM H m a M) (o : MOk M) (hi : i < M.rows.length) (hk : k ∈ (rowAt M i).fits) :
    Ev (tMeth CM "worth" (spWorth CM) [] E ta (tCons tb (tCons tc tNil))) σ H (.int (M.I.w i k)) := ev_meth h0 X.ins rfl (ea2 h1 h2) (spv_worth X o hi hk)
/-- the fits of an asker -/
theorem ev_fits {σ : L2.St} {H : Hp} {ta tb : TE} {m : Addr} {a : MA} {M : Mkt} {i : Nat} (h0 : Ev ta σ H (.ref m)) (h1 : Ev tb σ H (.int (i : Int))) (X : MIm CM H m a M) (hi : i < M.rows.length) (T : Txt K mg CA CL CM) :
    ∃ f, H f = some (.tup ((rowAt M i).fits.map V.str)) ∧ Ev (tOp (rIxT K) (tOp (rIxL K) (tFld K ta "rows") tb) (tC (.int 1))) σ H (.ref f) := by
  obtain ⟨vs, t, f, e1, e2, e3, e4⟩ := X.rows.at (rowAt_get hi)
  exact ⟨f, e4, ev_ixT (ev_ixL (ev_self h0 X T.clM T.nM_rows rfl) h1 (sq_get e1) (atI_get e2)) ev_c (st_get e3) (atI_get (i := 1) rfl)⟩
def lkS (fd : List (Key × Int)) (k : Str) : Option Int := lkI fd (.inr k)
def spOver (CM : Addr) : Sp := fun vs H Q _ => ∃ (m : Addr) (a : MA) (M : Mkt) (i : Nat) (d : Addr) (fd : List (Key × Int)), vs = [.ref m, .int (i : Int), .ref d] ∧ MIm CM H m a M ∧ MOk M ∧ i < M.rows.length ∧ H d = some (.dK (mI fd)) ∧
  ∀ H', Ex H H' → Q (.int (M.I.overP (lkS fd) i)) H'
theorem d_over {f : Addr} {fd : FuncData} (F : Fun K "over" "Market.over" s_Market_over f fd) (T : Txt K mg CA CL CM) (c_Market_worth : MetK P w K mg base 1 CM "worth" (spWorth CM)) : FnOk P w K mg base CX0 2 f fd ["self", "at", "found"] (spOver CM) := by
  refine F.ok sc_Market_over (fun vs H Q E h => ?_) (fun cdv A outer s H vs Q E hr h => ?_)
  · obtain ⟨_, _, _, _, _, _, rfl, _⟩ := h
    rfl
  · obtain ⟨m, a, M, i, d, fd, rfl, X, o, hi, hd, q⟩ := h
    refine ⟨_, (pss_one (ps_ret (pe_callB (maxK K rfl rfl) (by rfl) T.g_max boot_max (pa_cons (pe_op op_cat (pe_lst (pa_cons pe_int pa_nil)) (pe_lc (own := [("kind", 3)]) (g := (gName 3)) rfl sc_Market_over.nd (tupK K rfl (pe_ix (ixTK K rfl) (pe_ix (ixLK K rfl) (fldK K rfl (pv 0)) (pv 1) (fun _ _ => rfl)) pe_int (fun _ _ => rfl))) (blkOk_by (own := [("kind", 3)]) (N := ["self", "at", "found", "kind"]) (sc := defScope s_Market_over) (by decide +kernel)) (fun _ _ _ _ _ => (pg_name (i := 3) sc_Market_over.nd rfl (by first | exact Or.inl rfl | exact Or.inr rfl))) (fun _ _ _ _ _ => (pts_one (pt_cmp (pc_din (hu_of hr) (pv 3) (pv 2))))) (fun _ _ _ _ _ => (pe_op op_sub (em c_Market_worth hr (by decide) (pv 0) (pa_cons (pv 1) (pa_cons (pv 3) pa_nil))) (pe_dget (hu_of hr) (pv 2) (pv 3) (fun _ _ => rfl)))))) pa_nil)))), ?_⟩
    have hl := o.fw i hi
    obtain ⟨ft, hft, ef⟩ := ev_fits (K := K) (mg := mg) (CA := CA) (CL := CL) (σ := [some (.ref m), some (.int (i : Int)), some (.ref d), none]) (ta := tVar 0) (tb := tVar 1) (ev_var rfl) (ev_var rfl) X hi T
    have hns : (0 : Int) :: (((rowAt M i).fits.filter fun k => (lkS fd k).isSome).map fun k => M.I.w i k - (lkS fd k).getD 0) = 0 :: ((rowAt M i).fits.filterMap fun k => (lkS fd k).map fun x => M.I.w i k - x) := by
      congr 1
      induction (rowAt M i).fits with
      | nil => rfl
      | cons k l ih =>
        cases e : lkS fd k with
        | none => simp [e, ih]
        | some x => simp [e, ih]
    refine s_ret (ev_maxL (ns := 0 :: (((rowAt M i).fits.filter fun k => (lkS fd k).isSome).map fun k => M.I.w i k - (lkS fd k).getD 0)) (m := M.I.overP (lkS fd) i) ?_ ?_ ?_) q
    · refine el_cat (xs := [.int 0]) (el_lst (ea1 ev_c) (by simp)) (ys := (((rowAt M i).fits.filter fun k => (lkS fd k).isSome).map fun k => M.I.w i k - (lkS fd k).getD 0).map V.int) ?_ ?_
      · have e := given_map (rowAt M i).fits (fun k => (lkS fd k).isSome) (fun k => V.int (M.I.w i k - (lkS fd k).getD 0)) (f := fun j => (lkS fd ((rowAt M i).fits.getD j default)).isSome) (v := fun j => .int (M.I.w i ((rowAt M i).fits.getD j default) - (lkS fd ((rowAt M i).fits.getD j default)).getD 0))
          fun j k hk => by rw [getD_of hk]; exact ⟨rfl, rfl⟩
        rw [List.map_map]
        show EvL _ _ _ (((rowAt M i).fits.filter fun k => (lkS fd k).isSome).map fun k => V.int (M.I.w i k - (lkS fd k).getD 0))
        rw [← e]
        have hlen : (rowAt M i).fits.length = ((rowAt M i).fits.map V.str).length := (List.length_map _).symm
        rw [hlen]
        refine el_lcT _ _ ef (st_get hft) (by rw [List.length_map]; omega) fun j x H1 e hx => ?_
        obtain ⟨k, hk, rfl⟩ := get_map hx
        rw [getD_of hk]
        have hm : k ∈ (rowAt M i).fits := List.mem_of_getElem? hk
        refine turnN rfl (et_B (ev_inS (ev_var rfl) (ev_var rfl) (e _ _ hd))) fun z => ?_
        obtain ⟨x, hx⟩ := Option.isSome_iff_exists.mp z
        have hx' : lkS fd k = some x := hx
        rw [hx']
        exact ev_sub (ev_worth (ev_var rfl) (ev_var rfl) (ev_var rfl) (X.mono e) o hi hm) (ev_getS (ev_var rfl) (ev_var rfl) (e _ _ hd) hx)
      · rw [List.length_map, List.length_map]
        have := List.length_filter_le (fun k => (lkS fd k).isSome) (rowAt M i).fits
        simp only [List.length_singleton]
        omega
    · rw [hns]
      exact (mx0_top _).1
    · rw [hns]
      exact (mx0_top _).2
end
end K59
namespace K59
open PySem PySem.Spec L2 Evl
section
variable {P : Program} {w : World} {K : PySem.W.Frag} {mg : Str → Option Value} {base : Heap} {CA CL CM : Addr}
theorem sok_sup {M : Mkt} {s : Str → Int} {S : Mst} (so : SOk M s S) {i : Nat} {k : Str} (h : S.h i k ≠ 0) : i < M.rows.length ∧ k ∈ (rowAt M i).fits := by
  have h1 : (lkI S.holds [.inl (i : Int), .inr k]).isSome = true := by
    cases e : lkI S.holds [.inl (i : Int), .inr k] with
    | none =>
      refine absurd ?_ h
      show gtI S.holds [.inl (i : Int), .inr k] = 0
      unfold gtI
      rw [e]
      rfl
    | some _ => rfl
  obtain ⟨i', k', a, b, e⟩ := mem_pairs.mp (so.hk _ (lkI_isSome.mp h1))
  injection e with e1 e2
  injection e2 with e2 _
  injection e1 with e1
  injection e2 with e2
  have e1 : i = i' := by omega
  subst e1 e2
  exact ⟨a, b⟩
theorem mem_held {M : Mkt} {s : Str → Int} {S : Mst} (so : SOk M s S) {i : Nat} {k : Str} : k ∈ heldL M S i ↔ 0 < S.h i k := by
  unfold heldL
  rw [List.mem_filter, decide_eq_true_eq]
  exact ⟨fun h => h.2, fun h => ⟨(sok_sup so (by omega)).2, h⟩⟩
theorem spv_room {H : Hp} {m : Addr} {a : MA} {M : Mkt} {s : Str → Int} {S : Mst} {i : Nat} (X : MIm CM H m a M) (Y : MMu H a S) (o : MOk M) (so : SOk M s S) (hi : i < M.rows.length) : SpV (spRoom CM) [.ref m, .int (i : Int)] H (.bl (decide (M.I.got S.h i < M.I.want i))) :=
  fun H1 e Q q _ => ⟨m, a, M, S, i, _, rfl, X.mono e, Y.mono e, o, hi, so.gt i hi, q⟩
theorem spl_held {H : Hp} {m : Addr} {a : MA} {M : Mkt} {S : Mst} {i : Nat} (X : MIm CM H m a M) (Y : MMu H a S) (o : MOk M) (hi : i < M.rows.length) : SpL (spHeld CM) [.ref m, .int (i : Int)] H ((heldL M S i).map V.str) :=
  fun H1 e Q q _ => ⟨m, a, M, S, i, rfl, X.mono e, Y.mono e, o, hi, fun p H' hp e' h => q p H' hp e' h⟩
/-- the greatest of a list that isn't empty -/
def mxL : List Int → Int
  | [] => 0
  | [a] => a
  | a :: l => if mxL l < a then a else mxL l
theorem mxL_top : ∀ l : List Int, l ≠ [] → mxL l ∈ l ∧ ∀ y ∈ l, y ≤ mxL l
  | [], h => absurd rfl h
  | [a], _ => by simp [mxL]
  | a :: b :: l, _ => by
    obtain ⟨h1, h2⟩ := mxL_top (b :: l) (by simp)
    unfold mxL
    split
    · refine ⟨by simp, fun y hy => ?_⟩
      rcases List.mem_cons.mp hy with e | e
      · omega
      · have := h2 y e; omega
    · refine ⟨List.mem_cons_of_mem _ h1, fun y hy => ?_⟩
      rcases List.mem_cons.mp hy with e | e
      · omega
      · exact h2 y e
def spBack (CM : Addr) : Sp := fun vs H Q _ => ∃ (m : Addr) (a : MA) (M : Mkt) (s : Str → Int) (S : Mst) (i : Nat) (d : Addr) (fd : List (Key × Int)), vs = [.ref m, .int (i : Int), .ref d] ∧ MIm CM H m a M ∧ MMu H a S ∧ MOk M ∧ SOk M s S ∧ Feas M.I s S.h ∧ i < M.rows.length ∧ H d = some (.dK (mI fd)) ∧
  (∀ k ∈ M.sorts, (lkS fd k).isSome = true) ∧ ∀ b H', Ex H H' → Back M.I S.h (fun k => gtI fd (.inr k)) i b → Q (.int b) H'
theorem d_hand_back {f : Addr} {fd : FuncData} (F : Fun K "hand_back" "Market.hand_back" s_Market_hand_back f fd) (T : Txt K mg CA CL CM) (c_Market_worth : MetK P w K mg base 1 CM "worth" (spWorth CM)) (c_Market_has_room : MetK P w K mg base 1 CM "has_room" (spRoom CM))
    (c_Market_held_by : MetK P w K mg base 1 CM "held_by" (spHeld CM)) : FnOk P w K mg base CX0 2 f fd ["self", "at", "found"] (spBack CM) := by
  refine F.ok sc_Market_hand_back (fun vs H Q E h => ?_) (fun cdv A outer s H vs Q E hr h => ?_)
  · obtain ⟨_, _, _, _, _, _, _, _, rfl, _⟩ := h
    rfl
  · obtain ⟨m, a, M, s, S, i, d, fd, rfl, X, Y, o, so, fe, hi, hd, hk, q⟩ := h
    refine ⟨_, (pss_cons (ps_if (pt_val (em c_Market_has_room hr (by decide) (pv 0) (pa_cons (pv 1) pa_nil))) (pss_one (ps_ret pe_int)) pss_nil)
    (pss_one (ps_ret (pe_callB (maxK K rfl rfl) (by rfl) T.g_max boot_max (pa_cons (pe_lc (own := [("kind", 3)]) (g := (gName 3)) (tt := tYes) rfl sc_Market_hand_back.nd (listK K rfl (em c_Market_held_by hr (by decide) (pv 0) (pa_cons (pv 1) pa_nil))) (blkOk_by (own := [("kind", 3)]) (N := ["self", "at", "found", "kind"]) (sc := defScope s_Market_hand_back) (by decide +kernel)) (fun _ _ _ _ _ => (pg_name (i := 3) sc_Market_hand_back.nd rfl (by first | exact Or.inl rfl | exact Or.inr rfl))) (fun _ _ _ _ _ => pts_nil) (fun _ _ _ _ _ => (pe_op op_sub (pe_dget (hu_of hr) (pv 2) (pv 3) (fun _ _ => rfl)) (em c_Market_worth hr (by decide) (pv 0) (pa_cons (pv 1) (pa_cons (pv 3) pa_nil)))))) pa_nil))))), ?_⟩
    refine q_when (b := decide (M.I.got S.h i < M.I.want i)) (et_B (ev_meth (ev_var rfl) X.ins rfl (ea1 (ev_var rfl)) (spv_room X Y o so hi))) (fun hb H1 e1 => ?_) (fun hb H1 e1 => ?_)
    · exact s_ret ev_c fun H2 e2 => q 0 H2 (e1.trans e2) ⟨fun _ => rfl, fun z => absurd (of_decide_eq_true hb) z⟩
    · have hb' := of_decide_eq_false hb
      have hne : heldL M S i ≠ [] := by
        have w1 := o.ok.want1 i hi
        have r1 := fe.row i hi
        obtain ⟨k, hk, hy⟩ := sm_pos_ex (l := M.I.fits i) (f := S.h i) (by show 0 < M.I.got S.h i; omega)
        intro z
        have := (mem_held (M := M) so (i := i) (k := k)).mpr hy
        rw [z] at this
        simp at this
      have hl := o.fw i hi
      have hlen : (heldL M S i).length ≤ 6 := Nat.le_trans (List.length_filter_le _ _) hl
      obtain ⟨top1, top2⟩ := mxL_top ((heldL M S i).map fun k => gtI fd (.inr k) - M.I.w i k) (by simpa using hne)
      refine s_ret (v := .int (mxL ((heldL M S i).map fun k => gtI fd (.inr k) - M.I.w i k))) (ev_maxL ?_ top1 top2) fun H2 e2 => q _ H2 (e1.trans e2) ⟨fun z => absurd z hb', fun _ => ⟨fun k hk => ?_, ?_⟩⟩
      · have e := given_map (heldL M S i) (fun _ => true) (fun k => V.int (gtI fd (.inr k) - M.I.w i k)) (f := fun j => true) (v := fun j => .int (gtI fd (.inr ((heldL M S i).getD j default)) - M.I.w i ((heldL M S i).getD j default)))
          fun j k hk => by rw [getD_of hk]; exact ⟨rfl, rfl⟩
        rw [List.filter_eq_self.mpr fun _ _ => rfl] at e
        rw [List.map_map]
        show EvL _ _ _ ((heldL M S i).map fun k => V.int (gtI fd (.inr k) - M.I.w i k))
        rw [← e]
        have hlen2 : (heldL M S i).length = ((heldL M S i).map V.str).length := (List.length_map _).symm
        rw [hlen2]
        refine el_lcNLg _ _ (el_meth (ev_var rfl) (e1 _ _ X.ins) rfl (ea1 (ev_var rfl)) (spl_held (X.mono e1) (Y.mono e1) o hi)) (by rw [List.length_map]; omega) fun j x H2 e2 hx => ?_
        obtain ⟨k, hk', rfl⟩ := get_map hx
        rw [getD_of hk']
        have hm : k ∈ heldL M S i := List.mem_of_getElem? hk'
        have hf : k ∈ (rowAt M i).fits := (List.mem_filter.mp hm).1
        have hsome := hk k ((o.sm k).mpr ⟨i, hi, hf⟩)
        obtain ⟨y, hy⟩ := Option.isSome_iff_exists.mp hsome
        have eg : gtI fd (.inr k) = y := by unfold gtI; rw [show lkI fd (.inr k) = some y from hy]; rfl
        rw [eg]
        exact turnN rfl et_yes fun _ => ev_sub (ev_getS (ev_var rfl) (ev_var rfl) ((e1.trans e2) _ _ hd) hy) (ev_worth (ev_var rfl) (ev_var rfl) (ev_var rfl) (X.mono (e1.trans e2)) o hi hf)
      · exact top2 _ (List.mem_map.mpr ⟨k, (mem_held so).mpr hk, rfl⟩)
      · obtain ⟨k, hk, e⟩ := List.mem_map.mp top1
        exact ⟨k, (mem_held so).mp hk, e.symm⟩
end
end K59
namespace K59
open PySem PySem.Spec L2 Evl
section
variable {P : Program} {w : World} {K : PySem.W.Frag} {mg : Str → Option Value} {base : Heap} {CA CL CM : Addr}
theorem spv_over {H : Hp} {m d : Addr} {a : MA} {M : Mkt} {i : Nat} {fd : List (Key × Int)} (X : MIm CM H m a M) (o : MOk M) (hi : i < M.rows.length) (hd : H d = some (.dK (mI fd))) : SpV (spOver CM) [.ref m, .int (i : Int), .ref d] H (.int (M.I.overP (lkS fd) i)) :=
  fun H1 e Q q _ => ⟨m, a, M, i, d, fd, rfl, X.mono e, o, hi, e _ _ hd, q⟩
/-- the askers' prices -/
def askP (M : Mkt) (fd : List (Key × Int)) : List (Key × Int) := putsI (fun i => .inr (rowAt M i).name) (fun i => M.I.overP (lkS fd) i) M.rows.length
def spPriced (CM : Addr) : Sp := fun vs H Q _ => ∃ (m : Addr) (a : MA) (M : Mkt) (d : Addr) (fd : List (Key × Int)), vs = [.ref m, .ref d] ∧ MIm CM H m a M ∧ MOk M ∧ H d = some (.dK (mI fd)) ∧
  ∀ p e H', H p = none → H e = none → Ex H H' → H' p = some (.tup [.ref d, .ref e]) → H' e = some (.dK (mI (askP M fd))) → Q (.ref p) H'
theorem d_priced {f : Addr} {fd : FuncData} (F : Fun K "priced" "Market.priced" s_Market_priced f fd) (T : Txt K mg CA CL CM) (c_Market_over : MetK P w K mg base 2 CM "over" (spOver CM)) : FnOk P w K mg base CX0 3 f fd ["self", "found"] (spPriced CM) := by
  refine F.ok sc_Market_priced (fun vs H Q E h => ?_) (fun cdv A outer s H vs Q E hr h => ?_)
  · obtain ⟨_, _, _, _, _, rfl, _⟩ := h
    rfl
  · obtain ⟨m, a, M, d, fd, rfl, X, o, hd, q⟩ := h
    refine ⟨_, (pss_one (ps_ret (pe_tup (pa_cons (pv 1) (pa_cons (pe_dc (own := [("at", 2), ("row", 3)]) (g := (gTup K 2 (gCons (gName 2) (gCons (gName 3) gNil)))) (tt := tYes) rfl sc_Market_priced.nd (enumK K rfl (by rfl) T.g_enumerate (pa_cons (fldK K rfl (pv 0)) pa_nil)) (blkOk_by (own := [("at", 2), ("row", 3)]) (N := ["self", "found", "at", "row"]) (sc := defScope s_Market_priced) (by decide +kernel)) (fun _ _ _ _ _ => (tupTK K rfl rfl (pgs_cons (pg_name (i := 2) sc_Market_priced.nd rfl (by first | exact Or.inl rfl | exact Or.inr rfl)) (pgs_cons (pg_name (i := 3) sc_Market_priced.nd rfl (by first | exact Or.inl rfl | exact Or.inr rfl)) pgs_nil)))) (fun _ _ _ _ _ => pts_nil) (fun _ _ _ _ _ => (pe_ix (ixTK K rfl) (pv 3) pe_int (fun _ _ => rfl))) (fun _ _ _ _ _ => (em c_Market_over hr (by decide) (pv 0) (pa_cons (pv 2) (pa_cons (pv 1) pa_nil))))) pa_nil))))), ?_⟩
    obtain ⟨vs, hvs, rel⟩ := X.rows
    show tTup _ _ H Q
    refine ⟨_, rfl, ?_⟩
    have ed := ed_dcE (K := K) (σ := [some (.ref m), some (.ref d), none, none]) (vs := [2, 3]) (g := gTup K 2 (gCons (gName 2) (gCons (gName 3) gNil))) (tl := tFld K (tVar 0) "rows") (tk := tOp (rIxT K) (tVar 3) (tC (.int 0))) (tv := tMeth CM "over" (spOver CM) [] E0 (tVar 0) (tCons (tVar 2) (tCons (tVar 1) tNil)))
      (fun i => .inr (rowAt M i).name) (fun i => M.I.overP (lkS fd) i) (ev_self (ev_var rfl) X T.clM T.nM_rows rfl) (sq_get hvs) (by rw [rel.len]; have := o.few; omega) fun i x p H1 e hx hp => by
        have hi : i < M.rows.length := by rw [← rel.len]; exact (List.getElem?_eq_some_iff.mp hx).1
        obtain ⟨t, f, rfl, h3, h4⟩ := rel.get i x _ hx (rowAt_get hi)
        exact turnD2 hp rfl (ev_ixT (ev_var rfl) ev_c (st_get (e _ _ h3)) (atI_get (i := 0) rfl)) (ev_meth (ev_var rfl) ((X.mono e).ins) rfl (ea2 (ev_var rfl) (ev_var rfl)) (spv_over (X.mono e) o hi (e _ _ hd)))
    refine ed H (Ex.refl H) _ fun e H1 he e1 h1 => ⟨by show 2 ≤ sizeLine; decide, fun p hp => ?_⟩
    refine q p e _ (fresh_back e1 hp) he (e1.trans (Ex.new hp)) upd_same ?_
    rw [upd_ne (ne_of_none h1 hp), h1, rel.len]
    rfl
end
end K59
/-! W6: loops over enumerate and over a locked dict's keys; tables of pairs. -/
namespace K59
open PySem PySem.Spec L2 Evl
section
variable {K : PySem.W.Frag} {σ : L2.St} {H : Hp} {te tk tv tl td : TE} {D : Ends} {tu tz : TS}
theorem forG {J : It} {g : TG} {n : Nat} (Pv : Nat → L2.St → Hp → Prop) (h0 : Pv 0 σ H) (hgo : ∀ i σ' H', i < n → Pv i σ' H' → J.go i H') (hstop : ∀ σ' H', Pv n σ' H' → J.stop n H')
    (hs : ∀ i x σ' H' H2, i < n → Pv i σ' H' → J.yld i H' x H2 → g x σ' H2 fun σ2 H3 => tu { D with nx := Pv (i + 1), ct := Pv (i + 1), bk := D.nx } σ2 H3) (hd : ∀ σ' H', Pv n σ' H' → D.nx σ' H') :
    ∃ W : Nat → Nat → L2.St → Hp → Prop, (∃ m, W 0 m σ H) ∧ ∀ i m σ H, W i m σ H →
      (J.stop i H ∧ D.nx σ H) ∨ (J.go i H ∧ ∃ N : L2.St → Hp → Prop, (∀ σ' H', N σ' H' → ∃ m', m' < m ∧ W (i + 1) m' σ' H') ∧ ∀ x H', J.yld i H x H' → g x σ H' fun σ2 H2 => tu { D with nx := N, ct := N, bk := D.nx } σ2 H2) := by
  refine ⟨fun i m σ' H' => m = n - i ∧ i ≤ n ∧ Pv i σ' H', ⟨n, by simp, Nat.zero_le _, h0⟩, ?_⟩
  rintro i m σ' H' ⟨rfl, hi, p⟩
  by_cases hlt : i < n
  · exact .inr ⟨hgo i σ' H' hlt p, Pv (i + 1), fun σ2 H2 p2 => ⟨n - (i + 1), by omega, rfl, hlt, p2⟩, fun x H2 y => hs i x σ' H' H2 hlt p y⟩
  · have e : i = n := by omega
    subst e
    exact .inl ⟨hstop σ' H' p, hd σ' H' p⟩
theorem s_forE {a : Addr} {xs : List V} {i j : Nat} (h : Ev tl σ H (.ref a)) (hx : SqL K H a xs) (Pv : Nat → L2.St → Hp → Prop) (h0 : ∀ H1, Ex H H1 → Pv 0 σ H1) (hl : ∀ n σ' H', n ≤ xs.length → Pv n σ' H' → SqL K H' a xs)
    (hs : ∀ n x σ' H' p, xs[n]? = some x → Pv n σ' H' → H' p = none → tu { D with nx := Pv (n + 1), ct := Pv (n + 1), bk := D.nx } ((σ'.set i (some (.int (n : Int)))).set j (some x)) (upd H' p (.tup [.int (n : Int), x])))
    (hd : ∀ σ' H', Pv xs.length σ' H' → D.nx σ' H') : tFor (iEnum K (tCons tl tNil)) (gTup K 2 (gCons (gName i) (gCons (gName j) gNil))) tu D σ H :=
  h H (Ex.refl H) _ fun H1 e => ⟨a, xs, rfl, ex_l e hx, forG (n := xs.length) Pv (h0 H1 e) (fun n σ' H' hn p => ⟨xs, xs[n], hl n σ' H' (by omega) p, List.getElem?_eq_getElem hn⟩) (fun σ' H' p => ⟨xs, hl _ σ' H' (Nat.le_refl _) p, Nat.le_refl _⟩)
    (fun n x σ' H' H2 hn p y => by
      obtain ⟨T, x', rfl, hT, rfl, hx'⟩ := y
      exact ⟨T, [.int (n : Int), x'], rfl, st_get upd_same, rfl, _, [x'], rfl, x', [], rfl, rfl, hs n x' σ' H' T (hx' xs (hl n σ' H' (by omega) p)) p hT⟩) hd⟩
theorem q_forE {a : Addr} {xs : List V} {i j : Nat} (h : Ev tl σ H (.ref a)) (hx : SqL K H a xs) (Pv : Nat → L2.St → Hp → Prop) (h0 : ∀ H1, Ex H H1 → Pv 0 σ H1) (hl : ∀ n σ' H', n ≤ xs.length → Pv n σ' H' → SqL K H' a xs)
    (hs : ∀ n x σ' H' p, xs[n]? = some x → Pv n σ' H' → H' p = none → tu { D with nx := Pv (n + 1), ct := Pv (n + 1), bk := tz D } ((σ'.set i (some (.int (n : Int)))).set j (some x)) (upd H' p (.tup [.int (n : Int), x])))
    (hd : ∀ σ' H', Pv xs.length σ' H' → tz D σ' H') : tSeq (tFor (iEnum K (tCons tl tNil)) (gTup K 2 (gCons (gName i) (gCons (gName j) gNil))) tu) tz D σ H :=
  s_forE (D := { D with nx := tz D }) h hx Pv h0 hl hs hd
theorem q_new2 {i j : Nat} (k : ∀ b g H1, H b = none → H g = none → b ≠ g → Ex H H1 → H1 b = some (.dK []) → H1 g = some (.dK []) → tz D ((σ.set i (some (.ref b))).set j (some (.ref g))) H1) :
    tSeq (tAsg (tTup (tCons tDNewK (tCons tDNewK tNil))) (gTup K 2 (gCons (gName i) (gCons (gName j) gNil)))) tz D σ H := by
  intro b hb g hg
  have n1 : b ≠ g := ne_of_none (H := upd H b (.dK [])) upd_same hg
  refine ⟨by show 2 ≤ sizeLine; decide, fun t ht => ⟨t, [.ref b, .ref g], rfl, st_get upd_same, rfl, _, _, rfl, _, _, rfl, rfl, ?_⟩⟩
  have e1 := Ex.new (o := .dK []) hb
  have e2 := Ex.new (o := .dK []) hg
  have e3 := Ex.new (o := .tup [.ref b, .ref g]) ht
  exact k b g _ hb (fresh_back e1 hg) n1 ((e1.trans e2).trans e3) (e3 _ _ (e2 _ _ upd_same)) (e3 _ _ upd_same)
theorem s_forNLn {xs : List V} {j : Nat} (h : EvL tl σ H xs) (Pv : Addr → Nat → L2.St → Hp → Prop) (h0 : ∀ p H1, H p = none → Ex H H1 → H1 p = some (.lst xs) → Pv p 0 σ H1) (hl : ∀ p i σ' H', i ≤ xs.length → Pv p i σ' H' → SqL K H' p xs)
    (hs : ∀ p i x σ' H', xs[i]? = some x → Pv p i σ' H' → tu { D with nx := Pv p (i + 1), ct := Pv p (i + 1), bk := D.nx } (σ'.set j (some x)) H') (hd : ∀ p σ' H', Pv p xs.length σ' H' → D.nx σ' H') : tFor (iList K tl) (gName j) tu D σ H :=
  s_forNL h Pv h0 hl hs hd
theorem s_forTn {a : Addr} {xs : List V} {j : Nat} (h : Ev tl σ H (.ref a)) (hx : SqT K H a xs) (Pv : Nat → L2.St → Hp → Prop) (h0 : ∀ H1, Ex H H1 → Pv 0 σ H1) (hl : ∀ i σ' H', i ≤ xs.length → Pv i σ' H' → SqT K H' a xs)
    (hs : ∀ i x σ' H', xs[i]? = some x → Pv i σ' H' → tu { D with nx := Pv (i + 1), ct := Pv (i + 1), bk := D.nx } (σ'.set j (some x)) H') (hd : ∀ σ' H', Pv xs.length σ' H' → D.nx σ' H') : tFor (iTup K tl) (gName j) tu D σ H :=
  s_forT h hx Pv h0 hl hs hd
theorem q_forTn {a : Addr} {xs : List V} {j : Nat} (h : Ev tl σ H (.ref a)) (hx : SqT K H a xs) (Pv : Nat → L2.St → Hp → Prop) (h0 : ∀ H1, Ex H H1 → Pv 0 σ H1) (hl : ∀ i σ' H', i ≤ xs.length → Pv i σ' H' → SqT K H' a xs)
    (hs : ∀ i x σ' H', xs[i]? = some x → Pv i σ' H' → tu { D with nx := Pv (i + 1), ct := Pv (i + 1), bk := tz D } (σ'.set j (some x)) H') (hd : ∀ σ' H', Pv xs.length σ' H' → tz D σ' H') : tSeq (tFor (iTup K tl) (gName j) tu) tz D σ H :=
  s_forT (D := { D with nx := tz D }) h hx Pv h0 hl hs hd
theorem q_newK {i : Nat} (k : ∀ d H1, H d = none → Ex H H1 → H1 d = some (.dK (mI ([] : List (Key × Int)))) → tz D (σ.set i (some (.ref d))) H1) : tSeq (tAsg tDNewK (gName i)) tz D σ H := fun d hd => k d _ hd (Ex.new hd) upd_same
/-- over the keys of a dict, which is locked meanwhile -/
def EndsK (D : Ends) (d : Addr) (u : HO) (od : Obj) (N : L2.St → Hp → Prop) : Ends := ⟨N, fun v H' => H' d = some (.frz od u) ∧ D.rt v (upd H' d u), fun σ' H' => H' d = some (.frz od u) ∧ D.nx σ' (upd H' d u), N⟩
theorem s_forK {d : Addr} {kvs : List (Key × V)} {j : Nat} (hd0 : H d = some (.dK kvs)) (h : ∀ od, Ev td σ (upd H d (.frz od (.dK kvs))) (.ref d)) (Pv : Obj → Nat → L2.St → Hp → Prop) (h0 : ∀ od H1, Ex (upd H d (.frz od (.dK kvs))) H1 → Pv od 0 σ H1)
    (hl : ∀ od n σ' H', n ≤ kvs.length → Pv od n σ' H' → H' d = some (.frz od (.dK kvs)))
    (hs : ∀ od n k x σ' H', kvs[n]? = some (k, x) → Pv od n σ' H' → tu (EndsK D d (.dK kvs) od (Pv od (n + 1))) (σ'.set j (some (kV k))) H')
    (hd : ∀ od σ' H', Pv od kvs.length σ' H' → D.nx σ' (upd H' d (.dK kvs))) : tLock (tFor (iKeys td) (gName j) tu) D σ H :=
  ⟨d, .dK kvs, hd0, True.intro, fun od => h od _ (Ex.refl _) _ fun H1 e1 => ⟨d, od, rfl, .inl ⟨kvs, e1 _ _ upd_same, forG (J := Itk d od kvs) (D := ⟨fun σ' H' => H' d = some (.frz od (.dK kvs)) ∧ D.nx σ' (upd H' d (.dK kvs)), fun v H' => H' d = some (.frz od (.dK kvs)) ∧ D.rt v (upd H' d (.dK kvs)), _, _⟩) (g := gName j) (tu := tu) (n := kvs.length) (Pv od) (h0 od H1 e1)
    (fun n σ' H' hn p => ⟨hl od n σ' H' (by omega) p, hn⟩) (fun σ' H' p => ⟨hl od _ σ' H' (Nat.le_refl _) p, Nat.le_refl _⟩)
    (fun n x σ' H' H2 hn p y => by
      obtain ⟨rfl, k, v, hk, rfl⟩ := y
      exact hs od n k v σ' _ hk p) fun σ' H' p => ⟨hl od _ σ' H' (Nat.le_refl _) p, hd od σ' H' p⟩⟩⟩⟩
theorem q_forK {d : Addr} {kvs : List (Key × V)} {j : Nat} (hd0 : H d = some (.dK kvs)) (h : ∀ od, Ev td σ (upd H d (.frz od (.dK kvs))) (.ref d)) (Pv : Obj → Nat → L2.St → Hp → Prop) (h0 : ∀ od H1, Ex (upd H d (.frz od (.dK kvs))) H1 → Pv od 0 σ H1)
    (hl : ∀ od n σ' H', n ≤ kvs.length → Pv od n σ' H' → H' d = some (.frz od (.dK kvs)))
    (hs : ∀ od n k x σ' H', kvs[n]? = some (k, x) → Pv od n σ' H' → tu (EndsK { D with nx := tz D } d (.dK kvs) od (Pv od (n + 1))) (σ'.set j (some (kV k))) H')
    (hd : ∀ od σ' H', Pv od kvs.length σ' H' → tz D σ' (upd H' d (.dK kvs))) : tSeq (tLock (tFor (iKeys td) (gName j) tu)) tz D σ H :=
  s_forK (D := { D with nx := tz D }) hd0 h Pv h0 hl hs hd
end
/-! ### keys of putK -/
section
variable {κ : Type} [DecidableEq κ]
theorem mem_keysV {l : List (κ × V)} {k : κ} : k ∈ l.map (·.1) ↔ (valV l k).isSome = true := by
  rw [← valV_any, List.any_eq_true]
  constructor
  · intro h
    obtain ⟨x, hx, e⟩ := List.mem_map.mp h
    exact ⟨x, hx, decide_eq_true e⟩
  · rintro ⟨x, hx, e⟩
    exact List.mem_map.mpr ⟨x, hx, of_decide_eq_true e⟩
theorem keys_putV (l : List (κ × V)) (k : κ) (v : V) (j : κ) : j ∈ (putK l k v).map (·.1) ↔ j = k ∨ j ∈ l.map (·.1) := by
  rw [mem_keysV, mem_keysV, valV_put]
  by_cases e : j = k <;> simp [e]
theorem nodup_putV {l : List (κ × V)} (hn : (l.map (·.1)).Nodup) (k : κ) (v : V) : ((putK l k v).map (·.1)).Nodup := by
  unfold putK
  split
  · rw [List.map_map]
    have e : (l.map ((fun x : κ × V => x.1) ∘ fun x => if x.1 = k then (x.1, v) else x)) = l.map (·.1) := List.map_congr_left fun x _ => by
      show (if x.1 = k then (x.1, v) else x).1 = x.1
      split <;> rfl
    rw [e]
    exact hn
  · rename_i h
    rw [List.map_append]
    refine nd_snoc hn fun m => h ?_
    obtain ⟨x, hx, e⟩ := List.mem_map.mp m
    exact List.any_eq_true.mpr ⟨x, hx, decide_eq_true e⟩
end
/-! ### a table whose values are tuples -/
structure Tab {ι α : Type} (kf : ι → Key) (enc : α → List V) (S : List ι) (H : Hp) (kvs : List (Key × V)) (F : ι → Option α) : Prop where
  nd : (kvs.map (·.1)).Nodup
  ks : ∀ x ∈ kvs.map (·.1), ∃ k ∈ S, x = kf k
  no : ∀ k, F k = none → valV kvs (kf k) = none
  so : ∀ k a, F k = some a → ∃ t, valV kvs (kf k) = some (.ref t) ∧ H t = some (.tup (enc a))
section
variable {ι α : Type} [DecidableEq ι] {kf : ι → Key} {enc : α → List V} {S : List ι} {H H' : Hp} {kvs : List (Key × V)} {F : ι → Option α}
theorem Tab.mono (t : Tab kf enc S H kvs F) (e : Ex H H') : Tab kf enc S H' kvs F := ⟨t.nd, t.ks, t.no, fun k a h => let ⟨p, h1, h2⟩ := t.so k a h; ⟨p, h1, e _ _ h2⟩⟩
theorem Tab.nil : Tab kf enc S H [] (fun _ => none) := ⟨List.nodup_nil, fun x h => by simp at h, fun _ _ => rfl, fun _ _ h => nomatch h⟩
theorem Tab.put (t : Tab kf enc S H kvs F) (hi : ∀ i j, kf i = kf j → i = j) {k : ι} {a : α} {p : Addr} (hk : k ∈ S) (hp : H p = some (.tup (enc a))) : Tab kf enc S H (putK kvs (kf k) (.ref p)) (fun j => if j = k then some a else F j) := by
  refine ⟨nodup_putV t.nd _ _, fun x hx => ?_, fun j hj => ?_, fun j b hj => ?_⟩
  · rcases (keys_putV _ _ _ _).mp hx with e | e
    · exact ⟨k, hk, e⟩
    · exact t.ks x e
  · rw [valV_put]
    by_cases e : j = k
    · rw [if_pos e] at hj; cases hj
    · rw [if_neg e] at hj
      rw [if_neg fun z => e (hi _ _ z)]
      exact t.no j hj
  · rw [valV_put]
    by_cases e : j = k
    · rw [if_pos e] at hj
      cases hj
      exact ⟨p, if_pos (by rw [e]), hp⟩
    · rw [if_neg e] at hj
      rw [if_neg fun z => e (hi _ _ z)]
      exact t.so j b hj
theorem Tab.len (t : Tab kf enc S H kvs F) : kvs.length ≤ S.length := by
  have h := len_le_of_sub (l := kvs.map (·.1)) (r := S.map kf) t.nd fun x hx => by
    obtain ⟨k, hk, e⟩ := t.ks x hx
    exact List.mem_map.mpr ⟨k, hk, e.symm⟩
  rwa [List.length_map, List.length_map] at h
theorem Tab.isSome (t : Tab kf enc S H kvs F) (k : ι) : (valV kvs (kf k)).isSome = (F k).isSome := by
  cases e : F k with
  | none => rw [t.no k e]; rfl
  | some a =>
    obtain ⟨p, h, _⟩ := t.so k a e
    rw [h]; rfl
/-- the key at a place -/
theorem Tab.key (t : Tab kf enc S H kvs F) {n : Nat} {x : Key} {v : V} (h : kvs[n]? = some (x, v)) : ∃ k a, k ∈ S ∧ x = kf k ∧ F k = some a := by
  have hm : x ∈ kvs.map (·.1) := List.mem_map.mpr ⟨_, List.mem_of_getElem? h, rfl⟩
  obtain ⟨k, hk, e⟩ := t.ks x hm
  subst e
  have := t.isSome k
  rw [mem_keysV.mp hm] at this
  obtain ⟨a, ha⟩ := Option.isSome_iff_exists.mp this.symm
  exact ⟨k, a, hk, rfl, ha⟩
theorem Tab.place (t : Tab kf enc S H kvs F) {k : ι} {a : α} (h : F k = some a) : ∃ (n : Nat) (v : V), kvs[n]? = some (kf k, v) := by
  have hm : kf k ∈ kvs.map (·.1) := mem_keysV.mpr (by rw [t.isSome k, h]; rfl)
  obtain ⟨x, hx, e⟩ := List.mem_map.mp hm
  obtain ⟨n, hn⟩ := List.getElem?_of_mem hx
  exact ⟨n, x.2, by rw [hn, ← e]⟩
end
theorem Tab.upd {ι α : Type} {kf : ι → Key} {enc : α → List V} {S : List ι} {H : Hp} {kvs : List (Key × V)} {F : ι → Option α} (t : Tab kf enc S H kvs F) {b : Addr} {o u : HO} (hb : H b = some u) (hu : ∀ xs, u ≠ .tup xs) : Tab kf enc S (upd H b o) kvs F :=
  ⟨t.nd, t.ks, t.no, fun k a h => let ⟨p, h1, h2⟩ := t.so k a h; ⟨p, h1, by rw [upd_ne fun z => by subst z; rw [hb] at h2; exact hu _ (Option.some.inj h2)]; exact h2⟩⟩
def kB (k : Str) : Key := .inr k
def kG (i : Nat) : Key := .inl (i : Int)
theorem kB_inj (i j : Str) (h : kB i = kB j) : i = j := Sum.inr.inj h
theorem kG_inj (i j : Nat) (h : kG i = kG j) : i = j := by
  have := Sum.inl.inj h
  omega
def optV : Option Nat → V
  | none => .non
  | some i => .int (i : Int)
def eB (x : Int × Option Nat) : List V := [.int x.1, optV x.2]
def eG (x : Int × Str) : List V := [.int x.1, .str x.2]
abbrev TabB (M : Mkt) := Tab kB eB M.sorts
abbrev TabG (M : Mkt) := Tab kG eG (List.range M.rows.length)
section
variable {K : PySem.W.Frag} {σ : L2.St} {H : Hp} {td ty ta : TE} {M : Mkt}
/-- bags[k][0] -/
theorem ev_bag {b : Addr} {kvs : List (Key × V)} {B : Bags Str} {k : Str} {x : Int × Option Nat} {n : Int} {v : V} (hd : Ev td σ H (.ref b)) (hy : Ev ty σ H (.str k)) (ha : Ev ta σ H (.int n)) (hb : ∀ H1, Ex H H1 → DGet H1 b (.str k) (valV kvs (.inr k))) (t : TabB M H kvs B) (e : B k = some x) (hv : atI (eB x) n = some v) :
    Ev (tOp (rIxT K) (tDGet td ty) ta) σ H v := by
  obtain ⟨p, h1, h2⟩ := t.so k x e
  refine ev_ixT (ev_dget hd hy fun H1 e1 => ?_) ha (st_get h2) hv
  have := hb H1 e1
  rw [show valV kvs (.inr k) = _ from h1] at this
  exact this
theorem ev_gain {b : Addr} {kvs : List (Key × V)} {G : Gains Str} {i : Nat} {x : Int × Str} {n : Int} {v : V} (hd : Ev td σ H (.ref b)) (hy : Ev ty σ H (.int (i : Int))) (ha : Ev ta σ H (.int n)) (hb : ∀ H1, Ex H H1 → DGet H1 b (.int (i : Int)) (valV kvs (.inl (i : Int)))) (t : TabG M H kvs G) (e : G i = some x) (hv : atI (eG x) n = some v) :
    Ev (tOp (rIxT K) (tDGet td ty) ta) σ H v := by
  obtain ⟨p, h1, h2⟩ := t.so i x e
  refine ev_ixT (ev_dget hd hy fun H1 e1 => ?_) ha (st_get h2) hv
  have := hb H1 e1
  rw [show valV kvs (.inl (i : Int)) = _ from h1] at this
  exact this
end
end K59
namespace K59
open PySem PySem.Spec L2 Evl
section
variable {P : Program} {w : World} {K : PySem.W.Frag} {mg : Str → Option Value} {base : Heap} {CA CL CM : Addr}
theorem ev_step {σ : L2.St} {H : Hp} {ta : TE} {w : Int} (T : Txt K mg CA CL CM) (h : Ev ta σ H (.int w)) : Ev (tOp (rI CMul fun i j => .int (i * j)) (tC (.int 1000)) ta) σ H (.int (1000 * w)) := ev_mul ev_c h (.inl ⟨by decide, by decide⟩)
structure WInv (m b g : Addr) (H0 : Hp) (M : Mkt) (s : Str → Int) (S : Mst) (p : Str → Int) (q : Nat → Int) (gO : List (Key × V) → HO) (B0 : Bags Str) (G0 : Gains Str) (x5 x6 : Option V) (tn : Bool) (B : Bags Str) (G : Gains Str) (kg : List (Key × V)) (σ : L2.St) (H : Hp) : Prop where
  sl : ∃ x3 x7, σ = [some (.ref m), some (.ref b), some (.ref g), x3, some (.bl tn), x5, x6, x7]
  ex : Ex H0 H
  hb : ∃ kb, H b = some (.dK kb) ∧ TabB M H kb B
  hg : H g = some (gO kg) ∧ TabG M H kg G
  lab : Lab M.I s S.h p q B G
  le : mu M.I p q B G ≤ mu M.I p q B0 G0
  lt : tn = true → mu M.I p q B G < mu M.I p q B0 G0
  same : tn = false → B = B0 ∧ G = G0
theorem WInv.mono {m b g : Addr} {H0 : Hp} {M : Mkt} {s : Str → Int} {S : Mst} {p : Str → Int} {q : Nat → Int} {gO : List (Key × V) → HO} {B0 : Bags Str} {G0 : Gains Str} {x5 x6 : Option V} {tn : Bool} {B : Bags Str} {G : Gains Str} {kg : List (Key × V)} {σ : L2.St} {H H' : Hp}
    (h : WInv m b g H0 M s S p q gO B0 G0 x5 x6 tn B G kg σ H) (e : Ex H H') : WInv m b g H0 M s S p q gO B0 G0 x5 x6 tn B G kg σ H' :=
  ⟨h.sl, h.ex.trans e, let ⟨kb, h1, h2⟩ := h.hb; ⟨kb, e _ _ h1, h2.mono e⟩, ⟨e _ _ h.hg.1, h.hg.2.mono e⟩, h.lab, h.le, h.lt, h.same⟩
section
variable {m b g : Addr} {H0 : Hp} {M : Mkt} {s : Str → Int} {S : Mst} {p : Str → Int} {q : Nat → Int} {gO : List (Key × V) → HO} {B0 : Bags Str} {G0 : Gains Str} {x5 x6 : Option V} {tn : Bool} {B : Bags Str} {G : Gains Str} {kg : List (Key × V)} {σ : L2.St} {H : Hp}
theorem WInv.slots (h : WInv m b g H0 M s S p q gO B0 G0 x5 x6 tn B G kg σ H) {σ' : L2.St} {y5 y6 : Option V} (hs : ∃ x3 x7, σ' = [some (.ref m), some (.ref b), some (.ref g), x3, some (.bl tn), y5, y6, x7]) : WInv m b g H0 M s S p q gO B0 G0 y5 y6 tn B G kg σ' H :=
  ⟨hs, h.ex, h.hb, h.hg, h.lab, h.le, h.lt, h.same⟩
theorem WInv.putG (h : WInv m b g H0 M s S p q .dK B0 G0 x5 x6 tn B G kg σ H) (h0 : H0 g = none) (hn : b ≠ g) {i : Nat} {x : Int × Str} {t : Addr} (hi : i < M.rows.length) (ht : H t = some (.tup (eG x))) (l : Lab M.I s S.h p q B (upG G i x) ∧ mu M.I p q B (upG G i x) < mu M.I p q B G) :
    WInv m b g H0 M s S p q .dK B0 G0 x5 x6 true B (upG G i x) (putK kg (kG i) (.ref t)) (σ.set 4 (some (.bl true))) (upd H g (.dK (putK kg (kG i) (.ref t)))) := by
  obtain ⟨⟨x3, x7, rfl⟩, ex, ⟨kb, hb, tb⟩, ⟨hg, tg⟩, lab, le, lt, same⟩ := h
  refine ⟨⟨x3, x7, rfl⟩, Ex.mut ex h0, ⟨kb, by rw [upd_ne hn]; exact hb, tb.upd hg fun _ z => nomatch z⟩, ⟨upd_same, (tg.put kG_inj (List.mem_range.mpr hi) ht).upd hg fun _ z => nomatch z⟩, l.1, by omega, fun _ => by omega, fun z => nomatch z⟩
theorem WInv.putB {od : Obj} (h : WInv m b g H0 M s S p q (.frz od ∘ .dK) B0 G0 x5 x6 tn B G kg σ H) (h0 : H0 b = none) (hn : b ≠ g) {k : Str} {x : Int × Option Nat} {t : Addr} {kb : List (Key × V)} (hkb : H b = some (.dK kb)) (hk : k ∈ M.sorts) (ht : H t = some (.tup (eB x))) (l : Lab M.I s S.h p q (upB B k x) G ∧ mu M.I p q (upB B k x) G < mu M.I p q B G) :
    WInv m b g H0 M s S p q (.frz od ∘ .dK) B0 G0 x5 x6 true (upB B k x) G kg (σ.set 4 (some (.bl true))) (upd H b (.dK (putK kb (kB k) (.ref t)))) := by
  obtain ⟨⟨x3, x7, rfl⟩, ex, ⟨kb', hb, tb⟩, ⟨hg, tg⟩, lab, le, lt, same⟩ := h
  rw [hkb] at hb
  cases hb
  refine ⟨⟨x3, x7, rfl⟩, Ex.mut ex h0, ⟨_, upd_same, (tb.put kB_inj hk ht).upd hkb fun _ z => nomatch z⟩, ⟨by rw [upd_ne hn.symm]; exact hg, tg.upd hkb fun _ z => nomatch z⟩, l.1, by omega, fun _ => by omega, fun z => nomatch z⟩
end
def need {α : Type} (o : Option (Int × α)) (v : Int) : Bool := match o with
  | none => true
  | some y => decide (y.1 < v)
theorem need_true {α : Type} {o : Option (Int × α)} {v : Int} (h : need o v = true) : ∀ g k, o = some (g, k) → g < v := fun g k e => by
  subst e; exact of_decide_eq_true h
theorem need_false {α : Type} {o : Option (Int × α)} {v : Int} (h : need o v = false) : ∃ g k, o = some (g, k) ∧ v ≤ g := by
  cases o with
  | none => cases h
  | some y => exact ⟨y.1, y.2, rfl, by have := of_decide_eq_false h; omega⟩
theorem et_need {α : Type} {σ : L2.St} {H : Hp} {tn tc : TE} {o : Option (Int × α)} {v : Int} (h1 : Ev tn σ H (.bl (!o.isSome))) (h2 : ∀ y, o = some y → Ev tc σ H (.bl (decide (y.1 < v)))) : EvT (tOr (tB tn) (tTest tc)) σ H (need o v) := by
  cases o with
  | none => exact et_or (a := true) (b := true) (et_B h1) fun z => nomatch z
  | some y => exact et_or (a := false) (b := decide (y.1 < v)) (et_B h1) fun _ => et_test (h2 y rfl)
theorem ifc {α : Type} {a b : Prop} [Decidable a] [Decidable b] {x y : α} (h : a ↔ b) : (if a then x else y) = if b then x else y := by by_cases z : a <;> simp [z, h.symm, ← h]
def spWays (CM : Addr) : Sp := fun vs H Q _ => ∃ (m : Addr) (a : MA) (M : Mkt) (s : Str → Int) (S : Mst) (p : Str → Int) (q : Nat → Int) (lam : Int), vs = [.ref m] ∧ MIm CM H m a M ∧ MMu H a S ∧ MOk M ∧ SOk M s S ∧ SV M.I s S.h p q lam ∧
  ∀ t b g kb kg B G H', H t = none → H b = none → H g = none → Ex H H' → H' t = some (.tup [.ref b, .ref g]) → H' b = some (.dK kb) → TabB M H' kb B → H' g = some (.dK kg) → TabG M H' kg G → Lab M.I s S.h p q B G → Fix M.I S.h B G → Q (.ref t) H'
theorem d_ways {f : Addr} {fd : FuncData} (F : Fun K "ways" "Market.ways" s_Market_ways f fd) (T : Txt K mg CA CL CM) (c_Market_worth : MetK P w K mg base 1 CM "worth" (spWorth CM))
    (c_Market_held_by : MetK P w K mg base 1 CM "held_by" (spHeld CM)) : FnOk P w K mg base CX0 2 f fd ["self"] (spWays CM) := by
  refine F.ok sc_Market_ways (fun vs H Q E h => ?_) (fun cdv A outer s H vs Q E hr h => ?_)
  · obtain ⟨_, _, _, _, _, _, _, _, rfl, _⟩ := h
    rfl
  · obtain ⟨m, a, M, s, S, p, q, lam, rfl, X, Y, o, so, sv, q9⟩ := h
    refine ⟨_, (pss_cons (ps_asg (pe_tup (pa_cons pe_dnewK (pa_cons pe_dnewK pa_nil))) (tupTK K rfl rfl (pgs_cons (pg_name (i := 1) sc_Market_ways.nd rfl (by first | exact Or.inl rfl | exact Or.inr rfl)) (pgs_cons (pg_name (i := 2) sc_Market_ways.nd rfl (by first | exact Or.inl rfl | exact Or.inr rfl)) pgs_nil))))
    (pss_cons (ps_for PassesOwn.never rfl (listK K rfl (fldK K rfl (pv 0))) (pg_name (i := 3) sc_Market_ways.nd rfl (by first | exact Or.inl rfl | exact Or.inr rfl))
    (pss_one (ps_if (pt_cmpR op_gt (pe_dget (hu_of hr) (fldK K rfl (pv 0)) (pv 3) (fun _ _ => rfl)) pe_int (nomark _)) (pss_one (ps_dput (hu_of hr) (pv 1) (pv 3) (pe_tup (pa_cons pe_int (pa_cons pe_non pa_nil))) rfl)) pss_nil)))
    (pss_cons (ps_set (i := 4) sc_Market_ways.nd rfl (Or.inl rfl) pe_bl)
    (pss_cons (ps_while PassesOwn.never (pt_val (pv 4))
    (pss_cons (ps_set (i := 4) sc_Market_ways.nd rfl (Or.inl rfl) pe_bl)
    (pss_cons (ps_for PassesOwn.never rfl (enumK K rfl (by rfl) T.g_enumerate (pa_cons (fldK K rfl (pv 0)) pa_nil)) (tupTK K rfl rfl (pgs_cons (pg_name (i := 5) sc_Market_ways.nd rfl (by first | exact Or.inl rfl | exact Or.inr rfl)) (pgs_cons (pg_name (i := 6) sc_Market_ways.nd rfl (by first | exact Or.inl rfl | exact Or.inr rfl)) pgs_nil)))
    (pss_one (ps_for PassesOwn.never rfl (listK K rfl (pe_lc (own := [("kind", 3)]) (g := (gName 3)) rfl sc_Market_ways.nd (tupK K rfl (pe_ix (ixTK K rfl) (pv 6) pe_int (fun _ _ => rfl))) (blkOk_by (own := [("kind", 3)]) (N := ["self", "bags", "gains", "kind", "turned", "at", "row", "gain"]) (sc := defScope s_Market_ways) (by decide +kernel)) (fun _ _ _ _ _ => (pg_name (i := 3) sc_Market_ways.nd rfl (by first | exact Or.inl rfl | exact Or.inr rfl))) (fun _ _ _ _ _ => (pts_one (pt_cmp (pc_din (hu_of hr) (pv 3) (pv 1))))) (fun _ _ _ _ _ => (pv 3)))) (pg_name (i := 3) sc_Market_ways.nd rfl (by first | exact Or.inl rfl | exact Or.inr rfl))
    (pss_cons (ps_set (i := 7) sc_Market_ways.nd rfl (Or.inl rfl) (pe_op op_sub (pe_op op_add (pe_ix (ixTK K rfl) (pe_dget (hu_of hr) (pv 1) (pv 3) (fun _ _ => rfl)) pe_int (fun _ _ => rfl)) (pe_op op_mul (eg rfl T.g_STEP) (em c_Market_worth hr (by decide) (pv 0) (pa_cons (pv 5) (pa_cons (pv 3) pa_nil))))) pe_int))
    (pss_one (ps_if (PW.pt (pw_or (pt_cmp (pc_dnotin (hu_of hr) (pv 5) (pv 2))) (pw_or1 (pt_cmpR op_gt (pv 7) (pe_ix (ixTK K rfl) (pe_dget (hu_of hr) (pv 2) (pv 5) (fun _ _ => rfl)) pe_int (fun _ _ => rfl)) (nomark _))))) (pss_cons (ps_dput (hu_of hr) (pv 2) (pv 5) (pe_tup (pa_cons (pv 7) (pa_cons (pv 3) pa_nil))) rfl)
    (pss_one (ps_set (i := 4) sc_Market_ways.nd rfl (Or.inl rfl) pe_bl))) pss_nil))))))
    (pss_one (ps_lock (ps_for PassesOwn.never rfl (pi_keys (pv 2)) (pg_name (i := 5) sc_Market_ways.nd rfl (by first | exact Or.inl rfl | exact Or.inr rfl))
    (pss_one (ps_for PassesOwn.never rfl (listK K rfl (em c_Market_held_by hr (by decide) (pv 0) (pa_cons (pv 5) pa_nil))) (pg_name (i := 3) sc_Market_ways.nd rfl (by first | exact Or.inl rfl | exact Or.inr rfl))
    (pss_cons (ps_set (i := 7) sc_Market_ways.nd rfl (Or.inl rfl) (pe_op op_sub (pe_op op_sub (pe_ix (ixTK K rfl) (pe_dget (hu_of hr) (pv 2) (pv 5) (fun _ _ => rfl)) pe_int (fun _ _ => rfl)) (pe_op op_mul (eg rfl T.g_STEP) (em c_Market_worth hr (by decide) (pv 0) (pa_cons (pv 5) (pa_cons (pv 3) pa_nil))))) pe_int))
    (pss_one (ps_if (PW.pt (pw_or (pt_cmp (pc_dnotin (hu_of hr) (pv 3) (pv 1))) (pw_or1 (pt_cmpR op_gt (pv 7) (pe_ix (ixTK K rfl) (pe_dget (hu_of hr) (pv 1) (pv 3) (fun _ _ => rfl)) pe_int (fun _ _ => rfl)) (nomark _))))) (pss_cons (ps_dput (hu_of hr) (pv 1) (pv 3) (pe_tup (pa_cons (pv 7) (pa_cons (pv 5) pa_nil))) rfl)
    (pss_one (ps_set (i := 4) sc_Market_ways.nd rfl (Or.inl rfl) pe_bl))) pss_nil)))))))))))
    (pss_one (ps_ret (pe_tup (pa_cons (pv 1) (pa_cons (pv 2) pa_nil))))))))), ?_⟩
    have hK : ∀ i, i < M.rows.length → ∀ k ∈ (rowAt M i).fits, k ∈ M.sorts := fun i hi k hk => (o.sm k).mpr ⟨i, hi, hk⟩
    refine q_new2 fun b g H1 hb hg hbg e1 h1 h2 => ?_
    refine q_forLn (a := a.aso) (xs := M.sorts.map V.str) (ev_self (ev_var rfl) (X.mono e1) T.clM T.nM_sorts rfl) (sq_get (e1 _ _ X.sorts))
      (fun n σ' H' => (∃ x3, σ' = [some (.ref m), some (.ref b), some (.ref g), x3, none, none, none, none]) ∧ Ex H H' ∧ H' g = some (.dK []) ∧ ∃ kb, H' b = some (.dK kb) ∧ TabB M H' kb (fun k => if k ∈ M.sorts.take n ∧ M.I.used S.h k < s k then some (0, none) else none))
      (fun H4 e4 => ⟨⟨none, rfl⟩, e1.trans e4, e4 _ _ h2, [], e4 _ _ h1, ?_⟩) (fun n σ' H' _ h => sq_get (h.2.1 _ _ X.sorts)) (fun n x σ' H' hx h => ?_) (fun σ' H' h => ?_)
    · have : (fun k => if k ∈ M.sorts.take 0 ∧ M.I.used S.h k < s k then some ((0 : Int), (none : Option Nat)) else none) = fun _ => none := funext fun k => if_neg (by simp)
      rw [this]
      exact Tab.nil
    · obtain ⟨⟨x3, rfl⟩, ex, hg', kb, hb', tb⟩ := h
      obtain ⟨k, hk, rfl⟩ := get_map hx
      have hkm : k ∈ M.sorts := List.mem_of_getElem? hk
      have htk : ∀ j, j ∈ M.sorts.take (n + 1) ↔ j ∈ M.sorts.take n ∨ j = k := fun j => by
        rw [List.take_add_one, hk, List.mem_append]
        simp
      refine s_when (b := decide (0 < s k - M.I.used S.h k)) (et_B (ev_gt (ev_getS (ev_self (ev_var rfl) (X.mono ex) T.clM T.nM_free rfl) (ev_var rfl) (ex _ _ Y.free) (so.fk k hkm)) ev_c)) (fun hd H4 e4 => ?_) (fun hd H4 e4 => ?_)
      · have hd := of_decide_eq_true hd
        refine s_putU (k := .inr k) (xs := eB (0, none)) (eu2 ev_c ev_c) (ev_var rfl) (ev_var rfl) (e4 _ _ hb') (by have := tb.len; have := o.sf; omega) fun pt H5 hp e5 h5 => ?_
        refine ⟨⟨_, rfl⟩, Ex.mut ((ex.trans e4).trans e5) hb, ?_, _, upd_same, ?_⟩
        · rw [upd_ne hbg.symm]; exact e5 _ _ (e4 _ _ hg')
        · have t2 := (((tb.mono (e4.trans e5)).put kB_inj hkm h5).upd (o := .dK (putK kb (.inr k) (.ref pt))) (e5 _ _ (e4 _ _ hb')) (fun _ z => nomatch z))
          have e : (fun j => if j ∈ M.sorts.take (n + 1) ∧ M.I.used S.h j < s j then some ((0 : Int), (none : Option Nat)) else none) = fun j => if j = k then some (0, none) else if j ∈ M.sorts.take n ∧ M.I.used S.h j < s j then some (0, none) else none := funext fun j => by
            by_cases ej : j = k
            · subst ej
              rw [if_pos rfl, if_pos ⟨(htk j).mpr (.inr rfl), by omega⟩]
            · rw [if_neg ej]
              refine ifc ?_
              rw [htk]
              simp [ej]
          rw [e]
          exact t2
      · have hd := of_decide_eq_false hd
        refine ⟨⟨_, rfl⟩, ex.trans e4, e4 _ _ hg', kb, e4 _ _ hb', ?_⟩
        have e : (fun j => if j ∈ M.sorts.take (n + 1) ∧ M.I.used S.h j < s j then some ((0 : Int), (none : Option Nat)) else none) = fun j => if j ∈ M.sorts.take n ∧ M.I.used S.h j < s j then some (0, none) else none := funext fun j => by
          refine ifc ?_
          rw [htk]
          constructor
          · rintro ⟨h | h, h2⟩
            · exact ⟨h, h2⟩
            · subst h; omega
          · rintro ⟨h, h2⟩
            exact ⟨.inl h, h2⟩
        rw [e]
        exact tb.mono e4
    · obtain ⟨⟨x3, rfl⟩, ex, hg', kb, hb', tb⟩ := h
      rw [List.length_map, List.take_length] at tb
      refine q_asg (v := .bl true) ev_c fun H4 e4 => ?_
      refine q_while (fun n σ' H' => ∃ tn B G kg x5 x6 σ0, WInv m b g H M s S p q .dK B G x5 x6 false B G kg σ0 H' ∧ σ' = σ0.set 4 (some (.bl tn)) ∧ (tn = false → Fix M.I S.h B G) ∧ n = 2 * (mu M.I p q B G).toNat + (if tn = true then 1 else 0)) _
        ⟨true, _, _, [], none, none, _, ⟨⟨x3, none, rfl⟩, ex.trans e4, ⟨kb, e4 _ _ hb', tb.mono e4⟩, ⟨e4 _ _ hg', Tab.nil⟩, lab_start sv, Int.le_refl _, fun z => (nomatch z), fun _ => ⟨rfl, rfl⟩⟩, rfl, fun z => (nomatch z), rfl⟩ fun n σ' H' hw => ?_
      obtain ⟨tn0, B0, G0, kg0, x5, x6, σ0, w0, rfl, hfx, hn⟩ := hw
      obtain ⟨z3, z7, rfl⟩ := w0.sl
      refine ⟨tn0, et_B (ev_var rfl), fun htn H5 e5 => ⟨fun σ2 H2 => ∃ tn B G kg x5 x6, WInv m b g H M s S p q .dK B0 G0 x5 x6 tn B G kg σ2 H2 ∧ (tn = false → Fix M.I S.h B0 G0), fun σ2 H2 h => ?_, ?_⟩, fun htn H5 e5 => ?_⟩
      · obtain ⟨tn, B, G, kg, y5, y6, w2, hx⟩ := h
        obtain ⟨⟨z3, z7, rfl⟩, k2, k3, k4, k5, k6, k7, k8⟩ := w2
        refine ⟨_, ?_, tn, B, G, kg, y5, y6, _, ⟨⟨z3, z7, rfl⟩, k2, k3, k4, k5, Int.le_refl _, fun z => (nomatch z), fun _ => ⟨rfl, rfl⟩⟩, rfl, fun z => ?_, rfl⟩
        · have := mu_nn k5
          cases tn with
          | false => rw [(k8 rfl).1, (k8 rfl).2, hn, htn]; simp
          | true => have := k7 rfl; rw [hn, htn]; simp; omega
        · rw [(k8 z).1, (k8 z).2]; exact hx z
      · refine q_asg (v := .bl false) ev_c fun H6 e6 => ?_
        have w1 := w0.mono (e5.trans e6)
        obtain ⟨vs, hvs, rel⟩ := X.rows
        have ex1 := w1.ex
        refine q_forE (a := a.ar) (xs := vs) (ev_self (ev_var rfl) (X.mono ex1) T.clM T.nM_rows rfl) (sq_get (ex1 _ _ hvs))
          (fun n σ' H' => ∃ tn B G kg x5 x6, WInv m b g H M s S p q .dK B0 G0 x5 x6 tn B G kg σ' H' ∧ (tn = false → ∀ i, i < n → i < M.rows.length → ∀ k ∈ (rowAt M i).fits, ∀ g o, B0 k = some (g, o) → ∃ g' k', G0 i = some (g', k') ∧ g + 1000 * M.I.w i k - 1 ≤ g'))
          (fun H7 e7 => ⟨false, B0, G0, kg0, _, _, w1.mono e7, fun _ i hi => absurd hi (Nat.not_lt_zero i)⟩) (fun n σ' H' _ h => by obtain ⟨_, _, _, _, _, _, w, _⟩ := h; exact sq_get (w.ex _ _ hvs)) (fun i x σ' H' pt hx h hp => ?_) (fun σ' H' h => ?_)
        · obtain ⟨tn, B, G, kg, y5, y6, w, hvis⟩ := h
          have hi : i < M.rows.length := by rw [← rel.len]; exact (List.getElem?_eq_some_iff.mp hx).1
          obtain ⟨tr, ft, rfl, hr3, hr4⟩ := rel.get i x _ hx (rowAt_get hi)
          have w' := w.mono (Ex.new (o := .tup [.int (i : Int), .ref tr]) hp)
          obtain ⟨y3, y7, rfl⟩ := w.sl
          obtain ⟨kb, hkb, tb⟩ := w'.hb
          have hl := o.fw i hi
          refine s_forNLn (xs := ((rowAt M i).fits.filter fun k => (B k).isSome).map V.str) ?_ (fun pl j σ' H' => ∃ tn G' kg, WInv m b g H M s S p q .dK B0 G0 (some (.int (i : Int))) (some (.ref tr)) tn B G' kg σ' H' ∧ H' pl = some (.lst (((rowAt M i).fits.filter fun k => (B k).isSome).map V.str)) ∧
            (tn = false → (∀ i', i' < i → i' < M.rows.length → ∀ k ∈ (rowAt M i').fits, ∀ g o, B0 k = some (g, o) → ∃ g' k', G0 i' = some (g', k') ∧ g + 1000 * M.I.w i' k - 1 ≤ g') ∧ ∀ k ∈ ((rowAt M i).fits.filter fun k => (B k).isSome).take j, ∀ g o, B0 k = some (g, o) → ∃ g' k', G0 i = some (g', k') ∧ g + 1000 * M.I.w i k - 1 ≤ g'))
            (fun pl H8 hpl e8 h8 => ⟨tn, G, kg, (w'.mono e8).slots ⟨_, _, rfl⟩, h8, fun z => ⟨hvis z, fun k hk => by simp at hk⟩⟩) (fun pl j σ' H' _ h => by obtain ⟨_, _, _, _, h, _⟩ := h; exact sq_get h) (fun pl j x σ' H' hx h => ?_) (fun pl σ' H' h => ?_)
          · have e := given_map (rowAt M i).fits (fun k => (B k).isSome) V.str (f := fun j => (B ((rowAt M i).fits.getD j default)).isSome) (v := fun j => .str ((rowAt M i).fits.getD j default)) fun j k hk => by rw [getD_of hk]; exact ⟨rfl, rfl⟩
            rw [← e, ← List.length_map (f := V.str)]
            refine el_lcT (a := ft) _ _ (ev_ixT (ev_var rfl) ev_c (st_get (w'.ex _ _ hr3)) (atI_get (i := 1) rfl)) (st_get (w'.ex _ _ hr4)) (by rw [List.length_map]; omega) fun j x H8 e8 hx => ?_
            obtain ⟨k, hk, rfl⟩ := get_map hx
            rw [getD_of hk]
            exact turnN rfl (et_B (ev_is (ev_din (ev_var rfl) (ev_var rfl) (dget_str (e8 _ _ hkb))) (by rw [show valV kb (.inr k) = valV kb (kB k) from rfl, tb.isSome]))) fun _ => ev_var rfl
          · obtain ⟨tn, G', kg, w, hpl, hvis⟩ := h
            obtain ⟨k, hk, rfl⟩ := get_map hx
            obtain ⟨y3, y7, rfl⟩ := w.sl
            have hkm := List.mem_filter.mp (List.mem_of_getElem? hk)
            obtain ⟨⟨gb, ob⟩, hB⟩ := Option.isSome_iff_exists.mp hkm.2
            obtain ⟨kb, hkb, tb⟩ := w.hb
            refine q_asg (v := .int (gb + 1000 * M.I.w i k - 1)) (ev_sub (ev_add (ev_bag (ev_var rfl) (ev_var rfl) ev_c (dget_str hkb) tb hB rfl) (ev_step T (ev_worth (ev_var rfl) (ev_var rfl) (ev_var rfl) (X.mono w.ex) o hi hkm.1))) ev_c) fun H8 e8 => ?_
            have w8 := w.mono e8
            refine s_when (b := need (G' i) (gb + 1000 * M.I.w i k - 1)) (et_need (ev_is (ev_dnotin (ev_var rfl) (ev_var rfl) (dget_int w8.hg.1)) (by rw [show valV kg (.inl (i : Int)) = valV kg (kG i) from rfl, w8.hg.2.isSome])) fun y hy => ev_gt (ev_var rfl) (ev_gain (ev_var rfl) (ev_var rfl) ev_c (dget_int w8.hg.1) w8.hg.2 hy rfl)) (fun hd H9 e9 => ?_) (fun hd H9 e9 => ?_)
            · have w9 := w8.mono e9
              refine q_putU (k := .inl (i : Int)) (xs := eG (gb + 1000 * M.I.w i k - 1, k)) (eu2 (ev_var rfl) (ev_var rfl)) (ev_var rfl) (ev_var rfl) w9.hg.1 (by have := w9.hg.2.len; rw [List.length_range] at this; have := o.few; omega) fun pt H10 hp e10 h10 => s_asg ev_c fun H11 e11 => ?_
              have w10 := (((w9.mono e10).slots (σ' := [some (.ref m), some (.ref b), some (.ref g), _, some (.bl tn), some (.int (i : Int)), some (.ref tr), _]) ⟨some (.str k), some (.int (gb + 1000 * M.I.w i k - 1)), rfl⟩).putG hg hbg hi h10 (relaxG sv w9.lab hi hkm.1 hB (need_true hd))).mono e11
              refine ⟨true, _, _, w10, ?_, fun z => nomatch z⟩
              refine e11 _ _ ?_
              rw [upd_ne fun z => by subst z; rw [w.hg.1] at hpl; cases hpl]
              exact e10 _ _ (e9 _ _ (e8 _ _ hpl))
            · refine ⟨tn, G', kg, (w8.mono e9).slots ⟨_, _, rfl⟩, e9 _ _ (e8 _ _ hpl), fun z => ⟨(hvis z).1, fun k' hk' g' o' hB' => ?_⟩⟩
              rw [List.take_add_one, hk, List.mem_append] at hk'
              rcases hk' with hk' | hk'
              · exact (hvis z).2 k' hk' g' o' hB'
              · rw [Option.toList_some, List.mem_singleton] at hk'
                subst hk'
                rw [← (w.same z).1, hB] at hB'
                cases hB'
                obtain ⟨g1, k1, h1, h2⟩ := need_false hd
                rw [(w.same z).2] at h1
                exact ⟨g1, k1, h1, h2⟩
          · obtain ⟨tn, G', kg, w, hpl, hvis⟩ := h
            refine ⟨tn, B, G', kg, _, _, w, fun z i' hi' hl' k hk g' o' hB' => ?_⟩
            obtain ⟨v1, v2⟩ := hvis z
            by_cases e : i' = i
            · subst e
              refine v2 k ?_ g' o' hB'
              rw [List.length_map, List.take_length]
              refine List.mem_filter.mpr ⟨hk, ?_⟩
              rw [(w.same z).1, hB']
              rfl
            · exact v1 i' (by omega) hl' k hk g' o' hB'
        · obtain ⟨tn, B, G, kg, y5, y6, w, hv⟩ := h
          obtain ⟨y3, y7, rfl⟩ := w.sl
          refine s_forK (d := g) (kvs := kg) w.hg.1 (fun od => ev_var rfl) (fun od n σ' H' => ∃ tn B x5, WInv m b g H M s S p q (.frz od ∘ .dK) B0 G0 x5 y6 tn B G kg σ' H' ∧ (tn = false → (∀ i, i < M.rows.length → ∀ k ∈ (rowAt M i).fits, ∀ g o, B0 k = some (g, o) → ∃ g' k', G0 i = some (g', k') ∧ g + 1000 * M.I.w i k - 1 ≤ g') ∧
              ∀ n', n' < n → ∀ i v, kg[n']? = some (kG i, v) → ∀ k, 0 < S.h i k → ∀ g k', G0 i = some (g, k') → ∃ g' o, B0 k = some (g', o) ∧ g - 1000 * M.I.w i k - 1 ≤ g'))
            (fun od H7 e7 => ⟨tn, B, y5, ?_, fun z => ⟨fun i hi => hv z i (by rw [rel.len]; exact hi) hi, fun n' hn' => absurd hn' (Nat.not_lt_zero n')⟩⟩) (fun od n σ' H' _ h => by obtain ⟨_, _, _, w, _⟩ := h; exact w.hg.1) (fun od n x v σ' H' hx h => ?_) (fun od σ' H' h => ?_)
          · refine WInv.mono ?_ e7
            obtain ⟨sl, ex, ⟨kb, hb', tb⟩, ⟨hg', tg⟩, lab, le, lt, same⟩ := w
            exact ⟨sl, Ex.mut ex hg, ⟨kb, by rw [upd_ne hbg]; exact hb', tb.upd hg' fun _ z => nomatch z⟩, ⟨upd_same, tg.upd hg' fun _ z => nomatch z⟩, lab, le, lt, same⟩
          · obtain ⟨tn, B, x5, w, hvis⟩ := h
            obtain ⟨i, xg, hi, rfl, hG⟩ := w.hg.2.key hx
            have hi := List.mem_range.mp hi
            obtain ⟨y3, y7, rfl⟩ := w.sl
            refine s_forNLn (xs := (heldL M S i).map V.str) (el_meth (ev_var rfl) (X.mono w.ex).ins rfl (ea1 (ev_var rfl)) (spl_held (X.mono w.ex) (Y.mono w.ex) o hi)) (fun pl j σ' H' => ∃ tn B, WInv m b g H M s S p q (.frz od ∘ .dK) B0 G0 (some (.int (i : Int))) y6 tn B G kg σ' H' ∧ H' pl = some (.lst ((heldL M S i).map V.str)) ∧
              (tn = false → ((∀ i, i < M.rows.length → ∀ k ∈ (rowAt M i).fits, ∀ g o, B0 k = some (g, o) → ∃ g' k', G0 i = some (g', k') ∧ g + 1000 * M.I.w i k - 1 ≤ g') ∧
                ∀ n', n' < n → ∀ i v, kg[n']? = some (kG i, v) → ∀ k, 0 < S.h i k → ∀ g k', G0 i = some (g, k') → ∃ g' o, B0 k = some (g', o) ∧ g - 1000 * M.I.w i k - 1 ≤ g') ∧ ∀ k ∈ (heldL M S i).take j, ∃ g' o, B0 k = some (g', o) ∧ xg.1 - 1000 * M.I.w i k - 1 ≤ g'))
              (fun pl H8 hpl e8 h8 => ⟨tn, B, (w.mono e8).slots ⟨_, _, rfl⟩, h8, fun z => ⟨hvis z, fun k hk => by simp at hk⟩⟩) (fun pl j σ' H' _ h => by obtain ⟨_, _, _, h, _⟩ := h; exact sq_get h) (fun pl j x σ' H' hx h => ?_) (fun pl σ' H' h => ?_)
            · obtain ⟨tn, B', w, hpl, hvis⟩ := h
              obtain ⟨k, hk, rfl⟩ := get_map hx
              obtain ⟨y3, y7, rfl⟩ := w.sl
              have hpos := (mem_held so).mp (List.mem_of_getElem? hk)
              have hf := (sok_sup so (i := i) (k := k) (by omega)).2
              obtain ⟨kb, hkb, tb⟩ := w.hb
              refine q_asg (v := .int (xg.1 - 1000 * M.I.w i k - 1)) (ev_sub (ev_sub (ev_gain (ev_var rfl) (ev_var rfl) ev_c (dget_intF w.hg.1) w.hg.2 hG rfl) (ev_step T (ev_worth (ev_var rfl) (ev_var rfl) (ev_var rfl) (X.mono w.ex) o hi hf))) ev_c) fun H8 e8 => ?_
              have w8 := w.mono e8
              refine s_when (b := need (B' k) (xg.1 - 1000 * M.I.w i k - 1)) (et_need (ev_is (ev_dnotin (ev_var rfl) (ev_var rfl) (dget_str (e8 _ _ hkb))) (by rw [show valV kb (.inr k) = valV kb (kB k) from rfl, (tb.mono e8).isSome])) fun y hy => ev_gt (ev_var rfl) (ev_bag (ev_var rfl) (ev_var rfl) ev_c (dget_str (e8 _ _ hkb)) (tb.mono e8) hy rfl)) (fun hd H9 e9 => ?_) (fun hd H9 e9 => ?_)
              · have w9 := w8.mono e9
                refine q_putU (k := .inr k) (xs := eB (xg.1 - 1000 * M.I.w i k - 1, some i)) (eu2 (ev_var rfl) (ev_var rfl)) (ev_var rfl) (ev_var rfl) (e9 _ _ (e8 _ _ hkb)) (by have := tb.len; have := o.sf; omega) fun pt H10 hp e10 h10 => s_asg ev_c fun H11 e11 => ?_
                have w10 := (((w9.mono e10).slots (σ' := [some (.ref m), some (.ref b), some (.ref g), _, some (.bl tn), some (.int (i : Int)), y6, _]) ⟨some (.str k), some (.int (xg.1 - 1000 * M.I.w i k - 1)), rfl⟩).putB hb hbg (e10 _ _ (e9 _ _ (e8 _ _ hkb))) (hK i hi k hf) h10 (relaxB o.ok sv w9.lab hpos hG (need_true hd))).mono e11
                refine ⟨true, _, w10, ?_, fun z => nomatch z⟩
                refine e11 _ _ ?_
                rw [upd_ne fun z => by subst z; rw [hkb] at hpl; cases hpl]
                exact e10 _ _ (e9 _ _ (e8 _ _ hpl))
              · refine ⟨tn, B', (w8.mono e9).slots ⟨_, _, rfl⟩, e9 _ _ (e8 _ _ hpl), fun z => ⟨(hvis z).1, fun k' hk' => ?_⟩⟩
                rw [List.take_add_one, hk, List.mem_append] at hk'
                rcases hk' with hk' | hk'
                · exact (hvis z).2 k' hk'
                · rw [Option.toList_some, List.mem_singleton] at hk'
                  subst hk'
                  obtain ⟨g1, k1, h1, h2⟩ := need_false hd
                  rw [(w.same z).1] at h1
                  exact ⟨g1, k1, h1, h2⟩
            · obtain ⟨tn, B', w, hpl, hvis⟩ := h
              refine ⟨tn, B', _, w, fun z => ⟨(hvis z).1.1, fun n' hn' i' v' he k hk g' k' hG' => ?_⟩⟩
              obtain ⟨v1, v2⟩ := hvis z
              by_cases e : n' = n
              · subst e
                rw [hx] at he
                have e1 : i = i' := kG_inj _ _ (by injection he with he; injection he)
                subst e1
                have hm := (mem_held so (i := i) (k := k)).mpr hk
                rw [List.length_map, List.take_length] at v2
                rw [← (w.same z).2, hG] at hG'
                cases hG'
                exact v2 k hm
              · exact v1.2 n' (by omega) i' v' he k hk g' k' hG'
          · obtain ⟨tn, B', x5, w, hvis⟩ := h
            refine ⟨tn, B', G, kg, x5, y6, ?_, fun z => ⟨(hvis z).1, fun i g' k' hG' k hk => ?_⟩⟩
            · obtain ⟨sl, ex, ⟨kb, hb', tb⟩, ⟨hg', tg⟩, lab, le, lt, same⟩ := w
              exact ⟨sl, Ex.mut ex hg, ⟨kb, by rw [upd_ne hbg]; exact hb', tb.upd hg' fun _ z => nomatch z⟩, ⟨upd_same, tg.upd hg' fun _ z => nomatch z⟩, lab, le, lt, same⟩
            · have hG1 := hG'
              rw [← (w.same z).2] at hG1
              obtain ⟨n', v, hn'⟩ := w.hg.2.place hG1
              exact (hvis z).2 n' (List.getElem?_eq_some_iff.mp hn').1 i v hn' k hk g' k' hG'
      · have w5 := w0.mono e5
        obtain ⟨kb, hkb, tb⟩ := w5.hb
        exact s_retU (eu2 (ev_var rfl) (ev_var rfl)) fun t H6 ht e6 h6 => q9 t b g kb kg0 B0 G0 H6 (fresh_back w5.ex ht) hb hg (w5.ex.trans e6) h6 (e6 _ _ hkb) (tb.mono e6) (e6 _ _ w5.hg.1) (w5.hg.2.mono e6) w5.lab (hfx htn)
end
end K59
namespace K59
open PySem PySem.Spec L2 Evl
section
variable {P : Program} {w : World} {K : PySem.W.Frag} {mg : Str → Option Value} {base : Heap} {CA CL CM : Addr}
/-- a list of pairs (place, kind) -/
def PairsAt (H : Hp) (l : Addr) (ts : List (Nat × Str)) : Prop := ∃ ps : List Addr, H l = some (.lst (ps.map V.ref)) ∧ ps.length = ts.length ∧ ∀ (i : Nat) (p : Addr) (x : Nat × Str), ps[i]? = some p → ts[i]? = some x → H p = some (.tup [.int (x.1 : Int), .str x.2])
theorem PairsAt.mono {H H' : Hp} (e : Ex H H') {l : Addr} {ts : List (Nat × Str)} (h : PairsAt H l ts) : PairsAt H' l ts := let ⟨ps, h1, h2, h3⟩ := h; ⟨ps, e _ _ h1, h2, fun i p x a b => e _ _ (h3 i p x a b)⟩
theorem PairsAt.get {H : Hp} {l : Addr} {ts : List (Nat × Str)} (h : PairsAt H l ts) {i : Nat} {x : Nat × Str} (hx : ts[i]? = some x) : ∃ ps p, H l = some (.lst ps) ∧ ps.length = ts.length ∧ ps[i]? = some (.ref p) ∧ H p = some (.tup [.int (x.1 : Int), .str x.2]) := by
  obtain ⟨ps, h1, h2, h3⟩ := h
  obtain ⟨hi, _⟩ := List.getElem?_eq_some_iff.mp hx
  have hp : ps[i]? = some (ps[i]'(by omega)) := List.getElem?_eq_getElem _
  exact ⟨_, _, h1, by rw [List.length_map]; exact h2, map_get hp, h3 i _ x hp hx⟩
/-- the least of a list that isn't empty -/
theorem mnL_ex : ∀ l : List Int, l ≠ [] → ∃ m ∈ l, ∀ y ∈ l, m ≤ y
  | [], h => absurd rfl h
  | [a], _ => ⟨a, by simp, by simp⟩
  | a :: b :: l, _ => by
    obtain ⟨m, h1, h2⟩ := mnL_ex (b :: l) (by simp)
    by_cases h : a < m
    · refine ⟨a, by simp, fun y hy => ?_⟩
      rcases List.mem_cons.mp hy with e | e
      · omega
      · have := h2 y e; omega
    · refine ⟨m, List.mem_cons_of_mem _ h1, fun y hy => ?_⟩
      rcases List.mem_cons.mp hy with e | e
      · omega
      · exact h2 y e
theorem q_par {σ : L2.St} {H : Hp} {ta : TA} {D : Ends} {tz : TS} {i j : Nat} {x y : V} (h : EvA ta σ H [x, y]) (k : ∀ H1, Ex H H1 → tz D ((σ.set i (some x)).set j (some y)) H1) : tSeq (tPar i j ta) tz D σ H := h H (Ex.refl H) _ fun H1 e => ⟨x, y, rfl, k H1 e⟩
theorem ct_take {ts : List (Nat × Str)} {n : Nat} {x : Nat × Str} (h : ts[n]? = some x) (i : Nat) (k : Str) : ct (ts.take (n + 1)) i k = ct (ts.take n) i k + if x.1 = i ∧ x.2 = k then 1 else 0 := by
  rw [List.take_add_one, h, ct_app]
  show _ + ct [x] i k = _
  rw [ct_one]
theorem atI_neg1 {α : Type} {xs : List α} {v : α} (h : xs[xs.length - 1]? = some v) : atI xs (-1) = some v := by
  have hl : 0 < xs.length := by
    cases xs with
    | nil => simp at h
    | cons => simp
  unfold atI ixN
  rw [if_neg (by decide), if_pos (by omega)]
  show xs[(-1 + (xs.length : Int)).toNat]? = some v
  rw [show (-1 + (xs.length : Int)).toNat = xs.length - 1 by omega]
  exact h
/-- a heap without an object -/
def del (H : Hp) (x : Addr) : Hp := fun y => if y = x then none else H y
theorem del_self (H : Hp) (x : Addr) : del H x x = none := if_pos rfl
theorem del_ne {H : Hp} {x y : Addr} (h : y ≠ x) : del H x y = H y := if_neg h
theorem del_ex (H : Hp) (x : Addr) : Ex (del H x) H := fun y o h => by
  by_cases e : y = x
  · rw [e, del_self] at h; cases h
  · rwa [del_ne e] at h
theorem ex_del {H0 H : Hp} (e : Ex H0 H) {x : Addr} (h : H0 x = none) : Ex H0 (del H x) := fun y o hy => by
  rw [del_ne (ne_of_none hy h)]; exact e y o hy
theorem del_of {H : Hp} {x y : Addr} {o u : HO} (hy : H y = some o) (hx : H x = some u) (h : o ≠ u) : del H x y = some o := by
  rw [del_ne fun e => by subst e; rw [hx] at hy; cases hy; exact h rfl]; exact hy
theorem PairsAt.del {H : Hp} {l x : Addr} {ts : List (Nat × Str)} {u : HO} (h : PairsAt H l ts) (hx : H x = some u) (h1 : ∀ xs, u ≠ .lst xs) (h2 : ∀ xs, u ≠ .tup xs) : PairsAt (del H x) l ts := by
  obtain ⟨ps, e1, e2, e3⟩ := h
  exact ⟨ps, del_of e1 hx fun z => h1 _ z.symm, e2, fun i p y a b => del_of (e3 i p y a b) hx fun z => h2 _ z.symm⟩
def hKey (x : Nat × Str) : List Key := [.inl (x.1 : Int), .inr x.2]
theorem hKey_inj {x y : Nat × Str} (h : hKey x = hKey y) : x = y := by
  unfold hKey at h
  injection h with h1 h2
  injection h2 with h2 _
  injection h1 with h1
  injection h2 with h2
  exact Prod.ext (by omega) h2
theorem hKey_map (x : Nat × Str) : (hKey x).map kV = [.int (x.1 : Int), .str x.2] := rfl
theorem gt_step {l : List (List Key × Int)} {f : Nat → Str → Int} (h : ∀ i k, gtI l (hKey (i, k)) = f i k) (x : Nat × Str) (d : Int) (i : Nat) (k : Str) : gtI (putI l (hKey x) (gtI l (hKey x) + d)) (hKey (i, k)) = f i k + if x.1 = i ∧ x.2 = k then d else 0 := by
  rw [gtI_put]
  by_cases e : x.1 = i ∧ x.2 = k
  · obtain ⟨rfl, rfl⟩ := e
    rw [if_pos rfl, if_pos ⟨rfl, rfl⟩, ← h]
  · rw [if_neg e, if_neg fun z => e (by have := hKey_inj z; exact ⟨by rw [← this], by rw [← this]⟩), h]; omega
/-- what may be handed on -/
structure Path (M : Mkt) (s : Str → Int) (h : Nat → Str → Int) (ts gs : List (Nat × Str)) (a0 : Nat) (k : Str) : Prop where
  first : ∃ k0 r, ts = (a0, k0) :: r
  last : ∃ a t, ts = t ++ [(a, k)]
  tk : ∀ x ∈ ts, x.1 < M.rows.length ∧ x.2 ∈ (rowAt M x.1).fits
  gv : ∀ x ∈ gs, 0 < h x.1 x.2
  got : ∀ m i, i < M.rows.length → M.I.got (hand h ts gs m) i = M.I.got h i + if a0 = i then m else 0
  used : ∀ m j, M.I.used (hand h ts gs m) j = M.I.used h j + if k = j then m else 0
  room : M.I.got h a0 < M.I.want a0
  free : M.I.used h k < s k
  small : ts.length ≤ 2000 ∧ gs.length ≤ 2000
def spHandOn (CM : Addr) : Sp := fun vs H Q _ => ∃ (m : Addr) (a : MA) (M : Mkt) (s : Str → Int) (S : Mst) (tl gl : Addr) (ts gs : List (Nat × Str)) (a0 : Nat) (k : Str) (H0 : Hp), vs = [.ref m, .ref tl, .ref gl] ∧ MIm CM H0 m a M ∧ Ex H0 H ∧ H0 a.af = none ∧ H0 a.ah = none ∧ H0 a.ag = none ∧ MMu H a S ∧ MOk M ∧ SOk M s S ∧
  PairsAt H tl ts ∧ PairsAt H gl gs ∧ tl ≠ a.ag ∧ gl ≠ a.ag ∧ Path M s S.h ts gs a0 k ∧
  ∀ c S' H', Ex H0 H' → MMu H' a S' → SOk M s S' → 1 ≤ c → c ≤ M.I.want a0 - M.I.got S.h a0 → c ≤ s k - M.I.used S.h k → (∀ x ∈ gs, c ≤ S.h x.1 x.2) → S'.h = hand S.h ts gs c → Q .non H'
theorem d_hand_on {f : Addr} {fd : FuncData} (F : Fun K "hand_on" "Market.hand_on" s_Market_hand_on f fd) (T : Txt K mg CA CL CM) : FnOk P w K mg base CX0 1 f fd ["self", "takes", "gives"] (spHandOn CM) := by
  refine F.ok sc_Market_hand_on (fun vs H Q E h => ?_) (fun cdv A outer s H vs Q E hr h => ?_)
  · obtain ⟨_, _, _, _, _, _, _, _, _, _, _, _, rfl, _⟩ := h
    rfl
  · obtain ⟨m, a, M, s, S, tl, gl, ts, gs, a0, k, H0, rfl, X0, e0, n1, n2, n3, Y, o, so, tp, gp, ntl, ngl, pa, q9⟩ := h
    refine ⟨_, (pss_cons (ps_par (i := 3) (j := 4) (by rfl) sc_Market_hand_on.nd rfl rfl (by decide) rfl rfl (pa_cons (pe_ix (ixTK K rfl) (pe_ix (ixLK K rfl) (pv 1) pe_int (fun _ _ => rfl)) pe_int (fun _ _ => rfl)) (pa_cons (pe_ix (ixTK K rfl) (pe_ix (ixLK K rfl) (pv 1) (pe_un un_neg pe_int) (fun _ _ => rfl)) pe_int (fun _ _ => rfl)) pa_nil)) (by rfl))
    (pss_cons (ps_set (i := 6) sc_Market_hand_on.nd rfl (Or.inl rfl) (pe_callB (minK K rfl rfl) (by rfl) T.g_min boot_min (pa_cons (pe_op op_cat (pe_lst (pa_cons (pe_op op_sub (pe_ix (ixLK K rfl) (fldK K rfl (pv 0)) (pv 3) (fun _ _ => rfl)) (pe_ix (ixLK K rfl) (fldK K rfl (pv 0)) (pv 3) (fun _ _ => rfl))) (pa_cons (pe_dget (hu_of hr) (fldK K rfl (pv 0)) (pv 4) (fun _ _ => rfl)) pa_nil))) (pe_lc (own := [("one", 5)]) (g := (gName 5)) (tt := tYes) rfl sc_Market_hand_on.nd (listK K rfl (pv 2)) (blkOk_by (own := [("one", 5)]) (N := ["self", "takes", "gives", "first", "last", "one", "much"]) (sc := defScope s_Market_hand_on) (by decide +kernel)) (fun _ _ _ _ _ => (pg_name (i := 5) sc_Market_hand_on.nd rfl (by first | exact Or.inl rfl | exact Or.inr rfl))) (fun _ _ _ _ _ => pts_nil) (fun _ _ _ _ _ => (pe_dget (hu_of hr) (fldK K rfl (pv 0)) (pv 5) (fun _ _ => rfl))))) pa_nil)))
    (pss_cons (ps_for PassesOwn.never rfl (listK K rfl (pv 1)) (pg_name (i := 5) sc_Market_hand_on.nd rfl (by first | exact Or.inl rfl | exact Or.inr rfl))
    (pss_one (ps_dput (hu_of hr) (fldK K rfl (pv 0)) (pv 5) (pe_op op_add (pe_dget2 (hu_of hr) (fldK K rfl (pv 0)) (pv 5) pe_int (.mk rfl rfl rfl rfl)) (pv 6)) rfl)))
    (pss_cons (ps_for PassesOwn.never rfl (listK K rfl (pv 2)) (pg_name (i := 5) sc_Market_hand_on.nd rfl (by first | exact Or.inl rfl | exact Or.inr rfl))
    (pss_one (ps_dput (hu_of hr) (fldK K rfl (pv 0)) (pv 5) (pe_op op_sub (pe_dget (hu_of hr) (fldK K rfl (pv 0)) (pv 5) (fun _ _ => rfl)) (pv 6)) rfl)))
    (pss_cons (ps_dput (hu_of hr) (fldK K rfl (pv 0)) (pv 4) (pe_op op_sub (pe_dget (hu_of hr) (fldK K rfl (pv 0)) (pv 4) (fun _ _ => rfl)) (pv 6)) rfl)
    (pss_one (ps_asg (pe_op op_add (pe_ix (ixLK K rfl) (fldK K rfl (pv 0)) (pv 3) (fun _ _ => rfl)) (pv 6)) (pg_sub (fldK K rfl (pv 0)) (pv 3) set_list)))))))), ?_⟩
    have X := X0.mono e0
    obtain ⟨k0, r, ets⟩ := pa.first
    obtain ⟨al, t', ets2⟩ := pa.last
    have hf0 : ts[0]? = some (a0, k0) := by rw [ets]; rfl
    have hfl : ts[ts.length - 1]? = some (al, k) := by rw [ets2]; simp
    have ha0 : a0 < M.rows.length := (pa.tk (a0, k0) (by rw [ets]; simp)).1
    have hk : k ∈ M.sorts := (o.sm k).mpr ⟨al, pa.tk (al, k) (by rw [ets2]; simp)⟩
    obtain ⟨ps, p0, tp1, tp2, tp3, tp4⟩ := tp.get hf0
    obtain ⟨ps', pl, tl1, tl2, tl3, tl4⟩ := tp.get hfl
    rw [tp1] at tl1
    cases tl1
    have atl : atI ps (-1) = some (.ref pl) := by
      exact atI_neg1 (by rw [tl2]; exact tl3)
    refine q_par (x := .int (a0 : Int)) (y := .str k) (ea2 (ev_ixT (ev_ixL (ev_var rfl) ev_c (sq_get tp1) (atI_get (i := 0) tp3)) ev_c (st_get tp4) (atI_get (i := 0) rfl)) (ev_ixT (ev_ixL (ev_var rfl) (ev_un ev_c ru_neg) (sq_get tp1) atl) ev_c (st_get tl4) (atI_get (i := 1) rfl))) fun H1 e1 => ?_
    obtain ⟨gps, gp1, gp2, gp3⟩ := gp
    have hgk : ∀ x ∈ gs, lkI S.holds (hKey x) = some (S.h x.1 x.2) := fun x hx => by
      have h1 := pa.gv x hx
      have h2 : S.h x.1 x.2 = gtI S.holds (hKey x) := rfl
      cases e : lkI S.holds (hKey x) with
      | none => unfold gtI at h2; rw [e] at h2; rw [h2] at h1; exact absurd h1 (by decide)
      | some v => rw [h2]; unfold gtI; rw [e]; rfl
    obtain ⟨c, c1, c2⟩ := mnL_ex ([M.I.want a0 - M.I.got S.h a0, s k - M.I.used S.h k] ++ gs.map fun x => S.h x.1 x.2) (by simp)
    have hgsl : (gs.map fun x => S.h x.1 x.2).length = gs.length := List.length_map _
    refine q_asg (v := .int c) (ev_minL (ns := [M.I.want a0 - M.I.got S.h a0, s k - M.I.used S.h k] ++ gs.map fun x => S.h x.1 x.2) ?_ c1 c2) fun H2 e2 => ?_
    · rw [List.map_append]
      refine el_cat (xs := [.int (M.I.want a0 - M.I.got S.h a0), .int (s k - M.I.used S.h k)]) (ys := (gs.map fun x => S.h x.1 x.2).map V.int) ?_ ?_ (by
        rw [List.length_map, hgsl]
        have := pa.small.2
        simp only [List.length_cons, List.length_nil]
        omega)
      · refine el_lst (ea2 (ev_sub (ev_ixL (ev_self (ev_var rfl) (X.mono e1) T.clM T.nM_wants rfl) (ev_var rfl) (sq_get (X.mono e1).wants) (atI_get (map_get (want_get o ha0)))) (ev_ixL (ev_self (ev_var rfl) (X.mono e1) T.clM T.nM_got rfl) (ev_var rfl) (sq_get (Y.mono e1).got) (atI_get (map_get (so.gt a0 ha0))))) (ev_getS (ev_self (ev_var rfl) (X.mono e1) T.clM T.nM_free rfl) (ev_var rfl) (Y.mono e1).free (so.fk k hk))) (by simp)
      have e := given_map gs (fun _ => true) (fun x => V.int (S.h x.1 x.2)) (f := fun j => true) (v := fun j => .int (S.h (gs.getD j default).1 (gs.getD j default).2)) fun j x hx => by rw [getD_of hx]; exact ⟨rfl, rfl⟩
      rw [List.filter_eq_self.mpr fun _ _ => rfl] at e
      rw [List.map_map]
      show EvL _ _ _ (gs.map fun x => V.int (S.h x.1 x.2))
      rw [← e]
      have hlen2 : gs.length = (gps.map V.ref).length := by rw [List.length_map, gp2]
      rw [hlen2]
      refine el_lcLg (a := gl) _ _ (ev_var rfl) (sq_get (e1 _ _ gp1)) (by rw [← hlen2]; have := pa.small.2; omega) fun j x H2 e2 hx => ?_
      obtain ⟨p, hp, rfl⟩ := get_map hx
      have hj : j < gs.length := by rw [← gp2]; exact (List.getElem?_eq_some_iff.mp hp).1
      have hgj : gs[j]? = some gs[j] := List.getElem?_eq_getElem hj
      rw [getD_of hgj]
      refine turnN rfl et_yes fun _ => ev_dget (ev_self (ev_var rfl) (X.mono (e1.trans e2)) T.clM T.nM_holds rfl) (ev_var rfl) fun H3 e3 => ?_
      have := dget_tup (k := hKey gs[j]) ((Y.mono (e1.trans e2)).holds) ((e1.trans e2) _ _ (gp3 j p _ hp hgj)) H3 e3
      rw [valV_mI, hgk _ (List.getElem_mem hj)] at this
      exact this
    · have exh : Ex (del H a.ah) H2 := (del_ex _ _).trans (e1.trans e2)
      have e0h : Ex H0 (del H a.ah) := ex_del e0 n2
      have Xh := X0.mono e0h
      have tph := PairsAt.del tp Y.holds (fun _ z => nomatch z) (fun _ z => nomatch z)
      have gph := PairsAt.del (show PairsAt H gl gs from ⟨gps, gp1, gp2, gp3⟩) Y.holds (fun _ z => nomatch z) (fun _ z => nomatch z)
      have tpl : ∀ (n : Nat) x, ts[n]? = some x → ∃ p, ps[n]? = some (.ref p) ∧ del H a.ah p = some (.tup [.int (x.1 : Int), .str x.2]) := fun n x hx => by
        obtain ⟨ps2, p, q1, q2, q3, q4⟩ := tph.get hx
        have := del_ex _ _ _ _ q1
        rw [tp1] at this
        cases this
        exact ⟨p, q3, q4⟩
      refine q_forLn (a := tl) (xs := ps) (ev_var rfl) (sq_get ((e1.trans e2) _ _ tp1)) (fun n σ' H' => (∃ x5, σ' = [some (.ref m), some (.ref tl), some (.ref gl), some (.int (a0 : Int)), some (.str k), x5, some (.int c)]) ∧ Ex (del H a.ah) H' ∧ ∃ l, H' a.ah = some (.dT (mI l)) ∧ (l.map (·.1)).Nodup ∧ (∀ x ∈ l.map (·.1), x ∈ pairs M) ∧ (∀ x ∈ S.holds.map (·.1), x ∈ l.map (·.1)) ∧ ∀ i k, gtI l (hKey (i, k)) = S.h i k + c * ct (ts.take n) i k)
        (fun H3 e3 => ⟨⟨none, rfl⟩, exh.trans e3, S.holds, (e1.trans (e2.trans e3)) _ _ Y.holds, so.hn, so.hk, fun _ h => h, fun i k => by simp [ct, sm_nil]; rfl⟩)
        (fun n σ' H' _ h => sq_get (h.2.1 _ _ (del_of tp1 Y.holds fun z => nomatch z))) (fun n x σ' H' hx h => ?_) (fun σ' H' h => ?_)
      · obtain ⟨⟨x5, rfl⟩, ex, l, hl, l1, l2, l3, l4⟩ := h
        have hn : n < ts.length := by rw [← tp2]; exact (List.getElem?_eq_some_iff.mp hx).1
        have hts : ts[n]? = some ts[n] := List.getElem?_eq_getElem hn
        obtain ⟨p, hp1, hp2⟩ := tpl n _ hts
        rw [hx] at hp1
        cases hp1
        have hmem := pa.tk _ (List.getElem_mem hn)
        refine s_putT (k := hKey ts[n]) (v := gtI l (hKey ts[n]) + c) (b := p) (l := l) (ev_add (ev_is (ev_get2 (ev_self (ev_var rfl) (Xh.mono ex) T.clM T.nM_holds rfl) (isD_T hl) (ev_var rfl) ev_c (dget_tup (k := hKey ts[n]) hl (ex _ _ hp2))) (getD_int _ _)) (ev_var rfl)) (ev_self (ev_var rfl) (Xh.mono ex) T.clM T.nM_holds rfl) (ev_var rfl) (ex _ _ hp2) hl ?_ fun H3 e3 => ?_
        · have := len_keys l1 l2
          have := pairs_len o
          omega
        · refine ⟨⟨_, rfl⟩, Ex.mut (ex.trans e3) (del_self _ _), _, upd_same, nodup_put l1 _ _, fun x hx => ?_, fun x hx => (keys_put _ _ _ _).mpr (.inr (l3 x hx)), fun i k => ?_⟩
          · rcases (keys_put _ _ _ _).mp hx with e | e
            · exact mem_pairs.mpr ⟨_, _, hmem.1, hmem.2, e⟩
            · exact l2 x e
          · rw [gt_step l4, ct_take hts, Int.mul_add]
            split <;> omega
      · obtain ⟨⟨x5, rfl⟩, ex, l, hl, l1, l2, l3, l4⟩ := h
        rw [tp2, List.take_length] at l4
        refine q_forLn (a := gl) (xs := gps.map V.ref) (ev_var rfl) (sq_get (ex _ _ (del_of gp1 Y.holds fun z => nomatch z))) (fun n σ' H' => (∃ x5, σ' = [some (.ref m), some (.ref tl), some (.ref gl), some (.int (a0 : Int)), some (.str k), x5, some (.int c)]) ∧ Ex (del H a.ah) H' ∧ ∃ l, H' a.ah = some (.dT (mI l)) ∧ (l.map (·.1)).Nodup ∧ (∀ x ∈ l.map (·.1), x ∈ pairs M) ∧ (∀ x ∈ S.holds.map (·.1), x ∈ l.map (·.1)) ∧ ∀ i k, gtI l (hKey (i, k)) = S.h i k + c * ct ts i k - c * ct (gs.take n) i k)
          (fun H3 e3 => ⟨⟨x5, rfl⟩, ex.trans e3, l, e3 _ _ hl, l1, l2, l3, fun i k => by rw [l4]; simp [ct, sm_nil]⟩)
          (fun n σ' H' _ h => sq_get (h.2.1 _ _ (del_of gp1 Y.holds fun z => nomatch z))) (fun n x σ' H' hx h => ?_) (fun σ' H' h => ?_)
        · obtain ⟨⟨x5, rfl⟩, ex, l, hl, l1, l2, l3, l4⟩ := h
          obtain ⟨p, hp, rfl⟩ := get_map hx
          have hn : n < gs.length := by rw [← gp2]; exact (List.getElem?_eq_some_iff.mp hp).1
          have hgs : gs[n]? = some gs[n] := List.getElem?_eq_getElem hn
          have hp2 : del H a.ah p = some (.tup ((hKey gs[n]).map kV)) := del_of (gp3 n p _ hp hgs) Y.holds fun z => nomatch z
          have hin : hKey gs[n] ∈ l.map (·.1) := l3 _ (lkI_isSome.mp (by rw [hgk _ (List.getElem_mem hn)]; rfl))
          obtain ⟨v, hv⟩ := Option.isSome_iff_exists.mp (lkI_isSome.mpr hin)
          have hgv : gtI l (hKey gs[n]) = v := by unfold gtI; rw [hv]; rfl
          refine s_putT (k := hKey gs[n]) (v := v - c) (b := p) (l := l) (ev_sub (ev_dget (ev_self (ev_var rfl) (Xh.mono ex) T.clM T.nM_holds rfl) (ev_var rfl) fun H3 e3 => ?_) (ev_var rfl)) (ev_self (ev_var rfl) (Xh.mono ex) T.clM T.nM_holds rfl) (ev_var rfl) (ex _ _ hp2) hl ?_ fun H3 e3 => ?_
          · have := dget_tup (k := hKey gs[n]) hl (ex _ _ hp2) H3 e3
            rw [valV_mI, hv] at this
            exact this
          · have := len_keys l1 l2
            have := pairs_len o
            omega
          · refine ⟨⟨_, rfl⟩, Ex.mut (ex.trans e3) (del_self _ _), _, upd_same, nodup_put l1 _ _, fun x hx => ?_, fun x hx => (keys_put _ _ _ _).mpr (.inr (l3 x hx)), fun i k => ?_⟩
            · rcases (keys_put _ _ _ _).mp hx with e | e
              · rw [e]; exact l2 _ hin
              · exact l2 x e
            · have := gt_step l4 gs[n] (-c) i k
              rw [hgv, ← Int.sub_eq_add_neg] at this
              rw [this, ct_take hgs, Int.mul_add]
              split <;> omega
        · obtain ⟨⟨x5, rfl⟩, ex, l, hl, l1, l2, l3, l4⟩ := h
          rw [List.length_map, gp2, List.take_length] at l4
          have hfree : H' a.af = some (.dK (mI S.free)) := ex _ _ (del_of Y.free Y.holds fun z => nomatch z)
          have hgot : H' a.ag = some (.lst (S.got.map V.int)) := ex _ _ (del_of Y.got Y.holds fun z => nomatch z)
          have ex0 := e0h.trans ex
          have flen : S.free.length ≤ 36 := by
            have := len_keys so.fn (S := M.sorts.map Sum.inr) fun x hx => by
              obtain ⟨k, hk, e⟩ := so.fs x hx
              exact List.mem_map.mpr ⟨k, hk, e.symm⟩
            rw [List.length_map] at this
            have := o.sf
            omega
          have nfg : a.af ≠ a.ag := fun z => by rw [z, hgot] at hfree; cases hfree
          have nfh : a.af ≠ a.ah := fun z => by rw [z, hl] at hfree; cases hfree
          have ngh : a.ag ≠ a.ah := fun z => by rw [z, hl] at hgot; cases hgot
          refine q_putS (k := k) (l := S.free) (v := s k - M.I.used S.h k - c) (ev_sub (ev_getS (ev_self (ev_var rfl) (X0.mono ex0) T.clM T.nM_free rfl) (ev_var rfl) hfree (so.fk k hk)) (ev_var rfl)) (ev_self (ev_var rfl) (X0.mono ex0) T.clM T.nM_free rfl) (ev_var rfl) hfree (by omega) fun H3 e3 => ?_
          have ex3 : Ex H0 (upd H3 a.af (.dK (mI (putI S.free (.inr k) (s k - M.I.used S.h k - c))))) := Ex.mut (ex0.trans e3) n1
          have hgot3 : upd H3 a.af (.dK (mI (putI S.free (.inr k) (s k - M.I.used S.h k - c)))) a.ag = some (.lst (S.got.map V.int)) := by rw [upd_ne nfg.symm]; exact e3 _ _ hgot
          have ha0' : a0 < S.got.length := by rw [so.gl]; exact ha0
          refine s_setL (j := a0) (v := .int (M.I.got S.h a0 + c)) hgot3 (ev_add (ev_ixL (ev_self (ev_var rfl) (X0.mono ex3) T.clM T.nM_got rfl) (ev_var rfl) (sq_get hgot3) (atI_get (map_get (so.gt a0 ha0)))) (ev_var rfl)) (ev_self (ev_var rfl) (X0.mono ex3) T.clM T.nM_got rfl) (ev_var rfl) (by rw [List.length_map]; exact ha0') fun H4 e4 => ?_
          have hh : (Mst.mk (putI S.free (.inr k) (s k - M.I.used S.h k - c)) l (S.got.set a0 (M.I.got S.h a0 + c))).h = hand S.h ts gs c := funext fun i => funext fun j => by
            show gtI l (hKey (i, j)) = _
            rw [l4]
            rfl
          refine q9 c ⟨putI S.free (.inr k) (s k - M.I.used S.h k - c), l, S.got.set a0 (M.I.got S.h a0 + c)⟩ _ (Ex.mut (ex3.trans e4) n3) ⟨?_, ?_, ?_⟩ ⟨?_, fun i hi => ?_, fun j hj => ?_, nodup_put so.fn _ _, fun x hx => ?_, l1, l2⟩ ?_ (c2 _ (by simp)) (c2 _ (by simp)) (fun x hx => c2 _ (List.mem_append.mpr (.inr (List.mem_map.mpr ⟨x, hx, rfl⟩)))) hh
          · rw [upd_ne nfg]; exact e4 _ _ upd_same
          · rw [upd_ne ngh.symm]; refine e4 _ _ ?_; rw [upd_ne nfh.symm]; exact e3 _ _ hl
          · rw [upd_same, List.map_set]
          · rw [List.length_set]; exact so.gl
          · show (S.got.set a0 (M.I.got S.h a0 + c))[i]? = some (M.I.got (Mst.h _) i)
            rw [hh, pa.got c i hi, List.getElem?_set]
            by_cases e : a0 = i
            · subst e; rw [if_pos rfl, if_pos ha0', if_pos rfl]
            · rw [if_neg e, if_neg e, Int.add_zero]; exact so.gt i hi
          · show lkI (putI S.free (.inr k) (s k - M.I.used S.h k - c)) (.inr j) = some (s j - M.I.used (Mst.h _) j)
            rw [hh, pa.used c j, lkI_put]
            by_cases e : k = j
            · subst e; rw [if_pos rfl, if_pos rfl]; exact congrArg some (by omega)
            · rw [if_neg fun z => e (Sum.inr.inj z).symm, if_neg e, Int.add_zero]; exact so.fk j hj
          · rcases (keys_put _ _ _ _).mp hx with e | e
            · exact ⟨k, hk, e⟩
            · exact so.fs x e
          · rcases List.mem_append.mp c1 with h | h
            · have h1 := pa.room
              have h2 := pa.free
              simp only [List.mem_cons, List.not_mem_nil, or_false] at h
              omega
            · obtain ⟨x, hx, rfl⟩ := List.mem_map.mp h
              exact pa.gv x hx
end
end K59
/-! W7: new objects, comprehensions of new objects, calls at any place. -/
namespace K59
open PySem PySem.Spec L2 Evl
abbrev RN := Addr → Hp → Prop
/-- P stands on B and on what is new from H1 to H2 -/
def Nw (B H1 H2 : Hp) (P : Hp → Prop) : Prop := ∀ Hx, Ex B Hx → (∀ a o, H1 a = none → H2 a = some o → Hx a = some o) → P Hx
/-- a new object, told by R, over what stands in B -/
def EvN (te : TE) (σ : L2.St) (B H : Hp) (R : RN) : Prop := ∀ H1, Ex H H1 → ∀ Q : VK, (∀ p H2, H1 p = none → Ex H1 H2 → (∃ o, H2 p = some o) → Nw B H1 H2 (R p) → Q (.ref p) H2) → te σ H1 Q
def isU (xs : List V) : RN := fun p H => H p = some (.tup xs)
def isL (xs : List V) : RN := fun p H => H p = some (.lst xs)
def isK (kvs : List (Key × V)) : RN := fun p H => H p = some (.dK kvs)
/-- a list of new objects -/
def RelP (ps : List Addr) (Rs : List RN) (H : Hp) : Prop := ps.length = Rs.length ∧ ∀ (i : Nat) (q : Addr) (R : RN), ps[i]? = some q → Rs[i]? = some R → R q H
def NewL (Rs : List RN) : RN := fun p H => ∃ ps : List Addr, H p = some (.lst (ps.map V.ref)) ∧ RelP ps Rs H
theorem Nw.now {B H1 H2 : Hp} {P : Hp → Prop} (h : Nw B H1 H2 P) (e : Ex B H1) (e2 : Ex H1 H2) : P H2 := h H2 (e.trans e2) fun _ _ _ h => h
theorem Nw.weak {B H1 H2 H1' H2' : Hp} {P : Hp → Prop} (h : Nw B H1 H2 P) (e : Ex H1' H1) (e2 : Ex H2 H2') : Nw B H1' H2' P := fun Hx eb k => h Hx eb fun a o h1 h2 => k a o (fresh_back e h1) (e2 _ _ h2)
theorem Nw.imp {B H1 H2 : Hp} {P P' : Hp → Prop} (h : Nw B H1 H2 P) (k : ∀ H, P H → P' H) : Nw B H1 H2 P' := fun Hx eb e => k _ (h Hx eb e)
section
variable {K : PySem.W.Frag} {σ : L2.St} {B H H' : Hp} {ta tb te td ty tl : TE} {R R1 R2 : RN} {D : Ends} {tz tu : TS} {t : TT} {g : TG} {vs : List Nat} {x y z v : V}
theorem EvN.mono (h : EvN te σ B H R) (e : Ex H H') : EvN te σ B H' R := fun H1 e1 => h H1 (e.trans e1)
theorem EvN.imp (h : EvN te σ B H R) (k : ∀ p H1, R p H1 → R2 p H1) : EvN te σ B H R2 := fun H1 e Q q => h H1 e Q fun p H2 a b c d => q p H2 a b c (d.imp fun H => k p H)
theorem en_L {xs : List V} (h : EvL te σ H xs) : EvN te σ B H (isL xs) := fun H1 e Q q => h H1 e Q fun p H2 hp e2 h2 => q p H2 hp e2 ⟨_, h2⟩ fun Hx _ k => k _ _ hp h2
theorem en_U {xs : List V} (h : EvU te σ H xs) : EvN te σ B H (isU xs) := fun H1 e Q q => h H1 e Q fun p H2 hp e2 h2 => q p H2 hp e2 ⟨_, h2⟩ fun Hx _ k => k _ _ hp h2
theorem q_asgN {i : Nat} (h : EvN te σ H H R) (k : ∀ p H1, H p = none → Ex H H1 → (∃ o, H1 p = some o) → Nw H H H1 (R p) → tz D (σ.set i (some (.ref p))) H1) : tSeq (tAsg te (gName i)) tz D σ H := h H (Ex.refl H) _ fun p H1 hp e o r => k p H1 hp e o r
theorem s_retN (h : EvN te σ H H R) (k : ∀ p H1, H p = none → Ex H H1 → Nw H H H1 (R p) → D.rt (.ref p) H1) : tRet te D σ H := h H (Ex.refl H) _ fun p H1 hp e _ r => k p H1 hp e r
/-- a list of one new object -/
theorem en_lst1 (h : EvN te σ B H R) : EvN (tLst (tCons te tNil)) σ B H (NewL [R]) := fun H1 e Q q => h H1 e _ fun p H2 hp e2 _ r =>
  ⟨by show 1 ≤ sizeLine; decide, fun l hl => q l _ (fresh_back e2 hl) (e2.trans (Ex.new hl)) ⟨_, upd_same⟩ fun Hx eb k => ⟨[p], k _ _ (fresh_back e2 hl) upd_same, rfl, fun i q R' a b => by
    cases i with
    | zero => cases a; cases b; exact r Hx eb fun a o h1 h2 => k a o h1 (Ex.new hl _ _ h2)
    | succ i => cases a⟩⟩
theorem en_lst0 : EvN (tLst tNil) σ B H (NewL []) := fun H1 e Q q => ⟨by show 0 ≤ sizeLine; decide, fun l hl => q l _ hl (Ex.new hl) ⟨_, upd_same⟩ fun Hx eb k => ⟨[], k _ _ hl upd_same, rfl, fun i q R' a b => by cases a⟩⟩
theorem q_parN {i j : Nat} (h1 : EvN ta σ H H R1) (h2 : EvN tb σ H H R2) (k : ∀ p q H1, H p = none → H q = none → p ≠ q → Ex H H1 → R1 p H1 → R2 q H1 → tz D ((σ.set i (some (.ref p))).set j (some (.ref q))) H1) : tSeq (tPar i j (tCons ta (tCons tb tNil))) tz D σ H :=
  h1 H (Ex.refl H) _ fun p H1 hp e1 ⟨o, ho⟩ r1 => h2 H1 e1 _ fun q H2 hq e2 _ r2 => ⟨.ref p, .ref q, rfl, k p q H2 hp (fresh_back e1 hq) (ne_of_none ho hq) (e1.trans e2) ((r1.weak (Ex.refl _) e2).now (Ex.refl _) (e1.trans e2)) (r2.now e1 e2)⟩
/-- one turn of a comprehension of new objects -/
def TurnN (σ : L2.St) (vs : List Nat) (g : TG) (t : TT) (te : TE) (x : V) (B H : Hp) (b : Bool) (R : RN) : Prop :=
  ∃ σ2, (∀ Q : L2.St → Hp → Prop, Q σ2 H → g x (wipe σ vs) H Q) ∧ wipe σ2 vs = wipe σ vs ∧ EvT t σ2 H b ∧ (b = true → EvN te σ2 B H R)
def gvN (n : Nat) (f : Nat → Bool) (R : Nat → RN) : List RN := ((List.range n).filter f).map R
theorem gvN_yes {n : Nat} {f : Nat → Bool} {R : Nat → RN} (h : f n = true) : gvN (n + 1) f R = gvN n f R ++ [R n] := by
  unfold gvN
  rw [List.range_succ, List.filter_append, List.map_append, List.filter_cons, if_pos h] <;> rfl
theorem gvN_no {n : Nat} {f : Nat → Bool} {R : Nat → RN} (h : f n = false) : gvN (n + 1) f R = gvN n f R := by
  unfold gvN
  rw [List.range_succ, List.filter_append, List.map_append, List.filter_cons, if_neg (by rw [h]; decide)]
  show _ ++ [] = _
  rw [List.append_nil]
theorem gvN_len (n : Nat) (f : Nat → Bool) (R : Nat → RN) : (gvN n f R).length ≤ n := by
  unfold gvN
  rw [List.length_map]
  have h := List.length_filter_le f (List.range n)
  rw [List.length_range] at h
  exact h
theorem relP_snoc {ps : List Addr} {Rs : List RN} {H : Hp} {q : Addr} {R : RN} (h : RelP ps Rs H) (r : R q H) : RelP (ps ++ [q]) (Rs ++ [R]) H := by
  refine ⟨by rw [List.length_append, List.length_append, h.1]; rfl, fun i q' R' a b => ?_⟩
  by_cases hi : i < ps.length
  · rw [List.getElem?_append_left hi] at a
    rw [List.getElem?_append_left (by rw [← h.1]; exact hi)] at b
    exact h.2 i q' R' a b
  · rw [List.getElem?_append_right (by omega)] at a
    rw [List.getElem?_append_right (by rw [← h.1]; omega), ← h.1] at b
    cases hz : i - ps.length with
    | zero => rw [hz] at a b; cases a; cases b; exact r
    | succ m => rw [hz] at a; cases a
theorem lcGN {J : It} {n : Nat} {Q : VK} (f : Nat → Bool) (R : Nat → RN) (hz : n ≤ 40000) (eB : Ex B H) (hgo : ∀ i H', Ex H H' → i < n → J.go i H') (hstop : ∀ H', Ex H H' → J.stop n H')
    (hy : ∀ i x H' H'', Ex H H' → i < n → J.yld i H' x H'' → Ex H' H'' ∧ TurnN σ vs g t te x B H'' (f i) (R i)) (q : ∀ p H2, H p = none → Ex H H2 → (∃ o, H2 p = some o) → Nw B H H2 (NewL (gvN n f R) p) → Q (.ref p) H2) :
    ∀ D, H D = none → ∃ W : Nat → Nat → Hp → Prop, (∃ m, W 0 m (upd H D (.lst []))) ∧ ∀ i m H, W i m H →
      (J.stop i H ∧ Q (.ref D) H) ∨ (J.go i H ∧ ∃ Nx : Hp → Prop, (∀ H', Nx H' → ∃ m', m' < m ∧ W (i + 1) m' H') ∧ ∀ x H', J.yld i H x H' → g x (wipe σ vs) H' fun σ2 H2 => wipe σ2 vs = wipe σ vs ∧ t σ2 H2 fun b H3 =>
        if b = true then te σ2 H3 fun y H4 => ∃ acc, H4 D = some (.lst acc) ∧ acc.length < sizeLine ∧ Nx (upd H4 D (.lst (acc ++ [y]))) else Nx H3) := by
  intro D hD
  let I : Nat → Hp → Prop := fun i H' => Ex H H' ∧ ∃ ps : List Addr, H' D = some (.lst (ps.map V.ref)) ∧ ps.length = (gvN i f R).length ∧ ∀ Hx, Ex B Hx → (∀ a o, a ≠ D → H a = none → H' a = some o → Hx a = some o) → RelP ps (gvN i f R) Hx
  have keep : ∀ i H' H'', I i H' → Ex H' H'' → I i H'' := fun i H' H'' ⟨a, ps, b, c, d⟩ e => ⟨a.trans e, ps, e _ _ b, c, fun Hx eb k => d Hx eb fun a o h1 h2 h3 => k a o h1 h2 (e _ _ h3)⟩
  refine ⟨fun i m H' => m = n - i ∧ i ≤ n ∧ I i H', ⟨n, by simp, Nat.zero_le _, Ex.new hD, [], upd_same, rfl, fun Hx _ _ => ⟨rfl, fun i q R a b => by cases a⟩⟩, ?_⟩
  rintro i m H' ⟨rfl, hi, p⟩
  by_cases hlt : i < n
  · refine .inr ⟨hgo i H' p.1 hlt, fun H'' => I (i + 1) H'', fun H'' p' => ⟨n - (i + 1), by omega, rfl, hlt, p'⟩, fun x H'' y => ?_⟩
    obtain ⟨e1, σ2, hg, hw, ht, he⟩ := hy i x H' H'' p.1 hlt y
    refine hg _ ⟨hw, ht H'' (Ex.refl H'') _ fun H3 e3 => ?_⟩
    cases hf : f i with
    | true =>
      show te σ2 H3 fun y H4 => ∃ acc, H4 D = some (.lst acc) ∧ acc.length < sizeLine ∧ I (i + 1) (upd H4 D (.lst (acc ++ [y])))
      refine he hf H3 e3 _ fun pt H4 hpt e4 _ nw => ?_
      obtain ⟨ex3, ps, b, c, d⟩ := keep i H' H3 p (e1.trans e3)
      refine ⟨ps.map V.ref, e4 _ _ b, sz_lt (by rw [List.length_map, c]; have := gvN_len i f R; omega), Ex.mut (ex3.trans e4) hD, ps ++ [pt], by rw [upd_same, List.map_append]; rfl, ?_, fun Hx eb k => ?_⟩
      · rw [gvN_yes hf, List.length_append, List.length_append, c]; rfl
      · rw [gvN_yes hf]
        refine relP_snoc (d Hx eb fun a o h1 h2 h3 => k a o h1 h2 (by rw [upd_ne h1]; exact e4 _ _ h3)) (nw Hx eb fun a o h1 h2 => ?_)
        have hne : a ≠ D := (ne_of_none b h1).symm
        exact k a o hne (fresh_back ex3 h1) (by rw [upd_ne hne]; exact h2)
    | false =>
      show I (i + 1) H3
      obtain ⟨ex3, ps, b, c, d⟩ := keep i H' H3 p (e1.trans e3)
      refine ⟨ex3, ps, b, ?_, ?_⟩ <;> rw [gvN_no hf] <;> assumption
  · have e : i = n := by omega
    subst e
    obtain ⟨ex, ps, b, c, d⟩ := p
    exact .inl ⟨hstop H' ex, q D H' hD ex ⟨_, b⟩ fun Hx eb k => ⟨ps, k _ _ hD b, d Hx eb fun a o _ h1 h2 => k a o h1 h2⟩⟩
theorem en_lcL {a : Addr} {xs : List V} (f : Nat → Bool) (R : Nat → RN) (eB : Ex B H) (h : Ev tl σ H (.ref a)) (hx : SqL K H a xs) (hz : xs.length ≤ 40000)
    (ht : ∀ (i : Nat) (x : V) H1, Ex H H1 → xs[i]? = some x → TurnN σ vs g t te x B H1 (f i) (R i)) : EvN (tLc (iList K tl) g t te vs) σ B H (NewL (gvN xs.length f R)) := fun H0 e Q q => h H0 e _ fun H1 e1 =>
  ⟨a, rfl, ⟨xs, ex_l (e.trans e1) hx⟩, lcGN f R hz (eB.trans (e.trans e1)) (fun i H' e2 hi => ⟨xs, xs[i], ex_l ((e.trans e1).trans e2) hx, List.getElem?_eq_getElem hi⟩) (fun H' e2 => ⟨xs, ex_l ((e.trans e1).trans e2) hx, Nat.le_refl _⟩)
    (fun i x H' H'' e2 hi y => by
      obtain ⟨rfl, y⟩ := y
      exact ⟨Ex.refl _, ht i x H'' ((e.trans e1).trans e2) (y xs (ex_l ((e.trans e1).trans e2) hx))⟩) fun p H2 hp e2 o nw => q p H2 (fresh_back e1 hp) (e1.trans e2) o (nw.weak e1 (Ex.refl _))⟩
theorem en_lcNL {xs : List V} (f : Nat → Bool) (R : Nat → RN) (eB : Ex B H) (h : EvL tl σ H xs) (hz : xs.length ≤ 40000)
    (ht : ∀ (i : Nat) (x : V) H1, Ex H H1 → xs[i]? = some x → TurnN σ vs g t te x B H1 (f i) (R i)) : EvN (tLc (iList K tl) g t te vs) σ B H (NewL (gvN xs.length f R)) := fun H0 e Q q => h H0 e _ fun a H1 ha e1 hx =>
  ⟨a, rfl, ⟨xs, sq_get hx⟩, lcGN f R hz (eB.trans (e.trans e1)) (fun i H' e2 hi => ⟨xs, xs[i], ex_l e2 (sq_get hx), List.getElem?_eq_getElem hi⟩) (fun H' e2 => ⟨xs, ex_l e2 (sq_get hx), Nat.le_refl _⟩)
    (fun i x H' H'' e2 hi y => by
      obtain ⟨rfl, y⟩ := y
      exact ⟨Ex.refl _, ht i x H'' ((e.trans e1).trans e2) (y xs (ex_l e2 (sq_get hx)))⟩) fun p H2 hp e2 o nw => q p H2 (fresh_back e1 hp) (e1.trans e2) o (nw.weak e1 (Ex.refl _))⟩
theorem en_lcT {a : Addr} {xs : List V} (f : Nat → Bool) (R : Nat → RN) (eB : Ex B H) (h : Ev tl σ H (.ref a)) (hx : SqT K H a xs) (hz : xs.length ≤ 40000)
    (ht : ∀ (i : Nat) (x : V) H1, Ex H H1 → xs[i]? = some x → TurnN σ vs g t te x B H1 (f i) (R i)) : EvN (tLc (iTup K tl) g t te vs) σ B H (NewL (gvN xs.length f R)) := fun H0 e Q q => h H0 e _ fun H1 e1 =>
  ⟨a, rfl, ⟨xs, ex_t (e.trans e1) hx⟩, lcGN f R hz (eB.trans (e.trans e1)) (fun i H' e2 hi => ⟨xs, xs[i], ex_t ((e.trans e1).trans e2) hx, List.getElem?_eq_getElem hi⟩) (fun H' e2 => ⟨xs, ex_t ((e.trans e1).trans e2) hx, Nat.le_refl _⟩)
    (fun i x H' H'' e2 hi y => by
      obtain ⟨rfl, y⟩ := y
      exact ⟨Ex.refl _, ht i x H'' ((e.trans e1).trans e2) (y xs (ex_t ((e.trans e1).trans e2) hx))⟩) fun p H2 hp e2 o nw => q p H2 (fresh_back e1 hp) (e1.trans e2) o (nw.weak e1 (Ex.refl _))⟩
theorem en_lcR {ta : TA} {n : Nat} (f : Nat → Bool) (R : Nat → RN) (eB : Ex B H) (h : EvA ta σ H [.int (n : Int)]) (hz : n ≤ 40000)
    (ht : ∀ (i : Nat) H1, Ex H H1 → i < n → TurnN σ vs g t te (.int (i : Int)) B H1 (f i) (R i)) : EvN (tLc (iRng1 ta) g t te vs) σ B H (NewL (gvN n f R)) := fun H0 e Q q => h H0 e _ fun H1 e1 =>
  ⟨(n : Int), rfl, by omega, by omega, by
    rw [Int.toNat_natCast]
    exact lcGN f R hz (eB.trans (e.trans e1)) (fun i H' e2 hi => hi) (fun H' e2 => Nat.le_refl _)
      (fun i x H' H'' e2 hi y => by
        obtain ⟨rfl, rfl⟩ := y
        rw [Int.zero_add]
        exact ⟨Ex.refl _, ht i H'' ((e.trans e1).trans e2) hi⟩) fun p H2 hp e2 o nw => q p H2 (fresh_back e1 hp) (e1.trans e2) o (nw.weak e1 (Ex.refl _))⟩
/-- over a locked dict's keys: as a statement -/
theorem q_lcKN {d : Addr} {i : Nat} {kvs : List (Key × V)} (f : Nat → Bool) (R : Nat → RN) (hd : H d = some (.dK kvs)) (h : ∀ od, Ev td σ (upd H d (.frz od (.dK kvs))) (.ref d)) (hz : kvs.length ≤ 40000)
    (ht : ∀ od (i : Nat) (k : Key) (x : V) H1, Ex (upd H d (.frz od (.dK kvs))) H1 → kvs[i]? = some (k, x) → TurnN σ vs g t te (kV k) (del H d) H1 (f i) (R i)) (k : ∀ p H1, H p = none → Ex H H1 → (∃ o, H1 p = some o) → Nw H H H1 (NewL (gvN kvs.length f R) p) → tz D (σ.set i (some (.ref p))) H1) :
    tSeq (tLock (tAsg (tLc (iKeys td) g t te vs) (gName i))) tz D σ H :=
  ⟨d, .dK kvs, hd, True.intro, fun od => h od _ (Ex.refl _) _ fun H1 e1 => ⟨d, od, rfl, .inl ⟨kvs, e1 _ _ upd_same, by
    have eb : Ex (del H d) H1 := fun a o ha => e1 _ _ (by
      have hne : a ≠ d := fun z => by rw [z, del_self] at ha; cases ha
      rw [upd_ne hne]; rwa [del_ne hne] at ha)
    exact lcGN (J := Itk d od kvs) (Q := fun y H' => H' d = some (.frz od (.dK kvs)) ∧ tz D (σ.set i (some y)) (upd H' d (.dK kvs))) f R hz eb (fun i H' e2 hi => ⟨e2 _ _ (e1 _ _ upd_same), hi⟩) (fun H' e2 => ⟨e2 _ _ (e1 _ _ upd_same), Nat.le_refl _⟩)
      (fun i x H' H'' e2 hi y => by
        obtain ⟨rfl, k, x, hk, rfl⟩ := y
        exact ⟨Ex.refl _, ht od i k x H'' (e1.trans e2) hk⟩)
      fun p H2 hp e2 o nw => ⟨e2 _ _ (e1 _ _ upd_same), by
        have hpd : p ≠ d := fun z => by subst z; rw [e1 _ _ upd_same] at hp; cases hp
        have hp0 : H p = none := by
          have := fresh_back e1 hp
          rw [upd_ne hpd] at this
          exact this
        refine k p _ hp0 (ex_unlock hd (e1.trans e2)) (by rw [upd_ne hpd]; exact o) fun Hx eb k => nw Hx ((del_ex _ _).trans eb) fun a o h1 h2 => ?_
        have hne : a ≠ d := fun z => by subst z; rw [e1 _ _ upd_same] at h1; cases h1
        refine k a o ?_ (by rw [upd_ne hne]; exact h2)
        have := fresh_back e1 h1
        rwa [upd_ne hne] at this⟩⟩⟩⟩
theorem nturn1 {j : Nat} {x : V} {b : Bool} (hw : wipe ((wipe σ vs).set j (some x)) vs = wipe σ vs) (ht : EvT t ((wipe σ vs).set j (some x)) H b) (he : b = true → EvN te ((wipe σ vs).set j (some x)) B H R) : TurnN σ vs (gName j) t te x B H b R := ⟨_, fun _ q => q, hw, ht, he⟩
theorem nturn2 {i j : Nat} {p : Addr} {x y : V} {b : Bool} (hp : H p = some (.tup [x, y])) (hw : wipe (((wipe σ vs).set i (some x)).set j (some y)) vs = wipe σ vs) (ht : EvT t (((wipe σ vs).set i (some x)).set j (some y)) H b)
    (he : b = true → EvN te (((wipe σ vs).set i (some x)).set j (some y)) B H R) : TurnN σ vs (gTup K 2 (gCons (gName i) (gCons (gName j) gNil))) t te (.ref p) B H b R :=
  ⟨_, fun _ q => ⟨p, [x, y], rfl, st_get hp, rfl, x, [y], rfl, y, [], rfl, rfl, q⟩, hw, ht, he⟩
theorem nturn3 {i j l : Nat} {p : Addr} {x y z : V} {b : Bool} (hp : H p = some (.tup [x, y, z])) (hw : wipe ((((wipe σ vs).set i (some x)).set j (some y)).set l (some z)) vs = wipe σ vs) (ht : EvT t ((((wipe σ vs).set i (some x)).set j (some y)).set l (some z)) H b)
    (he : b = true → EvN te ((((wipe σ vs).set i (some x)).set j (some y)).set l (some z)) B H R) : TurnN σ vs (gTup K 3 (gCons (gName i) (gCons (gName j) (gCons (gName l) gNil)))) t te (.ref p) B H b R :=
  ⟨_, fun _ q => ⟨p, [x, y, z], rfl, st_get hp, rfl, x, [y, z], rfl, y, [z], rfl, z, [], rfl, rfl, q⟩, hw, ht, he⟩
/-- calls, their answer put anywhere -/
theorem q_meth {a C dx : Addr} {fs : List (Str × V)} {m : Str} {sp : Sp} {E : XK} {t : TA} {ws : List V} (h : Ev ta σ H (.ref a)) (ha : H a = some (.ins C dx fs)) (l : fs.lookup m = none) (ht : EvA t σ H ws) (k : ∀ H1, Ex H H1 → sp (.ref a :: ws) H1 (fun x H2 => g x σ H2 (tz D)) E) :
    tSeq (tAsg (tMeth C m sp [] E ta t) g) tz D σ H := h H (Ex.refl H) _ fun H1 e1 => ⟨a, dx, fs, rfl, e1 _ _ ha, l, ht H1 e1 _ fun H2 e2 => by rw [List.append_nil]; exact k H2 (e1.trans e2)⟩
theorem s_meth {a C dx : Addr} {fs : List (Str × V)} {m : Str} {sp : Sp} {E : XK} {t : TA} {ws : List V} (h : Ev ta σ H (.ref a)) (ha : H a = some (.ins C dx fs)) (l : fs.lookup m = none) (ht : EvA t σ H ws) (k : ∀ H1, Ex H H1 → sp (.ref a :: ws) H1 (fun x H2 => g x σ H2 D.nx) E) :
    tAsg (tMeth C m sp [] E ta t) g D σ H := h H (Ex.refl H) _ fun H1 e1 => ⟨a, dx, fs, rfl, e1 _ _ ha, l, ht H1 e1 _ fun H2 e2 => by rw [List.append_nil]; exact k H2 (e1.trans e2)⟩
theorem q_dmeth {a C dx : Addr} {fs : List (Str × V)} {m : Str} {sp : Sp} {E : XK} {t : TA} {ws : List V} (h : Ev ta σ H (.ref a)) (ha : H a = some (.ins C dx fs)) (l : fs.lookup m = none) (ht : EvA t σ H ws) (k : ∀ H1, Ex H H1 → sp (.ref a :: ws) H1 (fun x H2 => tz D σ H2) E) :
    tSeq (tDrop (tMeth C m sp [] E ta t)) tz D σ H := h H (Ex.refl H) _ fun H1 e1 => ⟨a, dx, fs, rfl, e1 _ _ ha, l, ht H1 e1 _ fun H2 e2 => by rw [List.append_nil]; exact k H2 (e1.trans e2)⟩
theorem s_rmeth {a C dx : Addr} {fs : List (Str × V)} {m : Str} {sp : Sp} {E : XK} {t : TA} {ws : List V} (h : Ev ta σ H (.ref a)) (ha : H a = some (.ins C dx fs)) (l : fs.lookup m = none) (ht : EvA t σ H ws) (k : ∀ H1, Ex H H1 → sp (.ref a :: ws) H1 D.rt E) :
    tRet (tMeth C m sp [] E ta t) D σ H := h H (Ex.refl H) _ fun H1 e1 => ⟨a, dx, fs, rfl, e1 _ _ ha, l, ht H1 e1 _ fun H2 e2 => by rw [List.append_nil]; exact k H2 (e1.trans e2)⟩
theorem q_call {sp : Sp} {E : XK} {t : TA} {ws : List V} (ht : EvA t σ H ws) (k : ∀ H1, Ex H H1 → sp ws H1 (fun x H2 => g x σ H2 (tz D)) E) : tSeq (tAsg (tCall sp [] E t) g) tz D σ H := ht H (Ex.refl H) _ fun H1 e1 => by
  show sp (ws ++ []) H1 _ _
  rw [List.append_nil]; exact k H1 e1
theorem s_call {sp : Sp} {E : XK} {t : TA} {ws : List V} (ht : EvA t σ H ws) (k : ∀ H1, Ex H H1 → sp ws H1 (fun x H2 => g x σ H2 D.nx) E) : tAsg (tCall sp [] E t) g D σ H := ht H (Ex.refl H) _ fun H1 e1 => by
  show sp (ws ++ []) H1 _ _
  rw [List.append_nil]; exact k H1 e1
theorem q_dcall {sp : Sp} {E : XK} {t : TA} {ws : List V} (ht : EvA t σ H ws) (k : ∀ H1, Ex H H1 → sp ws H1 (fun x H2 => tz D σ H2) E) : tSeq (tDrop (tCall sp [] E t)) tz D σ H := ht H (Ex.refl H) _ fun H1 e1 => by
  show sp (ws ++ []) H1 _ _
  rw [List.append_nil]; exact k H1 e1
theorem s_rcall {sp : Sp} {E : XK} {t : TA} {ws : List V} (ht : EvA t σ H ws) (k : ∀ H1, Ex H H1 → sp ws H1 D.rt E) : tRet (tCall sp [] E t) D σ H := ht H (Ex.refl H) _ fun H1 e1 => by
  show sp (ws ++ []) H1 _ _
  rw [List.append_nil]; exact k H1 e1
end
/-- the given ones of typed data -/
theorem gvN_map {α : Type} (l : List α) (p : α → Bool) (c : α → RN) {f : Nat → Bool} {R : Nat → RN} (h : ∀ i a, l[i]? = some a → f i = p a ∧ R i = c a) : gvN l.length f R = (l.filter p).map c := by
  have all : ∀ n, n ≤ l.length → gvN n f R = ((l.take n).filter p).map c := by
    intro n
    induction n with
    | zero => intro _; rfl
    | succ n ih =>
      intro hn
      have hg : l[n]? = some l[n] := List.getElem?_eq_getElem (by omega)
      obtain ⟨h1, h2⟩ := h n _ hg
      rw [List.take_add_one, hg]
      show gvN (n + 1) f R = ((l.take n ++ [l[n]]).filter p).map c
      rw [List.filter_append, List.map_append, ← ih (by omega)]
      cases e : p l[n] with
      | true =>
        rw [gvN_yes (by rw [h1, e]), h2]
        simp [e]
      | false =>
        rw [gvN_no (by rw [h1, e])]
        simp [e]
  rw [all l.length (Nat.le_refl _), List.take_length]
end K59
/-! W8: data compared; the greatest pair. -/
namespace K59
open PySem PySem.Spec L2 Evl
theorem relP_cons {q : Addr} {ps : List Addr} {R : RN} {Rs : List RN} {H : Hp} (h : RelP (q :: ps) (R :: Rs) H) : R q H ∧ RelP ps Rs H :=
  ⟨h.2 0 q R rfl rfl, by have := h.1; simpa using this, fun i q' R' a b => h.2 (i + 1) q' R' a b⟩
theorem relP_mono {ps : List Addr} {Rs : List RN} {H H' : Hp} (m : ∀ R ∈ Rs, ∀ q, R q H → R q H') (h : RelP ps Rs H) : RelP ps Rs H' := ⟨h.1, fun i q R a b => m R (List.mem_of_getElem? b) q (h.2 i q R a b)⟩
theorem shaped_list {ds : List PyData} (h : ∀ d ∈ ds, d.canLay0 = true ∧ d.depth ≤ 5) : SeqAt.shaped (.list ds) = true := by
  have h1 : PyData.canLayAll0 ds = true := by
    induction ds with
    | nil => simp [PyData.canLayAll0]
    | cons d ds ih => simp [PyData.canLayAll0, (h d (by simp)).1, ih fun e he => h e (by simp [he])]
  have h2 : PyData.depthAll ds ≤ 5 := by
    clear h1
    induction ds with
    | nil => simp [PyData.depthAll]
    | cons d ds ih =>
      have a := (h d (by simp)).2
      have b := ih fun e he => h e (by simp [he])
      simp only [PyData.depthAll]
      omega
  have h3 : PyData.depth (.list ds) ≤ 64 := by simp only [PyData.depth]; omega
  show (PyData.canLay0 (.list ds) && decide (PyData.depth (.list ds) ≤ 64)) = true
  rw [Bool.and_eq_true]
  exact ⟨by simp only [PyData.canLay0]; exact h1, decide_eq_true h3⟩
def isII (y : Int × Nat) : RN := isU [.int y.1, .int (y.2 : Int)]
def dII (y : Int × Nat) : PyData := .tuple [.int y.1, .int (y.2 : Int)]
theorem dpAll_II {K : PySem.W.Frag} {H : Hp} : ∀ {rl : List (Int × Nat)} {ps : List Addr}, RelP ps (rl.map isII) H → DpAll K H (ps.map V.ref) (rl.map dII)
  | [], [], _ => .nil
  | [], _ :: _, h => by have := h.1; simp at this
  | _ :: _, [], h => by have := h.1; simp at this
  | y :: rl, p :: ps, h => by
    obtain ⟨h1, h2⟩ := relP_cons h
    exact .cons (.tup (st_get h1) (.cons (.int _) (.cons (.int _) .nil))) (dpAll_II h2)
section
variable {K : PySem.W.Frag} {σ : L2.St} {H : Hp} {ta tb te : TE} {tz : TS} {D : Ends}
/-- l == [] -/
theorem ev_eqNil {l : Addr} {xs : List V} {ds : List PyData} (ha : Ev ta σ H (.ref l)) (hl : H l = some (.lst xs)) (hd : DpAll K H xs ds) (hk : ∀ H1, Ex H H1 → DpAll K H1 xs ds) (hs : ∀ d ∈ ds, d.canLay0 = true ∧ d.depth ≤ 5) (ne : decide (ds = []) = b) : Ev (tOp (rEqD K) ta (tLst tNil)) σ H (.bl b) :=
  ev_opL ha (el_lst ea_nil (by simp)) fun p H1 hp e => rv_val fun H2 e2 Q q => ⟨.list ds, .list [], .lst (sq_get ((e.trans e2) _ _ hl)) (hk H2 (e.trans e2)), .lst (sq_get (e2 _ _ hp)) .nil, shaped_list hs, shaped_list fun d h => by simp at h, by
    have : PyData.eqv (.list ds) (.list []) = b := by
      subst ne
      cases ds <;> simp [PyData.eqv, PyData.eqvAll]
    rw [this]
    exact q⟩
theorem maxP_run {l : Addr} {ps : List Addr} {rl : List (Int × Nat)} (hl : H l = some (.lst (ps.map V.ref))) (rel : RelP ps (rl.map isII) H) (ne : rl ≠ []) {Q : VK} (q : ∀ p y, y ∈ rl → (∀ z ∈ rl, z.1 ≤ y.1) → H p = some (.tup [.int y.1, .int (y.2 : Int)]) → Q (.ref p) H) : rMaxP K [.ref l] H Q := by
  have hlen : ps.length = rl.length := by rw [rel.1, List.length_map]
  have e1 : ((ps.zip rl).map fun z => (z.1, z.2.1, (z.2.2 : Int))).map (fun x => V.ref x.1) = ps.map V.ref := by
    rw [List.map_map]
    show (ps.zip rl).map (fun z => V.ref z.1) = _
    have : (ps.zip rl).map (fun z => V.ref z.1) = ((ps.zip rl).map Prod.fst).map V.ref := by rw [List.map_map]; rfl
    rw [this, List.map_fst_zip (by omega)]
  have hin : ∀ z ∈ ps.zip rl, z.2 ∈ rl ∧ H z.1 = some (.tup [.int z.2.1, .int (z.2.2 : Int)]) := fun z hz => by
    obtain ⟨i, hi⟩ := List.getElem?_of_mem hz
    rw [List.getElem?_zip_eq_some] at hi
    refine ⟨List.mem_of_getElem? hi.2, rel.2 i z.1 (isII z.2) hi.1 ?_⟩
    rw [List.getElem?_map, hi.2]; rfl
  have hout : ∀ y ∈ rl, ∃ z ∈ ps.zip rl, z.2 = y := fun y hy => by
    obtain ⟨i, hi⟩ := List.getElem?_of_mem hy
    have h1 := (List.getElem?_eq_some_iff.mp hi).1
    refine ⟨(ps[i]'(by omega), y), List.mem_of_getElem? (i := i) ?_, rfl⟩
    rw [List.getElem?_zip_eq_some]
    exact ⟨List.getElem?_eq_getElem (by omega), hi⟩
  refine ⟨l, (ps.zip rl).map fun z => (z.1, z.2.1, (z.2.2 : Int)), rfl, by rw [e1]; exact sq_get hl, fun x hx => ?_, ?_, fun x hx hm => ?_⟩
  · obtain ⟨z, hz, rfl⟩ := List.mem_map.mp hx
    exact (hin z hz).2
  · cases rl with
    | nil => exact absurd rfl ne
    | cons y rl =>
      cases ps with
      | nil => simp at hlen
      | cons => simp
  · obtain ⟨z, hz, rfl⟩ := List.mem_map.mp hx
    refine q z.1 z.2 (hin z hz).1 (fun y hy => ?_) (hin z hz).2
    obtain ⟨z', hz', rfl⟩ := hout y hy
    exact hm _ (List.mem_map.mpr ⟨z', hz', rfl⟩)
theorem isII_mono {rl : List (Int × Nat)} {ps : List Addr} {H H' : Hp} (e : Ex H H') (h : RelP ps (rl.map isII) H) : RelP ps (rl.map isII) H' := relP_mono (fun R hR q r => by
  obtain ⟨y, _, rfl⟩ := List.mem_map.mp hR
  exact e _ _ r) h
/-- max(l)[0] -/
theorem ev_maxP0 {l : Addr} {ps : List Addr} {rl : List (Int × Nat)} {gm : Int} (ha : Ev ta σ H (.ref l)) (hl : H l = some (.lst (ps.map V.ref))) (rel : RelP ps (rl.map isII) H) (h1 : ∃ y ∈ rl, y.1 = gm) (h2 : ∀ y ∈ rl, y.1 ≤ gm) : Ev (tOp (rIxT K) (tCB (rMaxP K) (tCons ta tNil)) (tC (.int 0))) σ H (.int gm) := fun H1 e Q q =>
  ha H1 e _ fun H2 e2 => by
    show rMaxP K [.ref l] H2 fun x H1 => rIxT K x (.int 0) H1 Q
    refine maxP_run ((e.trans e2) _ _ hl) (isII_mono (e.trans e2) rel) (by intro z; subst z; obtain ⟨y, hy, _⟩ := h1; simp at hy) fun p y hy hm hp => ⟨p, _, 0, .int gm, rfl, rfl, st_get hp, ?_, q H2 e2⟩
    obtain ⟨y0, hy0, e0⟩ := h1
    have a := hm y0 hy0
    have b := h2 y hy
    have : y.1 = gm := by omega
    rw [this]
    rfl
/-- i = max(l)[1] -/
theorem q_maxP1 {i : Nat} {l : Addr} {ps : List Addr} {rl : List (Int × Nat)} (ha : Ev ta σ H (.ref l)) (hl : H l = some (.lst (ps.map V.ref))) (rel : RelP ps (rl.map isII) H) (ne : rl ≠ []) (k : ∀ y H1, Ex H H1 → y ∈ rl → (∀ z ∈ rl, z.1 ≤ y.1) → tz D (σ.set i (some (.int (y.2 : Int)))) H1) :
    tSeq (tAsg (tOp (rIxT K) (tCB (rMaxP K) (tCons ta tNil)) (tC (.int 1))) (gName i)) tz D σ H :=
  ha H (Ex.refl H) _ fun H2 e2 => by
    show rMaxP K [.ref l] H2 fun x H1 => rIxT K x (.int 1) H1 fun x H1 => tz D (σ.set i (some x)) H1
    exact maxP_run (e2 _ _ hl) (isII_mono e2 rel) ne fun p y hy hm hp => ⟨p, _, 1, .int (y.2 : Int), rfl, rfl, st_get hp, rfl, k y H2 e2 hy hm⟩
end
end K59
/-! W9: comprehensions of two levels. -/
namespace K59
open PySem PySem.Spec L2 Evl
abbrev EN := V → Hp → Prop
def EvE (te : TE) (σ : L2.St) (B H : Hp) (E : EN) : Prop := ∀ H1, Ex H H1 → ∀ Q : VK, (∀ v H2, Ex H1 H2 → Nw B H1 H2 (E v) → Q v H2) → te σ H1 Q
def eV (z : V) : EN := fun v _ => v = z
def eN (R : RN) : EN := fun v H => ∃ p, v = .ref p ∧ R p H
def RelE (vs : List V) (Es : List EN) (H : Hp) : Prop := vs.length = Es.length ∧ ∀ (i : Nat) (v : V) (E : EN), vs[i]? = some v → Es[i]? = some E → E v H
section
variable {K : PySem.W.Frag} {σ : L2.St} {B H H' : Hp} {te : TE} {R : RN} {E : EN} {t : TT} {g g1 : TG} {vs vs1 : List Nat} {z : V} {wi1 : TI}
theorem ee_V (h : Ev te σ H z) : EvE te σ B H (eV z) := fun H1 e Q q => h H1 e Q fun H2 e2 => q z H2 e2 fun _ _ _ => rfl
theorem ee_N (h : EvN te σ B H R) : EvE te σ B H (eN R) := fun H1 e Q q => h H1 e Q fun p H2 hp e2 _ nw => q _ H2 e2 (nw.imp fun _ r => ⟨p, rfl, r⟩)
theorem relE_snoc {ps : List V} {Es : List EN} {H : Hp} {q : V} {E : EN} (h : RelE ps Es H) (r : E q H) : RelE (ps ++ [q]) (Es ++ [E]) H := by
  refine ⟨by rw [List.length_append, List.length_append, h.1]; rfl, fun i q' R' a b => ?_⟩
  by_cases hi : i < ps.length
  · rw [List.getElem?_append_left hi] at a
    rw [List.getElem?_append_left (by rw [← h.1]; exact hi)] at b
    exact h.2 i q' R' a b
  · rw [List.getElem?_append_right (by omega)] at a
    rw [List.getElem?_append_right (by rw [← h.1]; omega), ← h.1] at b
    cases hz : i - ps.length with
    | zero => rw [hz] at a b; cases a; cases b; exact r
    | succ m => rw [hz] at a; cases a
theorem relE_cons {q : V} {ps : List V} {E : EN} {Es : List EN} {H : Hp} (h : RelE (q :: ps) (E :: Es) H) : E q H ∧ RelE ps Es H :=
  ⟨h.2 0 q E rfl rfl, by have := h.1; simpa using this, fun i q' R' a b => h.2 (i + 1) q' R' a b⟩
theorem relE_V {H : Hp} : ∀ {zs ps : List V}, RelE ps (zs.map eV) H → ps = zs
  | [], [], _ => rfl
  | [], _ :: _, h => by have := h.1; simp at this
  | _ :: _, [], h => by have := h.1; simp at this
  | z :: zs, p :: ps, h => by
    obtain ⟨h1, h2⟩ := relE_cons h
    rw [relE_V h2, show p = z from h1]
theorem relE_N {H : Hp} : ∀ {Rs : List RN} {vs : List V}, RelE vs (Rs.map eN) H → ∃ ps : List Addr, vs = ps.map V.ref ∧ RelP ps Rs H
  | [], [], _ => ⟨[], rfl, rfl, fun i q R a b => by cases a⟩
  | [], _ :: _, h => by have := h.1; simp at this
  | _ :: _, [], h => by have := h.1; simp at this
  | R :: Rs, v :: vs, h => by
    obtain ⟨⟨p, rfl, hp⟩, h2⟩ := relE_cons h
    obtain ⟨ps, rfl, hr⟩ := relE_N h2
    refine ⟨p :: ps, rfl, by rw [List.length_cons, List.length_cons, hr.1], fun i q R' a b => ?_⟩
    cases i with
    | zero => cases a; cases b; exact hp
    | succ i => exact hr.2 i q R' a b
/-- what is gathered in D -/
def Acc (B H : Hp) (D : Addr) (Es : List EN) (H' : Hp) : Prop := Ex H H' ∧ ∃ vs : List V, H' D = some (.lst vs) ∧ vs.length = Es.length ∧ ∀ Hx, Ex B Hx → (∀ a o, a ≠ D → H a = none → H' a = some o → Hx a = some o) → RelE vs Es Hx
theorem Acc.keep {D : Addr} {Es : List EN} {H'' : Hp} (h : Acc B H D Es H') (e : Ex H' H'') : Acc B H D Es H'' := by
  obtain ⟨a, ps, b, c, d⟩ := h
  exact ⟨a.trans e, ps, e _ _ b, c, fun Hx eb k => d Hx eb fun a o h1 h2 h3 => k a o h1 h2 (e _ _ h3)⟩
theorem Acc.start {D : Addr} (hD : H D = none) : Acc B H D [] (upd H D (.lst [])) := ⟨Ex.new hD, [], upd_same, rfl, fun Hx _ _ => ⟨rfl, fun i q R a b => by cases a⟩⟩
theorem Acc.push {D : Addr} {Es : List EN} {H4 : Hp} {v : V} (h : Acc B H D Es H') (hD : H D = none) (e4 : Ex H' H4) (hz : Es.length < 100000) (nw : Nw B H' H4 (E v)) : ∃ acc, H4 D = some (.lst acc) ∧ acc.length < sizeLine ∧ Acc B H D (Es ++ [E]) (upd H4 D (.lst (acc ++ [v]))) := by
  obtain ⟨ex3, ps, b, c, d⟩ := h
  refine ⟨ps, e4 _ _ b, sz_lt (by rw [c]; exact hz), Ex.mut (ex3.trans e4) hD, ps ++ [v], upd_same, ?_, fun Hx eb k => ?_⟩
  · rw [List.length_append, List.length_append, c]; rfl
  · refine relE_snoc (d Hx eb fun a o h1 h2 h3 => k a o h1 h2 (by rw [upd_ne h1]; exact e4 _ _ h3)) (nw Hx eb fun a o h1 h2 => ?_)
    have hne : a ≠ D := (ne_of_none b h1).symm
    exact k a o hne (fresh_back ex3 h1) (by rw [upd_ne hne]; exact h2)
def gv1 (m : Nat) (f : Nat → Bool) (E : Nat → EN) : List EN := ((List.range m).filter f).map E
def gv2 (n : Nat) (nn : Nat → Nat) (f : Nat → Nat → Bool) (E : Nat → Nat → EN) : List EN := (List.range n).flatMap fun i => gv1 (nn i) (f i) (E i)
theorem gv1_yes {n : Nat} {f : Nat → Bool} {E : Nat → EN} (h : f n = true) : gv1 (n + 1) f E = gv1 n f E ++ [E n] := by
  unfold gv1
  rw [List.range_succ, List.filter_append, List.map_append, List.filter_cons, if_pos h] <;> rfl
theorem gv1_no {n : Nat} {f : Nat → Bool} {E : Nat → EN} (h : f n = false) : gv1 (n + 1) f E = gv1 n f E := by
  unfold gv1
  rw [List.range_succ, List.filter_append, List.map_append, List.filter_cons, if_neg (by rw [h]; decide)]
  show _ ++ [] = _
  rw [List.append_nil]
theorem gv1_len (n : Nat) (f : Nat → Bool) (E : Nat → EN) : (gv1 n f E).length ≤ n := by
  unfold gv1
  rw [List.length_map]
  have h := List.length_filter_le f (List.range n)
  rw [List.length_range] at h
  exact h
theorem gv2_succ (n : Nat) (nn : Nat → Nat) (f : Nat → Nat → Bool) (E : Nat → Nat → EN) : gv2 (n + 1) nn f E = gv2 n nn f E ++ gv1 (nn n) (f n) (E n) := by
  unfold gv2
  rw [List.range_succ, List.flatMap_append]
  simp
theorem gv2_len (n c : Nat) (nn : Nat → Nat) (f : Nat → Nat → Bool) (E : Nat → Nat → EN) (h : ∀ i, i < n → nn i ≤ c) : (gv2 n nn f E).length ≤ n * c := by
  induction n with
  | zero => simp [gv2]
  | succ n ih =>
    rw [gv2_succ, List.length_append, Nat.succ_mul]
    have h1 := ih fun i hi => h i (by omega)
    have h2 := gv1_len (nn n) (f n) (E n)
    have h3 := h n (by omega)
    omega
/-- the inner walk of a turn -/
structure Inner (σ2 : L2.St) (vs1 : List Nat) (g1 : TG) (t : TT) (te : TE) (B H4 : Hp) (m : Nat) (f : Nat → Bool) (E : Nat → EN) (J1 : It) : Prop where
  go : ∀ j H5, Ex H4 H5 → j < m → J1.go j H5
  stop : ∀ H5, Ex H4 H5 → J1.stop m H5
  yld : ∀ j x H5 H6, Ex H4 H5 → j < m → J1.yld j H5 x H6 → Ex H5 H6 ∧ ∃ σ3, (∀ Q : L2.St → Hp → Prop, Q σ3 H6 → g1 x (wipe σ2 vs1) H6 Q) ∧ wipe σ3 vs1 = wipe σ2 vs1 ∧ EvT t σ3 H6 (f j) ∧ (f j = true → EvE te σ3 B H6 (E j))
theorem lc2G {J : It} {n : Nat} {Q : VK} (nn : Nat → Nat) (f : Nat → Nat → Bool) (E : Nat → Nat → EN) (hz : n ≤ 200) (hzz : ∀ i, i < n → nn i ≤ 200) (eB : Ex B H) (hgo : ∀ i H', Ex H H' → i < n → J.go i H') (hstop : ∀ H', Ex H H' → J.stop n H')
    (hy : ∀ i x H' H'', Ex H H' → i < n → J.yld i H' x H'' → Ex H' H'' ∧ ∃ σ2, (∀ Q : L2.St → Hp → Prop, Q σ2 H'' → g x (wipe σ vs) H'' Q) ∧ wipe σ2 vs = wipe σ vs ∧
      ∀ R : It → Hp → Prop, (∀ J1 H4, Ex H'' H4 → (∀ C, Ex H C → (∀ a o, H'' a = none → H4 a = some o → C a = some o) → Inner σ2 vs1 g1 t te B C (nn i) (f i) (E i) J1) → R J1 H4) → wi1 σ2 H'' R)
    (q : ∀ p H2, H p = none → Ex H H2 → (∃ o, H2 p = some o) → Nw B H H2 (fun Hx => ∃ ws, Hx p = some (.lst ws) ∧ RelE ws (gv2 n nn f E) Hx) → Q (.ref p) H2) :
    ∀ D, H D = none → ∃ W : Nat → Nat → Hp → Prop, (∃ m, W 0 m (upd H D (.lst []))) ∧ ∀ i m H, W i m H →
      (J.stop i H ∧ Q (.ref D) H) ∨ (J.go i H ∧ ∃ Nx : Hp → Prop, (∀ H', Nx H' → ∃ m', m' < m ∧ W (i + 1) m' H') ∧ ∀ x H', J.yld i H x H' → g x (wipe σ vs) H' fun σ2 H2 => wipe σ2 vs = wipe σ vs ∧ tYes σ2 H2 fun b H3 =>
        if b = true then wi1 σ2 H3 fun J1 H4 => ∃ W1 : Nat → Nat → Hp → Prop, (∃ m, W1 0 m H4) ∧ ∀ j k H, W1 j k H →
          (J1.stop j H ∧ Nx H) ∨ (J1.go j H ∧ ∃ Nx1 : Hp → Prop, (∀ H', Nx1 H' → ∃ k', k' < k ∧ W1 (j + 1) k' H') ∧ ∀ x H', J1.yld j H x H' → g1 x (wipe σ2 vs1) H' fun σ3 H5 => wipe σ3 vs1 = wipe σ2 vs1 ∧ t σ3 H5 fun b H6 =>
            if b = true then te σ3 H6 fun y H7 => ∃ acc, H7 D = some (.lst acc) ∧ acc.length < sizeLine ∧ Nx1 (upd H7 D (.lst (acc ++ [y]))) else Nx1 H6)
        else Nx H3) := by
  intro D hD
  refine ⟨fun i m H' => m = n - i ∧ i ≤ n ∧ Acc B H D (gv2 i nn f E) H', ⟨n, by simp, Nat.zero_le _, Acc.start hD⟩, ?_⟩
  rintro i m H' ⟨rfl, hi, p⟩
  by_cases hlt : i < n
  · refine .inr ⟨hgo i H' p.1 hlt, fun H'' => Acc B H D (gv2 (i + 1) nn f E) H'', fun H'' p' => ⟨n - (i + 1), by omega, rfl, hlt, p'⟩, fun x H'' y => ?_⟩
    obtain ⟨e1, σ2, hg, hw, hin⟩ := hy i x H' H'' p.1 hlt y
    refine hg _ ⟨hw, ?_⟩
    show wi1 σ2 H'' _
    refine hin _ fun J1 H4 e4 In0 => ?_
    have p4 := p.keep (e1.trans e4)
    obtain ⟨ws4, hws4⟩ : ∃ ws, H'' D = some (.lst ws) := let ⟨_, ws, h, _⟩ := p.keep e1; ⟨ws, h⟩
    have In := In0 (del H4 D) (ex_del p4.1 hD) fun a o h1 h2 => by
      rw [del_ne (ne_of_none hws4 h1).symm]; exact h2
    have hl2 : (gv2 i nn f E).length ≤ i * 200 := gv2_len i 200 nn f E fun j hj => hzz j (by omega)
    refine ⟨fun j k H5 => k = nn i - j ∧ j ≤ nn i ∧ Ex (del H4 D) H5 ∧ Acc B H D (gv2 i nn f E ++ gv1 j (f i) (E i)) H5, ⟨nn i, by simp, Nat.zero_le _, del_ex _ _, by
      show Acc B H D (gv2 i nn f E ++ []) H4
      rw [List.append_nil]
      exact p4⟩, ?_⟩
    rintro j k H5 ⟨rfl, hj, e5, p5⟩
    by_cases hjl : j < nn i
    · refine .inr ⟨In.go j H5 e5 hjl, fun H6 => Ex (del H4 D) H6 ∧ Acc B H D (gv2 i nn f E ++ gv1 (j + 1) (f i) (E i)) H6, fun H6 p6 => ⟨nn i - (j + 1), by omega, rfl, hjl, p6.1, p6.2⟩, fun x H6 y => ?_⟩
      obtain ⟨e6, σ3, hg1, hw1, ht1, he1⟩ := In.yld j x H5 H6 e5 hjl y
      refine hg1 _ ⟨hw1, ht1 H6 (Ex.refl _) _ fun H7 e7 => ?_⟩
      cases hf : f i j with
      | true =>
        show te σ3 H7 fun y H8 => ∃ acc, H8 D = some (.lst acc) ∧ acc.length < sizeLine ∧ Ex (del H4 D) (upd H8 D (.lst (acc ++ [y]))) ∧ Acc B H D (gv2 i nn f E ++ gv1 (j + 1) (f i) (E i)) (upd H8 D (.lst (acc ++ [y])))
        refine he1 hf H7 e7 _ fun v H8 e8 nw => ?_
        obtain ⟨acc, a1, a2, a3⟩ := (p5.keep (e6.trans e7)).push (H4 := H8) (v := v) (E := E i j) hD e8 (by
          rw [List.length_append]
          have := gv1_len j (f i) (E i)
          have := hzz i hlt
          have : i * 200 ≤ 200 * 200 := Nat.mul_le_mul_right 200 (by omega)
          omega) nw
        rw [List.append_assoc, ← gv1_yes hf] at a3
        exact ⟨acc, a1, a2, Ex.mut (((e5.trans e6).trans e7).trans e8) (del_self _ _), a3⟩
      | false =>
        show Ex (del H4 D) H7 ∧ Acc B H D (gv2 i nn f E ++ gv1 (j + 1) (f i) (E i)) H7
        rw [gv1_no hf]
        exact ⟨(e5.trans e6).trans e7, p5.keep (e6.trans e7)⟩
    · have e : j = nn i := by omega
      subst e
      refine .inl ⟨In.stop H5 e5, ?_⟩
      show Acc B H D (gv2 (i + 1) nn f E) H5
      rw [gv2_succ]
      exact p5
  · have e : i = n := by omega
    subst e
    obtain ⟨ex, ps, b, c, d⟩ := p
    exact .inl ⟨hstop H' ex, q D H' hD ex ⟨_, b⟩ fun Hx eb k => ⟨ps, k _ _ hD b, d Hx eb fun a o _ h1 h2 => k a o h1 h2⟩⟩
/-- inner walks -/
theorem inner_T {C : Hp} {σ2 : L2.St} {a : Addr} {xs : List V} {f : Nat → Bool} {E : Nat → EN}
    (hC : SqT K C a xs) (ht : ∀ (j : Nat) (x : V) H6, Ex C H6 → xs[j]? = some x → ∃ σ3, (∀ Q : L2.St → Hp → Prop, Q σ3 H6 → g1 x (wipe σ2 vs1) H6 Q) ∧ wipe σ3 vs1 = wipe σ2 vs1 ∧ EvT t σ3 H6 (f j) ∧ (f j = true → EvE te σ3 B H6 (E j))) :
    Inner σ2 vs1 g1 t te B C xs.length f E (Itt K a) :=
  ⟨fun j H5 e hj => ⟨xs, xs[j], ex_t e hC, List.getElem?_eq_getElem hj⟩, fun H5 e => ⟨xs, ex_t e hC, Nat.le_refl _⟩, fun j x H5 H6 e hj y => by
    obtain ⟨rfl, y⟩ := y
    exact ⟨Ex.refl _, ht j x _ e (y xs (ex_t e hC))⟩⟩
theorem inner_L {C : Hp} {σ2 : L2.St} {a : Addr} {xs : List V} {f : Nat → Bool} {E : Nat → EN}
    (hC : SqL K C a xs) (ht : ∀ (j : Nat) (x : V) H6, Ex C H6 → xs[j]? = some x → ∃ σ3, (∀ Q : L2.St → Hp → Prop, Q σ3 H6 → g1 x (wipe σ2 vs1) H6 Q) ∧ wipe σ3 vs1 = wipe σ2 vs1 ∧ EvT t σ3 H6 (f j) ∧ (f j = true → EvE te σ3 B H6 (E j))) :
    Inner σ2 vs1 g1 t te B C xs.length f E (Itl K a) :=
  ⟨fun j H5 e hj => ⟨xs, xs[j], ex_l e hC, List.getElem?_eq_getElem hj⟩, fun H5 e => ⟨xs, ex_l e hC, Nat.le_refl _⟩, fun j x H5 H6 e hj y => by
    obtain ⟨rfl, y⟩ := y
    exact ⟨Ex.refl _, ht j x _ e (y xs (ex_l e hC))⟩⟩
/-- what a turn of the outer walk gives -/
def Turn2 (σ : L2.St) (vs vs1 : List Nat) (g : TG) (wi1 : TI) (g1 : TG) (t : TT) (te : TE) (x : V) (B H H'' : Hp) (m : Nat) (f : Nat → Bool) (E : Nat → EN) : Prop :=
  ∃ σ2, (∀ Q : L2.St → Hp → Prop, Q σ2 H'' → g x (wipe σ vs) H'' Q) ∧ wipe σ2 vs = wipe σ vs ∧
      ∀ R : It → Hp → Prop, (∀ J1 H4, Ex H'' H4 → (∀ C, Ex H C → (∀ a o, H'' a = none → H4 a = some o → C a = some o) → Inner σ2 vs1 g1 t te B C m f E J1) → R J1 H4) → wi1 σ2 H'' R
def IsG (Es : List EN) : RN := fun p Hx => ∃ ws, Hx p = some (.lst ws) ∧ RelE ws Es Hx
theorem q_lc2R {ta : TA} {n i : Nat} {tz : TS} {D : Ends} (nn : Nat → Nat) (f : Nat → Nat → Bool) (E : Nat → Nat → EN) (h : EvA ta σ H [.int (n : Int)]) (hz : n ≤ 200) (hzz : ∀ i, i < n → nn i ≤ 200)
    (ht : ∀ (i : Nat) H0 H1, Ex H H0 → Ex H0 H1 → i < n → Turn2 σ vs vs1 g wi1 g1 t te (.int (i : Int)) H H0 H1 (nn i) (f i) (E i)) (k : ∀ p H1, H p = none → Ex H H1 → (∃ o, H1 p = some o) → Nw H H H1 (IsG (gv2 n nn f E) p) → tz D (σ.set i (some (.ref p))) H1) :
    tSeq (tAsg (tLc2 (iRng1 ta) g tYes wi1 g1 t te vs vs1) (gName i)) tz D σ H := h H (Ex.refl H) _ fun H1 e1 => ⟨(n : Int), rfl, by omega, by omega, by
    rw [Int.toNat_natCast]
    exact lc2G (J := Itr 0 n) (Q := fun x H2 => tz D (σ.set i (some x)) H2) nn f E hz hzz e1 (fun i H' e2 hi => hi) (fun H' e2 => Nat.le_refl _)
      (fun i x H' H'' e2 hi y => by
        obtain ⟨rfl, rfl⟩ := y
        rw [Int.zero_add]
        exact ⟨Ex.refl _, ht i H1 _ e1 e2 hi⟩) fun p H2 hp e2 o nw => k p H2 (fresh_back e1 hp) (e1.trans e2) o (nw.weak e1 (Ex.refl _))⟩
theorem en_lc2L {a : Addr} {xs : List V} {tl : TE} (nn : Nat → Nat) (f : Nat → Nat → Bool) (E : Nat → Nat → EN) (eB : Ex B H) (h : Ev tl σ H (.ref a)) (hx : SqL K H a xs) (hz : xs.length ≤ 200) (hzz : ∀ i, i < xs.length → nn i ≤ 200)
    (ht : ∀ (i : Nat) (x : V) H0 H1, Ex H H0 → Ex H0 H1 → xs[i]? = some x → Turn2 σ vs vs1 g wi1 g1 t te x B H0 H1 (nn i) (f i) (E i)) : EvN (tLc2 (iList K tl) g tYes wi1 g1 t te vs vs1) σ B H (IsG (gv2 xs.length nn f E)) := fun H0 e Q q => h H0 e _ fun H1 e1 =>
  ⟨a, rfl, ⟨xs, ex_l (e.trans e1) hx⟩, lc2G nn f E hz hzz (eB.trans (e.trans e1)) (fun i H' e2 hi => ⟨xs, xs[i], ex_l ((e.trans e1).trans e2) hx, List.getElem?_eq_getElem hi⟩) (fun H' e2 => ⟨xs, ex_l ((e.trans e1).trans e2) hx, Nat.le_refl _⟩)
    (fun i x H' H'' e2 hi y => by
      obtain ⟨rfl, y⟩ := y
      exact ⟨Ex.refl _, ht i x H1 _ (e.trans e1) e2 (y xs (ex_l ((e.trans e1).trans e2) hx))⟩) fun p H2 hp e2 o nw => q p H2 (fresh_back e1 hp) (e1.trans e2) o (nw.weak e1 (Ex.refl _))⟩
theorem en_lc2T {a : Addr} {xs : List V} {tl : TE} (nn : Nat → Nat) (f : Nat → Nat → Bool) (E : Nat → Nat → EN) (eB : Ex B H) (h : Ev tl σ H (.ref a)) (hx : SqT K H a xs) (hz : xs.length ≤ 200) (hzz : ∀ i, i < xs.length → nn i ≤ 200)
    (ht : ∀ (i : Nat) (x : V) H0 H1, Ex H H0 → Ex H0 H1 → xs[i]? = some x → Turn2 σ vs vs1 g wi1 g1 t te x B H0 H1 (nn i) (f i) (E i)) : EvN (tLc2 (iTup K tl) g tYes wi1 g1 t te vs vs1) σ B H (IsG (gv2 xs.length nn f E)) := fun H0 e Q q => h H0 e _ fun H1 e1 =>
  ⟨a, rfl, ⟨xs, ex_t (e.trans e1) hx⟩, lc2G nn f E hz hzz (eB.trans (e.trans e1)) (fun i H' e2 hi => ⟨xs, xs[i], ex_t ((e.trans e1).trans e2) hx, List.getElem?_eq_getElem hi⟩) (fun H' e2 => ⟨xs, ex_t ((e.trans e1).trans e2) hx, Nat.le_refl _⟩)
    (fun i x H' H'' e2 hi y => by
      obtain ⟨rfl, y⟩ := y
      exact ⟨Ex.refl _, ht i x H1 _ (e.trans e1) e2 (y xs (ex_t ((e.trans e1).trans e2) hx))⟩) fun p H2 hp e2 o nw => q p H2 (fresh_back e1 hp) (e1.trans e2) o (nw.weak e1 (Ex.refl _))⟩
/-- a new list and an old one -/
theorem el_catNO {ta tb : TE} {xs ys : List V} {p : Addr} (ha : EvL ta σ H xs) (hb : Ev tb σ H (.ref p)) (hy : H p = some (.lst ys)) (hz : xs.length + ys.length ≤ 100000) : EvL (tOp rCat ta tb) σ H (xs ++ ys) := fun H1 e Q q =>
  ha H1 e _ fun p' H2 hp' e2 h2 => hb H2 (e.trans e2) _ fun H3 e3 => ⟨p', p, xs, ys, rfl, rfl, e3 _ _ h2, ((e.trans e2).trans e3) _ _ hy, sz_of hz, fun l hl => q l _ (fresh_back (e2.trans e3) hl) ((e2.trans e3).trans (Ex.new hl)) upd_same⟩
end
theorem inV_strs (k : Str) (l : List Str) : inV (.str k) (l.map V.str) = decide (k ∈ l) := by
  unfold inV
  rw [List.any_map]
  show (l.any fun a => a == k) = _
  induction l with
  | nil => rfl
  | cons a l ih =>
    rw [List.any_cons, ih]
    by_cases e : a = k
    · subst e; simp
    · have e' : ¬ k = a := fun z => e z.symm
      simp [e, e']
theorem given_all (n : Nat) (v : Nat → V) : given n (fun _ => true) v = (List.range n).map v := by
  unfold given
  rw [List.filter_eq_self.mpr fun _ _ => rfl]
/-- typed data -/
theorem gv1_map {α : Type} (l : List α) (p : α → Bool) (c : α → EN) {f : Nat → Bool} {E : Nat → EN} (h : ∀ i a, l[i]? = some a → f i = p a ∧ E i = c a) : gv1 l.length f E = (l.filter p).map c := by
  have all : ∀ n, n ≤ l.length → gv1 n f E = ((l.take n).filter p).map c := by
    intro n
    induction n with
    | zero => intro _; rfl
    | succ n ih =>
      intro hn
      have hg : l[n]? = some l[n] := List.getElem?_eq_getElem (by omega)
      obtain ⟨h1, h2⟩ := h n _ hg
      rw [List.take_add_one, hg]
      show gv1 (n + 1) f E = ((l.take n ++ [l[n]]).filter p).map c
      rw [List.filter_append, List.map_append, ← ih (by omega)]
      cases e : p l[n] with
      | true =>
        rw [gv1_yes (by rw [h1, e]), h2]
        simp [e]
      | false =>
        rw [gv1_no (by rw [h1, e])]
        simp [e]
  rw [all l.length (Nat.le_refl _), List.take_length]
theorem gv2_map {α : Type} (l : List α) (c : α → List EN) {nn : Nat → Nat} {f : Nat → Nat → Bool} {E : Nat → Nat → EN} (h : ∀ i a, l[i]? = some a → gv1 (nn i) (f i) (E i) = c a) : gv2 l.length nn f E = l.flatMap c := by
  have all : ∀ n, n ≤ l.length → gv2 n nn f E = (l.take n).flatMap c := by
    intro n
    induction n with
    | zero => intro _; rfl
    | succ n ih =>
      intro hn
      have hg : l[n]? = some l[n] := List.getElem?_eq_getElem (by omega)
      rw [gv2_succ, ih (by omega), h n _ hg, List.take_add_one, hg]
      show _ = ((l.take n ++ [l[n]]).flatMap c)
      rw [List.flatMap_append]
      simp
  rw [all l.length (Nat.le_refl _), List.take_length]
end K59
/-! W10: sorted texts, attributes stored, sorted(..), tuple(..). -/
namespace K59
open PySem PySem.Spec PyProof.Rows L2 Evl
def sle (a b : Str) : Prop := a.cps.toList ≤ b.cps.toList
theorem sle_of {a b : Str} (h : ltCps b.cps.toList a.cps.toList = false) : sle a b := by
  rw [ltCps_eq] at h
  exact List.not_lt.mp (of_decide_eq_false h)
theorem sle_anti {a b : Str} (h : sle a b) (g : sle b a) : a = b := by
  have e := List.le_antisymm h g
  cases a
  cases b
  congr 1
  exact Array.toList_inj.mp e
theorem rising_pw : ∀ (l : List Str) (p : Str), risingS p l = true → (p :: l).Pairwise sle
  | [], p, _ => List.pairwise_singleton _ _
  | x :: l, p, h => by
    have h' : (!ltCps x.cps.toList p.cps.toList && risingS x l) = true := h
    rw [Bool.and_eq_true] at h'
    have ih := rising_pw l x h'.2
    have hp : sle p x := sle_of (by simpa using h'.1)
    refine List.pairwise_cons.mpr ⟨fun y hy => ?_, ih⟩
    rcases List.mem_cons.mp hy with e | e
    · subst e; exact hp
    · exact List.le_trans hp ((List.pairwise_cons.mp ih).1 y e)
theorem sorted_pw : ∀ {l : List Str}, sortedS l = true → l.Pairwise sle
  | [], _ => List.Pairwise.nil
  | p :: l, h => rising_pw l p h
theorem sorted_eq {xs ys : List Str} (hx : sortedS xs = true) (hy : sortedS ys = true) (p : xs.Perm ys) : xs = ys :=
  List.Perm.eq_of_pairwise (fun a b _ _ => sle_anti) (sorted_pw hx) (sorted_pw hy) p
theorem sorted_same {xs ys : List Str} (hx : sortedS xs = true) (hy : sortedS ys = true) (nx : xs.Nodup) (ny : ys.Nodup) (h : ∀ z, z ∈ xs ↔ z ∈ ys) : xs = ys := sorted_eq hx hy ((List.perm_ext_iff_of_nodup nx ny).mpr h)
section
variable {K : PySem.W.Frag} {σ : L2.St} {H : Hp} {ta tb te tv : TE} {v : V} {D : Ends} {tz : TS}
theorem q_fld {a C dx : Addr} {fs : List (Str × V)} {f : Str} (h : Ev tv σ H v) (ha : Ev ta σ H (.ref a)) (hx : H a = some (.ins C dx fs)) (c : Cls K C) (n : NoAttr K C f) (l : fs.length < 1000) (k : ∀ H1, Ex H H1 → tz D σ (upd H1 a (.ins C dx (putF f v fs)))) : tSeq (sFld K ta tv f) tz D σ H :=
  h H (Ex.refl H) _ fun H1 e1 => ha H1 e1 _ fun H2 e2 => ⟨a, C, dx, fs, rfl, (e1.trans e2) _ _ hx, c, n, l, k H2 (e1.trans e2)⟩
theorem s_fld {a C dx : Addr} {fs : List (Str × V)} {f : Str} (h : Ev tv σ H v) (ha : Ev ta σ H (.ref a)) (hx : H a = some (.ins C dx fs)) (c : Cls K C) (n : NoAttr K C f) (l : fs.length < 1000) (k : ∀ H1, Ex H H1 → D.nx σ (upd H1 a (.ins C dx (putF f v fs)))) : sFld K ta tv f D σ H :=
  h H (Ex.refl H) _ fun H1 e1 => ha H1 e1 _ fun H2 e2 => ⟨a, C, dx, fs, rfl, (e1.trans e2) _ _ hx, c, n, l, k H2 (e1.trans e2)⟩
theorem q_fldN {a C dx : Addr} {fs : List (Str × V)} {f : Str} {R : RN} (h : EvN tv σ H H R) (ha : Ev ta σ H (.ref a)) (hx : H a = some (.ins C dx fs)) (c : Cls K C) (n : NoAttr K C f) (l : fs.length < 1000)
    (k : ∀ p H1, H p = none → Ex H H1 → (∃ o, H1 p = some o) → Nw H H H1 (R p) → tz D σ (upd H1 a (.ins C dx (putF f (.ref p) fs)))) : tSeq (sFld K ta tv f) tz D σ H :=
  h H (Ex.refl H) _ fun p H1 hp e1 o r => ha H1 e1 _ fun H2 e2 => ⟨a, C, dx, fs, rfl, (e1.trans e2) _ _ hx, c, n, l, k p H2 hp (e1.trans e2) (let ⟨u, hu⟩ := o; ⟨u, e2 _ _ hu⟩) (r.weak (Ex.refl _) e2)⟩
theorem s_fldN {a C dx : Addr} {fs : List (Str × V)} {f : Str} {R : RN} (h : EvN tv σ H H R) (ha : Ev ta σ H (.ref a)) (hx : H a = some (.ins C dx fs)) (c : Cls K C) (n : NoAttr K C f) (l : fs.length < 1000)
    (k : ∀ p H1, H p = none → Ex H H1 → (∃ o, H1 p = some o) → Nw H H H1 (R p) → D.nx σ (upd H1 a (.ins C dx (putF f (.ref p) fs)))) : sFld K ta tv f D σ H :=
  h H (Ex.refl H) _ fun p H1 hp e1 o r => ha H1 e1 _ fun H2 e2 => ⟨a, C, dx, fs, rfl, (e1.trans e2) _ _ hx, c, n, l, k p H2 hp (e1.trans e2) (let ⟨u, hu⟩ := o; ⟨u, e2 _ _ hu⟩) (r.weak (Ex.refl _) e2)⟩
/-- sorted(texts): they stood sorted, or any sorted list of the same -/
theorem el_sortS {l : Addr} {xs zs : List Str} (ha : Ev ta σ H (.ref l)) (hl : H l = some (.lst (xs.map V.str))) (hn : xs.length < 64) (hz : ∀ ys : List Str, ys.Perm xs → sortedS ys = true → ys = zs) : EvL (tCB (rSortedS K) (tCons ta tNil)) σ H (zs.map V.str) := fun H1 e Q q =>
  ha H1 e _ fun H2 e2 => ⟨l, xs, rfl, sq_get ((e.trans e2) _ _ hl), hn, fun ys p hp hs hn => by
    have := hz ys hp hs
    subst this
    exact q p _ (fresh_back e2 hn) (e2.trans (Ex.new hn)) upd_same⟩
/-- tuple(a list) -/
theorem eu_tupof {l : Addr} {xs : List V} (ha : Ev ta σ H (.ref l)) (hl : H l = some (.lst xs)) : EvU (tCB (rTupS K) (tCons ta tNil)) σ H xs := fun H1 e Q q =>
  ha H1 e _ fun H2 e2 => ⟨l, xs, rfl, .inl ⟨sq_get ((e.trans e2) _ _ hl), fun p hp => q p _ (fresh_back e2 hp) (e2.trans (Ex.new hp)) upd_same⟩⟩
theorem eu_tupofN {xs : List V} (ha : EvL ta σ H xs) : EvU (tCB (rTupS K) (tCons ta tNil)) σ H xs := fun H1 e Q q =>
  ha H1 e _ fun l H2 hl e2 h2 => ⟨l, xs, rfl, .inl ⟨sq_get h2, fun p hp => q p _ (fresh_back e2 hp) (e2.trans (Ex.new hp)) upd_same⟩⟩
end
end K59
namespace K59
open PySem PySem.Spec L2 Evl
section
variable {P : Program} {w : World} {K : PySem.W.Frag} {mg : Str → Option Value} {base : Heap} {CA CL CM : Addr}
section
variable {σ : L2.St} {H : Hp} {ta tb tc te : TE}
theorem ev_eqNN (ha : EvL ta σ H []) : Ev (tOp (rEqD K) ta (tLst tNil)) σ H (.bl true) :=
  ev_opLL ha (el_lst ea_nil (by simp)) fun p q H1 hp hq e => rv_val fun H2 e2 Q k => ⟨.list [], .list [], .lst (sq_get (e2 _ _ hp)) .nil, .lst (sq_get (e2 _ _ hq)) .nil, shaped_list (fun d h => by simp at h), shaped_list (fun d h => by simp at h), by
    have : PyData.eqv (.list []) (.list []) = true := by simp [PyData.eqv, PyData.eqvAll]
    rw [this]
    exact k⟩
theorem ev_neNN (ha : EvL ta σ H []) : Ev (tOp (rNeD K) ta (tLst tNil)) σ H (.bl false) :=
  ev_opLL ha (el_lst ea_nil (by simp)) fun p q H1 hp hq e => rv_val fun H2 e2 Q k => ⟨.list [], .list [], .lst (sq_get (e2 _ _ hp)) .nil, .lst (sq_get (e2 _ _ hq)) .nil, shaped_list (fun d h => by simp at h), shaped_list (fun d h => by simp at h), by
    have : PyData.eqv (.list []) (.list []) = true := by simp [PyData.eqv, PyData.eqvAll]
    rw [this]
    exact k⟩
theorem given_none (n : Nat) (v : Nat → V) : given n (fun _ => false) v = [] := by
  unfold given
  rw [List.filter_eq_nil_iff.mpr fun _ _ => by simp]
  rfl
theorem el_nil {n : Nat} {v : Nat → V} (h : EvL te σ H (given n (fun _ => false) v)) : EvL te σ H [] := by rwa [given_none] at h
theorem ev_chain {x y z : Int} {b : Bool} (ha : Ev ta σ H (.int x)) (hb : Ev tb σ H (.int y)) (hc : Ev tc σ H (.int z)) (e : (decide (x ≤ y) && decide (y ≤ z)) = b) : Ev (tChain (rI0 fun i j => .bl (decide (i ≤ j))) (rI0 fun i j => .bl (decide (i ≤ j))) ta tb tc) σ H (.bl b) := fun H1 e1 Q q =>
  ha H1 e1 _ fun H2 e2 => hb H2 (e1.trans e2) _ fun H3 e3 => ⟨x, y, rfl, rfl, decide (x ≤ y), rfl, by
    subst e
    by_cases h : x ≤ y
    · rw [if_pos (decide_eq_true h)]
      refine hc H3 ((e1.trans e2).trans e3) _ fun H4 e4 => ⟨y, z, rfl, rfl, ?_⟩
      rw [decide_eq_true h, Bool.true_and] at q
      exact q H4 ((e2.trans e3).trans e4)
    · rw [if_neg (by rw [decide_eq_false h]; decide)]
      rw [decide_eq_false h, Bool.false_and] at q
      exact q H3 (e2.trans e3)⟩
theorem et_nisi {x : V} {n : String} {a b : Bool} (hx : Ev ta σ H x) (hty : ∀ H1, Ex H H1 → TyX K H1 x (.type n)) (hb : PySem.W.kitOne K (.type n) (.type n) = some true) : EvT (tNot (tB (tCB (rIsi K) (tCons ta (tCons (tC (.ty n)) tNil))))) σ H false :=
  et_not (a := true) (et_B (ev_isi (t0 := .type n) (u0 := .type n) (ea2 hx ev_c) (.ty _) hty hb))
end
def spIsName : Sp := fun vs H Q _ => ∃ z : Str, vs = [.str z] ∧ NameOk z ∧ ∀ H', Ex H H' → Q (.bl true) H'
theorem d_is_name {f : Addr} {fd : FuncData} (F : Fun K "is_name" "is_name" s_is_name f fd) (T : Txt K mg CA CL CM) : FnOk P w K mg base CX0 1 f fd ["value"] spIsName := by
  refine F.ok sc_is_name (fun vs H Q E h => ?_) (fun cdv A outer s H vs Q E hr h => ?_)
  · obtain ⟨_, rfl, _⟩ := h
    rfl
  · obtain ⟨z, rfl, ⟨h1, h2, h3⟩, q⟩ := h
    refine ⟨_, (pss_cons (ps_if (PW.pt (pw_or (pt_not (pt_val (pe_callB (isiK K rfl) (by rfl) T.g_isinstance boot_isinstance (pa_cons (pv 0) (pa_cons (pe_bltn (v := .ty "str") (by rfl) T.g_str boot_str rfl) pa_nil))))) (pw_or1 (pt_not (pt_chain op_le op_le pe_int (pe_callB call_len_str (by rfl) T.g_len boot_len (pa_cons (pv 0) pa_nil)) pe_int))))) (pss_one (ps_ret pe_bl)) pss_nil)
    (pss_one (ps_ret (pe_cmpR (eqDK K rfl hr.units) (pe_lc (own := [("sign", 1)]) (g := (gName 1)) rfl sc_is_name.nd (pi_str (pv 0)) (blkOk_by (own := [("sign", 1)]) (N := ["value", "sign"]) (sc := defScope s_is_name) (by decide +kernel)) (fun _ _ _ _ _ => (pg_name (i := 1) sc_is_name.nd rfl (by first | exact Or.inl rfl | exact Or.inr rfl))) (fun _ _ _ _ _ => (pts_one (pt_cmpR op_notIn_sign (pv 1) (eg rfl T.g_LOWER) (by rfl)))) (fun _ _ _ _ _ => (pv 1))) (pe_lst pa_nil) (nomark _))))), ?_⟩
    refine q_when (b := false) (et_or (a := false) (b := false) (et_not (a := true) (et_B (ev_isi (t0 := .type "str") (u0 := .type "str") (ea2 (ev_var rfl) ev_c) (.ty _) (fun _ _ => .base (.str z)) (kit_ty (by decide +kernel))))) fun _ => et_not (a := true) (et_test (ev_chain (x := 1) (y := z.length) (z := 10) ev_c (fun H1 e Q q => ⟨_, rfl, z, rfl, sz_of (by omega), q H1 (Ex.refl _)⟩) ev_c (by rw [decide_eq_true (show (1 : Int) ≤ (z.length : Int) by omega), decide_eq_true (show (z.length : Int) ≤ 10 by omega)]; rfl)))) (fun z => nomatch z) fun _ H1 e1 => ?_
    refine s_ret (ev_eqNN (by
      refine el_nil (n := z.length) (v := fun _ => .non) ?_
      refine el_lcS (fun _ => false) (fun _ => .non) (ev_var rfl) (by omega) fun i c H2 e2 hc => turnN rfl (et_test (ev_op (ev_var rfl) ev_c (z := .bl false) (rv_val fun H3 _ Q q => ⟨c, _, rfl, rfl, ?_⟩))) fun z => nomatch z
      rw [decide_eq_true (h3 c (List.mem_of_getElem? hc))]
      exact q)) fun H2 e2 => q H2 (e1.trans e2)
def spAreNames : Sp := fun vs H Q _ => ∃ (l : Addr) (zs : List Str), vs = [.ref l] ∧ H l = some (.lst (zs.map V.str)) ∧ (∀ z ∈ zs, NameOk z) ∧ zs.Nodup ∧ zs.length < 64 ∧ ∀ H', Ex H H' → Q (.bl true) H'
theorem ev_isname {σ : L2.St} {H : Hp} {ta : TE} {E : XK} {z : Str} (h : Ev ta σ H (.str z)) (hz : NameOk z) : Ev (tCall spIsName [] E (tCons ta tNil)) σ H (.bl true) := ev_callN (ea1 h) fun H1 e Q q _ => ⟨z, rfl, hz, q⟩
theorem d_are_names {f : Addr} {fd : FuncData} (F : Fun K "are_names" "are_names" s_are_names f fd) (T : Txt K mg CA CL CM) (c_is_name : CalK P w K mg base 1 "is_name" spIsName) : FnOk P w K mg base CX0 2 f fd ["value"] spAreNames := by
  refine F.ok sc_are_names (fun vs H Q E h => ?_) (fun cdv A outer s H vs Q E hr h => ?_)
  · obtain ⟨_, _, rfl, _⟩ := h
    rfl
  · obtain ⟨l, zs, rfl, hl, hz, hn, hs, q⟩ := h
    refine ⟨_, (pss_cons (ps_if (PW.pt (pw_or (pt_not (pt_val (pe_callB (isiK K rfl) (by rfl) T.g_isinstance boot_isinstance (pa_cons (pv 0) (pa_cons (pe_bltn (v := .ty "list") (by rfl) T.g_list boot_list rfl) pa_nil))))) (pw_or1 (pt_cmpR (neDK K rfl hr.units) (pe_lc (own := [("one", 1)]) (g := (gName 1)) rfl sc_are_names.nd (listK K rfl (pv 0)) (blkOk_by (own := [("one", 1)]) (N := ["value", "one"]) (sc := defScope s_are_names) (by decide +kernel)) (fun _ _ _ _ _ => (pg_name (i := 1) sc_are_names.nd rfl (by first | exact Or.inl rfl | exact Or.inr rfl))) (fun _ _ _ _ _ => (pts_one (pt_not (pt_val (ec c_is_name hr (by decide) rfl (pa_cons (pv 1) pa_nil)))))) (fun _ _ _ _ _ => (pv 1))) (pe_lst pa_nil) (nomark _))))) (pss_one (ps_ret pe_bl)) pss_nil)
    (pss_one (ps_ret (pe_cmpR op_eq (pe_lenSetS K rfl rfl (by rfl) T.g_len (by rfl) T.g_set (pv 0)) (pe_callB (lenK K rfl) (by rfl) T.g_len boot_len (pa_cons (pv 0) pa_nil)) (nomark _))))), ?_⟩
    refine q_when (b := false) (et_or (a := false) (b := false) (et_not (a := true) (et_B (ev_isi (t0 := .type "list") (u0 := .type "list") (ea2 (ev_var rfl) ev_c) (.ty _) (fun H1 e => .base (.lst (e _ _ hl))) (kit_ty (by decide +kernel))))) fun _ => et_test (ev_neNN ?_)) (fun z => nomatch z) fun _ H1 e1 => ?_
    · refine el_nil (n := (zs.map V.str).length) (v := fun _ => .non) ?_
      refine el_lcLg (fun _ => false) (fun _ => .non) (ev_var rfl) (sq_get hl) (by rw [List.length_map]; omega) fun i x H2 e2 hx => ?_
      obtain ⟨z, hz', rfl⟩ := get_map hx
      exact turnN rfl (et_not (a := true) (et_B (ev_isname (ev_var rfl) (hz z (List.mem_of_getElem? hz'))))) fun z => nomatch z
    · refine s_ret (v := .bl true) (ev_is (ev_eqS (x := .int zs.length) (y := .int zs.length) (fun H2 e2 Q q => ?_) ?_ rfl) (by simp)) fun H2 e2 => q H2 (e1.trans e2)
      · exact ⟨.ref l, rfl, l, zs, rfl, sq_get ((e1.trans e2) _ _ hl), hs, hn, q H2 (Ex.refl _)⟩
      · have := ev_len (K := K) (ta := tVar 0) (σ := [some (.ref l), none]) (H := H1) (p := l) (ev_var rfl) (sq_get (e1 _ _ hl))
        rw [List.length_map] at this
        exact this
/-- a stock as the program wants it -/
structure StOk (st : List (Key × Int)) : Prop where
  ks : ∀ x ∈ st, ∃ k, x.1 = .inr k ∧ NameOk k
  nn : ∀ x ∈ st, 0 ≤ x.2
  nd : (st.map (·.1)).Nodup
  few : st.length ≤ 60
def spIsStock : Sp := fun vs H Q _ => ∃ (d : Addr) (st : List (Key × Int)), vs = [.ref d] ∧ H d = some (.dK (mI st)) ∧ StOk st ∧ ∀ H', Ex H H' → Q (.bl true) H'
theorem d_is_stock {f : Addr} {fd : FuncData} (F : Fun K "is_stock" "is_stock" s_is_stock f fd) (T : Txt K mg CA CL CM) (c_is_name : CalK P w K mg base 1 "is_name" spIsName) (c_is_count : CalK P w K mg base 1 "is_count" spCount) : FnOk P w K mg base CX0 2 f fd ["value"] spIsStock := by
  refine F.ok sc_is_stock (fun vs H Q E h => ?_) (fun cdv A outer s H vs Q E hr h => ?_)
  · obtain ⟨_, _, rfl, _⟩ := h
    rfl
  · obtain ⟨d, st, rfl, hd, so, q⟩ := h
    refine ⟨_, (pss_cons (ps_if (pt_not (pt_val (pe_callB (isiK K rfl) (by rfl) T.g_isinstance boot_isinstance (pa_cons (pv 0) (pa_cons (pe_bltn (v := .ty "dict") (by rfl) T.g_dict boot_dict rfl) pa_nil))))) (pss_one (ps_ret pe_bl)) pss_nil)
    (pss_one (ps_ret (pe_cmpR (eqDK K rfl hr.units) (pe_lock (pe_lc (own := [("kind", 1)]) (g := (gName 1)) rfl sc_is_stock.nd (pi_keys (pv 0)) (blkOk_by (own := [("kind", 1)]) (N := ["value", "kind"]) (sc := defScope s_is_stock) (by decide +kernel)) (fun _ _ _ _ _ => (pg_name (i := 1) sc_is_stock.nd rfl (by first | exact Or.inl rfl | exact Or.inr rfl))) (fun _ _ _ _ _ => (pts_one (PW.pt (pw_or (pt_not (pt_val (ec c_is_name hr (by decide) rfl (pa_cons (pv 1) pa_nil)))) (pw_or1 (pt_not (pt_val (ec c_is_count hr (by decide) rfl (pa_cons (pe_dget (hu_of hr) (pv 0) (pv 1) (fun _ _ => rfl)) pa_nil))))))))) (fun _ _ _ _ _ => (pv 1)))) (pe_lst pa_nil) (nomark _))))), ?_⟩
    refine q_when (b := false) (et_not (a := true) (et_B (ev_isi (t0 := .type "dict") (u0 := .type "dict") (ea2 (ev_var rfl) ev_c) (.ty _) (fun H1 e => .base (.dK (e _ _ hd))) (kit_ty (by decide +kernel))))) (fun z => nomatch z) fun _ H1 e1 => ?_
    refine s_ret (ev_eqNN ?_) fun H2 e2 => q H2 (e1.trans e2)
    refine el_nil (n := (mI st).length) (v := fun _ => .non) ?_
    refine el_lcK (fun _ => false) (fun _ => .non) (e1 _ _ hd) (fun od => ev_var rfl) (by rw [len_mI]; have := so.few; omega) fun od i k x H2 e2 hx => ?_
    obtain ⟨⟨k0, i0⟩, hk, ex⟩ := get_map (l := st) (f := fun x => (x.1, V.int x.2)) hx
    cases ex
    have hm := List.mem_of_getElem? hk
    obtain ⟨kk, hkk, hn⟩ := so.ks _ hm
    have hkk : k0 = .inr kk := hkk
    subst hkk
    have hg : lkI st (.inr kk) = some i0 := lkI_of_mem so.nd hm
    refine turnN rfl (et_or (a := false) (b := false) (et_not (a := true) (et_B (ev_isname (ev_var rfl) hn))) fun _ => et_not (a := true) (et_B (ev_callN (sp := spCount) (vs := [.int i0]) (ea1 (ev_dget (ev_var rfl) (ev_var rfl) fun H3 e3 => ?_)) fun H3 e3 Q q _ => ⟨i0, rfl, so.nn _ hm, q⟩))) fun z => nomatch z
    have := dget_strF (k := kk) (e2 _ _ upd_same) H3 e3
    rw [valV_mI, hg] at this
    exact this
def spCkStock : Sp := fun vs H Q _ => ∃ (d : Addr) (st : List (Key × Int)), vs = [.ref d] ∧ H d = some (.dK (mI st)) ∧ StOk st ∧ ∀ H', Ex H H' → Q .non H'
theorem d_check_stock {f : Addr} {fd : FuncData} (F : Fun K "check_stock" "check_stock" s_check_stock f fd) (T : Txt K mg CA CL CM) (c_is_stock : CalK P w K mg base 2 "is_stock" spIsStock) : FnOk P w K mg base CX0 3 f fd ["value"] spCkStock := by
  refine F.ok sc_check_stock (fun vs H Q E h => ?_) (fun cdv A outer s H vs Q E hr h => ?_)
  · obtain ⟨_, _, rfl, _⟩ := h
    rfl
  · obtain ⟨d, st, rfl, hd, so, q⟩ := h
    refine ⟨_, (pss_one (ps_if (pt_not (pt_val (ec c_is_stock hr (by decide) rfl (pa_cons (pv 0) pa_nil)))) (pss_one ps_never) pss_nil)), ?_⟩
    exact s_when (b := false) (et_not (a := true) (et_B (ev_callN (sp := spIsStock) (vs := [.ref d]) (ea1 (ev_var rfl)) fun H1 e1 Q q _ => ⟨d, st, rfl, e1 _ _ hd, so, q⟩))) (fun z => nomatch z) fun _ H1 e1 => q H1 e1
end
end K59
namespace K59
open PySem PySem.Spec L2 Evl
section
variable {P : Program} {w : World} {K : PySem.W.Frag} {mg : Str → Option Value} {base : Heap} {CA CL CM : Addr}
def places (rs : List Row) : List (Str × Str) := rs.flatMap fun r => r.fits.map fun k => (r.name, k)
def isSS (x : Str × Str) : RN := isU [.str x.1, .str x.2]
def sKey (x : Str × Str) : List Key := [.inr x.1, .inr x.2]
structure Small (rs : List Row) : Prop where
  few : rs.length ≤ 6
  fw : ∀ r ∈ rs, r.fits.length ≤ 6
def spPlaces (CL : Addr) : Sp := fun vs H Q _ => ∃ (l : Addr) (rs : List Row), vs = [.ref l] ∧ LineAt CL H l rs ∧ Small rs ∧ ∀ p ps H', H p = none → Ex H H' → H' p = some (.lst (ps.map V.ref)) → RelP ps ((places rs).map isSS) H' → Q (.ref p) H'
theorem d_places_of {f : Addr} {fd : FuncData} (F : Fun K "places_of" "places_of" s_places_of f fd) (T : Txt K mg CA CL CM) : FnOk P w K mg base CX0 1 f fd ["line"] (spPlaces CL) := by
  refine F.ok sc_places_of (fun vs H Q E h => ?_) (fun cdv A outer s H vs Q E hr h => ?_)
  · obtain ⟨_, _, rfl, _⟩ := h
    rfl
  · obtain ⟨l, rs, rfl, ⟨dx, al, e, h1, vs, h2, rel⟩, sm, q⟩ := h
    refine ⟨_, (pss_one (ps_ret (pe_lc2 (own := [("row", 1), ("kind", 2)]) (vs1 := [2]) (g := (gName 1)) (g1 := (gName 2)) (tt := tYes) (tt1 := tYes) rfl sc_places_of.nd (tupK K rfl (fldK K rfl (pv 0))) (blkOk_by (own := [("row", 1), ("kind", 2)]) (N := ["line", "row", "kind"]) (sc := defScope s_places_of) (by decide +kernel)) (by decide) (fun _ _ _ _ _ => (pg_name (i := 1) sc_places_of.nd rfl (by first | exact Or.inl rfl | exact Or.inr rfl))) (fun _ _ _ _ _ => pts_nil) (fun _ _ _ _ _ => (tupK K rfl (pe_ix (ixTK K rfl) (pv 1) pe_int (fun _ _ => rfl)))) (fun _ _ _ _ _ => (pg_name (i := 2) sc_places_of.nd rfl (by first | exact Or.inl rfl | exact Or.inr rfl))) (fun _ _ _ _ _ => pts_nil) (fun _ _ _ _ _ => (pe_tup (pa_cons (pe_ix (ixTK K rfl) (pv 1) pe_int (fun _ _ => rfl)) (pa_cons (pv 2) pa_nil))))))), ?_⟩
    have hrow : ∀ i x, vs[i]? = some x → ∃ r t f, rs[i]? = some r ∧ rs.getD i default = r ∧ r.fits.length ≤ 6 ∧ x = .ref t ∧ H t = some (.tup [.str r.name, .ref f, .int r.most]) ∧ H f = some (.tup (r.fits.map V.str)) := fun i x hx => by
      have hi : i < rs.length := by rw [← rel.len]; exact (List.getElem?_eq_some_iff.mp hx).1
      have hr : rs[i]? = some rs[i] := List.getElem?_eq_getElem hi
      obtain ⟨t, f, a, b, c⟩ := rel.get i x _ hx hr
      exact ⟨rs[i], t, f, hr, getD_of hr, sm.fw _ (List.getElem_mem hi), a, b, c⟩
    have hgv : gv2 vs.length (fun i => (rs.getD i default).fits.length) (fun _ _ => true) (fun i j => eN (isSS ((rs.getD i default).name, (rs.getD i default).fits.getD j default))) = ((places rs).map isSS).map eN := by
      rw [rel.len, gv2_map rs (fun r => r.fits.map fun k => eN (isSS (r.name, k))) fun i r hr => by
        rw [getD_of hr]
        have := gv1_map r.fits (fun _ => true) (fun k => eN (isSS (r.name, k))) (f := fun _ => true) (E := fun j => eN (isSS (r.name, r.fits.getD j default))) fun j k hk => by rw [getD_of hk]; exact ⟨rfl, rfl⟩
        rw [List.filter_eq_self.mpr fun _ _ => rfl] at this
        exact this]
      unfold places
      rw [List.map_flatMap, List.map_flatMap]
      refine congrArg (fun F => rs.flatMap F) (funext fun r => ?_)
      rw [List.map_map, List.map_map]
      rfl
    refine s_retN (en_lc2T (fun i => (rs.getD i default).fits.length) (fun _ _ => true) (fun i j => eN (isSS ((rs.getD i default).name, (rs.getD i default).fits.getD j default))) (Ex.refl H) (ev_fld (ev_var rfl) h1 T.clL T.nL_every rfl) (st_get h2) (by rw [rel.len]; have := sm.few; omega) (fun i hi => ?_)
      fun i x H2 H3 e2 e3 hx => ⟨_, fun _ q => q, rfl, fun R hR => ?_⟩) fun p H1 hp e1 nw => ?_
    · obtain ⟨r, t, f, _, er, hl, _⟩ := hrow i _ (List.getElem?_eq_getElem hi)
      show (rs.getD i default).fits.length ≤ 200
      rw [er]; omega
    · obtain ⟨r, t, f, hr, er, hl, rfl, ht, hf⟩ := hrow i x hx
      have ev : Ev (tOp (rIxT K) (tVar 1) (tC (.int 1))) ([some (.ref l), some (.ref t), none] : L2.St) H3 (.ref f) := ev_ixT (ev_var rfl) ev_c (st_get ((e2.trans e3) _ _ ht)) (atI_get (i := 1) rfl)
      refine ev H3 (Ex.refl _) _ fun H4 e4 => ⟨f, rfl, ⟨_, st_get (((e2.trans e3).trans e4) _ _ hf)⟩, hR _ H4 e4 fun C eC new => ?_⟩
      show Inner _ _ _ _ _ _ _ (rs.getD i default).fits.length _ _ _
      rw [er, show r.fits.length = (r.fits.map V.str).length from (List.length_map _).symm]
      refine inner_T (st_get ((e2.trans eC) _ _ hf)) fun j x H6 e6 hx => ?_
      obtain ⟨k, hk, rfl⟩ := get_map hx
      refine ⟨_, fun _ q => q, rfl, et_yes, fun _ => ?_⟩
      rw [getD_of hk]
      exact ee_N (en_U (eu2 (ev_ixT (ev_var rfl) ev_c (st_get ((e2.trans (eC.trans e6)) _ _ ht)) (atI_get (i := 0) rfl)) (ev_var rfl)))
    · rw [hgv] at nw
      obtain ⟨ws, hws, rE⟩ := nw.now (Ex.refl _) e1
      obtain ⟨ps, rfl, rP⟩ := relE_N rE
      exact q p ps H1 hp e1 hws rP
structure WsOk (ws : List (List Key × Int)) (rs : List Row) : Prop where
  len : ws.length = (places rs).length
  has : ∀ x ∈ places rs, (lkI ws (sKey x)).isSome = true
theorem places_len {rs : List Row} (sm : Small rs) : (places rs).length ≤ 36 := by
  unfold places
  rw [List.length_flatMap]
  have h : ∀ l : List Row, (∀ r ∈ l, r.fits.length ≤ 6) → (l.map fun r => (r.fits.map fun k => (r.name, k)).length).sum ≤ 6 * l.length := by
    intro l
    induction l with
    | nil => intro _; exact Nat.zero_le _
    | cons r l ih =>
      intro hi
      rw [List.map_cons, List.sum_cons, List.length_map, List.length_cons]
      have h1 := hi r (by simp)
      have h2 := ih fun r hr => hi r (by simp [hr])
      omega
  have h1 := h rs sm.fw
  have := sm.few
  omega
theorem ev_iswhole {σ : L2.St} {H : Hp} {ta : TE} {E : XK} {i : Int} (h : Ev ta σ H (.int i)) : Ev (tCall spWhole [] E (tCons ta tNil)) σ H (.bl true) := ev_callN (ea1 h) fun H1 e Q q _ => ⟨i, rfl, q⟩
def spCkWorths (CL : Addr) : Sp := fun vs H Q _ => ∃ (l d : Addr) (rs : List Row) (ws : List (List Key × Int)), vs = [.ref l, .ref d] ∧ LineAt CL H l rs ∧ Small rs ∧ H d = some (.dT (mI ws)) ∧ WsOk ws rs ∧ ∀ H', Ex H H' → Q .non H'
theorem d_check_worths {f : Addr} {fd : FuncData} (F : Fun K "check_worths" "check_worths" s_check_worths f fd) (T : Txt K mg CA CL CM) (c_is_whole : CalK P w K mg base 1 "is_whole" spWhole) (c_places_of : CalK P w K mg base 1 "places_of" (spPlaces CL)) : FnOk P w K mg base CX0 2 f fd ["line", "value"] (spCkWorths CL) := by
  refine F.ok sc_check_worths (fun vs H Q E h => ?_) (fun cdv A outer s H vs Q E hr h => ?_)
  · obtain ⟨_, _, _, _, rfl, _⟩ := h
    rfl
  · obtain ⟨l, d, rs, ws, rfl, la, sm, hd, wo, q⟩ := h
    refine ⟨_, (pss_cons (ps_set (i := 2) sc_check_worths.nd rfl (Or.inl rfl) (ec c_places_of hr (by decide) rfl (pa_cons (pv 0) pa_nil)))
    (pss_cons (ps_if (PW.pt (pw_or (pt_not (pt_val (pe_callB (isiK K rfl) (by rfl) T.g_isinstance boot_isinstance (pa_cons (pv 1) (pa_cons (pe_bltn (v := .ty "dict") (by rfl) T.g_dict boot_dict rfl) pa_nil))))) (pw_or1 (pt_cmpR op_ne (pe_callB call_len_dT (by rfl) T.g_len boot_len (pa_cons (pv 1) pa_nil)) (pe_callB (lenK K rfl) (by rfl) T.g_len boot_len (pa_cons (pv 2) pa_nil)) (nomark _))))) (pss_one ps_never) pss_nil)
    (pss_one (ps_if (pt_cmpR (neDK K rfl hr.units) (pe_lc (own := [("one", 3)]) (g := (gName 3)) rfl sc_check_worths.nd (listK K rfl (pv 2)) (blkOk_by (own := [("one", 3)]) (N := ["line", "value", "known", "one"]) (sc := defScope s_check_worths) (by decide +kernel)) (fun _ _ _ _ _ => (pg_name (i := 3) sc_check_worths.nd rfl (by first | exact Or.inl rfl | exact Or.inr rfl))) (fun _ _ _ _ _ => (pts_one (PW.pt (pw_or (pt_cmp (pc_dnotin (hu_of hr) (pv 3) (pv 1))) (pw_or1 (pt_not (pt_val (ec c_is_whole hr (by decide) rfl (pa_cons (pe_dget (hu_of hr) (pv 1) (pv 3) (fun _ _ => rfl)) pa_nil))))))))) (fun _ _ _ _ _ => (pv 3))) (pe_lst pa_nil) (nomark _)) (pss_one ps_never) pss_nil)))), ?_⟩
    refine q_call (ea1 (ev_var rfl)) fun H1 e1 => ⟨l, rs, rfl, la.mono e1, sm, fun p ps H2 hp e2 hps rP => ?_⟩
    have e12 := e1.trans e2
    have hpl : ps.length = (places rs).length := by rw [rP.1, List.length_map]
    have hl := places_len sm
    refine q_when (b := false) (et_or (a := false) (b := false) (et_not (a := true) (et_B (ev_isi (t0 := .type "dict") (u0 := .type "dict") (ea2 (ev_var rfl) ev_c) (.ty _) (fun H1 e => .base (.dT (e _ _ (e12 _ _ hd)))) (kit_ty (by decide +kernel))))) fun _ => et_test (ev_is (ev_neS (x := .int ws.length) (y := .int ws.length) (fun H3 e3 Q q => ?_) ?_ rfl) (by simp))) (fun z => nomatch z) fun _ H3 e3 => ?_
    · exact ⟨_, rfl, d, mI ws, rfl, e3 _ _ (e12 _ _ hd), by rw [len_mI]; exact q H3 (Ex.refl _)⟩
    · have := ev_len (K := K) (ta := tVar 2) (σ := [some (.ref l), some (.ref d), some (.ref p), none]) (H := H2) (p := p) (ev_var rfl) (sq_get hps)
      rw [List.length_map, hpl, ← wo.len] at this
      exact this
    · refine s_when (b := false) (et_test (ev_neNN ?_)) (fun z => nomatch z) fun _ H4 e4 => q H4 ((e12.trans e3).trans e4)
      refine el_nil (n := (ps.map V.ref).length) (v := fun _ => .non) ?_
      refine el_lcLg (fun _ => false) (fun _ => .non) (ev_var rfl) (sq_get (e3 _ _ hps)) (by rw [List.length_map]; omega) fun i x H4 e4 hx => ?_
      obtain ⟨t, ht, rfl⟩ := get_map hx
      have hi : i < (places rs).length := by rw [← hpl]; exact (List.getElem?_eq_some_iff.mp ht).1
      have hx0 : (places rs)[i]? = some (places rs)[i] := List.getElem?_eq_getElem hi
      have htu : H2 t = some (.tup ((sKey (places rs)[i]).map kV)) := rP.2 i t (isSS (places rs)[i]) ht (by rw [List.getElem?_map, hx0]; rfl)
      obtain ⟨v, hv⟩ := Option.isSome_iff_exists.mp (wo.has _ (List.getElem_mem hi))
      have hdg := dget_tup (H := H4) (k := sKey (places rs)[i]) ((e12.trans (e3.trans e4)) _ _ hd) ((e3.trans e4) _ _ htu)
      rw [valV_mI, hv] at hdg
      exact turnN rfl (et_or (a := false) (b := false) (et_B (ev_is (ev_dnotin (ev_var rfl) (ev_var rfl) hdg) rfl)) fun _ => et_not (a := true) (et_B (ev_iswhole (i := v) (ev_dget (ev_var rfl) (ev_var rfl) hdg)))) fun z => nomatch z
end
end K59
namespace K59
open PySem PySem.Spec L2 Evl
section
variable {P : Program} {w : World} {K : PySem.W.Frag} {mg : Str → Option Value} {base : Heap} {CA CL CM : Addr}
theorem strOk_name {z : Str} (h : NameOk z) : PyData.strOk z = true := by
  unfold PyData.strOk
  rw [← Array.all_toList]
  refine List.all_eq_true.mpr fun c hc => ?_
  have := h.2.2 c hc
  have all : ∀ c ∈ ("abcdefghijklmnopqrstuvwxyz" : Str).cps.toList, decide (c < 0x110000) = true := by decide +kernel
  exact all c this
/-- an asker stands at p -/
def AskAt (CA : Addr) (r : Row) : RN := fun p H => ∃ dx t, H p = some (.ins CA dx [("row", .ref t)]) ∧ PRow H (.ref t) r
theorem AskAt.mono {H H' : Hp} {r : Row} {p : Addr} (e : Ex H H') (h : AskAt CA r p H) : AskAt CA r p H' := let ⟨dx, t, a, b⟩ := h; ⟨dx, t, e _ _ a, b.mono e⟩
def spAsker (CA : Addr) : Sp := fun vs H Q _ => ∃ (x dx l : Addr) (r : Row) (H0 : Hp), vs = [.ref x, .str r.name, .ref l, .int r.most] ∧ RowOk r ∧ H x = some (.ins CA dx []) ∧ Ex H0 H ∧ H0 x = none ∧ H0 l = some (.lst (r.fits.map V.str)) ∧
  ∀ t ft H', Ex H0 H' → H t = none → H ft = none → H' x = some (.ins CA dx [("row", .ref t)]) → H' t = some (.tup [.str r.name, .ref ft, .int r.most]) → H' ft = some (.tup (r.fits.map V.str)) → Q .non H'
theorem d_Asker_init {f : Addr} {fd : FuncData} (F : Fun K "__init__" "Asker.__init__" s_Asker_init f fd) (T : Txt K mg CA CL CM) (c_is_name : CalK P w K mg base 1 "is_name" spIsName) (c_are_names : CalK P w K mg base 2 "are_names" spAreNames) (c_is_count : CalK P w K mg base 1 "is_count" spCount) :
    FnOk P w K mg base CX0 3 f fd ["self", "name", "fits", "most"] (spAsker CA) := by
  refine F.ok sc_Asker_init (fun vs H Q E h => ?_) (fun cdv A outer s H vs Q E hr h => ?_)
  · obtain ⟨_, _, _, _, _, rfl, _⟩ := h
    rfl
  · obtain ⟨x, dx, l, r, H0, rfl, ro, hx, e0, hx0, hl, q⟩ := h
    refine ⟨_, (pss_cons (ps_if (pt_not (pt_val (ec c_is_name hr (by decide) rfl (pa_cons (pv 1) pa_nil)))) (pss_one ps_never) pss_nil)
    (pss_cons (ps_if (PW.pt (pw_or (pt_not (pt_val (ec c_are_names hr (by decide) rfl (pa_cons (pv 2) pa_nil)))) (pw_or1 (pt_cmpR (eqDK K rfl hr.units) (pv 2) (pe_lst pa_nil) (nomark _))))) (pss_one ps_never) pss_nil)
    (pss_cons (ps_if (PW.pt (pw_or (pt_not (pt_val (ec c_is_count hr (by decide) rfl (pa_cons (pv 3) pa_nil)))) (pw_or1 (pt_cmpR op_eq (pv 3) pe_int (nomark _))))) (pss_one ps_never) pss_nil)
    (pss_one (ps_fld (pv 0) (pe_tup (pa_cons (pv 1) (pa_cons (pe_callTy (tupofK K rfl) (by rfl) T.g_tuple boot_tuple (pa_cons (pe_callB (sortSK K rfl) (by rfl) T.g_sorted boot_sorted (pa_cons (pv 2) pa_nil)) pa_nil)) (pa_cons (pv 3) pa_nil)))) rfl))))), ?_⟩
    have hl0 := e0 _ _ hl
    have hf := ro.few
    refine q_when (b := false) (et_not (a := true) (et_B (ev_isname (ev_var rfl) ro.nm))) (fun z => nomatch z) fun _ H1 e1 => ?_
    refine q_when (b := false) (et_or (a := false) (b := false) (et_not (a := true) (et_B (ev_callN (sp := spAreNames) (vs := [.ref l]) (ea1 (ev_var rfl)) fun H2 e2 Q q _ => ⟨l, r.fits, rfl, (e1.trans e2) _ _ hl0, ro.nms, ro.nd, by omega, q⟩))) fun _ => et_test (ev_eqNil (ds := r.fits.map PyData.str) (ev_var rfl) (e1 _ _ hl0) ?_ (fun H2 e2 => ?_) ?_ ?_)) (fun z => nomatch z) fun _ H2 e2 => ?_
    · induction r.fits with
      | nil => exact .nil
      | cons k ks ih => exact .cons (.str k) ih
    · induction r.fits with
      | nil => exact .nil
      | cons k ks ih => exact .cons (.str k) ih
    · intro d hd
      obtain ⟨k, hk, rfl⟩ := List.mem_map.mp hd
      exact ⟨by simp only [PyData.canLay0]; exact strOk_name (ro.nms k hk), by simp [PyData.depth]⟩
    · exact decide_eq_false (by simpa using ro.ne)
    · have m1 := ro.m1
      refine q_when (b := false) (et_or (a := false) (b := false) (et_not (a := true) (et_B (ev_callN (sp := spCount) (vs := [.int r.most]) (ea1 (ev_var rfl)) fun H2 e2 Q q _ => ⟨r.most, rfl, by omega, q⟩))) fun _ => et_test (ev_is (ev_eqS (ev_var rfl) ev_c rfl) (congrArg V.bl (decide_eq_false (by intro z; injection z; omega))))) (fun z => nomatch z) fun _ H3 e3 => ?_
      have e03 := (e1.trans e2).trans e3
      have hset : EvU (tCB (rTupS K) (tCons (tCB (rSortedS K) (tCons (tVar 2) tNil)) tNil)) ([some (.ref x), some (.str r.name), some (.ref l), some (.int r.most)] : L2.St) H3 (r.fits.map V.str) :=
        eu_tupofN (el_sortS (ev_var rfl) (e03 _ _ hl0) (by omega) fun ys hp hs => sorted_eq hs ro.srt hp)
      show tTup _ _ H3 _
      refine ⟨_, rfl, hset H3 (Ex.refl _) _ fun ft H4 hft e4 h4 => ⟨_, rfl, by show 3 ≤ sizeLine; decide, fun t ht => ?_⟩⟩
      have e3t := Ex.new (o := .tup [.str r.name, .ref ft, .int r.most]) ht
      have hx4 : H4 x = some (.ins CA dx []) := (e03.trans e4) _ _ hx
      have nxt : x ≠ t := ne_of_none hx4 ht
      have nxf : x ≠ ft := ne_of_none (e03 _ _ hx) hft
      refine ⟨_, rfl, x, CA, dx, [], rfl, e3t _ _ hx4, T.clA, T.nA_row, by decide, ?_⟩
      refine q t ft _ (Ex.mut (((e0.trans e03).trans e4).trans e3t) hx0) (fresh_back (e03.trans e4) ht) (fresh_back e03 hft) upd_same ?_ ?_
      · rw [upd_ne nxt.symm, upd_same]
      · rw [upd_ne nxf.symm]; exact e3t _ _ h4
/-- the askers' rows, as they stand -/
theorem ask_rows {H : Hp} : ∀ {rs : List Row} {ps : List Addr}, RelP ps (rs.map (AskAt CA)) H → ∃ ts : List Addr, ts.length = rs.length ∧ ∀ (i : Nat) (p : Addr), ps[i]? = some p → ∃ (dx t : Addr) (r : K59.Row), ts[i]? = some t ∧ rs[i]? = some r ∧ H p = some (.ins CA dx [("row", .ref t)]) ∧ PRow H (.ref t) r
  | [], [], _ => ⟨[], rfl, fun i p h => by cases h⟩
  | [], _ :: _, h => by have := h.1; simp at this
  | _ :: _, [], h => by have := h.1; simp at this
  | r :: rs, p :: ps, h => by
    obtain ⟨⟨dx, t, h1, h2⟩, h3⟩ := relP_cons h
    obtain ⟨ts, e, hh⟩ := ask_rows h3
    refine ⟨t :: ts, by rw [List.length_cons, List.length_cons, e], fun i q hq => ?_⟩
    cases i with
    | zero => cases hq; exact ⟨dx, t, r, rfl, rfl, h1, h2⟩
    | succ i => exact hh i q hq
theorem putF_ne {f g : Str} (h : g ≠ f) (v x : V) (r : List (Str × V)) : putF f v ((g, x) :: r) = (g, x) :: putF f v r := if_neg h
theorem putF_nil (f : Str) (v : V) : putF f v [] = [(f, v)] := rfl
theorem putF_every (u v : V) : putF ("every" : Str) v (putF ("all" : Str) u []) = [(("all" : Str), u), (("every" : Str), v)] := by
  rw [putF_nil, putF_ne (by decide +kernel), putF_nil]
def spLine (CA CL : Addr) : Sp := fun vs H Q _ => ∃ (x dx l : Addr) (ps : List Addr) (rs : List Row) (H0 : Hp), vs = [.ref x, .ref l] ∧ H x = some (.ins CL dx []) ∧ Ex H0 H ∧ H0 x = none ∧ H0 l = some (.lst (ps.map V.ref)) ∧ RelP ps (rs.map (AskAt CA)) H0 ∧ (rs.map (·.name)).Nodup ∧ rs.length ≤ 6 ∧
  ∀ (al e : Addr) (ts : List Addr) (H' : Hp), Ex H0 H' → H al = none → H e = none → H' x = some (.ins CL dx [("all", .ref al), ("every", .ref e)]) → H' al = some (.tup (ps.map V.ref)) → H' e = some (.tup (ts.map V.ref)) → Rel (PRow H0) (ts.map V.ref) rs → Q .non H'
theorem d_Line_init {f : Addr} {fd : FuncData} (F : Fun K "__init__" "Line.__init__" s_Line_init f fd) (T : Txt K mg CA CL CM) : FnOk P w K mg base CX0 1 f fd ["self", "askers"] (spLine CA CL) := by
  refine F.ok sc_Line_init (fun vs H Q E h => ?_) (fun cdv A outer s H vs Q E hr h => ?_)
  · obtain ⟨_, _, _, _, _, _, rfl, _⟩ := h
    rfl
  · obtain ⟨x, dx, l, ps, rs, H0, rfl, hx, e0, hx0, hl, rP, hn, hs, q⟩ := h
    refine ⟨_, (pss_cons (ps_if (PW.pt (pw_or (pt_not (pt_val (pe_callB (isiK K rfl) (by rfl) T.g_isinstance boot_isinstance (pa_cons (pv 1) (pa_cons (pe_bltn (v := .ty "list") (by rfl) T.g_list boot_list rfl) pa_nil))))) (pw_or1 (pt_cmpR (neDK K rfl hr.units) (pe_lc (own := [("one", 3)]) (g := (gName 3)) rfl sc_Line_init.nd (listK K rfl (pv 1)) (blkOk_by (own := [("one", 3)]) (N := ["self", "askers", "names", "one"]) (sc := defScope s_Line_init) (by decide +kernel)) (fun _ _ _ _ _ => (pg_name (i := 3) sc_Line_init.nd rfl (by first | exact Or.inl rfl | exact Or.inr rfl))) (fun _ _ _ _ _ => (pts_one (pt_not (pt_val (pe_callB (isiK K rfl) (by rfl) T.g_isinstance boot_isinstance (pa_cons (pv 3) (pa_cons (eg (v := .ref CA) rfl ⟨_, T.g_Asker, rfl⟩) pa_nil))))))) (fun _ _ _ _ _ => (pv 3))) (pe_lst pa_nil) (nomark _))))) (pss_one ps_never) pss_nil)
    (pss_cons (ps_setLc (i := 2) (own := [("one", 3)]) (g := (gName 3)) (tt := tYes) rfl sc_Line_init.nd rfl rfl (sw_true rfl rfl rfl (by decide +kernel)) (listK K rfl (pv 1)) (blkOk_by (own := [("one", 3)]) (N := ["self", "askers", "names", "one"]) (sc := defScope s_Line_init) (by decide +kernel)) (fun _ _ _ _ _ => (pg_name (i := 3) sc_Line_init.nd rfl (by first | exact Or.inl rfl | exact Or.inr rfl))) (fun _ _ _ _ _ => pts_nil) (fun _ _ _ _ _ => (pe_ix (ixTK K rfl) (fldK K rfl (pv 3)) pe_int (fun _ _ => rfl))))
    (pss_cons (ps_if (pt_cmpR op_ne (pe_lenSetS K rfl rfl (by rfl) T.g_len (by rfl) T.g_set (pv 2)) (pe_callB (lenK K rfl) (by rfl) T.g_len boot_len (pa_cons (pv 2) pa_nil)) (nomark _)) (pss_one ps_never) pss_nil)
    (pss_cons (ps_fld (pv 0) (pe_callTy (tupofK K rfl) (by rfl) T.g_tuple boot_tuple (pa_cons (pv 1) pa_nil)) rfl)
    (pss_one (ps_fld (pv 0) (pe_callTy (tupofK K rfl) (by rfl) T.g_tuple boot_tuple (pa_cons (pe_lc (own := [("one", 3)]) (g := (gName 3)) (tt := tYes) rfl sc_Line_init.nd (listK K rfl (pv 1)) (blkOk_by (own := [("one", 3)]) (N := ["self", "askers", "names", "one"]) (sc := defScope s_Line_init) (by decide +kernel)) (fun _ _ _ _ _ => (pg_name (i := 3) sc_Line_init.nd rfl (by first | exact Or.inl rfl | exact Or.inr rfl))) (fun _ _ _ _ _ => pts_nil) (fun _ _ _ _ _ => (fldK K rfl (pv 3)))) pa_nil)) rfl)))))), ?_⟩
    obtain ⟨ts, tl, hts⟩ := ask_rows rP
    have hpl : ps.length = rs.length := by rw [rP.1, List.length_map]
    refine q_when (b := false) (et_or (a := false) (b := false) (et_not (a := true) (et_B (ev_isi (t0 := .type "list") (u0 := .type "list") (ea2 (ev_var rfl) ev_c) (.ty _) (fun H1 e => .base (.lst ((e0.trans e) _ _ hl))) (kit_ty (by decide +kernel))))) fun _ => et_test (ev_neNN ?_)) (fun z => nomatch z) fun _ H1 e1 => ?_
    · refine el_nil (n := (ps.map V.ref).length) (v := fun _ => .non) ?_
      refine el_lcLg (fun _ => false) (fun _ => .non) (ev_var rfl) (sq_get (e0 _ _ hl)) (by rw [List.length_map]; omega) fun i y H2 e2 hy => ?_
      obtain ⟨p, hp, rfl⟩ := get_map hy
      obtain ⟨dx', t, r, _, _, hpi, _⟩ := hts i p hp
      exact turnN rfl (et_not (a := true) (et_B (ev_isi (t0 := .ref CA) (u0 := .ref CA) (ea2 (ev_var rfl) ev_c) (.own _) (fun H3 e3 => T.tyA (((e0.trans e2).trans e3) _ _ hpi)) T.kiA))) fun z => nomatch z
    · have e01 := e0.trans e1
      have hrow : ∀ i p, ps[i]? = some p → ∃ (dx' t : Addr) (r : K59.Row) (f : Addr), ts[i]? = some t ∧ rs[i]? = some r ∧ H0 p = some (.ins CA dx' [("row", .ref t)]) ∧ H0 t = some (.tup [.str r.name, .ref f, .int r.most]) := fun i p hp => by
        obtain ⟨dx', t, r, a, b, c, t', f, d, e, _⟩ := hts i p hp
        cases d
        exact ⟨dx', t, r, f, a, b, c, e⟩
      refine q_asgL (xs := (rs.map (·.name)).map V.str) ?_ fun nl H2 hnl e2 h2 => ?_
      · have e := given_map (rs.map (·.name)) (fun _ => true) V.str (f := fun _ => true) (v := fun j => .str ((rs.map (·.name)).getD j default)) fun j k hk => by rw [getD_of hk]; exact ⟨rfl, rfl⟩
        rw [List.filter_eq_self.mpr fun _ _ => rfl, List.length_map, ← hpl, ← List.length_map (f := V.ref)] at e
        rw [← e]
        refine el_lcLg (fun _ => true) _ (ev_var rfl) (sq_get (e01 _ _ hl)) (by rw [List.length_map]; omega) fun i y H3 e3 hy => ?_
        obtain ⟨p, hp, rfl⟩ := get_map hy
        obtain ⟨dx', t, r, f, ht, hr, hpi, htu⟩ := hrow i p hp
        rw [getD_of (show (rs.map (·.name))[i]? = some r.name by rw [List.getElem?_map, hr]; rfl)]
        exact turnN rfl et_yes fun _ => ev_ixT (ev_fld (ev_var rfl) ((e01.trans e3) _ _ hpi) T.clA T.nA_row rfl) ev_c (st_get ((e01.trans e3) _ _ htu)) (atI_get (i := 0) rfl)
      · refine q_when (b := false) (et_test (ev_is (ev_neS (x := .int rs.length) (y := .int rs.length) (fun H3 e3 Q q => ?_) ?_ rfl) (by simp))) (fun z => nomatch z) fun _ H3 e3 => ?_
        · refine ⟨.ref nl, rfl, nl, rs.map (·.name), rfl, sq_get (e3 _ _ h2), by rw [List.length_map]; omega, hn, ?_⟩
          rw [List.length_map]
          exact q H3 (Ex.refl _)
        · have := ev_len (K := K) (ta := tVar 2) (σ := [some (.ref x), some (.ref l), some (.ref nl), none]) (H := H2) (p := nl) (ev_var rfl) (sq_get h2)
          rw [List.length_map, List.length_map] at this
          exact this
        · have e13 := (e1.trans e2).trans e3
          refine q_fldN (en_U (eu_tupof (ev_var rfl) (e13 _ _ (e0 _ _ hl)))) (ev_var rfl) (e13 _ _ hx) T.clL T.nL_all (by decide) fun al H4 hal e4 _ nw => ?_
          have hal4 := nw.now (Ex.refl _) e4
          have ex4 : Ex H0 (upd H4 x (.ins CL dx (putF "all" (.ref al) []))) := Ex.mut ((e0.trans e13).trans e4) hx0
          have nxa : x ≠ al := ne_of_none (e13 _ _ hx) hal
          refine s_fldN (R := isU (ts.map V.ref)) (en_U (eu_tupofN ?_)) (ev_var rfl) upd_same T.clL T.nL_every (by show 1 < 1000; decide) fun e H5 he e5 _ nw5 => ?_
          · have e := given_map ts (fun _ => true) V.ref (f := fun _ => true) (v := fun j => .ref (ts.getD j default)) fun j k hk => by rw [getD_of hk]; exact ⟨rfl, rfl⟩
            rw [List.filter_eq_self.mpr fun _ _ => rfl, tl, ← hpl, ← List.length_map (f := V.ref)] at e
            rw [← e]
            refine el_lcLg (fun _ => true) _ (ev_var rfl) (sq_get (ex4 _ _ hl)) (by rw [List.length_map]; omega) fun i y H3 e3 hy => ?_
            obtain ⟨p, hp, rfl⟩ := get_map hy
            obtain ⟨dx', t, r, f, ht, hr, hpi, htu⟩ := hrow i p hp
            rw [getD_of ht]
            exact turnN rfl et_yes fun _ => ev_fld (ev_var rfl) ((ex4.trans e3) _ _ hpi) T.clA T.nA_row rfl
          · have he5 := nw5.now (Ex.refl _) e5
            have he4 : H4 e = none := by
              have hne : e ≠ x := fun z => by rw [z, upd_same] at he; cases he
              rwa [upd_ne hne] at he
            have nxe : x ≠ e := ne_of_none (e4 _ _ (e13 _ _ hx)) he4
            refine q al e ts _ (Ex.mut (ex4.trans e5) hx0) (fresh_back e13 hal) (fresh_back (e13.trans e4) he4) (by rw [upd_same, putF_every]) ?_ ?_ ⟨by rw [List.length_map, tl], fun i v r hv hr => ?_⟩
            · rw [upd_ne nxa.symm]; refine e5 _ _ ?_; rw [upd_ne nxa.symm]; exact hal4
            · rw [upd_ne nxe.symm]; exact he5
            · obtain ⟨t, ht, rfl⟩ := get_map hv
              have hi : i < ps.length := by rw [hpl]; exact (List.getElem?_eq_some_iff.mp hr).1
              obtain ⟨dx', t', r', a, b, c, d⟩ := hts i _ (List.getElem?_eq_getElem hi)
              rw [ht] at a
              rw [hr] at b
              cases a
              cases b
              exact d
end
end K59
namespace K59
open PySem PySem.Spec L2 Evl
section
variable {P : Program} {w : World} {K : PySem.W.Frag} {mg : Str → Option Value} {base : Heap} {CA CL CM : Addr}
theorem PairsAt.snoc {H : Hp} {l p : Addr} {ts : List (Nat × Str)} {x : Nat × Str} (h : PairsAt H l ts) {xs : List V} (hl : H l = some (.lst xs)) (hp : H p = some (.tup [.int (x.1 : Int), .str x.2])) : PairsAt (upd H l (.lst (xs ++ [.ref p]))) l (ts ++ [x]) := by
  obtain ⟨ps, h1, h2, h3⟩ := h
  rw [hl] at h1
  cases h1
  refine ⟨ps ++ [p], by rw [upd_same, List.map_append]; rfl, by rw [List.length_append, List.length_append, h2]; rfl, fun i q y a b => ?_⟩
  have ne : ∀ {q : Addr} {zs : List V}, H q = some (.tup zs) → q ≠ l := fun h z => by rw [z, hl] at h; cases h
  by_cases hi : i < ps.length
  · rw [List.getElem?_append_left hi] at a
    rw [List.getElem?_append_left (by omega)] at b
    have := h3 i q y a b
    rw [upd_ne (ne this)]
    exact this
  · rw [List.getElem?_append_right (by omega)] at a
    rw [List.getElem?_append_right (by omega), ← h2] at b
    cases hz : i - ps.length with
    | zero => rw [hz] at a b; cases a; cases b; rw [upd_ne (ne hp)]; exact hp
    | succ m => rw [hz] at a; cases a
theorem PairsAt.other {H : Hp} {l d : Addr} {u : List V} {o : HO} {ts : List (Nat × Str)} (h : PairsAt H l ts) (hd : H d = some (.lst u)) (n : l ≠ d) : PairsAt (upd H d o) l ts := by
  obtain ⟨ps, h1, h2, h3⟩ := h
  refine ⟨ps, by rw [upd_ne n]; exact h1, h2, fun i q y a b => ?_⟩
  have := h3 i q y a b
  rw [upd_ne fun z => by rw [z, hd] at this; cases this]
  exact this
/-- the last pair of a list -/
theorem ev_last {σ : L2.St} {H : Hp} {ta : TE} {l : Addr} {t : List (Nat × Str)} {x : Nat × Str} {i : Int} {v : V} (ha : Ev ta σ H (.ref l)) (h : PairsAt H l (t ++ [x])) (hv : atI [V.int (x.1 : Int), V.str x.2] i = some v) : Ev (tOp (rIxT K) (tOp (rIxL K) ta (tUn (rU fun i => .int (-i)) (tC (.int 1)))) (tC (.int i))) σ H v := by
  have hg : (t ++ [x])[t.length]? = some x := by simp
  obtain ⟨ps, p, h1, h2, h3, h4⟩ := h.get hg
  have hl : atI ps (-1) = some (.ref p) := atI_neg1 (by rw [h2, List.length_append]; exact h3)
  exact ev_ixT (ev_ixL ha (ev_un ev_c ru_neg) (sq_get h1) hl) ev_c (st_get h4) hv
def knat : Key → Nat
  | .inl i => i.toNat
  | .inr _ => 0
def gvG (G : Gains Str) (i : Nat) : Int := match G i with
  | some y => y.1
  | none => 0
theorem W_mono {a b : Int} (h : a ≤ b) : W a ≤ W b := by unfold W; omega
theorem W_neg {a : Int} (h : a < 0) : W a ≤ 0 := by unfold W; omega
theorem W_nn {a : Int} (h : 0 ≤ a) : 0 ≤ W a := by unfold W; omega
theorem W_le {a b : Int} (h : a ≤ 1000 * b) : W a ≤ b := by unfold W; omega
theorem dII_ok {rl : List (Int × Nat)} : ∀ d ∈ rl.map dII, d.canLay0 = true ∧ d.depth ≤ 5 := fun d hd => by
  obtain ⟨y, _, rfl⟩ := List.mem_map.mp hd
  simp [dII, PyData.canLay0, PyData.canLayAll0, PyData.depth, PyData.depthAll]
def spImprove (CM : Addr) : Sp := fun vs H Q _ => ∃ (m : Addr) (a : MA) (M : Mkt) (s : Str → Int) (S : Mst) (H0 : Hp) (p : Str → Int) (q : Nat → Int) (lam : Int), vs = [.ref m, .bl false] ∧ MIm CM H0 m a M ∧ Ex H0 H ∧ H0 a.af = none ∧ H0 a.ah = none ∧ H0 a.ag = none ∧ MMu H a S ∧ MOk M ∧ SOk M s S ∧ SV M.I s S.h p q lam ∧
  (∀ H', Ex H0 H' → MMu H' a S → Best M.I s S.h → Q (.bl false) H') ∧
  ∀ S' H' p' q' lam', Ex H0 H' → MMu H' a S' → SOk M s S' → SV M.I s S'.h p' q' lam' → M.I.all S.h < M.I.all S'.h → Q (.bl true) H'
theorem d_improve {f : Addr} {fd : FuncData} (F : Fun K "improve" "Market.improve" s_Market_improve f fd) (T : Txt K mg CA CL CM) (c_Market_ways : MetK P w K mg base 2 CM "ways" (spWays CM)) (c_Market_has_room : MetK P w K mg base 1 CM "has_room" (spRoom CM))
    (c_Market_hand_on : MetK P w K mg base 1 CM "hand_on" (spHandOn CM)) : FnOk P w K mg base CX0 3 f fd ["self", "must"] (spImprove CM) := by
  refine F.ok sc_Market_improve (fun vs H Q E h => ?_) (fun cdv A outer s H vs Q E hr h => ?_)
  · obtain ⟨_, _, _, _, _, _, _, _, _, rfl, _⟩ := h
    rfl
  · obtain ⟨m, a, M, s, S, H0, p, q, lam, rfl, X0, e0, n1, n2, n3, Y, o, so, sv, qf, qt⟩ := h
    refine ⟨_, (pss_cons (ps_asg (em0 c_Market_ways hr (by decide) (pv 0)) (tupTK K rfl rfl (pgs_cons (pg_name (i := 2) sc_Market_improve.nd rfl (by first | exact Or.inl rfl | exact Or.inr rfl)) (pgs_cons (pg_name (i := 3) sc_Market_improve.nd rfl (by first | exact Or.inl rfl | exact Or.inr rfl)) pgs_nil))))
    (pss_cons (ps_lock (ps_setLc (i := 5) (own := [("at", 4)]) (g := (gName 4)) rfl sc_Market_improve.nd rfl rfl (sw_true rfl rfl rfl (by decide +kernel)) (pi_keys (pv 3)) (blkOk_by (own := [("at", 4)]) (N := ["self", "must", "bags", "gains", "at", "ready", "takes", "gives"]) (sc := defScope s_Market_improve) (by decide +kernel)) (fun _ _ _ _ _ => (pg_name (i := 4) sc_Market_improve.nd rfl (by first | exact Or.inl rfl | exact Or.inr rfl))) (fun _ _ _ _ _ => (pts_one (pt_val (em c_Market_has_room hr (by decide) (pv 0) (pa_cons (pv 4) pa_nil))))) (fun _ _ _ _ _ => (pe_tup (pa_cons (pe_ix (ixTK K rfl) (pe_dget (hu_of hr) (pv 3) (pv 4) (fun _ _ => rfl)) pe_int (fun _ _ => rfl)) (pa_cons (pv 4) pa_nil))))))
    (pss_cons (ps_if (PW.pt (pw_or (pt_cmpR (eqDK K rfl hr.units) (pv 5) (pe_lst pa_nil) (nomark _)) (pw_or1 (PW.pt (pw_and (pt_cmpR op_lt (pe_ix (ixTK K rfl) (pe_callB (maxPK K rfl rfl hr.units) (by rfl) T.g_max boot_max (pa_cons (pv 5) pa_nil)) pe_int (fun _ _ => rfl)) pe_int (nomark _)) (pw_and1 (pt_not (pt_val (pv 1))))))))) (pss_one (ps_ret pe_bl)) pss_nil)
    (pss_cons (ps_set (i := 4) sc_Market_improve.nd rfl (Or.inl rfl) (pe_ix (ixTK K rfl) (pe_callB (maxPK K rfl rfl hr.units) (by rfl) T.g_max boot_max (pa_cons (pv 5) pa_nil)) pe_int (fun _ _ => rfl)))
    (pss_cons (ps_par (i := 6) (j := 7) (by rfl) sc_Market_improve.nd rfl rfl (by decide) rfl rfl (pa_cons (pe_lst (pa_cons (pe_tup (pa_cons (pv 4) (pa_cons (pe_ix (ixTK K rfl) (pe_dget (hu_of hr) (pv 3) (pv 4) (fun _ _ => rfl)) pe_int (fun _ _ => rfl)) pa_nil))) pa_nil)) (pa_cons (pe_lst pa_nil) pa_nil)) (by rfl))
    (pss_cons (ps_while PassesOwn.never (pt_cmpR op_notN (pe_ix (ixTK K rfl) (pe_dget (hu_of hr) (pv 2) (pe_ix (ixTK K rfl) (pe_ix (ixLK K rfl) (pv 6) (pe_un un_neg pe_int) (fun _ _ => rfl)) pe_int (fun _ _ => rfl)) (fun _ _ => rfl)) pe_int (fun _ _ => rfl)) pe_non (nomark _))
    (pss_cons (ps_set (i := 4) sc_Market_improve.nd rfl (Or.inl rfl) (pe_ix (ixTK K rfl) (pe_dget (hu_of hr) (pv 2) (pe_ix (ixTK K rfl) (pe_ix (ixLK K rfl) (pv 6) (pe_un un_neg pe_int) (fun _ _ => rfl)) pe_int (fun _ _ => rfl)) (fun _ _ => rfl)) pe_int (fun _ _ => rfl)))
    (pss_cons (ps_expr (pe_bmK K rfl PySem.F.plainAttrs_list PySem.F.slot_list_append PySem.F.type_list_append mt_append (pv 7) (pa_cons (pe_tup (pa_cons (pv 4) (pa_cons (pe_ix (ixTK K rfl) (pe_ix (ixLK K rfl) (pv 6) (pe_un un_neg pe_int) (fun _ _ => rfl)) pe_int (fun _ _ => rfl)) pa_nil))) pa_nil)))
    (pss_one (ps_expr (pe_bmK K rfl PySem.F.plainAttrs_list PySem.F.slot_list_append PySem.F.type_list_append mt_append (pv 6) (pa_cons (pe_tup (pa_cons (pv 4) (pa_cons (pe_ix (ixTK K rfl) (pe_dget (hu_of hr) (pv 3) (pv 4) (fun _ _ => rfl)) pe_int (fun _ _ => rfl)) pa_nil))) pa_nil)))))))
    (pss_cons (ps_expr (em c_Market_hand_on hr (by decide) (pv 0) (pa_cons (pv 6) (pa_cons (pv 7) pa_nil))))
    (pss_one (ps_ret pe_bl))))))))), ?_⟩
    have X := X0.mono e0
    refine q_meth (ev_var rfl) X.ins rfl ea_nil fun H1 e1 => ⟨m, a, M, s, S, p, q, lam, rfl, X.mono e1, Y.mono e1, o, so, sv, fun t b g kb kg B G H2 ht hb hg e2 h2 hkb tb hkg tg lab fx => ⟨t, _, rfl, st_get h2, rfl, _, _, rfl, _, _, rfl, rfl, ?_⟩⟩
    have ex2 := e1.trans e2
    have ngl : kg.length ≤ 6 := by have := tg.len; rw [List.length_range] at this; have := o.few; omega
    let pr : Key × V → Bool := fun x => decide (M.I.got S.h (knat x.1) < M.I.want (knat x.1))
    let rl : List (Int × Nat) := (kg.filter pr).map fun x => (gvG G (knat x.1), knat x.1)
    have hrl : ∀ y ∈ rl, ∃ k, G y.2 = some (y.1, k) ∧ M.I.got S.h y.2 < M.I.want y.2 := fun y hy => by
      obtain ⟨x, hx, rfl⟩ := List.mem_map.mp hy
      obtain ⟨hx1, hx2⟩ := List.mem_filter.mp hx
      obtain ⟨n, hn⟩ := List.getElem?_of_mem hx1
      obtain ⟨i, xg, hi, ek, hG⟩ := tg.key (x := x.1) (v := x.2) hn
      have ei : knat x.1 = i := by rw [ek]; exact Int.toNat_natCast i
      refine ⟨xg.2, ?_, of_decide_eq_true hx2⟩
      show G (knat x.1) = some (gvG G (knat x.1), xg.2)
      unfold gvG
      rw [ei, hG]
    have hrl2 : ∀ i g' k, G i = some (g', k) → M.I.got S.h i < M.I.want i → (g', i) ∈ rl := fun i g' k hG hr => by
      obtain ⟨n, v, hn⟩ := tg.place hG
      refine List.mem_map.mpr ⟨(kG i, v), List.mem_filter.mpr ⟨List.mem_of_getElem? hn, ?_⟩, ?_⟩
      · refine decide_eq_true ?_
        rw [show knat (kG i, v).1 = i from Int.toNat_natCast i]
        exact hr
      · show (gvG G (knat (kG i)), knat (kG i)) = (g', i)
        rw [show knat (kG i) = i from Int.toNat_natCast i]
        unfold gvG
        rw [hG]
    have hmap : gvN kg.length (fun j => pr (kg.getD j (.inl 0, .non))) (fun j => isII (gvG G (knat (kg.getD j (.inl 0, .non)).1), knat (kg.getD j (.inl 0, .non)).1)) = rl.map isII := by
      rw [gvN_map kg pr (fun x => isII (gvG G (knat x.1), knat x.1)) fun j x hx => by rw [List.getD_eq_getElem?_getD, hx]; exact ⟨rfl, rfl⟩]
      show _ = ((kg.filter pr).map _).map isII
      rw [List.map_map]
      rfl
    have hgn : H1 g = none := hg
    have e2g : Ex H1 (del H2 g) := ex_del e2 hg
    refine q_lcKN (d := g) (kvs := kg) (fun j => pr (kg.getD j (.inl 0, .non))) (fun j => isII (gvG G (knat (kg.getD j (.inl 0, .non)).1), knat (kg.getD j (.inl 0, .non)).1)) hkg (fun od => ev_var rfl) (by omega) (fun od j k x H3 e3 hx => ?_) (fun rd H3 hrd e3 _ nw => ?_)
    · obtain ⟨i, xg, hi, rfl, hG⟩ := tg.key hx
      have hi := List.mem_range.mp hi
      have ejx : kg.getD j (.inl 0, .non) = (kG i, x) := by rw [List.getD_eq_getElem?_getD, hx]; rfl
      have eG : gvG G i = xg.1 := by unfold gvG; rw [hG]
      rw [ejx]
      have ek : knat (kG i, x).1 = i := Int.toNat_natCast i
      have eu : Ex H1 (upd H2 g (.frz od (.dK kg))) := Ex.mut e2 hg
      have ex3 := (e1.trans eu).trans e3
      rw [show pr (kG i, x) = decide (M.I.got S.h i < M.I.want i) by show decide (M.I.got S.h (knat (kG i)) < M.I.want (knat (kG i))) = _; rw [show knat (kG i) = i from Int.toNat_natCast i], ek, eG]
      have tg3 : TabG M H3 kg G := (tg.upd hkg fun _ z => nomatch z).mono e3
      exact nturn1 rfl (et_test (ev_meth (ev_var rfl) (X.mono ex3).ins rfl (ea1 (ev_var rfl)) (spv_room (X.mono ex3) (Y.mono ex3) o so hi))) fun _ =>
        en_U (eu2 (ev_gain (ev_var rfl) (ev_var rfl) ev_c (dget_intF (e3 _ _ upd_same)) tg3 hG rfl) (ev_var rfl))
    · rw [hmap] at nw
      obtain ⟨ps, hps, rel⟩ := nw.now (Ex.refl _) e3
      have X3 := X.mono (ex2.trans e3)
      have Y3 := Y.mono (ex2.trans e3)
      have hbest : ∀ (lz : ∀ y ∈ rl, W y.1 ≤ 0), Best M.I s S.h := fun lz => Best.of o.ok (new_SV o.ok sv lab fx (lam' := 0) (Int.le_refl 0) sv.l0 fun i g' k hG hr => lz (g', i) (hrl2 i g' k hG hr)).cert
      have e03 := e0.trans (ex2.trans e3)
      by_cases hnil : rl = []
      · refine q_when (b := true) (et_or (a := true) (b := true) (et_test (ev_eqNil (ds := rl.map dII) (ev_var rfl) hps (dpAll_II rel) (fun H1 e => dpAll_II (isII_mono e rel)) dII_ok (by rw [hnil]; rfl))) (fun z => nomatch z)) (fun _ H4 e4 => s_ret ev_c fun H5 e5 => qf H5 (e03.trans (e4.trans e5)) (Y3.mono (e4.trans e5)) (hbest fun y hy => by rw [hnil] at hy; simp at hy)) fun z => nomatch z
      · obtain ⟨gm1, gm2⟩ := mxL_top (rl.map (·.1)) (by simpa using hnil)
        have gm3 : ∃ y ∈ rl, y.1 = mxL (rl.map (·.1)) := List.mem_map.mp gm1
        have gm4 : ∀ y ∈ rl, y.1 ≤ mxL (rl.map (·.1)) := fun y hy => gm2 _ (List.mem_map.mpr ⟨y, hy, rfl⟩)
        refine q_when (b := decide (mxL (rl.map (·.1)) < 0)) (et_is (et_or (a := false) (b := decide (mxL (rl.map (·.1)) < 0) && true) (et_test (ev_eqNil (ds := rl.map dII) (ev_var rfl) hps (dpAll_II rel) (fun H1 e => dpAll_II (isII_mono e rel)) dII_ok (decide_eq_false (by simpa using hnil)))) fun _ => et_and (a := decide (mxL (rl.map (·.1)) < 0)) (b := true) (et_test (ev_lt (ev_maxP0 (ev_var rfl) hps rel gm3 gm4) ev_c)) fun _ => et_not (a := false) (et_B (ev_var rfl))) (by simp)) (fun hd H4 e4 => ?_) (fun hd H4 e4 => ?_)
        · have hd := of_decide_eq_true hd
          exact s_ret ev_c fun H5 e5 => qf H5 (e03.trans (e4.trans e5)) (Y3.mono (e4.trans e5)) (hbest fun y hy => W_neg (by have := gm4 y hy; omega))
        · have hd := of_decide_eq_false hd
          refine q_maxP1 (ev_var rfl) (e4 _ _ hps) (isII_mono e4 rel) hnil fun y H5 e5 hy hmax => ?_
          obtain ⟨k0, hG0, hroom⟩ := hrl y hy
          have ex5 := e3.trans (e4.trans e5)
          have hkb5 := ex5 _ _ hkb
          have hkg5 := ex5 _ _ hkg
          have tb5 := tb.mono ex5
          have tg5 := tg.mono ex5
          have Y5 := Y.mono (ex2.trans ex5)
          have hy0 : y.2 < M.rows.length := (lab.gP _ _ _ hG0).1
          have hq0 := sv.hi y.2 hy0 hroom
          have hlam : W y.1 ≤ lam := by have := W_le (lab.gP _ _ _ hG0).2.2.1; omega
          have hlam0 : 0 ≤ W y.1 := W_nn (by obtain ⟨z, hz, ez⟩ := gm3; have := hmax z hz; omega)
          refine q_parN (en_lst1 (en_U (eu2 (ev_var rfl) (ev_gain (ev_var rfl) (ev_var rfl) ev_c (dget_int hkg5) tg5 hG0 rfl)))) en_lst0 fun tl gl H6 htl hgl hne e6 r1 r2 => ?_
          have pt1 : PairsAt H6 tl [(y.2, k0)] := by
            obtain ⟨ps, a1, a2, a3⟩ := r1
            refine ⟨ps, a1, a2, fun i p x b1 b2 => ?_⟩
            cases i with
            | zero => cases b2; exact a3 0 p _ b1 rfl
            | succ i => cases b2
          have pg1 : PairsAt H6 gl [] := by
            obtain ⟨ps, a1, a2, a3⟩ := r2
            exact ⟨ps, a1, a2, fun i p x b1 b2 => by cases b2⟩
          obtain ⟨gk0, oo0, w0⟩ := way_start o.ok sv lab fx (D := lam - W y.1) hG0 (by omega)
          have hlv0 := (lv_W gk0).2
          refine q_while (fun n σ' H' => ∃ ts gs at' k gk oo, σ' = [some (.ref m), some (.bl false), some (.ref b), some (.ref g), some (.int ((at' : Nat) : Int)), some (.ref rd), some (.ref tl), some (.ref gl)] ∧ Ex H5 H' ∧ PairsAt H' tl ts ∧ PairsAt H' gl gs ∧ Way M.I S.h p q B G (lam - W y.1) y.2 ts gs at' k gk oo ∧ n = lv gk ∧ ts.length + n ≤ 1001 ∧ gs.length + n ≤ 1001)
            (lv gk0) ⟨_, _, _, _, _, _, rfl, e6, pt1, pg1, w0, rfl, by simp; omega, by simp; omega⟩ fun n σ' H7 hw => ?_
          obtain ⟨ts, gs, at', k, gk, oo, rfl, e7, pt, pg, w, rfl, l1, l2⟩ := hw
          obtain ⟨tt, ett⟩ := w.last
          have ptl := pt
          rw [ett] at ptl
          have hbv : ∀ (i : Int) (v : V), atI (eB (gk, oo)) i = some v → ∀ σ'' : L2.St, σ''[2]? = some (some (.ref b)) → σ''[6]? = some (some (.ref tl)) → Ev (tOp (rIxT K) (tDGet (tVar 2) (tOp (rIxT K) (tOp (rIxL K) (tVar 6) (tUn (rU fun i => .int (-i)) (tC (.int 1)))) (tC (.int 1)))) (tC (.int i))) σ'' H7 v := fun i v hv σ'' s1 s2 =>
            ev_bag (ev_var s1) (ev_last (ev_var s2) ptl rfl) ev_c (dget_str (e7 _ _ hkb5)) (tb5.mono e7) w.bk hv
          refine ⟨oo.isSome, et_test (ev_is (ev_op (hbv 1 (optV oo) rfl _ rfl rfl) ev_c fun H1 _ Q q => ⟨rfl, q H1 (Ex.refl H1)⟩) (by cases oo <;> rfl)), fun hs H8 e8 => ?_, fun hs H8 e8 => ?_⟩
          · obtain ⟨b', rfl⟩ := Option.isSome_iff_exists.mp hs
            obtain ⟨hpos, g', k', hG', _⟩ := lab.bP _ _ _ w.bk
            obtain ⟨gk', oo', hlt, w'⟩ := way_step o.ok sv lab fx w hG'
            refine ⟨fun σ' H' => ∃ at', σ' = [some (.ref m), some (.bl false), some (.ref b), some (.ref g), some (.int ((at' : Nat) : Int)), some (.ref rd), some (.ref tl), some (.ref gl)] ∧ at' = b' ∧ Ex H5 H' ∧ PairsAt H' tl (ts ++ [(b', k')]) ∧ PairsAt H' gl (gs ++ [(b', k)]), fun σ2 H2 h => ?_, ?_⟩
            · obtain ⟨at2, rfl, rfl, x1, x2, x3⟩ := h
              exact ⟨lv gk', hlt, _, _, _, _, _, _, rfl, x1, x2, x3, w', rfl, by rw [List.length_append]; simp; omega, by rw [List.length_append]; simp; omega⟩
            · refine q_asg (v := .int (b' : Int)) ((hbv 1 _ rfl _ rfl rfl).mono e8) fun H9 e9 => ?_
              have e79 := e8.trans e9
              obtain ⟨gps, gp1, gp2⟩ := pg.mono e79
              refine q_appU (l := gl) gp1 (ev_var rfl) (ys := [.int (b' : Int), .str k]) (eu2 (ev_var rfl) (ev_last (ev_var rfl) (ptl.mono e79) rfl)) (by rw [List.length_map, gp2.1]; omega) fun pp H10 hpp e10 hp10 => ?_
              have e710 := e79.trans e10
              have pg10 := (pg.mono e710).snoc (x := (b', k)) (e10 _ _ gp1) hp10
              have pt10 := (pt.mono e710).other (o := .lst (gps.map V.ref ++ [.ref pp])) (e10 _ _ gp1) hne
              obtain ⟨tps, tp1, tp2⟩ := pt10
              have ex10 : Ex H5 (upd H10 gl (.lst (gps.map V.ref ++ [.ref pp]))) := Ex.mut (e7.trans e710) hgl
              refine s_appU (l := tl) tp1 (ev_var rfl) (ys := [.int (b' : Int), .str k']) (eu2 (ev_var rfl) (ev_gain (ev_var rfl) (ev_var rfl) ev_c (dget_int (ex10 _ _ hkg5)) (tg5.mono ex10) hG' rfl)) (by rw [List.length_map, tp2.1]; omega) fun pq H11 hpq e11 hp11 => ?_
              have pg11 := (pg10.mono e11).other (o := .lst (tps.map V.ref ++ [.ref pq])) (e11 _ _ tp1) hne.symm
              have pt11 := ((PairsAt.mono e11 ⟨tps, tp1, tp2⟩ : PairsAt H11 tl ts)).snoc (x := (b', k')) (e11 _ _ tp1) hp11
              exact ⟨b', rfl, rfl, Ex.mut (ex10.trans e11) htl, pt11, pg11⟩
          · have hs : oo = none := by cases oo with
              | none => rfl
              | some _ => cases hs
            subst hs
            have e58 := e7.trans e8
            have Y8 := Y5.mono e58
            refine q_dmeth (ev_var rfl) ((X0.mono (e03.trans ((e4.trans e5).trans e58))).ins) rfl (ea2 (ev_var rfl) (ev_var rfl)) fun H9 e9 => ⟨m, a, M, s, S, tl, gl, ts, gs, y.2, k, H0, rfl, X0, e03.trans ((e4.trans e5).trans (e58.trans e9)), n1, n2, n3, Y8.mono e9, o, so, pt.mono (e8.trans e9), pg.mono (e8.trans e9),
              (ne_of_none Y5.got htl).symm, (ne_of_none Y5.got hgl).symm, ⟨w.first, ⟨_, _, ett⟩, fun x hx => ⟨(w.tk x hx).1, (w.tk x hx).2.1⟩, fun x hx => (w.gv x hx).1, fun c i hi => hand_got o.ok sv w hi, fun c j => hand_used o.ok sv w j, hroom, (lab.bS _ _ w.bk).1, by omega, by omega⟩, fun c S' H' ex' Y' so' c1 c2 c3 c4 hh => ?_⟩
            refine s_ret ev_c fun H10 e10 => qt S' H10 (newp B p (lam - W y.1)) (newq G q (lam - W y.1)) (W y.1) (ex'.trans e10) (Y'.mono e10) so' ?_ ?_
            · rw [hh]
              exact hand_SV o.ok sv lab fx hlam0 hlam (fun i g' k hG hr => W_mono (hmax _ (hrl2 i g' k hG hr))) w hG0 rfl c1 c2 c3 c4
            · rw [hh, hand_all o.ok sv w hy0]
              omega
end
end K59
namespace K59
open PySem PySem.Spec L2 Evl
section
variable {P : Program} {w : World} {K : PySem.W.Frag} {mg : Str → Option Value} {base : Heap} {CA CL CM : Addr}
def spFill (CM : Addr) : Sp := fun vs H Q _ => ∃ (m : Addr) (a : MA) (M : Mkt) (s : Str → Int) (S : Mst) (H0 : Hp) (p : Str → Int) (q : Nat → Int) (lam : Int), vs = [.ref m, .bl false] ∧ MIm CM H0 m a M ∧ Ex H0 H ∧ H0 a.af = none ∧ H0 a.ah = none ∧ H0 a.ag = none ∧ MMu H a S ∧ MOk M ∧ SOk M s S ∧ SV M.I s S.h p q lam ∧
  ∀ S' H', Ex H0 H' → MMu H' a S' → SOk M s S' → Best M.I s S'.h → Q .non H'
theorem d_fill {f : Addr} {fd : FuncData} (F : Fun K "fill" "Market.fill" s_Market_fill f fd) (T : Txt K mg CA CL CM) (c_Market_improve : MetK P w K mg base 3 CM "improve" (spImprove CM)) : FnOk P w K mg base CX0 4 f fd ["self", "must"] (spFill CM) := by
  refine F.ok sc_Market_fill (fun vs H Q E h => ?_) (fun cdv A outer sx H vs Q E hr h => ?_)
  · obtain ⟨_, _, _, _, _, _, _, _, _, rfl, _⟩ := h
    rfl
  · obtain ⟨m, a, M, s, S, H0, p, q, lam, rfl, X0, e0, n1, n2, n3, Y, o, so, sv, q9⟩ := h
    refine ⟨_, (pss_cons (ps_set (i := 2) sc_Market_fill.nd rfl (Or.inl rfl) pe_bl)
    (pss_one (ps_while PassesOwn.never (pt_val (pv 2))
    (pss_one (ps_set (i := 2) sc_Market_fill.nd rfl (Or.inl rfl) (em c_Market_improve hr (by decide) (pv 0) (pa_cons (pv 1) pa_nil))))))), ?_⟩
    refine q_asg (v := .bl true) ev_c fun H1 e1 => ?_
    refine s_while (fun n σ' H' => ∃ gb, σ' = [some (.ref m), some (.bl false), some (.bl gb)] ∧ Ex H0 H' ∧ ∃ S p q lam, MMu H' a S ∧ SOk M s S ∧ SV M.I s S.h p q lam ∧ (gb = false → Best M.I s S.h) ∧ n = (if gb = true then 1 + (sm (List.range M.I.n) M.I.want - M.I.all S.h).toNat else 0)) _
      ⟨true, rfl, e0.trans e1, S, p, q, lam, Y.mono e1, so, sv, fun z => (nomatch z), rfl⟩ fun n σ' H' hw => ?_
    obtain ⟨gb, rfl, ex, S, p, q, lam, Y, so, sv, hb, hn⟩ := hw
    refine ⟨gb, et_B (ev_var rfl), fun hg H2 e2 => ⟨fun σ2 H2 => ∃ gb, σ2 = [some (.ref m), some (.bl false), some (.bl gb)] ∧ Ex H0 H2 ∧ ∃ S2 p q lam, MMu H2 a S2 ∧ SOk M s S2 ∧ SV M.I s S2.h p q lam ∧ (gb = false → Best M.I s S2.h) ∧ (gb = true → M.I.all S.h < M.I.all S2.h), fun σ2 H2 h => ?_, ?_⟩, fun hg H2 e2 => ?_⟩
    · obtain ⟨g2, rfl, ex2, S2, p2, q2, l2, Y2, so2, sv2, hb2, ha2⟩ := h
      refine ⟨_, ?_, g2, rfl, ex2, S2, p2, q2, l2, Y2, so2, sv2, hb2, rfl⟩
      rw [hn, hg]
      cases g2 with
      | false => simp; omega
      | true =>
        have h1 := ha2 rfl
        have h2 := all_le sv2.f
        simp
        omega
    · refine s_meth (ev_var rfl) ((X0.mono (ex.trans e2)).ins) rfl (ea1 (ev_var rfl)) fun H3 e3 => ⟨m, a, M, s, S, H0, p, q, lam, rfl, X0, ex.trans (e2.trans e3), n1, n2, n3, Y.mono (e2.trans e3), o, so, sv, fun H4 e4 Y4 b4 => ?_, fun S4 H4 p4 q4 l4 e4 Y4 so4 sv4 ha4 => ?_⟩
      · exact ⟨false, rfl, e4, S, p, q, lam, Y4, so, sv, fun _ => b4, fun z => nomatch z⟩
      · exact ⟨true, rfl, e4, S4, p4, q4, l4, Y4, so4, sv4, fun z => (nomatch z), fun _ => ha4⟩
    · exact q9 S H2 (ex.trans e2) (Y.mono e2) so (hb hg)
/-- the keys of a table by kinds -/
structure KeysI (fd : List (Key × Int)) (S : List Str) : Prop where
  nd : (fd.map (·.1)).Nodup
  ks : ∀ x ∈ fd.map (·.1), ∃ k ∈ S, x = .inr k
  all : ∀ k ∈ S, (lkS fd k).isSome = true
def gf (fd : List (Key × Int)) : Str → Int := fun k => gtI fd (.inr k)
theorem gf_put (fd : List (Key × Int)) (k : Str) (v : Int) : gf (putI fd (.inr k) v) = fun j => if j = k then v else gf fd j := funext fun j => by
  unfold gf
  rw [gtI_put]
  by_cases e : j = k
  · rw [if_pos e, if_pos (by rw [e])]
  · rw [if_neg e, if_neg fun z => e (Sum.inr.inj z)]
theorem lkS_put (fd : List (Key × Int)) (k : Str) (v : Int) : lkS (putI fd (.inr k) v) = fun j => if j = k then some v else lkS fd j := funext fun j => by
  unfold lkS
  rw [lkI_put]
  by_cases e : j = k
  · rw [if_pos e, if_pos (by rw [e])]
  · rw [if_neg e, if_neg fun z => e (Sum.inr.inj z)]
theorem KeysI.put {fd : List (Key × Int)} {S : List Str} (h : KeysI fd S) {k : Str} (hk : k ∈ S) (v : Int) : KeysI (putI fd (.inr k) v) S :=
  ⟨nodup_put h.nd _ _, fun x hx => by
    rcases (keys_put _ _ _ _).mp hx with e | e
    · exact ⟨k, hk, e⟩
    · exact h.ks x e, fun j hj => by
    rw [lkS_put]
    by_cases e : j = k
    · simp [e]
    · simp [e, h.all j hj]⟩
theorem KeysI.len {fd : List (Key × Int)} {S : List Str} (h : KeysI fd S) : fd.length ≤ S.length := by
  have := len_keys h.nd (S := S.map Sum.inr) fun x hx => by
    obtain ⟨k, hk, e⟩ := h.ks x hx
    exact List.mem_map.mpr ⟨k, hk, e.symm⟩
  rwa [List.length_map] at this
theorem KeysI.get {fd : List (Key × Int)} {S : List Str} (h : KeysI fd S) {k : Str} (hk : k ∈ S) : lkI fd (.inr k) = some (gf fd k) := by
  obtain ⟨v, hv⟩ := Option.isSome_iff_exists.mp (h.all k hk)
  unfold gf gtI
  rw [show lkI fd (.inr k) = some v from hv]
  rfl
/-- a relaxed table: bigger -/
theorem sm_put_lt {S : List Str} (hn : S.Nodup) {f : Str → Int} {k : Str} {v : Int} (hk : k ∈ S) (h : f k < v) : sm S f < sm S fun j => if j = k then v else f j := by
  have := sm_change hn hk (f := f) (g := fun j => if j = k then v else f j) fun b _ hb => (if_neg hb).symm
  simp only [if_true] at this
  omega
def spLeast (CM : Addr) : Sp := fun vs H Q _ => ∃ (m : Addr) (a : MA) (M : Mkt) (s : Str → Int) (S : Mst), vs = [.ref m] ∧ MIm CM H m a M ∧ MMu H a S ∧ MOk M ∧ SOk M s S ∧ Best M.I s S.h ∧
  ∀ p fd H', H p = none → Ex H H' → H' p = some (.dK (mI fd)) → KeysI fd M.sorts → Low M.I s (gf fd) → Opt M.I s (gf fd) → Q (.ref p) H'
theorem d_least {f : Addr} {fd : FuncData} (F : Fun K "least" "Market.least" s_Market_least f fd) (T : Txt K mg CA CL CM) (c_Market_worth : MetK P w K mg base 1 CM "worth" (spWorth CM)) (c_Market_hand_back : MetK P w K mg base 2 CM "hand_back" (spBack CM)) : FnOk P w K mg base CX0 3 f fd ["self"] (spLeast CM) := by
  refine F.ok sc_Market_least (fun vs H Q E h => ?_) (fun cdv A outer sx H vs Q E hr h => ?_)
  · obtain ⟨_, _, _, _, _, rfl, _⟩ := h
    rfl
  · obtain ⟨m, a, M, s, S, rfl, X, Y, o, so, be, q9⟩ := h
    refine ⟨_, (pss_cons (ps_set (i := 1) sc_Market_least.nd rfl (Or.inl rfl) pe_dnewK)
    (pss_cons (ps_for PassesOwn.never rfl (listK K rfl (fldK K rfl (pv 0))) (pg_name (i := 2) sc_Market_least.nd rfl (by first | exact Or.inl rfl | exact Or.inr rfl))
    (pss_one (ps_dput (hu_of hr) (pv 1) (pv 2) pe_int rfl)))
    (pss_cons (ps_set (i := 3) sc_Market_least.nd rfl (Or.inl rfl) pe_bl)
    (pss_cons (ps_while PassesOwn.never (pt_val (pv 3))
    (pss_cons (ps_set (i := 3) sc_Market_least.nd rfl (Or.inl rfl) pe_bl)
    (pss_one (ps_for PassesOwn.never rfl (enumK K rfl (by rfl) T.g_enumerate (pa_cons (fldK K rfl (pv 0)) pa_nil)) (tupTK K rfl rfl (pgs_cons (pg_name (i := 4) sc_Market_least.nd rfl (by first | exact Or.inl rfl | exact Or.inr rfl)) (pgs_cons (pg_name (i := 5) sc_Market_least.nd rfl (by first | exact Or.inl rfl | exact Or.inr rfl)) pgs_nil)))
    (pss_cons (ps_set (i := 6) sc_Market_least.nd rfl (Or.inl rfl) (em c_Market_hand_back hr (by decide) (pv 0) (pa_cons (pv 4) (pa_cons (pv 1) pa_nil))))
    (pss_one (ps_for PassesOwn.never rfl (tupK K rfl (pe_ix (ixTK K rfl) (pv 5) pe_int (fun _ _ => rfl))) (pg_name (i := 2) sc_Market_least.nd rfl (by first | exact Or.inl rfl | exact Or.inr rfl))
    (pss_one (ps_if (pt_cmpR op_gt (pe_op op_add (em c_Market_worth hr (by decide) (pv 0) (pa_cons (pv 4) (pa_cons (pv 2) pa_nil))) (pv 6)) (pe_dget (hu_of hr) (pv 1) (pv 2) (fun _ _ => rfl)) (nomark _)) (pss_cons (ps_dput (hu_of hr) (pv 1) (pv 2) (pe_op op_add (em c_Market_worth hr (by decide) (pv 0) (pa_cons (pv 4) (pa_cons (pv 2) pa_nil))) (pv 6)) rfl)
    (pss_one (ps_set (i := 3) sc_Market_least.nd rfl (Or.inl rfl) pe_bl))) pss_nil)))))))))
    (pss_one (ps_ret (pv 1))))))), ?_⟩
    have hK : ∀ i, i < M.rows.length → ∀ k ∈ (rowAt M i).fits, k ∈ M.sorts := fun i hi k hk => (o.sm k).mpr ⟨i, hi, hk⟩
    obtain ⟨pb, hpb⟩ := be.ex
    obtain ⟨vs, hvs, rel⟩ := X.rows
    refine q_newK fun d H1 hd e1 h1 => ?_
    refine q_forLn (a := a.aso) (xs := M.sorts.map V.str) (ev_self (ev_var rfl) (X.mono e1) T.clM T.nM_sorts rfl) (sq_get (e1 _ _ X.sorts))
      (fun n σ' H' => (∃ x2, σ' = [some (.ref m), some (.ref d), x2, none, none, none, none]) ∧ Ex H H' ∧ ∃ fd, H' d = some (.dK (mI fd)) ∧ KeysI fd (M.sorts.take n) ∧ ∀ k, gf fd k = 0)
      (fun H2 e2 => ⟨⟨none, rfl⟩, e1.trans e2, [], e2 _ _ h1, ⟨List.nodup_nil, fun x h => by simp at h, fun k h => by simp at h⟩, fun k => rfl⟩) (fun n σ' H' _ h => sq_get (h.2.1 _ _ X.sorts)) (fun n x σ' H' hx h => ?_) (fun σ' H' h => ?_)
    · obtain ⟨⟨x2, rfl⟩, ex, fd, hfd, ki, g0⟩ := h
      obtain ⟨k, hk, rfl⟩ := get_map hx
      have htk : ∀ j, j ∈ M.sorts.take (n + 1) ↔ j ∈ M.sorts.take n ∨ j = k := fun j => by
        rw [List.take_add_one, hk, List.mem_append]
        simp
      have hl : fd.length ≤ 36 := by
        have := ki.len
        rw [List.length_take] at this
        have := o.sf
        omega
      refine s_putS (k := k) (l := fd) (v := 0) ev_c (ev_var rfl) (ev_var rfl) hfd (by omega) fun H2 e2 => ⟨⟨_, rfl⟩, Ex.mut (ex.trans e2) hd, _, upd_same, ⟨nodup_put ki.nd _ _, fun x hx => ?_, fun j hj => ?_⟩, fun j => ?_⟩
      · rcases (keys_put _ _ _ _).mp hx with e | e
        · exact ⟨k, (htk k).mpr (.inr rfl), e⟩
        · obtain ⟨j, hj, e⟩ := ki.ks x e
          exact ⟨j, (htk j).mpr (.inl hj), e⟩
      · rw [lkS_put]
        by_cases e : j = k
        · simp [e]
        · simp [e]
          exact ki.all j (((htk j).mp hj).resolve_right e)
      · rw [gf_put]
        by_cases e : j = k
        · simp [e]
        · simp [e, g0 j]
    · obtain ⟨⟨x2, rfl⟩, ex, fd, hfd, ki, g0⟩ := h
      rw [List.length_map, List.take_length] at ki
      have g0 : gf fd = fun _ => 0 := funext g0
      have low0 : Low M.I s (gf fd) := by
        rw [g0]
        exact ⟨fun _ _ => Int.le_refl 0, fun p hp k hk => hp.pn k hk⟩
      refine q_asg (v := .bl true) ev_c fun H2 e2 => ?_
      refine q_while (fun n σ' H' => ∃ tn fd x2 x4 x5 x6, σ' = [some (.ref m), some (.ref d), x2, some (.bl tn), x4, x5, x6] ∧ Ex H H' ∧ H' d = some (.dK (mI fd)) ∧ KeysI fd M.sorts ∧ Low M.I s (gf fd) ∧ (tn = false → Opt M.I s (gf fd)) ∧ n = 2 * (sm M.sorts pb - sm M.sorts (gf fd)).toNat + (if tn = true then 1 else 0)) _
        ⟨true, fd, x2, none, none, none, rfl, ex.trans e2, e2 _ _ hfd, ki, low0, fun z => (nomatch z), rfl⟩ fun n σ' H' hw => ?_
      obtain ⟨tn0, fd0, x2, x4, x5, x6, rfl, ex0, hfd0, ki0, lw0, op0, hn⟩ := hw
      let PI : Bool → List (Key × Int) → Option V → Option V → Option V → L2.St → Hp → Prop := fun tn fd x4 x5 x6 σ' H' => (∃ x2, σ' = [some (.ref m), some (.ref d), x2, some (.bl tn), x4, x5, x6]) ∧ Ex H H' ∧ H' d = some (.dK (mI fd)) ∧ KeysI fd M.sorts ∧ Low M.I s (gf fd) ∧ sm M.sorts (gf fd0) ≤ sm M.sorts (gf fd) ∧ (tn = true → sm M.sorts (gf fd0) < sm M.sorts (gf fd)) ∧ (tn = false → fd = fd0)
      let Vis : Nat → Prop := fun n => ∀ i, i < n → i < M.rows.length → ∃ b, Back M.I S.h (gf fd0) i b ∧ ∀ k ∈ (rowAt M i).fits, M.I.w i k + b ≤ gf fd0 k
      have lep : ∀ {fd}, Low M.I s (gf fd) → sm M.sorts (gf fd) ≤ sm M.sorts pb := fun l => sm_le fun k hk => l.le pb hpb k hk
      refine ⟨tn0, et_B (ev_var rfl), fun htn H3 e3 => ⟨fun σ2 H2 => ∃ tn fd x4 x5 x6, PI tn fd x4 x5 x6 σ2 H2 ∧ (tn = false → Vis M.rows.length), fun σ2 H2 h => ?_, ?_⟩, fun htn H3 e3 => ?_⟩
      · obtain ⟨tn, fd, y4, y5, y6, ⟨⟨y2, rfl⟩, k1, k2, k3, k4, k5, k6, k7⟩, hv⟩ := h
        refine ⟨_, ?_, tn, fd, y2, y4, y5, y6, rfl, k1, k2, k3, k4, fun z => ?_, rfl⟩
        · have l1 := lep k4
          cases tn with
          | false => rw [k7 rfl, hn, htn]; simp
          | true => have := k6 rfl; rw [hn, htn]; simp; omega
        · rw [k7 z]
          have hv := hv z
          refine Low.done o.ok be lw0 (bs := fun i => if hi : i < M.rows.length then Classical.choose (hv i hi hi) else 0) (fun i (hi : i < M.rows.length) => ?_) fun i (hi : i < M.rows.length) => ?_
          · simp only [dif_pos hi]; exact (Classical.choose_spec (hv i hi hi)).1
          · simp only [dif_pos hi]; exact (Classical.choose_spec (hv i hi hi)).2
      · refine q_asg (v := .bl false) ev_c fun H4 e4 => ?_
        have e34 := e3.trans e4
        refine s_forE (a := a.ar) (xs := vs) (ev_self (ev_var rfl) (X.mono (ex0.trans e34)) T.clM T.nM_rows rfl) (sq_get ((ex0.trans e34) _ _ hvs)) (fun n σ' H' => ∃ tn fd x4 x5 x6, PI tn fd x4 x5 x6 σ' H' ∧ (tn = false → Vis n))
          (fun H5 e5 => ⟨false, fd0, _, _, _, ⟨⟨_, rfl⟩, ex0.trans (e34.trans e5), e5 _ _ (e34 _ _ hfd0), ki0, lw0, Int.le_refl _, fun z => (nomatch z), fun _ => rfl⟩, fun _ i hi => absurd hi (Nat.not_lt_zero i)⟩) (fun n σ' H' _ h => by obtain ⟨_, _, _, _, _, w, _⟩ := h; exact sq_get (w.2.1 _ _ hvs)) (fun i x σ' H' pt hx h hp => ?_) (fun σ' H' h => ?_)
        · obtain ⟨tn, fd, y4, y5, y6, ⟨⟨y2, rfl⟩, k1, k2, k3, k4, k5, k6, k7⟩, hv⟩ := h
          have hi : i < M.rows.length := by rw [← rel.len]; exact (List.getElem?_eq_some_iff.mp hx).1
          obtain ⟨tr, ft, rfl, hr3, hr4⟩ := rel.get i x _ hx (rowAt_get hi)
          have hl := o.fw i hi
          have ep := Ex.new (o := .tup [.int (i : Int), .ref tr]) hp
          have X5 := X.mono (k1.trans ep)
          refine q_meth (ev_var rfl) X5.ins rfl (ea2 (ev_var rfl) (ev_var rfl)) fun H6 e6 => ⟨m, a, M, s, S, i, d, fd, rfl, X5.mono e6, Y.mono ((k1.trans ep).trans e6), o, so, be.f, hi, e6 _ _ (ep _ _ k2), k3.all, fun b H7 e7 bk => ?_⟩
          have ex7 := (k1.trans ep).trans (e6.trans e7)
          refine s_forTn (a := ft) (xs := (rowAt M i).fits.map V.str) (ev_ixT (ev_var rfl) ev_c (st_get (ex7 _ _ hr3)) (atI_get (i := 1) rfl)) (st_get (ex7 _ _ hr4)) (fun j σ' H' => ∃ tn' fd', PI tn' fd' (some (.int (i : Int))) (some (.ref tr)) (some (.int b)) σ' H' ∧ (tn' = false → fd = fd0 ∧ Vis i ∧ ∀ k ∈ (rowAt M i).fits.take j, M.I.w i k + b ≤ gf fd0 k))
            (fun H8 e8 => ⟨tn, fd, ⟨⟨_, rfl⟩, ex7.trans e8, e8 _ _ (e7 _ _ (e6 _ _ (ep _ _ k2))), k3, k4, k5, k6, k7⟩, fun z => ⟨k7 z, hv z, fun k hk => by simp at hk⟩⟩) (fun j σ' H' _ h => by obtain ⟨_, _, w, _⟩ := h; exact st_get (w.2.1 _ _ hr4)) (fun j x σ' H' hx h => ?_) (fun σ' H' h => ?_)
          · obtain ⟨tn', fd', ⟨⟨z2, rfl⟩, j1, j2, j3, j4, j5, j6, j7⟩, hv'⟩ := h
            obtain ⟨k, hk, rfl⟩ := get_map hx
            have hkf : k ∈ (rowAt M i).fits := List.mem_of_getElem? hk
            have hks := hK i hi k hkf
            have hlen := j3.len
            have hsf := o.sf
            refine s_when (b := decide (gf fd' k < M.I.w i k + b)) (et_test (ev_gt (ev_add (ev_worth (ev_var rfl) (ev_var rfl) (ev_var rfl) (X.mono j1) o hi hkf) (ev_var rfl)) (ev_getS (ev_var rfl) (ev_var rfl) j2 (j3.get hks)))) (fun hd9 H9 e9 => ?_) (fun hd9 H9 e9 => ?_)
            · have hd9 := of_decide_eq_true hd9
              refine q_putS (k := k) (l := fd') (v := M.I.w i k + b) (ev_add (ev_worth (ev_var rfl) (ev_var rfl) (ev_var rfl) (X.mono (j1.trans e9)) o hi hkf) (ev_var rfl)) (ev_var rfl) (ev_var rfl) (e9 _ _ j2) (by omega) fun H10 e10 => s_asg ev_c fun H11 e11 => ?_
              have hlt : sm M.sorts (gf fd') < sm M.sorts (gf (putI fd' (.inr k) (M.I.w i k + b))) := by
                rw [gf_put]
                exact sm_put_lt o.ok.nd hks hd9
              refine ⟨true, putI fd' (.inr k) (M.I.w i k + b), ⟨⟨_, rfl⟩, (Ex.mut (j1.trans (e9.trans e10)) hd).trans e11, e11 _ _ upd_same, j3.put hks _, ?_, by omega, fun _ => by omega, fun z => nomatch z⟩, fun z => nomatch z⟩
              rw [gf_put]
              exact Low.relax o.ok be k4.le j4 hi hkf bk hd9
            · have hd9 := of_decide_eq_false hd9
              refine ⟨tn', fd', ⟨⟨_, rfl⟩, j1.trans e9, e9 _ _ j2, j3, j4, j5, j6, j7⟩, fun z => ⟨(hv' z).1, (hv' z).2.1, fun k' hk' => ?_⟩⟩
              rw [List.take_add_one, hk, List.mem_append] at hk'
              rcases hk' with hk' | hk'
              · exact (hv' z).2.2 k' hk'
              · rw [Option.toList_some, List.mem_singleton] at hk'
                subst hk'
                rw [j7 z] at hd9
                omega
          · obtain ⟨tn', fd', w, hv'⟩ := h
            refine ⟨tn', fd', _, _, _, w, fun z i' hi' hl' => ?_⟩
            obtain ⟨v1, v2, v3⟩ := hv' z
            by_cases e : i' = i
            · subst e
              rw [List.length_map, List.take_length] at v3
              rw [v1] at bk
              exact ⟨b, bk, v3⟩
            · exact v2 i' (by omega) hl'
        · obtain ⟨tn, fd, y4, y5, y6, w, hv⟩ := h
          rw [rel.len] at hv
          exact ⟨tn, fd, y4, y5, y6, w, hv⟩
      · exact s_ret (ev_var rfl) fun H4 e4 => q9 d fd0 H4 hd (ex0.trans (e3.trans e4)) (e4 _ _ (e3 _ _ hfd0)) ki0 lw0 (op0 htn)
end
end K59
namespace K59
open PySem PySem.Spec L2 Evl
section
variable {P : Program} {w : World} {K : PySem.W.Frag} {mg : Str → Option Value} {base : Heap} {CA CL CM : Addr}
structure KeysO (fd : List (Key × Int)) (S : List Str) : Prop where
  nd : (fd.map (·.1)).Nodup
  ks : ∀ x ∈ fd.map (·.1), ∃ k ∈ S, x = .inr k
theorem KeysO.put {fd : List (Key × Int)} {S : List Str} (h : KeysO fd S) {k : Str} (hk : k ∈ S) (v : Int) : KeysO (putI fd (.inr k) v) S :=
  ⟨nodup_put h.nd _ _, fun x hx => by
    rcases (keys_put _ _ _ _).mp hx with e | e
    · exact ⟨k, hk, e⟩
    · exact h.ks x e⟩
theorem KeysO.len {fd : List (Key × Int)} {S : List Str} (h : KeysO fd S) : fd.length ≤ S.length := by
  have := len_keys h.nd (S := S.map Sum.inr) fun x hx => by
    obtain ⟨k, hk, e⟩ := h.ks x hx
    exact List.mem_map.mpr ⟨k, hk, e.symm⟩
  rwa [List.length_map] at this
theorem gf_of {fd : List (Key × Int)} {k : Str} {x : Int} (h : lkS fd k = some x) : gf fd k = x := by
  unfold gf gtI
  rw [show lkI fd (.inr k) = some x from h]
  rfl
/-- the pairs whose bags are all given out -/
def heldAll (M : Mkt) (s : Str → Int) (S : Mst) : List (Nat × Str) := (List.range M.rows.length).flatMap fun i => ((heldL M S i).filter fun k => decide (s k - M.I.used S.h k = 0)).map fun k => (i, k)
theorem mem_heldAll {M : Mkt} {s : Str → Int} {S : Mst} (so : SOk M s S) {x : Nat × Str} : x ∈ heldAll M s S ↔ 0 < S.h x.1 x.2 ∧ s x.2 - M.I.used S.h x.2 = 0 := by
  unfold heldAll
  rw [List.mem_flatMap]
  constructor
  · rintro ⟨i, _, h⟩
    obtain ⟨k, hk, rfl⟩ := List.mem_map.mp h
    obtain ⟨h1, h2⟩ := List.mem_filter.mp hk
    exact ⟨(mem_held so).mp h1, of_decide_eq_true h2⟩
  · rintro ⟨h1, h2⟩
    exact ⟨x.1, List.mem_range.mpr (sok_sup so (i := x.1) (k := x.2) (by have := h1; omega)).1, List.mem_map.mpr ⟨x.2, List.mem_filter.mpr ⟨(mem_held so).mpr h1, decide_eq_true h2⟩, rfl⟩⟩
def isP (x : Nat × Str) : RN := isU [.int (x.1 : Int), .str x.2]
theorem pairs_of {H : Hp} {l : Addr} {ts : List (Nat × Str)} {ps : List Addr} (h : H l = some (.lst (ps.map V.ref))) (r : RelP ps (ts.map isP) H) : PairsAt H l ts :=
  ⟨ps, h, by rw [r.1, List.length_map], fun i p x a b => r.2 i p (isP x) a (by rw [List.getElem?_map, b]; rfl)⟩
theorem s_forPairs {σ : L2.St} {H Hb : Hp} {tl : TE} {tu : TS} {D : Ends} {a : Addr} {ts : List (Nat × Str)} {i j : Nat} (h : Ev tl σ H (.ref a)) (hp : PairsAt Hb a ts) (eb : Ex Hb H) (Pv : Nat → L2.St → Hp → Prop) (h0 : ∀ H1, Ex H H1 → Pv 0 σ H1) (hl : ∀ n σ' H', Pv n σ' H' → Ex Hb H')
    (hs : ∀ n x σ' H', ts[n]? = some x → Pv n σ' H' → tu { D with nx := Pv (n + 1), ct := Pv (n + 1), bk := D.nx } ((σ'.set i (some (.int (x.1 : Int)))).set j (some (.str x.2))) H') (hd : ∀ σ' H', Pv ts.length σ' H' → D.nx σ' H') :
    tFor (iList K tl) (gTup K 2 (gCons (gName i) (gCons (gName j) gNil))) tu D σ H := by
  obtain ⟨ps, h1, h2, h3⟩ := hp
  refine s_forL (xs := ps.map V.ref) h (sq_get (eb _ _ h1)) Pv h0 (fun n σ' H' _ p => sq_get (hl n σ' H' p _ _ h1)) (fun n x σ' H' hx p => ?_) fun σ' H' p => hd σ' H' (by rw [List.length_map, h2] at p; exact p)
  obtain ⟨q, hq, rfl⟩ := get_map hx
  have hn : n < ts.length := by rw [← h2]; exact (List.getElem?_eq_some_iff.mp hq).1
  have ht : ts[n]? = some ts[n] := List.getElem?_eq_getElem hn
  exact ⟨q, _, rfl, st_get (hl n σ' H' p _ _ (h3 n q _ hq ht)), rfl, _, _, rfl, _, _, rfl, rfl, hs n _ σ' H' ht p⟩
theorem q_forPairs {σ : L2.St} {H Hb : Hp} {tl : TE} {tu tz : TS} {D : Ends} {a : Addr} {ts : List (Nat × Str)} {i j : Nat} (h : Ev tl σ H (.ref a)) (hp : PairsAt Hb a ts) (eb : Ex Hb H) (Pv : Nat → L2.St → Hp → Prop) (h0 : ∀ H1, Ex H H1 → Pv 0 σ H1) (hl : ∀ n σ' H', Pv n σ' H' → Ex Hb H')
    (hs : ∀ n x σ' H', ts[n]? = some x → Pv n σ' H' → tu { D with nx := Pv (n + 1), ct := Pv (n + 1), bk := tz D } ((σ'.set i (some (.int (x.1 : Int)))).set j (some (.str x.2))) H') (hd : ∀ σ' H', Pv ts.length σ' H' → tz D σ' H') :
    tSeq (tFor (iList K tl) (gTup K 2 (gCons (gName i) (gCons (gName j) gNil))) tu) tz D σ H := s_forPairs (D := { D with nx := tz D }) h hp eb Pv h0 hl hs hd
theorem ev_min2 {σ : L2.St} {H : Hp} {ta tb : TE} {i j : Int} (ha : Ev ta σ H (.int i)) (hb : Ev tb σ H (.int j)) : Ev (tCB (fun xs H Q => ∃ i j, xs = [V.int i, .int j] ∧ Q (.int (if j < i then j else i)) H) (tCons ta (tCons tb tNil))) σ H (.int (if j < i then j else i)) := fun H1 e Q q =>
  ha H1 e _ fun H2 e2 => hb H2 (e.trans e2) _ fun H3 e3 => ⟨i, j, rfl, q H3 (e2.trans e3)⟩
theorem sm_put_gt {S : List Str} (hn : S.Nodup) {f : Str → Int} {k : Str} {v : Int} (hk : k ∈ S) (h : v < f k) : (sm S fun j => if j = k then v else f j) < sm S f := by
  have := sm_change hn hk (f := f) (g := fun j => if j = k then v else f j) fun b _ hb => (if_neg hb).symm
  simp only [if_true] at this
  omega
def spGreatest (CM : Addr) : Sp := fun vs H Q _ => ∃ (m : Addr) (a : MA) (M : Mkt) (s : Str → Int) (S : Mst), vs = [.ref m] ∧ MIm CM H m a M ∧ MMu H a S ∧ MOk M ∧ SOk M s S ∧ Best M.I s S.h ∧ (∀ k ∈ M.sorts, 0 ≤ s k) ∧
  ∀ p fd f H', H p = none → Ex H H' → H' p = some (.dK (mI fd)) → KeysI fd M.sorts → High M.I s S.h f → (∀ k ∈ M.sorts, f k ≠ none ↔ 0 < s k) → (∀ k ∈ M.sorts, gf fd k = M.I.full f k) → Opt M.I s (M.I.full f) → (∀ i, i < M.rows.length → M.I.overP f i = M.I.over (M.I.full f) i) → Q (.ref p) H'
theorem d_greatest {f : Addr} {fd : FuncData} (F : Fun K "greatest" "Market.greatest" s_Market_greatest f fd) (T : Txt K mg CA CL CM) (c_Market_worth : MetK P w K mg base 1 CM "worth" (spWorth CM)) (c_Market_held_by : MetK P w K mg base 1 CM "held_by" (spHeld CM))
    (c_Market_over : MetK P w K mg base 2 CM "over" (spOver CM)) : FnOk P w K mg base CX0 3 f fd ["self"] (spGreatest CM) := by
  refine F.ok sc_Market_greatest (fun vs H Q E h => ?_) (fun cdv A outer sx H vs Q E hr h => ?_)
  · obtain ⟨_, _, _, _, _, rfl, _⟩ := h
    rfl
  · obtain ⟨m, a, M, s, S, rfl, X, Y, o, so, be, hs, q9⟩ := h
    refine ⟨_, (pss_cons (ps_set (i := 1) sc_Market_greatest.nd rfl (Or.inr rfl) pe_dnewK)
    (pss_cons (ps_for PassesOwn.never rfl (listK K rfl (fldK K rfl (pv 0))) (pg_name (i := 2) sc_Market_greatest.nd rfl (by first | exact Or.inl rfl | exact Or.inr rfl))
    (pss_one (ps_if (pt_cmpR op_gt (pe_dget (hu_of hr) (fldK K rfl (pv 0)) (pv 2) (fun _ _ => rfl)) pe_int (nomark _)) (pss_one (ps_dput (hu_of hr) (pv 1) (pv 2) pe_int rfl)) pss_nil)))
    (pss_cons (ps_setLc2 (i := 4) (own := [("at", 3), ("kind", 2)]) (vs1 := [2]) (g := (gName 3)) (g1 := (gName 2)) (tt := tYes) rfl sc_Market_greatest.nd rfl rfl (sw_true rfl rfl rfl (by decide +kernel)) (pi_range1 rfl T.g_range (pa_cons (pe_callB (lenK K rfl) (by rfl) T.g_len boot_len (pa_cons (fldK K rfl (pv 0)) pa_nil)) pa_nil)) (blkOk_by (own := [("at", 3), ("kind", 2)]) (N := ["self", "found", "kind", "at", "held", "turned", "askers", "wanted", "row"]) (sc := defScope s_Market_greatest) (by decide +kernel)) (by decide) (fun _ _ _ _ _ => (pg_name (i := 3) sc_Market_greatest.nd rfl (by first | exact Or.inl rfl | exact Or.inr rfl))) (fun _ _ _ _ _ => pts_nil) (fun _ _ _ _ _ => (listK K rfl (em c_Market_held_by hr (by decide) (pv 0) (pa_cons (pv 3) pa_nil)))) (fun _ _ _ _ _ => (pg_name (i := 2) sc_Market_greatest.nd rfl (by first | exact Or.inl rfl | exact Or.inr rfl))) (fun _ _ _ _ _ => (pts_one (pt_cmpR op_eq (pe_dget (hu_of hr) (fldK K rfl (pv 0)) (pv 2) (fun _ _ => rfl)) pe_int (nomark _)))) (fun _ _ _ _ _ => (pe_tup (pa_cons (pv 3) (pa_cons (pv 2) pa_nil)))))
    (pss_cons (ps_for PassesOwn.never rfl (listK K rfl (pv 4)) (tupTK K rfl rfl (pgs_cons (pg_name (i := 3) sc_Market_greatest.nd rfl (by first | exact Or.inl rfl | exact Or.inr rfl)) (pgs_cons (pg_name (i := 2) sc_Market_greatest.nd rfl (by first | exact Or.inl rfl | exact Or.inr rfl)) pgs_nil)))
    (pss_one (ps_dput (hu_of hr) (pv 1) (pv 2) (pe_callB (call_min2 rfl) (by rfl) T.g_min boot_min (pa_cons (em c_Market_worth hr (by decide) (pv 0) (pa_cons (pv 3) (pa_cons (pv 2) pa_nil))) (pa_cons (pe_dget2 (hu_of hr) (pv 1) (pv 2) (em c_Market_worth hr (by decide) (pv 0) (pa_cons (pv 3) (pa_cons (pv 2) pa_nil))) (.mk rfl rfl rfl rfl)) pa_nil))) rfl)))
    (pss_cons (ps_set (i := 5) sc_Market_greatest.nd rfl (Or.inl rfl) pe_bl)
    (pss_cons (ps_while PassesOwn.never (pt_val (pv 5))
    (pss_cons (ps_set (i := 5) sc_Market_greatest.nd rfl (Or.inl rfl) pe_bl)
    (pss_one (ps_for PassesOwn.never rfl (listK K rfl (pv 4)) (tupTK K rfl rfl (pgs_cons (pg_name (i := 3) sc_Market_greatest.nd rfl (by first | exact Or.inl rfl | exact Or.inr rfl)) (pgs_cons (pg_name (i := 2) sc_Market_greatest.nd rfl (by first | exact Or.inl rfl | exact Or.inr rfl)) pgs_nil)))
    (pss_one (ps_if (pt_cmpR op_lt (pe_op op_sub (em c_Market_worth hr (by decide) (pv 0) (pa_cons (pv 3) (pa_cons (pv 2) pa_nil))) (em c_Market_over hr (by decide) (pv 0) (pa_cons (pv 3) (pa_cons (pv 1) pa_nil)))) (pe_dget (hu_of hr) (pv 1) (pv 2) (fun _ _ => rfl)) (nomark _)) (pss_cons (ps_dput (hu_of hr) (pv 1) (pv 2) (pe_op op_sub (em c_Market_worth hr (by decide) (pv 0) (pa_cons (pv 3) (pa_cons (pv 2) pa_nil))) (em c_Market_over hr (by decide) (pv 0) (pa_cons (pv 3) (pa_cons (pv 1) pa_nil)))) rfl)
    (pss_one (ps_set (i := 5) sc_Market_greatest.nd rfl (Or.inl rfl) pe_bl))) pss_nil))))))
    (pss_cons (ps_set (i := 6) sc_Market_greatest.nd rfl (Or.inr rfl) (pe_lc (own := [("at", 3)]) (g := (gName 3)) (tt := tYes) rfl sc_Market_greatest.nd (pi_range1 rfl T.g_range (pa_cons (pe_callB (lenK K rfl) (by rfl) T.g_len boot_len (pa_cons (fldK K rfl (pv 0)) pa_nil)) pa_nil)) (blkOk_by (own := [("at", 3)]) (N := ["self", "found", "kind", "at", "held", "turned", "askers", "wanted", "row"]) (sc := defScope s_Market_greatest) (by decide +kernel)) (fun _ _ _ _ _ => (pg_name (i := 3) sc_Market_greatest.nd rfl (by first | exact Or.inl rfl | exact Or.inr rfl))) (fun _ _ _ _ _ => pts_nil) (fun _ _ _ _ _ => (em c_Market_over hr (by decide) (pv 0) (pa_cons (pv 3) (pa_cons (pv 1) pa_nil))))))
    (pss_cons (ps_for PassesOwn.never rfl (listK K rfl (pe_lc (own := [("kind", 2)]) (g := (gName 2)) rfl sc_Market_greatest.nd (listK K rfl (fldK K rfl (pv 0))) (blkOk_by (own := [("kind", 2)]) (N := ["self", "found", "kind", "at", "held", "turned", "askers", "wanted", "row"]) (sc := defScope s_Market_greatest) (by decide +kernel)) (fun _ _ _ _ _ => (pg_name (i := 2) sc_Market_greatest.nd rfl (by first | exact Or.inl rfl | exact Or.inr rfl))) (fun _ _ _ _ _ => (pts_one (pt_cmp (pc_dnotin (hu_of hr) (pv 2) (pv 1))))) (fun _ _ _ _ _ => (pv 2)))) (pg_name (i := 2) sc_Market_greatest.nd rfl (by first | exact Or.inl rfl | exact Or.inr rfl))
    (pss_cons (ps_setLc (i := 7) (own := [("at", 3), ("row", 8)]) (g := (gTup K 2 (gCons (gName 3) (gCons (gName 8) gNil)))) rfl sc_Market_greatest.nd rfl rfl (sw_true rfl rfl rfl (by decide +kernel)) (enumK K rfl (by rfl) T.g_enumerate (pa_cons (fldK K rfl (pv 0)) pa_nil)) (blkOk_by (own := [("at", 3), ("row", 8)]) (N := ["self", "found", "kind", "at", "held", "turned", "askers", "wanted", "row"]) (sc := defScope s_Market_greatest) (by decide +kernel)) (fun _ _ _ _ _ => (tupTK K rfl rfl (pgs_cons (pg_name (i := 3) sc_Market_greatest.nd rfl (by first | exact Or.inl rfl | exact Or.inr rfl)) (pgs_cons (pg_name (i := 8) sc_Market_greatest.nd rfl (by first | exact Or.inl rfl | exact Or.inr rfl)) pgs_nil)))) (fun _ _ _ _ _ => (pts_one (pt_cmpR (inK K rfl) (pv 2) (pe_ix (ixTK K rfl) (pv 8) pe_int (fun _ _ => rfl)) (by rfl)))) (fun _ _ _ _ _ => (pe_op op_sub (em c_Market_worth hr (by decide) (pv 0) (pa_cons (pv 3) (pa_cons (pv 2) pa_nil))) (pe_ix (ixLK K rfl) (pv 6) (pv 3) (fun _ _ => rfl)))))
    (pss_one (ps_dput (hu_of hr) (pv 1) (pv 2) (pe_callB (maxK K rfl rfl) (by rfl) T.g_max boot_max (pa_cons (pe_op op_cat (pe_lst (pa_cons pe_int pa_nil)) (pv 7)) pa_nil)) rfl))))
    (pss_one (ps_ret (pv 1))))))))))), ?_⟩
    have hK : ∀ i, i < M.rows.length → ∀ k ∈ (rowAt M i).fits, k ∈ M.sorts := fun i hi k hk => (o.sm k).mpr ⟨i, hi, hk⟩
    obtain ⟨pb, hpb⟩ := be.ex
    obtain ⟨vs, hvs, rel⟩ := X.rows
    have hsf := o.sf
    refine q_newK fun d H1 hd e1 h1 => ?_
    refine q_forLn (a := a.aso) (xs := M.sorts.map V.str) (ev_self (ev_var rfl) (X.mono e1) T.clM T.nM_sorts rfl) (sq_get (e1 _ _ X.sorts))
      (fun n σ' H' => (∃ x2, σ' = [some (.ref m), some (.ref d), x2, none, none, none, none, none, none]) ∧ Ex H H' ∧ ∃ fd, H' d = some (.dK (mI fd)) ∧ KeysO fd M.sorts ∧ ∀ k, lkS fd k = if k ∈ M.sorts.take n ∧ M.I.used S.h k < s k then some 0 else none)
      (fun H2 e2 => ⟨⟨none, rfl⟩, e1.trans e2, [], e2 _ _ h1, ⟨List.nodup_nil, fun x h => by simp at h⟩, fun k => (if_neg (by simp)).symm⟩) (fun n σ' H' _ h => sq_get (h.2.1 _ _ X.sorts)) (fun n x σ' H' hx h => ?_) (fun σ' H' h => ?_)
    · obtain ⟨⟨x2, rfl⟩, ex, fd, hfd, ko, hlk⟩ := h
      obtain ⟨k, hk, rfl⟩ := get_map hx
      have hkm : k ∈ M.sorts := List.mem_of_getElem? hk
      have htk : ∀ j, j ∈ M.sorts.take (n + 1) ↔ j ∈ M.sorts.take n ∨ j = k := fun j => by
        rw [List.take_add_one, hk, List.mem_append]
        simp
      have hl := ko.len
      refine s_when (b := decide (0 < s k - M.I.used S.h k)) (et_test (ev_gt (ev_getS (ev_self (ev_var rfl) (X.mono ex) T.clM T.nM_free rfl) (ev_var rfl) (ex _ _ Y.free) (so.fk k hkm)) ev_c)) (fun hd4 H4 e4 => ?_) (fun hd4 H4 e4 => ?_)
      · have hd4 := of_decide_eq_true hd4
        refine s_putS (k := k) (l := fd) (v := 0) ev_c (ev_var rfl) (ev_var rfl) (e4 _ _ hfd) (by omega) fun H2 e2 => ⟨⟨_, rfl⟩, Ex.mut (ex.trans (e4.trans e2)) hd, _, upd_same, ko.put hkm _, fun j => ?_⟩
        rw [lkS_put]
        by_cases ej : j = k
        · subst ej
          rw [if_pos ⟨(htk j).mpr (.inr rfl), by omega⟩]; simp
        · simp only [ej, if_false]
          rw [hlk]
          refine ifc ?_
          rw [htk]
          simp [ej]
      · have hd4 := of_decide_eq_false hd4
        refine ⟨⟨_, rfl⟩, ex.trans e4, fd, e4 _ _ hfd, ko, fun j => ?_⟩
        rw [hlk]
        refine ifc ?_
        rw [htk]
        constructor
        · rintro ⟨h, h2⟩
          exact ⟨.inl h, h2⟩
        · rintro ⟨h | h, h2⟩
          · exact ⟨h, h2⟩
          · subst h; omega
    · obtain ⟨⟨x2, rfl⟩, ex, fd, hfd, ko, hlk⟩ := h
      rw [List.length_map, List.take_length] at hlk
      have hi0 : High M.I s S.h (lkS fd) := by
        refine ⟨fun k x e => ?_, fun p hp k x e => ?_, fun k hk hf => ?_⟩
        · rw [hlk] at e
          split at e
          · rename_i z; exact z.1
          · cases e
        · rw [hlk] at e
          split at e
          · rename_i z
            cases e
            have := be.zero o.ok hp z.1 z.2
            omega
          · cases e
        · rw [hlk, if_pos ⟨hk, hf⟩]
      have hgv : gv2 M.rows.length (fun i => (heldL M S i).length) (fun i j => decide (s ((heldL M S i).getD j default) - M.I.used S.h ((heldL M S i).getD j default) = 0)) (fun i j => eN (isP (i, (heldL M S i).getD j default))) = ((heldAll M s S).map isP).map eN := by
        have e := gv2_map (List.range M.rows.length) (fun i => ((heldL M S i).filter fun k => decide (s k - M.I.used S.h k = 0)).map fun k => eN (isP (i, k))) (nn := fun i => (heldL M S i).length) (f := fun i j => decide (s ((heldL M S i).getD j default) - M.I.used S.h ((heldL M S i).getD j default) = 0)) (E := fun i j => eN (isP (i, (heldL M S i).getD j default))) fun i a ha => by
          have ea : i = a := by
            have := (List.getElem?_eq_some_iff.mp ha).2
            rw [List.getElem_range] at this
            exact this
          subst ea
          exact gv1_map (heldL M S i) (fun k => decide (s k - M.I.used S.h k = 0)) (fun k => eN (isP (i, k))) fun j k hk => by rw [getD_of hk]; exact ⟨rfl, rfl⟩
        rw [List.length_range] at e
        rw [e]
        unfold heldAll
        rw [List.map_flatMap, List.map_flatMap]
        refine congrArg (fun F => (List.range M.rows.length).flatMap F) (funext fun i => ?_)
        rw [List.map_map, List.map_map]
        rfl
      refine q_lc2R (n := M.rows.length) (fun i => (heldL M S i).length) (fun i j => decide (s ((heldL M S i).getD j default) - M.I.used S.h ((heldL M S i).getD j default) = 0)) (fun i j => eN (isP (i, (heldL M S i).getD j default))) (ea1 (by rw [← rel.len]; exact ev_len (ev_self (ev_var rfl) (X.mono ex) T.clM T.nM_rows rfl) (sq_get (ex _ _ hvs)))) (by have := o.few; omega) (fun i hi => Nat.le_trans (List.length_filter_le _ _) (by have := o.fw i hi; omega))
        (fun i H2 H3 e2 e3 hi => ⟨_, fun _ q => q, rfl, fun R hR => ?_⟩) fun rl H2 hrl e2 _ nw => ?_
      · have X3 := X.mono (ex.trans (e2.trans e3))
        refine el_meth (ev_var rfl) X3.ins rfl (ea1 (ev_var rfl)) (spl_held X3 (Y.mono (ex.trans (e2.trans e3))) o hi) H3 (Ex.refl _) _ fun pl H4 hpl e4 h4 => ⟨pl, rfl, ⟨_, sq_get h4⟩, hR _ H4 e4 fun C eC new => ?_⟩
        rw [show (heldL M S i).length = ((heldL M S i).map V.str).length from (List.length_map _).symm]
        refine inner_L (sq_get (new _ _ hpl h4)) fun j x H6 e6 hx => ?_
        obtain ⟨k, hk, rfl⟩ := get_map hx
        rw [getD_of hk]
        have hm : k ∈ heldL M S i := List.mem_of_getElem? hk
        have hkm := hK i hi k (List.mem_filter.mp hm).1
        have X6 := X.mono ((ex.trans e2).trans (eC.trans e6))
        refine ⟨_, fun _ q => q, rfl, et_test (ev_is (ev_eqS (ev_getS (ev_self (ev_var rfl) X6 T.clM T.nM_free rfl) (ev_var rfl) ((ex.trans e2).trans (eC.trans e6) |> fun e => e _ _ Y.free) (so.fk k hkm)) ev_c rfl) ?_), fun _ => ee_N (en_U (eu2 (ev_var rfl) (ev_var rfl)))⟩
        refine congrArg V.bl (decide_eq_decide.mpr ?_)
        constructor
        · intro h; injection h
        · intro h; rw [h]
      · rw [hgv] at nw
        obtain ⟨ws, hws, rE⟩ := nw.now (Ex.refl _) e2
        obtain ⟨ps, rfl, rP⟩ := relE_N rE
        have pa := pairs_of hws rP
        have eb2 : Ex H (del H2 d) := ex_del (ex.trans e2) hd
        have hd2 : H2 d = some (.dK (mI fd)) := e2 _ _ hfd
        have pab : PairsAt (del H2 d) rl (heldAll M s S) := PairsAt.del pa hd2 (fun _ z => nomatch z) fun _ z => nomatch z
        have hfull : ∀ x ∈ heldAll M s S, 0 < S.h x.1 x.2 ∧ x.1 < M.rows.length ∧ x.2 ∈ (rowAt M x.1).fits ∧ x.2 ∈ M.sorts ∧ ¬ M.I.used S.h x.2 < s x.2 := fun x hx => by
          obtain ⟨h1, h2⟩ := (mem_heldAll so).mp hx
          obtain ⟨h3, h4⟩ := sok_sup so (i := x.1) (k := x.2) (by omega)
          exact ⟨h1, h3, h4, hK _ h3 _ h4, by omega⟩
        refine q_forPairs (Hb := del H2 d) (ev_var rfl) pab (del_ex _ _) (fun n σ' H' => (∃ x2 x3, σ' = [some (.ref m), some (.ref d), x2, x3, some (.ref rl), none, none, none, none]) ∧ Ex (del H2 d) H' ∧ ∃ fd, H' d = some (.dK (mI fd)) ∧ KeysO fd M.sorts ∧ High M.I s S.h (lkS fd) ∧ (∀ x ∈ (heldAll M s S).take n, (lkS fd x.2).isSome = true) ∧ ∀ k, (lkS fd k).isSome = true → 0 < s k)
          (fun H3 e3 => ⟨⟨_, _, rfl⟩, (del_ex _ _).trans e3, fd, e3 _ _ hd2, ko, hi0, fun x hx => by simp at hx, fun k hk => ?_⟩) (fun n σ' H' h => h.2.1) (fun n x σ' H' hx h => ?_) (fun σ' H' h => ?_)
        · rw [hlk] at hk
          split at hk
          · rename_i z
            have : 0 ≤ M.I.used S.h k := sm_nonneg fun i _ => be.f.nn i k
            omega
          · cases hk
        · obtain ⟨⟨x2, x3, rfl⟩, ex3, fd, hfd, ko, hi, hav, hps⟩ := h
          obtain ⟨f1, f2, f3, f4, f5⟩ := hfull x (List.mem_of_getElem? hx)
          have X3 := X.mono (eb2.trans ex3)
          have hl := ko.len
          have ew : ∀ σ'' : L2.St, σ''[0]? = some (some (.ref m)) → σ''[3]? = some (some (.int (x.1 : Int))) → σ''[2]? = some (some (.str x.2)) → Ev (tMeth CM "worth" (spWorth CM) [] E0 (tVar 0) (tCons (tVar 3) (tCons (tVar 2) tNil))) σ'' H' (.int (M.I.w x.1 x.2)) := fun σ'' a1 a2 a3 => ev_worth (ev_var a1) (ev_var a2) (ev_var a3) X3 o f2 f3
          refine s_putS (k := x.2) (l := fd) (v := if (lkS fd x.2).getD (M.I.w x.1 x.2) < M.I.w x.1 x.2 then (lkS fd x.2).getD (M.I.w x.1 x.2) else M.I.w x.1 x.2) (ev_min2 (ew _ rfl rfl rfl) (ev_get2S (ev_var rfl) (ev_var rfl) (ew _ rfl rfl rfl) hfd)) (ev_var rfl) (ev_var rfl) hfd (by omega) fun H4 e4 => ⟨⟨_, _, rfl⟩, Ex.mut (ex3.trans e4) (del_self _ _), _, upd_same, ko.put f4 _, ?_, fun y hy => ?_, fun k hk => ?_⟩
          · rw [lkS_put]
            refine High.put o.ok be hi f1 f5 ?_
            cases e : lkS fd x.2 with
            | none => left; simp
            | some y =>
              by_cases hy : y < M.I.w x.1 x.2
              · right; simp [hy]
              · left; simp [hy]
          · rw [lkS_put]
            by_cases ey : y.2 = x.2
            · simp [ey]
            · simp only [ey, if_false]
              rw [List.take_add_one, hx, List.mem_append] at hy
              rcases hy with hy | hy
              · exact hav y hy
              · rw [Option.toList_some, List.mem_singleton] at hy
                exact absurd (by rw [hy]) ey
          · rw [lkS_put] at hk
            by_cases ek : k = x.2
            · subst ek
              have h1 : S.h x.1 x.2 ≤ M.I.used S.h x.2 := le_sm (l := List.range M.I.n) (f := fun i => S.h i x.2) (fun i _ => be.f.nn i x.2) (List.mem_range.mpr f2)
              have h2 := be.f.col x.2 f4
              omega
            · simp only [ek, if_false] at hk
              exact hps k hk
        · obtain ⟨⟨x2, x3, rfl⟩, ex3, fd, hfd, ko, hi, hav, hps⟩ := h
          rw [List.take_length] at hav
          refine q_asg (v := .bl true) ev_c fun H4 e4 => ?_
          refine q_while (fun n σ' H' => ∃ tn fd x2 x3, σ' = [some (.ref m), some (.ref d), x2, x3, some (.ref rl), some (.bl tn), none, none, none] ∧ Ex (del H2 d) H' ∧ H' d = some (.dK (mI fd)) ∧ KeysO fd M.sorts ∧ High M.I s S.h (lkS fd) ∧ (∀ x ∈ heldAll M s S, (lkS fd x.2).isSome = true) ∧ (∀ k, (lkS fd k).isSome = true → 0 < s k) ∧
              (tn = false → ∀ x ∈ heldAll M s S, gf fd x.2 ≤ M.I.w x.1 x.2 - M.I.overP (lkS fd) x.1) ∧ n = 2 * (sm M.sorts (gf fd)).toNat + (if tn = true then 1 else 0)) _
            ⟨true, fd, x2, x3, rfl, ex3.trans e4, e4 _ _ hfd, ko, hi, hav, hps, fun z => (nomatch z), rfl⟩ fun n σ' H' hw => ?_
          obtain ⟨tn0, fd0, x2, x3, rfl, ex0, hfd0, ko0, hi0, hav0, hps0, hx0, hn⟩ := hw
          have nn : ∀ {fd}, High M.I s S.h (lkS fd) → 0 ≤ sm M.sorts (gf fd) := fun {fd} hi => sm_nonneg fun k hk => by
            cases e : lkS fd k with
            | none =>
              unfold gf gtI
              rw [show lkI fd (.inr k) = none from e]
              exact Int.le_refl 0
            | some y =>
              rw [gf_of e]
              have h1 := hi.ge pb hpb k y e
              have h2 := hpb.pn k hk
              omega
          let PI : Bool → List (Key × Int) → L2.St → Hp → Prop := fun tn fd σ' H' => (∃ x2 x3, σ' = [some (.ref m), some (.ref d), x2, x3, some (.ref rl), some (.bl tn), none, none, none]) ∧ Ex (del H2 d) H' ∧ H' d = some (.dK (mI fd)) ∧ KeysO fd M.sorts ∧ High M.I s S.h (lkS fd) ∧ (∀ x ∈ heldAll M s S, (lkS fd x.2).isSome = true) ∧ (∀ k, (lkS fd k).isSome = true → 0 < s k) ∧
            sm M.sorts (gf fd) ≤ sm M.sorts (gf fd0) ∧ (tn = true → sm M.sorts (gf fd) < sm M.sorts (gf fd0)) ∧ (tn = false → fd = fd0)
          refine ⟨tn0, et_B (ev_var rfl), fun htn H5 e5 => ⟨fun σ2 H2 => ∃ tn fd, PI tn fd σ2 H2 ∧ (tn = false → ∀ x ∈ heldAll M s S, gf fd0 x.2 ≤ M.I.w x.1 x.2 - M.I.overP (lkS fd0) x.1), fun σ2 H2 h => ?_, ?_⟩, fun htn H5 e5 => ?_⟩
          · obtain ⟨tn, fd, ⟨⟨y2, y3, rfl⟩, k1, k2, k3, k4, k5, k6, k7, k8, k9⟩, hv⟩ := h
            refine ⟨_, ?_, tn, fd, y2, y3, rfl, k1, k2, k3, k4, k5, k6, fun z => ?_, rfl⟩
            · have l1 := nn k4
              cases tn with
              | false => rw [k9 rfl, hn, htn]; simp
              | true => have := k8 rfl; rw [hn, htn]; simp; omega
            · rw [k9 z]
              exact hv z
          · refine q_asg (v := .bl false) ev_c fun H6 e6 => ?_
            have e56 := e5.trans e6
            refine s_forPairs (Hb := del H2 d) (ev_var rfl) pab (ex0.trans e56) (fun n σ' H' => ∃ tn fd, PI tn fd σ' H' ∧ (tn = false → ∀ x ∈ (heldAll M s S).take n, gf fd0 x.2 ≤ M.I.w x.1 x.2 - M.I.overP (lkS fd0) x.1))
              (fun H7 e7 => ⟨false, fd0, ⟨⟨_, _, rfl⟩, ex0.trans (e56.trans e7), e7 _ _ (e56 _ _ hfd0), ko0, hi0, hav0, hps0, Int.le_refl _, fun z => (nomatch z), fun _ => rfl⟩, fun _ x hx => by simp at hx⟩) (fun n σ' H' h => by obtain ⟨_, _, w, _⟩ := h; exact w.2.1) (fun n x σ' H' hx h => ?_) (fun σ' H' h => ?_)
            · obtain ⟨tn, fd, ⟨⟨y2, y3, rfl⟩, k1, k2, k3, k4, k5, k6, k7, k8, k9⟩, hv⟩ := h
              obtain ⟨f1, f2, f3, f4, f5⟩ := hfull x (List.mem_of_getElem? hx)
              have X3 := X.mono (eb2.trans k1)
              have hl := k3.len
              obtain ⟨v0, hv0⟩ := Option.isSome_iff_exists.mp (k5 x (List.mem_of_getElem? hx))
              have ew : ∀ H'', Ex H' H'' → ∀ σ'' : L2.St, σ''[0]? = some (some (.ref m)) → σ''[1]? = some (some (.ref d)) → σ''[3]? = some (some (.int (x.1 : Int))) → σ''[2]? = some (some (.str x.2)) → Ev (tOp (rI0 fun i j => .int (i - j)) (tMeth CM "worth" (spWorth CM) [] E0 (tVar 0) (tCons (tVar 3) (tCons (tVar 2) tNil))) (tMeth CM "over" (spOver CM) [] E0 (tVar 0) (tCons (tVar 3) (tCons (tVar 1) tNil)))) σ'' H'' (.int (M.I.w x.1 x.2 - M.I.overP (lkS fd) x.1)) := fun H'' e'' σ'' a1 a2 a3 a4 =>
                ev_sub (ev_worth (ev_var a1) (ev_var a3) (ev_var a4) (X3.mono e'') o f2 f3) (ev_meth (ev_var a1) (X3.mono e'').ins rfl (ea2 (ev_var a3) (ev_var a2)) (spv_over (X3.mono e'') o f2 (e'' _ _ k2)))
              refine s_when (b := decide (M.I.w x.1 x.2 - M.I.overP (lkS fd) x.1 < v0)) (et_test (ev_lt (ew H' (Ex.refl _) _ rfl rfl rfl rfl) (ev_getS (ev_var rfl) (ev_var rfl) k2 hv0))) (fun hd9 H9 e9 => ?_) (fun hd9 H9 e9 => ?_)
              · have hd9 := of_decide_eq_true hd9
                refine q_putS (k := x.2) (l := fd) (v := M.I.w x.1 x.2 - M.I.overP (lkS fd) x.1) (ew H9 e9 _ rfl rfl rfl rfl) (ev_var rfl) (ev_var rfl) (e9 _ _ k2) (by omega) fun H10 e10 => s_asg ev_c fun H11 e11 => ?_
                have hlt : sm M.sorts (gf (putI fd (.inr x.2) (M.I.w x.1 x.2 - M.I.overP (lkS fd) x.1))) < sm M.sorts (gf fd) := by
                  rw [gf_put]
                  exact sm_put_gt o.ok.nd f4 (by rw [gf_of hv0]; exact hd9)
                refine ⟨true, putI fd (.inr x.2) (M.I.w x.1 x.2 - M.I.overP (lkS fd) x.1), ⟨⟨_, _, rfl⟩, (Ex.mut (k1.trans (e9.trans e10)) (del_self _ _)).trans e11, e11 _ _ upd_same, k3.put f4 _, ?_, fun y hy => ?_, fun k hk => ?_, by omega, fun _ => by omega, fun z => nomatch z⟩, fun z => nomatch z⟩
                · rw [lkS_put]
                  exact High.relax o.ok be k4 f1 f5
                · rw [lkS_put]
                  by_cases ey : y.2 = x.2
                  · simp [ey]
                  · simp only [ey, if_false]; exact k5 y hy
                · rw [lkS_put] at hk
                  by_cases ek : k = x.2
                  · subst ek; exact k6 _ (by rw [hv0]; rfl)
                  · simp only [ek, if_false] at hk; exact k6 k hk
              · have hd9 := of_decide_eq_false hd9
                refine ⟨tn, fd, ⟨⟨_, _, rfl⟩, k1.trans e9, e9 _ _ k2, k3, k4, k5, k6, k7, k8, k9⟩, fun z y hy => ?_⟩
                rw [List.take_add_one, hx, List.mem_append] at hy
                rcases hy with hy | hy
                · exact hv z y hy
                · rw [Option.toList_some, List.mem_singleton] at hy
                  subst hy
                  rw [← k9 z, gf_of hv0]
                  omega
            · obtain ⟨tn, fd, w, hv⟩ := h
              rw [List.take_length] at hv
              exact ⟨tn, fd, w, hv⟩
          · have hx0 := hx0 htn
            have hdom : ∀ k ∈ M.I.K, lkS fd0 k ≠ none ↔ 0 < s k := fun k hk => by
              constructor
              · intro h
                refine hps0 k ?_
                cases e : lkS fd0 k with
                | none => exact absurd e h
                | some _ => rfl
              · intro h
                by_cases hu : M.I.used S.h k < s k
                · rw [hi0.free k hk hu]; simp
                · have hc := be.f.col k hk
                  obtain ⟨i, _, hp⟩ := sm_pos_ex (l := List.range M.I.n) (f := fun i => S.h i k) (by show 0 < M.I.used S.h k; omega)
                  have := hav0 (i, k) ((mem_heldAll so).mpr ⟨hp, by show s k - M.I.used S.h k = 0; omega⟩)
                  intro z
                  rw [z] at this
                  cases this
            obtain ⟨hop, hov⟩ := High.done o.ok hs be hi0 hdom fun i k x hk hf e => by
              have hm : (i, k) ∈ heldAll M s S := (mem_heldAll so).mpr ⟨hk, by
                have hks := sok_sup so (i := i) (k := k) (by omega)
                have hc := be.f.col k (hK i hks.1 k hks.2)
                show s k - M.I.used S.h k = 0
                omega⟩
              have := hx0 _ hm
              rw [gf_of e] at this
              exact this
            have ex5 := ex0.trans e5
            have hfd5 := e5 _ _ hfd0
            have X5 := X.mono (eb2.trans ex5)
            refine q_asgL (xs := (List.range M.rows.length).map fun i => V.int (M.I.overP (lkS fd0) i)) (by
              rw [← given_all]
              refine el_lcR _ _ (ea1 (by rw [← rel.len]; exact ev_len (ev_self (ev_var rfl) X5 T.clM T.nM_rows rfl) (sq_get ((eb2.trans ex5) _ _ hvs)))) (by have := o.few; omega) fun i H6 e6 hi => turnN rfl et_yes fun _ => ev_meth (ev_var rfl) (X5.mono e6).ins rfl (ea2 (ev_var rfl) (ev_var rfl)) (spv_over (X5.mono e6) o hi (e6 _ _ hfd5))) fun as H6 has e6 h6 => ?_
            have ex6 := ex5.trans e6
            have hfd6 := e6 _ _ hfd5
            have exb : Ex H (del H6 d) := ex_del ((eb2.trans ex5).trans e6) hd
            have has6 : del H6 d as = some (.lst ((List.range M.rows.length).map fun i => V.int (M.I.overP (lkS fd0) i))) := del_of h6 hfd6 fun z => nomatch z
            have hLn : (M.sorts.filter fun k => !(lkS fd0 k).isSome).length ≤ 36 := Nat.le_trans (List.length_filter_le _ _) hsf
            refine q_forNLn (xs := (M.sorts.filter fun k => !(lkS fd0 k).isSome).map V.str) ?_ (fun pl n σ' H' => (∃ x2 x7 x8, σ' = [some (.ref m), some (.ref d), x2, x3, some (.ref rl), some (.bl tn0), some (.ref as), x7, x8]) ∧ Ex (del H6 d) H' ∧ H' pl = some (.lst ((M.sorts.filter fun k => !(lkS fd0 k).isSome).map V.str)) ∧ ∃ fd, H' d = some (.dK (mI fd)) ∧ KeysO fd M.sorts ∧ ∀ k, lkS fd k = if k ∈ (M.sorts.filter fun k => !(lkS fd0 k).isSome).take n then some (M.I.rest (lkS fd0) k) else lkS fd0 k)
              (fun pl H7 hpl e7 h7 => ⟨⟨_, _, _, rfl⟩, (del_ex _ _).trans e7, h7, fd0, e7 _ _ hfd6, ko0, fun k => (if_neg (by simp)).symm⟩) (fun pl n σ' H' _ h => sq_get h.2.2.1) (fun pl n x σ' H' hx h => ?_) (fun pl σ' H' h => ?_)
            · have e := given_map M.sorts (fun k => !(lkS fd0 k).isSome) V.str (f := fun j => !(lkS fd0 (M.sorts.getD j default)).isSome) (v := fun j => .str (M.sorts.getD j default)) fun j k hk => by rw [getD_of hk]; exact ⟨rfl, rfl⟩
              rw [← e, ← List.length_map (f := V.str)]
              have X6 := X.mono (exb.trans (del_ex _ _))
              refine el_lcLg (a := a.aso) _ _ (ev_self (ev_var rfl) X6 T.clM T.nM_sorts rfl) (sq_get X6.sorts) (by rw [List.length_map]; omega) fun j x H8 e8 hx => ?_
              obtain ⟨k, hk, rfl⟩ := get_map hx
              rw [getD_of hk]
              exact turnN rfl (et_B (ev_notinS (ev_var rfl) (ev_var rfl) (e8 _ _ hfd6))) fun _ => ev_var rfl
            · obtain ⟨⟨x2, x7, x8, rfl⟩, ex7, hpl, fd, hfd, ko, hlkf⟩ := h
              obtain ⟨k, hk, rfl⟩ := get_map hx
              have hkm := List.mem_filter.mp (List.mem_of_getElem? hk)
              have X7 := X.mono (exb.trans ex7)
              have hkl := ko.len
              refine q_asgL (xs := (((List.range M.rows.length).filter fun i => decide (k ∈ M.I.fits i)).map fun i => M.I.w i k - M.I.overP (lkS fd0) i).map V.int) ?_ fun wl H8 hwl e8 h8 => ?_
              · rw [List.map_map]
                have hg := el_lcE (K := K) (σ := [some (.ref m), some (.ref d), some (.str k), x3, some (.ref rl), some (.bl tn0), some (.ref as), x7, x8]) (H := H') (vs := [3, 8]) (g := gTup K 2 (gCons (gName 3) (gCons (gName 8) gNil))) (tl := tFld K (tVar 0) "rows") (t := tTest (tOp (rIn K false) (tVar 2) (tOp (rIxT K) (tVar 8) (tC (.int 1)))))
                  (te := tOp (rI0 fun i j => .int (i - j)) (tMeth CM "worth" (spWorth CM) [] E0 (tVar 0) (tCons (tVar 3) (tCons (tVar 2) tNil))) (tOp (rIxL K) (tVar 6) (tVar 3))) (fun i => decide (k ∈ M.I.fits i)) (fun i => V.int (M.I.w i k - M.I.overP (lkS fd0) i)) (ev_self (ev_var rfl) X7 T.clM T.nM_rows rfl) (sq_get ((exb.trans ex7) _ _ hvs)) (by rw [rel.len]; have := o.few; omega) fun i x p H9 e9 hx9 hp9 => by
                    have hi : i < M.rows.length := by rw [← rel.len]; exact (List.getElem?_eq_some_iff.mp hx9).1
                    obtain ⟨t, f, rfl, h3, h4⟩ := rel.get i x _ hx9 (rowAt_get hi)
                    have ee := (exb.trans ex7).trans e9
                    refine turn2 hp9 rfl (et_test (ev_is (ev_op (ev_var rfl) (ev_ixT (ev_var rfl) ev_c (st_get (ee _ _ h3)) (atI_get (i := 1) rfl)) (rv_isT (st_get (ee _ _ h4)) rfl (by rw [List.all_map]; exact List.all_eq_true.mpr fun _ _ => rfl))) (congrArg V.bl (inV_strs _ _)))) fun hb => ?_
                    have hkf : k ∈ (rowAt M i).fits := of_decide_eq_true hb
                    exact ev_sub (ev_worth (ev_var rfl) (ev_var rfl) (ev_var rfl) (X7.mono e9) o hi hkf) (ev_ixL (ev_var rfl) (ev_var rfl) (sq_get (e9 _ _ (ex7 _ _ has6))) (atI_get (by rw [List.getElem?_map, List.getElem?_range hi]; rfl)))
                rw [rel.len] at hg
                exact hg
              · have hlen : ((((List.range M.rows.length).filter fun i => decide (k ∈ M.I.fits i)).map fun i => M.I.w i k - M.I.overP (lkS fd0) i).map V.int).length ≤ 6 := by
                  rw [List.length_map, List.length_map]
                  refine Nat.le_trans (List.length_filter_le _ _) ?_
                  rw [List.length_range]
                  exact o.few
                refine s_putS (k := k) (l := fd) (v := M.I.rest (lkS fd0) k) (ev_maxL (ns := 0 :: (((List.range M.rows.length).filter fun i => decide (k ∈ M.I.fits i)).map fun i => M.I.w i k - M.I.overP (lkS fd0) i)) (el_catNO (xs := [.int 0]) (el_lst (ea1 ev_c) (by simp)) (ev_var rfl) h8 (by simp only [List.length_singleton]; omega)) (mx0_top _).1 (mx0_top _).2) (ev_var rfl) (ev_var rfl) (e8 _ _ hfd) (by omega) fun H9 e9 => ⟨⟨_, _, _, rfl⟩, Ex.mut (ex7.trans (e8.trans e9)) (del_self _ _), ?_, _, upd_same, ko.put hkm.1 _, fun j => ?_⟩
                · rw [upd_ne fun z => by subst z; rw [hfd] at hpl; cases hpl]
                  exact e9 _ _ (e8 _ _ hpl)
                · rw [lkS_put]
                  have htk : j ∈ (M.sorts.filter fun k => !(lkS fd0 k).isSome).take (n + 1) ↔ j ∈ (M.sorts.filter fun k => !(lkS fd0 k).isSome).take n ∨ j = k := by
                    rw [List.take_add_one, hk, List.mem_append]
                    simp
                  by_cases ej : j = k
                  · subst ej
                    rw [if_pos (htk.mpr (.inr rfl))]; simp
                  · simp only [ej, if_false]
                    rw [hlkf]
                    refine ifc ?_
                    rw [htk]
                    simp [ej]
            · obtain ⟨⟨x2, x7, x8, rfl⟩, ex7, hpl, fd, hfd, ko, hlkf⟩ := h
              rw [List.length_map, List.take_length] at hlkf
              have hfull : ∀ k ∈ M.sorts, lkS fd k = some (M.I.full (lkS fd0) k) := fun k hk => by
                rw [hlkf]
                unfold Inst.full
                cases e : lkS fd0 k with
                | none => rw [if_pos (List.mem_filter.mpr ⟨hk, by rw [e]; rfl⟩)]; rfl
                | some x => rw [if_neg fun z => by have := (List.mem_filter.mp z).2; rw [e] at this; cases this]; rfl
              exact s_ret (ev_var rfl) fun H9 e9 => q9 d fd (lkS fd0) H9 hd (exb.trans (ex7.trans e9)) (e9 _ _ hfd) ⟨ko.nd, ko.ks, fun k hk => by rw [hfull k hk]; rfl⟩ hi0 hdom (fun k hk => gf_of (hfull k hk)) hop hov
end
end K59
namespace K59
open PySem PySem.Spec PyProof.Rows L2 Evl
section
variable {P : Program} {w : World} {K : PySem.W.Frag} {mg : Str → Option Value} {base : Heap} {CA CL CM : Addr}
theorem pf2 (a b : V) : putF ("wants" : Str) b ([("rows", a)] : List (Str × V)) = ([("rows", a), ("wants", b)] : List (Str × V)) := by rw [putF_ne (by decide +kernel), putF_nil]
theorem pf3 (a b c : V) : putF ("worths" : Str) c ([("rows", a), ("wants", b)] : List (Str × V)) = ([("rows", a), ("wants", b), ("worths", c)] : List (Str × V)) := by rw [putF_ne (by decide +kernel), putF_ne (by decide +kernel), putF_nil]
theorem pf4 (a b c d : V) : putF ("sorts" : Str) d ([("rows", a), ("wants", b), ("worths", c)] : List (Str × V)) = ([("rows", a), ("wants", b), ("worths", c), ("sorts", d)] : List (Str × V)) := by rw [putF_ne (by decide +kernel), putF_ne (by decide +kernel), putF_ne (by decide +kernel), putF_nil]
theorem pf5 (a b c d e : V) : putF ("free" : Str) e ([("rows", a), ("wants", b), ("worths", c), ("sorts", d)] : List (Str × V)) = ([("rows", a), ("wants", b), ("worths", c), ("sorts", d), ("free", e)] : List (Str × V)) := by rw [putF_ne (by decide +kernel), putF_ne (by decide +kernel), putF_ne (by decide +kernel), putF_ne (by decide +kernel), putF_nil]
theorem pf6 (a b c d e f : V) : putF ("holds" : Str) f ([("rows", a), ("wants", b), ("worths", c), ("sorts", d), ("free", e)] : List (Str × V)) = ([("rows", a), ("wants", b), ("worths", c), ("sorts", d), ("free", e), ("holds", f)] : List (Str × V)) := by
  rw [putF_ne (by decide +kernel), putF_ne (by decide +kernel), putF_ne (by decide +kernel), putF_ne (by decide +kernel), putF_ne (by decide +kernel), putF_nil]
theorem pf7 (a b c d e f g : V) : putF ("got" : Str) g ([("rows", a), ("wants", b), ("worths", c), ("sorts", d), ("free", e), ("holds", f)] : List (Str × V)) = ([("rows", a), ("wants", b), ("worths", c), ("sorts", d), ("free", e), ("holds", f), ("got", g)] : List (Str × V)) := by
  rw [putF_ne (by decide +kernel), putF_ne (by decide +kernel), putF_ne (by decide +kernel), putF_ne (by decide +kernel), putF_ne (by decide +kernel), putF_ne (by decide +kernel), putF_nil]
/-- sorted(set(texts)) -/
def isSort (xs : List Str) : RN := fun p H => ∃ ys : List Str, H p = some (.lst (ys.map V.str)) ∧ ys.Nodup ∧ (∀ z, z ∈ ys ↔ z ∈ xs) ∧ sortedS ys = true
theorem en_sorts {σ : L2.St} {B H : Hp} {ta : TE} {xs : List Str} (h : EvL ta σ H (xs.map V.str)) (hn : xs.length < 64) : EvN (tSortSetS K ta) σ B H (isSort xs) := fun H1 e Q q =>
  h H1 e _ fun l H2 hl e2 h2 => ⟨l, xs, rfl, sq_get h2, hn, fun ys p nd hm hs hp => q p _ (fresh_back e2 hp) (e2.trans (Ex.new hp)) ⟨_, upd_same⟩ fun Hx eb k => ⟨ys, k _ _ (fresh_back e2 hp) upd_same, nd, hm, hs⟩⟩
structure FreeOk (st fr : List (Key × Int)) (S : List Str) : Prop where
  nd : (fr.map (·.1)).Nodup
  ks : ∀ x ∈ fr.map (·.1), ∃ k ∈ S, x = .inr k
  val : ∀ k ∈ S, lkI fr (.inr k) = some ((lkS st k).getD 0)
def spMarket (CM : Addr) : Sp := fun vs H Q _ => ∃ (x dx rl wl sd wd : Addr) (rs : List K59.Row) (wants : List Int) (st : List (Key × Int)) (ws : List (List Key × Int)) (H0 : Hp), vs = [.ref x, .ref rl, .ref wl, .ref sd, .ref wd] ∧ H x = some (.ins CM dx []) ∧ Ex H0 H ∧ H0 x = none ∧
  PRowsL H0 rl rs ∧ H0 wl = some (.lst (wants.map V.int)) ∧ H0 sd = some (.dK (mI st)) ∧ H0 wd = some (.dT (mI ws)) ∧ Small rs ∧
  ∀ (a : MA) (sorts : List Str) (fr : List (Key × Int)) (H1 H' : Hp), Ex H0 H1 → Ex H1 H' → MIm CM H1 x a ⟨rs, wants, ws, sorts⟩ → H1 a.af = none → H1 a.ah = none → H1 a.ag = none → MMu H' a ⟨fr, [], rs.map fun _ => 0⟩ →
    sorts.Nodup → (∀ z, z ∈ sorts ↔ ∃ r ∈ rs, z ∈ r.fits) → sortedS sorts = true → sorts.length ≤ 36 → FreeOk st fr sorts → Q .non H'
theorem d_Market_init {f : Addr} {fd : FuncData} (F : Fun K "__init__" "Market.__init__" s_Market_init f fd) (T : Txt K mg CA CL CM) : FnOk P w K mg base CX0 1 f fd ["self", "rows", "wants", "stock", "worths"] (spMarket CM) := by
  refine F.ok sc_Market_init (fun vs H Q E h => ?_) (fun cdv A outer s H vs Q E hr h => ?_)
  · obtain ⟨_, _, _, _, _, _, _, _, _, _, _, rfl, _⟩ := h
    rfl
  · obtain ⟨x, dx, rl, wl, sd, wd, rs, wants, st, ws, H0, rfl, hx, e0, hx0, hrl, hwl, hsd, hwd, sm, q⟩ := h
    refine ⟨_, (pss_cons (ps_fld (pv 0) (pv 1) rfl)
    (pss_cons (ps_fld (pv 0) (pv 2) rfl)
    (pss_cons (ps_fld (pv 0) (pv 4) rfl)
    (pss_cons (ps_fld (pv 0) (pe_sortedSetS K rfl rfl (by rfl) T.g_sorted (by rfl) T.g_set (pe_lc2 (own := [("row", 6), ("kind", 5)]) (vs1 := [5]) (g := (gName 6)) (g1 := (gName 5)) (tt := tYes) (tt1 := tYes) rfl sc_Market_init.nd (listK K rfl (pv 1)) (blkOk_by (own := [("row", 6), ("kind", 5)]) (N := ["self", "rows", "wants", "stock", "worths", "kind", "row"]) (sc := defScope s_Market_init) (by decide +kernel)) (by decide) (fun _ _ _ _ _ => (pg_name (i := 6) sc_Market_init.nd rfl (by first | exact Or.inl rfl | exact Or.inr rfl))) (fun _ _ _ _ _ => pts_nil) (fun _ _ _ _ _ => (tupK K rfl (pe_ix (ixTK K rfl) (pv 6) pe_int (fun _ _ => rfl)))) (fun _ _ _ _ _ => (pg_name (i := 5) sc_Market_init.nd rfl (by first | exact Or.inl rfl | exact Or.inr rfl))) (fun _ _ _ _ _ => pts_nil) (fun _ _ _ _ _ => (pv 5)))) rfl)
    (pss_cons (ps_asg (pe_tup (pa_cons pe_dnewK (pa_cons pe_dnewT pa_nil))) (tupTK K rfl rfl (pgs_cons (fldGK K rfl (pv 0)) (pgs_cons (fldGK K rfl (pv 0)) pgs_nil))))
    (pss_cons (ps_for PassesOwn.never rfl (listK K rfl (fldK K rfl (pv 0))) (pg_name (i := 5) sc_Market_init.nd rfl (by first | exact Or.inl rfl | exact Or.inr rfl))
    (pss_one (ps_dput (hu_of hr) (fldK K rfl (pv 0)) (pv 5) (pe_dget2 (hu_of hr) (pv 3) (pv 5) pe_int (.mk rfl rfl rfl rfl)) rfl)))
    (pss_one (ps_fld (pv 0) (pe_lc (own := [("row", 6)]) (g := (gName 6)) (tt := tYes) rfl sc_Market_init.nd (listK K rfl (pv 1)) (blkOk_by (own := [("row", 6)]) (N := ["self", "rows", "wants", "stock", "worths", "kind", "row"]) (sc := defScope s_Market_init) (by decide +kernel)) (fun _ _ _ _ _ => (pg_name (i := 6) sc_Market_init.nd rfl (by first | exact Or.inl rfl | exact Or.inr rfl))) (fun _ _ _ _ _ => pts_nil) (fun _ _ _ _ _ => pe_int)) rfl)))))))), ?_⟩
    obtain ⟨vs, hvs, rel⟩ := hrl
    have hrow : ∀ i x, vs[i]? = some x → ∃ (r : K59.Row) (t f : Addr), rs[i]? = some r ∧ rs.getD i default = r ∧ r.fits.length ≤ 6 ∧ x = .ref t ∧ H0 t = some (.tup [.str r.name, .ref f, .int r.most]) ∧ H0 f = some (.tup (r.fits.map V.str)) := fun i x hx => by
      have hi : i < rs.length := by rw [← rel.len]; exact (List.getElem?_eq_some_iff.mp hx).1
      have hr : rs[i]? = some rs[i] := List.getElem?_eq_getElem hi
      obtain ⟨t, f, a, b, c⟩ := rel.get i x _ hx hr
      exact ⟨rs[i], t, f, hr, getD_of hr, sm.fw _ (List.getElem_mem hi), a, b, c⟩
    refine q_fld (v := .ref rl) (ev_var rfl) (ev_var rfl) hx T.clM T.nM_rows (by decide) fun H1 e1 => ?_
    rw [putF_nil]
    have x1 : Ex H0 (upd H1 x (.ins CM dx [("rows", .ref rl)])) := Ex.mut (e0.trans e1) hx0
    refine q_fld (v := .ref wl) (ev_var rfl) (ev_var rfl) upd_same T.clM T.nM_wants (by show 1 < 1000; decide) fun H2 e2 => ?_
    rw [pf2]
    have x2 : Ex H0 (upd H2 x (.ins CM dx [("rows", .ref rl), ("wants", .ref wl)])) := Ex.mut (x1.trans e2) hx0
    refine q_fld (v := .ref wd) (ev_var rfl) (ev_var rfl) upd_same T.clM T.nM_worths (by show 2 < 1000; decide) fun H3 e3 => ?_
    rw [pf3]
    have x3 : Ex H0 (upd H3 x (.ins CM dx [("rows", .ref rl), ("wants", .ref wl), ("worths", .ref wd)])) := Ex.mut (x2.trans e3) hx0
    have hgv : gv2 vs.length (fun i => (rs.getD i default).fits.length) (fun _ _ => true) (fun i j => eV (.str ((rs.getD i default).fits.getD j default))) = ((rs.flatMap fun r => r.fits).map V.str).map eV := by
      rw [rel.len, gv2_map rs (fun r => r.fits.map fun k => eV (.str k)) fun i r hr => by
        rw [getD_of hr]
        have := gv1_map r.fits (fun _ => true) (fun k => eV (.str k)) (f := fun _ => true) (E := fun j => eV (.str (r.fits.getD j default))) fun j k hk => by rw [getD_of hk]; exact ⟨rfl, rfl⟩
        rw [List.filter_eq_self.mpr fun _ _ => rfl] at this
        exact this]
      rw [List.map_flatMap, List.map_flatMap]
      refine congrArg (fun F => rs.flatMap F) (funext fun r => ?_)
      rw [List.map_map]
      rfl
    have hlen : (rs.flatMap fun r => r.fits).length ≤ 36 := by
      have h1 := places_len sm
      have h2 : (places rs).length = (rs.flatMap fun r => r.fits).length := by
        unfold places
        rw [List.length_flatMap, List.length_flatMap]
        congr 1
        refine List.map_congr_left fun r _ => ?_
        rw [List.length_map]
      omega
    refine q_fldN (R := isSort (rs.flatMap fun r => r.fits)) (en_sorts ?_ (by omega)) (ev_var rfl) upd_same T.clM T.nM_sorts (by show 3 < 1000; decide) fun so H4 hso e4 oso nso => ?_
    · have g := en_lc2L (K := K) (σ := [some (.ref x), some (.ref rl), some (.ref wl), some (.ref sd), some (.ref wd), none, none]) (H := upd H3 x (.ins CM dx [("rows", .ref rl), ("wants", .ref wl), ("worths", .ref wd)])) (vs := [6, 5]) (vs1 := [5]) (g := gName 6) (g1 := gName 5) (t := tYes) (te := tVar 5) (tl := tVar 1) (wi1 := iTup K (tOp (rIxT K) (tVar 6) (tC (.int 1))))
        (fun i => (rs.getD i default).fits.length) (fun _ _ => true) (fun i j => eV (.str ((rs.getD i default).fits.getD j default))) (Ex.refl _) (ev_var rfl) (sq_get (x3 _ _ hvs)) (by rw [rel.len]; have := sm.few; omega) (fun i hi => ?_) fun i y H5 H6 e5 e6 hy => ⟨_, fun _ q => q, rfl, fun R hR => ?_⟩
      · intro Hs es Q k
        refine g Hs es Q fun p H5 hp e5 o nw => ?_
        obtain ⟨ws', hws', rE⟩ := nw.now es e5
        rw [hgv] at rE
        rw [relE_V rE] at hws'
        exact k p H5 hp e5 hws'
      · obtain ⟨r, t, f, _, er, hl, _⟩ := hrow i _ (List.getElem?_eq_getElem hi)
        show (rs.getD i default).fits.length ≤ 200
        rw [er]; omega
      · obtain ⟨r, t, f, hr, er, hl, rfl, ht, hf⟩ := hrow i y hy
        have ev : Ev (tOp (rIxT K) (tVar 6) (tC (.int 1))) ([some (.ref x), some (.ref rl), some (.ref wl), some (.ref sd), some (.ref wd), none, some (.ref t)] : L2.St) H6 (.ref f) := ev_ixT (ev_var rfl) ev_c (st_get ((x3.trans (e5.trans e6)) _ _ ht)) (atI_get (i := 1) rfl)
        refine ev H6 (Ex.refl _) _ fun H7 e7 => ⟨f, rfl, ⟨_, st_get ((x3.trans ((e5.trans e6).trans e7)) _ _ hf)⟩, hR _ H7 e7 fun C eC new => ?_⟩
        show Inner _ _ _ _ _ _ _ (rs.getD i default).fits.length _ _ _
        rw [er, show r.fits.length = (r.fits.map V.str).length from (List.length_map _).symm]
        refine inner_T (st_get ((x3.trans (e5.trans eC)) _ _ hf)) fun j y H8 e8 hy => ?_
        obtain ⟨k, hk, rfl⟩ := get_map hy
        refine ⟨_, fun _ q => q, rfl, et_yes, fun _ => ?_⟩
        rw [getD_of hk]
        exact ee_V (ev_var rfl)
    · obtain ⟨sorts, hso4, snd', smem, ssrt⟩ := nso.now (Ex.refl _) e4
      rw [pf4]
      have nxs : x ≠ so := ne_of_none upd_same hso
      have x4 : Ex H0 (upd H4 x (.ins CM dx [("rows", .ref rl), ("wants", .ref wl), ("worths", .ref wd), ("sorts", .ref so)])) := Ex.mut (x3.trans e4) hx0
      have hso5 : upd H4 x (.ins CM dx [("rows", .ref rl), ("wants", .ref wl), ("worths", .ref wd), ("sorts", .ref so)]) so = some (.lst (sorts.map V.str)) := by rw [upd_ne nxs.symm]; exact hso4
      have sfew : sorts.length ≤ 36 := Nat.le_trans (len_le_of_sub snd' fun z hz => (smem z).mp hz) hlen
      intro b hb hd hhd
      have nbh : b ≠ hd := ne_of_none upd_same hhd
      have hx5 : (upd H4 x (.ins CM dx [("rows", .ref rl), ("wants", .ref wl), ("worths", .ref wd), ("sorts", .ref so)])) x = some (.ins CM dx [("rows", .ref rl), ("wants", .ref wl), ("worths", .ref wd), ("sorts", .ref so)]) := upd_same
      generalize upd H4 x (.ins CM dx [("rows", .ref rl), ("wants", .ref wl), ("worths", .ref wd), ("sorts", .ref so)]) = H5 at *
      have eb := Ex.new (o := .dK []) hb
      have eh := Ex.new (o := .dT []) hhd
      refine ⟨by show 2 ≤ sizeLine; decide, fun t ht => ?_⟩
      have et := Ex.new (o := .tup [.ref b, .ref hd]) ht
      have hx6 := et _ _ (eh _ _ (eb _ _ hx5))
      refine ⟨t, [.ref b, .ref hd], rfl, st_get upd_same, rfl, .ref b, [.ref hd], rfl, .ref x, rfl, x, CM, dx, _, rfl, hx6, T.clM, T.nM_free, by show 4 < 1000; decide, .ref hd, [], rfl, .ref x, rfl, x, CM, dx, _, rfl, upd_same, T.clM, T.nM_holds, by rw [pf5]; show 5 < 1000; decide, rfl, ?_⟩
      rw [pf5, pf6]
      have nxb : x ≠ b := ne_of_none hx5 hb
      have nxh : x ≠ hd := ne_of_none (eb _ _ hx5) hhd
      have hb0 : H5 b = none := hb
      have hh0 : H5 hd = none := fresh_back eb hhd
      have exD : Ex (del H5 x) (upd (upd (upd (upd (upd H5 b (.dK [])) hd (.dT [])) t (.tup [.ref b, .ref hd])) x (.ins CM dx [("rows", .ref rl), ("wants", .ref wl), ("worths", .ref wd), ("sorts", .ref so), ("free", .ref b)])) x (.ins CM dx [("rows", .ref rl), ("wants", .ref wl), ("worths", .ref wd), ("sorts", .ref so), ("free", .ref b), ("holds", .ref hd)])) :=
        Ex.mut (Ex.mut ((((del_ex _ _).trans eb).trans eh).trans et) (del_self _ _)) (del_self _ _)
      have hb6 : (upd (upd (upd (upd (upd H5 b (.dK [])) hd (.dT [])) t (.tup [.ref b, .ref hd])) x (.ins CM dx [("rows", .ref rl), ("wants", .ref wl), ("worths", .ref wd), ("sorts", .ref so), ("free", .ref b)])) x (.ins CM dx [("rows", .ref rl), ("wants", .ref wl), ("worths", .ref wd), ("sorts", .ref so), ("free", .ref b), ("holds", .ref hd)])) b = some (.dK []) := by
        rw [upd_ne nxb.symm, upd_ne nxb.symm]; exact et _ _ (eh _ _ upd_same)
      have hh6 : (upd (upd (upd (upd (upd H5 b (.dK [])) hd (.dT [])) t (.tup [.ref b, .ref hd])) x (.ins CM dx [("rows", .ref rl), ("wants", .ref wl), ("worths", .ref wd), ("sorts", .ref so), ("free", .ref b)])) x (.ins CM dx [("rows", .ref rl), ("wants", .ref wl), ("worths", .ref wd), ("sorts", .ref so), ("free", .ref b), ("holds", .ref hd)])) hd = some (.dT []) := by
        rw [upd_ne nxh.symm, upd_ne nxh.symm]; exact et _ _ upd_same
      have hxx6 : (upd (upd (upd (upd (upd H5 b (.dK [])) hd (.dT [])) t (.tup [.ref b, .ref hd])) x (.ins CM dx [("rows", .ref rl), ("wants", .ref wl), ("worths", .ref wd), ("sorts", .ref so), ("free", .ref b)])) x (.ins CM dx [("rows", .ref rl), ("wants", .ref wl), ("worths", .ref wd), ("sorts", .ref so), ("free", .ref b), ("holds", .ref hd)])) x = some (.ins CM dx [("rows", .ref rl), ("wants", .ref wl), ("worths", .ref wd), ("sorts", .ref so), ("free", .ref b), ("holds", .ref hd)]) := upd_same
      generalize (upd (upd (upd (upd (upd H5 b (.dK [])) hd (.dT [])) t (.tup [.ref b, .ref hd])) x (.ins CM dx [("rows", .ref rl), ("wants", .ref wl), ("worths", .ref wd), ("sorts", .ref so), ("free", .ref b)])) x (.ins CM dx [("rows", .ref rl), ("wants", .ref wl), ("worths", .ref wd), ("sorts", .ref so), ("free", .ref b), ("holds", .ref hd)])) = H6 at *
      have e0D : Ex H0 (del H5 x) := ex_del x4 hx0
      have hsoD : del H5 x so = some (.lst (sorts.map V.str)) := by rw [del_ne nxs.symm]; exact hso5
      have hbD : del H5 x b = none := by rw [del_ne nxb.symm]; exact hb0
      have hhD : del H5 x hd = none := by rw [del_ne nxh.symm]; exact hh0
      refine q_forLn (a := so) (xs := sorts.map V.str) (ev_fld (ev_var rfl) hxx6 T.clM T.nM_sorts rfl) (sq_get (exD _ _ hsoD)) (fun n σ' H' => (∃ x5, σ' = [some (.ref x), some (.ref rl), some (.ref wl), some (.ref sd), some (.ref wd), x5, none]) ∧ Ex (del H5 x) H' ∧ H' x = some (.ins CM dx [("rows", .ref rl), ("wants", .ref wl), ("worths", .ref wd), ("sorts", .ref so), ("free", .ref b), ("holds", .ref hd)]) ∧ H' hd = some (.dT []) ∧ ∃ fr, H' b = some (.dK (mI fr)) ∧ FreeOk st fr (sorts.take n))
        (fun H7 e7 => ⟨⟨none, rfl⟩, exD.trans e7, e7 _ _ hxx6, e7 _ _ hh6, [], e7 _ _ hb6, ⟨List.nodup_nil, fun x h => by simp at h, fun k h => by simp at h⟩⟩) (fun n σ' H' _ h => sq_get (h.2.1 _ _ hsoD)) (fun n y σ' H' hy h => ?_) (fun σ' H' h => ?_)
      · obtain ⟨⟨x5, rfl⟩, ex, hxx, hhh, fr, hfr, fo⟩ := h
        obtain ⟨k, hk, rfl⟩ := get_map hy
        have htk : ∀ j, j ∈ sorts.take (n + 1) ↔ j ∈ sorts.take n ∨ j = k := fun j => by
          rw [List.take_add_one, hk, List.mem_append]
          simp
        have hl : fr.length ≤ 36 := by
          have := len_keys fo.nd (S := (sorts.take n).map Sum.inr) fun x hx => by
            obtain ⟨k, hk, e⟩ := fo.ks x hx
            exact List.mem_map.mpr ⟨k, hk, e.symm⟩
          rw [List.length_map, List.length_take] at this
          omega
        refine s_putS (k := k) (l := fr) (v := (lkS st k).getD 0) (ev_get2S (ev_var rfl) (ev_var rfl) ev_c ((e0D.trans ex) _ _ hsd)) (ev_fld (ev_var rfl) hxx T.clM T.nM_free rfl) (ev_var rfl) hfr (by omega) fun H8 e8 => ⟨⟨_, rfl⟩, Ex.mut (ex.trans e8) hbD, by rw [upd_ne nxb]; exact e8 _ _ hxx, by rw [upd_ne nbh.symm]; exact e8 _ _ hhh, _, upd_same, ⟨nodup_put fo.nd _ _, fun x hx => ?_, fun j hj => ?_⟩⟩
        · rcases (keys_put _ _ _ _).mp hx with e | e
          · exact ⟨k, (htk k).mpr (.inr rfl), e⟩
          · obtain ⟨j, hj, e⟩ := fo.ks x e
            exact ⟨j, (htk j).mpr (.inl hj), e⟩
        · rw [lkI_put]
          by_cases e : j = k
          · rw [if_pos (by rw [e]), e]
          · rw [if_neg fun z => e (Sum.inr.inj z)]
            exact fo.val j (((htk j).mp hj).resolve_right e)
      · obtain ⟨⟨x5, rfl⟩, ex, hxx, hhh, fr, hfr, fo⟩ := h
        rw [List.length_map, List.take_length] at fo
        refine s_fldN (R := isL ((rs.map fun _ => (0 : Int)).map V.int)) (en_L ?_) (ev_var rfl) hxx T.clM T.nM_got (by show 6 < 1000; decide) fun gt H8 hgt e8 _ nw => ?_
        · have e := given_map rs (fun _ => true) (fun _ => V.int 0) (f := fun _ => true) (v := fun _ => .int 0) fun j k hk => ⟨rfl, rfl⟩
          rw [List.filter_eq_self.mpr fun _ _ => rfl, ← rel.len] at e
          rw [List.map_map]
          show EvL _ _ _ (rs.map fun _ => V.int 0)
          rw [← e]
          exact el_lcLg (fun _ => true) _ (ev_var rfl) (sq_get ((e0D.trans ex) _ _ hvs)) (by rw [rel.len]; have := sm.few; omega) fun i y H9 e9 hy => turnN rfl et_yes fun _ => ev_c
        · have hgt8 := nw.now (Ex.refl _) e8
          rw [pf7]
          have nxg : x ≠ gt := ne_of_none hxx hgt
          have ngb : gt ≠ b := (ne_of_none hfr hgt).symm
          have ngh : gt ≠ hd := (ne_of_none hhh hgt).symm
          have exF : Ex (del H5 x) (upd H8 x (.ins CM dx [("rows", .ref rl), ("wants", .ref wl), ("worths", .ref wd), ("sorts", .ref so), ("free", .ref b), ("holds", .ref hd), ("got", .ref gt)])) := Ex.mut (ex.trans e8) (del_self _ _)
          have ex1 : Ex (del H5 x) (del (del (del (upd H8 x (.ins CM dx [("rows", .ref rl), ("wants", .ref wl), ("worths", .ref wd), ("sorts", .ref so), ("free", .ref b), ("holds", .ref hd), ("got", .ref gt)])) b) hd) gt) := ex_del (ex_del (ex_del exF hbD) hhD) (fresh_back ex hgt)
          refine q ⟨dx, rl, wl, wd, so, b, hd, gt⟩ sorts fr (del (del (del (upd H8 x (.ins CM dx [("rows", .ref rl), ("wants", .ref wl), ("worths", .ref wd), ("sorts", .ref so), ("free", .ref b), ("holds", .ref hd), ("got", .ref gt)])) b) hd) gt) _ (e0D.trans ex1) (((del_ex _ _).trans (del_ex _ _)).trans (del_ex _ _)) ⟨?_, (e0D.trans ex1) |> fun e => ⟨vs, e _ _ hvs, rel.imp fun _ _ => PRow.mono e⟩, (e0D.trans ex1) _ _ hwl, (e0D.trans ex1) _ _ hwd, ex1 _ _ hsoD⟩ ?_ ?_ (del_self _ _) ⟨?_, ?_, ?_⟩ snd' (fun z => ?_) ssrt sfew fo
          · show del _ gt x = _
            rw [del_ne nxg, del_ne nxh, del_ne nxb, upd_same]
            rfl
          · show del _ gt b = none
            rw [del_ne ngb.symm, del_ne nbh, del_self]
          · show del _ gt hd = none
            rw [del_ne ngh.symm, del_self]
          · show upd H8 x _ b = _
            rw [upd_ne nxb.symm]; exact e8 _ _ hfr
          · show upd H8 x _ hd = _
            rw [upd_ne nxh.symm]; exact e8 _ _ hhh
          · show upd H8 x _ gt = _
            rw [upd_ne nxg.symm]; exact hgt8
          · rw [smem, List.mem_flatMap]
end
end K59
/-! W11: rows, stock and worths as a transport problem. -/
namespace K59
open PySem PySem.Spec PyProof.Rows L2 Evl
theorem ltCps_of_sle {a b : Str} (h : sle a b) : ltCps b.cps.toList a.cps.toList = false := by
  rw [ltCps_eq]
  exact decide_eq_false (List.not_lt.mpr h)
theorem sle_trans {a b c : Str} (h : sle a b) (g : sle b c) : sle a c := List.le_trans h g
theorem sle_total (a b : Str) : sle a b ∨ sle b a := List.le_total _ _
theorem sorted_of_pw {l : List Str} (h : l.Pairwise sle) : sortedS l = true := sortedS_of_pairwise l (h.imp fun {a b} => ltCps_of_sle)
theorem ex_sorted : ∀ xs : List Str, ∃ ys : List Str, ys.Nodup ∧ (∀ z, z ∈ ys ↔ z ∈ xs) ∧ sortedS ys = true := by
  intro xs
  have h1 : ∃ ds : List Str, ds.Nodup ∧ ∀ z, z ∈ ds ↔ z ∈ xs := by
    induction xs with
    | nil => exact ⟨[], List.nodup_nil, fun z => Iff.rfl⟩
    | cons x xs ih =>
      obtain ⟨ds, d1, d2⟩ := ih
      by_cases hx : x ∈ ds
      · exact ⟨ds, d1, fun z => by
          rw [List.mem_cons, d2]
          exact ⟨.inr, fun h => h.elim (fun e => by rw [e, ← d2]; exact hx) id⟩⟩
      · exact ⟨x :: ds, List.nodup_cons.mpr ⟨hx, d1⟩, fun z => by rw [List.mem_cons, List.mem_cons, d2]⟩
  obtain ⟨ds, d1, d2⟩ := h1
  let le : Str → Str → Bool := fun a b => !ltCps b.cps.toList a.cps.toList
  have hle : ∀ a b, le a b = true ↔ sle a b := fun a b => by
    constructor
    · intro h; exact sle_of (by simpa [le] using h)
    · intro h; show (!ltCps b.cps.toList a.cps.toList) = true; rw [ltCps_of_sle h]; rfl
  have hp := List.mergeSort_perm ds le
  refine ⟨ds.mergeSort le, hp.nodup_iff.mpr d1, fun z => by rw [hp.mem_iff, d2], sorted_of_pw ?_⟩
  refine (List.pairwise_mergeSort (le := le) (fun a b c h1 h2 => (hle a c).mpr (sle_trans ((hle a b).mp h1) ((hle b c).mp h2))) (fun a b => ?_) ds).imp fun {a b} h => (hle a b).mp h
  rw [Bool.or_eq_true, hle, hle]
  exact sle_total a b
structure IsSorts (rs : List K59.Row) (so : List Str) : Prop where
  nd : so.Nodup
  mem : ∀ z, z ∈ so ↔ ∃ r ∈ rs, z ∈ r.fits
  srt : sortedS so = true
theorem IsSorts.one {rs : List K59.Row} {so so' : List Str} (h : IsSorts rs so) (g : IsSorts rs so') : so = so' := sorted_same h.srt g.srt h.nd g.nd fun z => (h.mem z).trans (g.mem z).symm
theorem ex_sorts (rs : List K59.Row) : ∃ so, IsSorts rs so := by
  obtain ⟨so, h1, h2, h3⟩ := ex_sorted (rs.flatMap fun r => r.fits)
  exact ⟨so, h1, fun z => by rw [h2, List.mem_flatMap], h3⟩
noncomputable def sortsOf (rs : List K59.Row) : List Str := Classical.choose (ex_sorts rs)
theorem sortsOf_is (rs : List K59.Row) : IsSorts rs (sortsOf rs) := Classical.choose_spec (ex_sorts rs)
noncomputable def mkM (rs : List K59.Row) (ws : List (List Key × Int)) : Mkt := ⟨rs, rs.map (·.most), ws, sortsOf rs⟩
noncomputable def theI (rs : List K59.Row) (ws : List (List Key × Int)) : Inst Str := (mkM rs ws).I
def stk (st : List (Key × Int)) : Str → Int := fun k => (lkS st k).getD 0
theorem sorts_few {rs : List K59.Row} (sm : Small rs) : (sortsOf rs).length ≤ 36 := by
  have h := sortsOf_is rs
  have h1 := len_le_of_sub (r := rs.flatMap fun r => r.fits) h.nd fun z hz => List.mem_flatMap.mpr ((h.mem z).mp hz)
  have h2 := places_len sm
  have h3 : (places rs).length = (rs.flatMap fun r => r.fits).length := by
    unfold places
    rw [List.length_flatMap, List.length_flatMap]
    congr 1
    refine List.map_congr_left fun r _ => ?_
    rw [List.length_map]
  omega
theorem RowsOk.small {rs : List K59.Row} (h : RowsOk rs) : Small rs := ⟨h.few, fun r hr => (h.ok r hr).few⟩
theorem row_mem {rs : List K59.Row} {i : Nat} (hi : i < rs.length) : rs.getD i default ∈ rs := by
  rw [List.getD_eq_getElem?_getD, List.getElem?_eq_getElem hi]
  exact List.getElem_mem hi
theorem mem_places {rs : List K59.Row} {i : Nat} (hi : i < rs.length) {k : Str} (hk : k ∈ (rs.getD i default).fits) : ((rs.getD i default).name, k) ∈ places rs :=
  List.mem_flatMap.mpr ⟨_, row_mem hi, List.mem_map.mpr ⟨k, hk, rfl⟩⟩
theorem want_mk {rs : List K59.Row} {i : Nat} (hi : i < rs.length) : (rs.map (·.most)).getD i 0 = (rs.getD i default).most := by
  rw [List.getD_eq_getElem?_getD, List.getElem?_map, List.getD_eq_getElem?_getD, List.getElem?_eq_getElem hi]
  rfl
theorem mok {rs : List K59.Row} {ws : List (List Key × Int)} (ro : RowsOk rs) (wo : WsOk ws rs) : MOk (mkM rs ws) where
  few := ro.few
  fw := fun i hi => (ro.ok _ (row_mem hi)).few
  wl := List.length_map _
  wk := fun i hi k hk => wo.has _ (mem_places hi hk)
  ok := ⟨(sortsOf_is rs).nd, fun i hi => (ro.ok _ (row_mem hi)).nd, fun i hi k hk => ((sortsOf_is rs).mem k).mpr ⟨_, row_mem hi, hk⟩, fun i hi => by
    show 1 ≤ (rs.map (·.most)).getD i 0
    have hi : i < rs.length := hi
    rw [want_mk hi]
    exact (ro.ok _ (row_mem hi)).m1, by
    show rs.length + (sortsOf rs).length ≤ 900
    have := sorts_few ro.small
    have := ro.few
    omega⟩
  sf := sorts_few ro.small
  sm := fun k => by
    rw [show (mkM rs ws).sorts = sortsOf rs from rfl, (sortsOf_is rs).mem]
    constructor
    · rintro ⟨r, hr, hk⟩
      obtain ⟨i, hi⟩ := List.getElem?_of_mem hr
      refine ⟨i, (List.getElem?_eq_some_iff.mp hi).1, ?_⟩
      show k ∈ (rs.getD i default).fits
      rw [getD_of hi]
      exact hk
    · rintro ⟨i, hi, hk⟩
      exact ⟨_, row_mem hi, hk⟩
theorem small_800 {rs : List K59.Row} {ws : List (List Key × Int)} (ro : RowsOk rs) : (theI rs ws).n + (theI rs ws).K.length ≤ 800 := by
  show rs.length + (sortsOf rs).length ≤ 800
  have := sorts_few ro.small
  have := ro.few
  omega
theorem stk_nn {st : List (Key × Int)} (so : StOk st) (k : Str) : 0 ≤ stk st k := by
  unfold stk
  cases e : lkS st k with
  | none => exact Int.le_refl 0
  | some v => exact so.nn _ (mem_of_lkI e)
theorem nodup_inj {α : Type} : ∀ {l : List α}, l.Nodup → ∀ {i j : Nat} {a : α}, l[i]? = some a → l[j]? = some a → i = j
  | [], _, i, j, a, h, _ => by cases h
  | b :: l, hn, i, j, a, h, g => by
    obtain ⟨h1, h2⟩ := List.nodup_cons.mp hn
    cases i with
    | zero =>
      cases j with
      | zero => rfl
      | succ j =>
        cases h
        exact absurd (List.mem_of_getElem? (show l[j]? = some b from g)) h1
    | succ i =>
      cases j with
      | zero =>
        cases g
        exact absurd (List.mem_of_getElem? (show l[i]? = some b from h)) h1
      | succ j => rw [nodup_inj h2 (show l[i]? = some a from h) (show l[j]? = some a from g)]
/-- the askers' prices as a table -/
noncomputable def akOf (rs : List K59.Row) (ws : List (List Key × Int)) (fd : List (Key × Int)) : List (Key × Int) := (List.range rs.length).map fun i => (.inr (rs.getD i default).name, (theI rs ws).over (gf fd) i)
theorem overP_all {I : Inst Str} {f : Str → Option Int} {p : Str → Int} {i : Nat} (h : ∀ k ∈ I.fits i, f k = some (p k)) : I.overP f i = I.over p i := by
  unfold Inst.overP Inst.over
  congr 1
  generalize I.fits i = l at h
  induction l with
  | nil => rfl
  | cons k l ih =>
    rw [List.filterMap_cons, h k (by simp), List.map_cons, ← ih fun j hj => h j (by simp [hj])]
    rfl
theorem askP_eq {rs : List K59.Row} {ws : List (List Key × Int)} (ro : RowsOk rs) {fd : List (Key × Int)} (ki : KeysI fd (sortsOf rs)) : askP (mkM rs ws) fd = akOf rs ws fd := by
  unfold askP akOf
  rw [putsI_eq _ _ _ fun i j hi hj e => ?_]
  · refine List.map_congr_left fun i hi => ?_
    have hi := List.mem_range.mp hi
    show (Sum.inr (rs.getD i default).name, (mkM rs ws).I.overP (lkS fd) i) = _
    have hi : i < rs.length := hi
    have e := overP_all (I := (mkM rs ws).I) (f := lkS fd) (p := gf fd) (i := i) fun k hk => ki.get (((sortsOf_is rs).mem k).mpr ⟨_, row_mem hi, hk⟩)
    rw [e]
    rfl
  · have hn := ro.nd
    have e := Sum.inr.inj e
    have hi : i < rs.length := hi
    have hj : j < rs.length := hj
    have h1 : (rs.map (·.name))[i]? = some (rs.getD i default).name := by rw [List.getElem?_map, List.getD_eq_getElem?_getD, List.getElem?_eq_getElem hi]; rfl
    have h2 : (rs.map (·.name))[j]? = some (rs.getD j default).name := by rw [List.getElem?_map, List.getD_eq_getElem?_getD, List.getElem?_eq_getElem hj]; rfl
    exact nodup_inj hn h1 (by rw [h2]; exact congrArg some e.symm)
end K59
namespace K59
open PySem PySem.Spec PyProof.Rows L2 Evl
section
variable {P : Program} {w : World} {K : PySem.W.Frag} {mg : Str → Option Value} {base : Heap} {CA CL CM : Addr}
/-- what the three functions are handed -/
structure In3 (CL : Addr) (H : Hp) (l sd wd : Addr) (rs : List K59.Row) (st : List (Key × Int)) (ws : List (List Key × Int)) : Prop where
  line : LineAt CL H l rs
  ro : RowsOk rs
  sd : H sd = some (.dK (mI st))
  so : StOk st
  wd : H wd = some (.dT (mI ws))
  wo : WsOk ws rs
theorem In3.mono {H H' : Hp} {l sd wd : Addr} {rs : List K59.Row} {st : List (Key × Int)} {ws : List (List Key × Int)} (h : In3 CL H l sd wd rs st ws) (e : Ex H H') : In3 CL H' l sd wd rs st ws := ⟨h.line.mono e, h.ro, e _ _ h.sd, h.so, e _ _ h.wd, h.wo⟩
theorem el_listT {σ : L2.St} {H : Hp} {ta : TE} {p : Addr} {xs : List V} (ha : Ev ta σ H (.ref p)) (h : SqT K H p xs) : EvL (tCB (rListS K) (tCons ta tNil)) σ H xs := fun H1 e Q q =>
  ha H1 e _ fun H2 e2 => ⟨p, xs, rfl, Or.inr (ex_t (e.trans e2) h), fun l hl => q l _ (fresh_back e2 hl) (e2.trans (Ex.new hl)) upd_same⟩
def spMarketOf (CL CM : Addr) : Sp := fun vs H Q _ => ∃ (l sd wd : Addr) (rs : List K59.Row) (st : List (Key × Int)) (ws : List (List Key × Int)), vs = [.ref l, .ref sd, .ref wd] ∧ In3 CL H l sd wd rs st ws ∧
  ∀ (m : Addr) (a : MA) (S : Mst) (H' : Hp), Ex H H' → MIm CM H' m a (mkM rs ws) → MMu H' a S → SOk (mkM rs ws) (stk st) S → Best (theI rs ws) (stk st) S.h → Q (.ref m) H'
theorem d_market_of {f : Addr} {fd : FuncData} (F : Fun K "market_of" "market_of" s_market_of f fd) (T : Txt K mg CA CL CM) (c_check_line : CalK P w K mg base 1 "check_line" (spCkLine CL)) (c_check_stock : CalK P w K mg base 3 "check_stock" spCkStock) (c_check_worths : CalK P w K mg base 2 "check_worths" (spCkWorths CL))
    (k_Market : MakK P w K mg base 1 "Market" CM (spMarket CM)) (c_Market_fill : MetK P w K mg base 4 CM "fill" (spFill CM)) : FnOk P w K mg base CX0 5 f fd ["line", "stock", "worths"] (spMarketOf CL CM) := by
  refine F.ok sc_market_of (fun vs H Q E h => ?_) (fun cdv A outer s H vs Q E hr h => ?_)
  · obtain ⟨_, _, _, _, _, _, rfl, _⟩ := h
    rfl
  · obtain ⟨l, sd, wd, rs, st, ws, rfl, I3, q⟩ := h
    refine ⟨_, (pss_cons (ps_expr (ec c_check_line hr (by decide) rfl (pa_cons (pv 0) pa_nil)))
    (pss_cons (ps_expr (ec c_check_stock hr (by decide) rfl (pa_cons (pv 1) pa_nil)))
    (pss_cons (ps_expr (ec c_check_worths hr (by decide) rfl (pa_cons (pv 0) (pa_cons (pv 2) pa_nil))))
    (pss_cons (ps_set (i := 3) sc_market_of.nd rfl (Or.inl rfl) (ek k_Market hr (by decide) rfl (pa_cons (pe_callTy (listofK K rfl) (by rfl) T.g_list boot_list (pa_cons (fldK K rfl (pv 0)) pa_nil)) (pa_cons (pe_lc (own := [("row", 4)]) (g := (gName 4)) (tt := tYes) rfl sc_market_of.nd (tupK K rfl (fldK K rfl (pv 0))) (blkOk_by (own := [("row", 4)]) (N := ["line", "stock", "worths", "market", "row"]) (sc := defScope s_market_of) (by decide +kernel)) (fun _ _ _ _ _ => (pg_name (i := 4) sc_market_of.nd rfl (by first | exact Or.inl rfl | exact Or.inr rfl))) (fun _ _ _ _ _ => pts_nil) (fun _ _ _ _ _ => (pe_ix (ixTK K rfl) (pv 4) pe_int (fun _ _ => rfl)))) (pa_cons (pv 1) (pa_cons (pv 2) pa_nil))))))
    (pss_cons (ps_expr (em c_Market_fill hr (by decide) (pv 3) (pa_cons pe_bl pa_nil)))
    (pss_one (ps_ret (pv 3)))))))), ?_⟩
    have sm := I3.ro.small
    refine q_dcall (ea1 (ev_var rfl)) fun H1 e1 => ⟨l, rs, rfl, I3.line.mono e1, fun H2 e2 => ?_⟩
    refine q_dcall (ea1 (ev_var rfl)) fun H3 e3 => ⟨sd, st, rfl, (e1.trans (e2.trans e3)) _ _ I3.sd, I3.so, fun H4 e4 => ?_⟩
    refine q_dcall (ea2 (ev_var rfl) (ev_var rfl)) fun H5 e5 => ⟨l, wd, rs, ws, rfl, I3.line.mono (e1.trans (e2.trans (e3.trans (e4.trans e5)))), sm, (e1.trans (e2.trans (e3.trans (e4.trans e5)))) _ _ I3.wd, I3.wo, fun H6 e6 => ?_⟩
    have ex6 : Ex H H6 := e1.trans (e2.trans (e3.trans (e4.trans (e5.trans e6))))
    have I6 := I3.mono ex6
    obtain ⟨dx, al, e, hl1, vs, hl2, rel⟩ := I6.line
    have eev : ∀ H', Ex H6 H' → Ev (tFld K (tVar 0) "every") ([some (.ref l), some (.ref sd), some (.ref wd), none, none] : L2.St) H' (.ref e) := fun H' e' => ev_fld (ev_var rfl) (e' _ _ hl1) T.clL T.nL_every rfl
    have g1 : EvL (tCB (rListS K) (tCons (tFld K (tVar 0) "every") tNil)) ([some (.ref l), some (.ref sd), some (.ref wd), none, none] : L2.St) H6 vs := el_listT (eev H6 (Ex.refl _)) (st_get hl2)
    have g2 : EvL (tLc (iTup K (tFld K (tVar 0) "every")) (gName 4) tYes (tOp (rIxT K) (tVar 4) (tC (.int 2))) [4]) ([some (.ref l), some (.ref sd), some (.ref wd), none, none] : L2.St) H6 ((rs.map (·.most)).map V.int) := by
      have eq := given_map rs (fun _ => true) (fun r => V.int r.most) (f := fun _ => true) (v := fun j => .int (rs.getD j default).most) fun j k hk => by rw [getD_of hk]; exact ⟨rfl, rfl⟩
      rw [List.filter_eq_self.mpr fun _ _ => rfl, ← rel.len] at eq
      rw [List.map_map]
      show EvL _ _ _ (rs.map fun r => V.int r.most)
      rw [← eq]
      refine el_lcT (fun _ => true) _ (eev H6 (Ex.refl _)) (st_get hl2) (by rw [rel.len]; have := sm.few; omega) fun i x H7 e7 hx => ?_
      have hi : i < rs.length := by rw [← rel.len]; exact (List.getElem?_eq_some_iff.mp hx).1
      have hr : rs[i]? = some rs[i] := List.getElem?_eq_getElem hi
      obtain ⟨t, f, rfl, h3, h4⟩ := rel.get i x _ hx hr
      rw [getD_of hr]
      exact turnN rfl et_yes fun _ => ev_ixT (ev_var rfl) ev_c (st_get (e7 _ _ h3)) (atI_get (i := 2) rfl)
    refine g1 H6 (Ex.refl _) _ fun l1 H7 hl1' e7 h7 => g2 H7 e7 _ fun l2 H8 hl2' e8 h8 => ⟨.ref sd, rfl, .ref wd, rfl, fun x dx hx hdx hne => ?_⟩
    have e68 := e7.trans e8
    have eN : Ex H8 (upd (upd H8 dx (.own x)) x (.ins CM dx [])) := Ex.mut (Ex.new hdx) hx
    refine ⟨x, dx, l1, l2, sd, wd, rs, rs.map (·.most), st, ws, H8, rfl, upd_same, eN, hx, ⟨vs, e8 _ _ h7, rel.imp fun _ _ => PRow.mono e68⟩, h8, e68 _ _ I6.sd, e68 _ _ I6.wd, sm, fun a sorts fr H9 H10 e9 e10 mi n1 n2 n3 mu snd' smem ssrt sfew fo => ⟨rfl, ?_⟩⟩
    have hso : sorts = sortsOf rs := IsSorts.one (rs := rs) ⟨snd', smem, ssrt⟩ (sortsOf_is rs)
    subst hso
    have mo := mok I3.ro I3.wo
    have hh : (Mst.mk fr [] (rs.map fun _ => 0)).h = fun _ _ => 0 := rfl
    have g0 : ∀ i, (theI rs ws).got (fun _ _ => 0) i = 0 := fun i => sm_zero fun _ _ => rfl
    have u0 : ∀ k, (theI rs ws).used (fun _ _ => 0) k = 0 := fun k => sm_zero fun _ _ => rfl
    have so : SOk (mkM rs ws) (stk st) ⟨fr, [], rs.map fun _ => 0⟩ := by
      refine ⟨List.length_map _, fun i hi => ?_, fun k hk => ?_, fo.nd, fo.ks, List.nodup_nil, fun x hx => by simp at hx⟩
      · show (rs.map fun _ => (0 : Int))[i]? = some ((theI rs ws).got (fun _ _ => 0) i)
        have hi : i < rs.length := hi
        rw [g0, List.getElem?_map, List.getElem?_eq_getElem hi]; rfl
      · show lkI fr (.inr k) = some (stk st k - (theI rs ws).used (fun _ _ => 0) k)
        rw [u0, fo.val k hk, Int.sub_zero]; rfl
    have sv : SV (mkM rs ws).I (stk st) (Mst.mk fr [] (rs.map fun _ => 0)).h (fun _ => 0) (fun _ => (mkM rs ws).I.cw) (mkM rs ws).I.cw := by
      rw [hh]
      exact sv_start mo.ok fun k _ => stk_nn I3.so k
    have mi10 := mi.mono e10
    refine q_dmeth (ev_var rfl) mi10.ins rfl (ea1 ev_c) fun H11 e11 => ⟨x, a, mkM rs ws, stk st, _, H9, _, _, _, rfl, mi, e10.trans e11, n1, n2, n3, mu.mono e11, mo, so, sv, fun S' H12 e12 mu' so' be => ?_⟩
    exact s_ret (ev_var rfl) fun H13 e13 => q x a S' H13 (ex6.trans (e68.trans (e9.trans (e12.trans e13)))) (mi.mono (e12.trans e13)) (mu'.mono e13) so' be
/-- least prices -/
def spLeastP (CL : Addr) : Sp := fun vs H Q _ => ∃ (l sd wd : Addr) (rs : List K59.Row) (st : List (Key × Int)) (ws : List (List Key × Int)), vs = [.ref l, .ref sd, .ref wd] ∧ In3 CL H l sd wd rs st ws ∧
  ∀ (p d e : Addr) (fd : List (Key × Int)) (H' : Hp), H p = none → H d = none → H e = none → Ex H H' → H' p = some (.tup [.ref d, .ref e]) → H' d = some (.dK (mI fd)) → H' e = some (.dK (mI (akOf rs ws fd))) →
    KeysI fd (sortsOf rs) → Opt (theI rs ws) (stk st) (gf fd) → (∀ p, Opt (theI rs ws) (stk st) p → ∀ k ∈ sortsOf rs, gf fd k ≤ p k) → Q (.ref p) H'
theorem d_least_prices {f : Addr} {fd : FuncData} (F : Fun K "least_prices" "least_prices" s_least_prices f fd) (T : Txt K mg CA CL CM) (c_market_of : CalK P w K mg base 5 "market_of" (spMarketOf CL CM)) (c_Market_least : MetK P w K mg base 3 CM "least" (spLeast CM)) (c_Market_priced : MetK P w K mg base 3 CM "priced" (spPriced CM)) :
    FnOk P w K mg base CX0 6 f fd ["line", "stock", "worths"] (spLeastP CL) := by
  refine F.ok sc_least_prices (fun vs H Q E h => ?_) (fun cdv A outer s H vs Q E hr h => ?_)
  · obtain ⟨_, _, _, _, _, _, rfl, _⟩ := h
    rfl
  · obtain ⟨l, sd, wd, rs, st, ws, rfl, I3, q⟩ := h
    refine ⟨_, (pss_cons (ps_set (i := 3) sc_least_prices.nd rfl (Or.inl rfl) (ec c_market_of hr (by decide) rfl (pa_cons (pv 0) (pa_cons (pv 1) (pa_cons (pv 2) pa_nil)))))
    (pss_one (ps_ret (em c_Market_priced hr (by decide) (pv 3) (pa_cons (em0 c_Market_least hr (by decide) (pv 3)) pa_nil))))), ?_⟩
    have mo := mok I3.ro I3.wo
    refine q_call (ea3 (ev_var rfl) (ev_var rfl) (ev_var rfl)) fun H1 e1 => ⟨l, sd, wd, rs, st, ws, rfl, I3.mono e1, fun m a S H2 e2 mi mu so be => ?_⟩
    refine ⟨.ref m, rfl, m, a.dx, mfl a, rfl, mi.ins, rfl, .ref m, rfl, m, a.dx, mfl a, rfl, mi.ins, rfl, m, a, mkM rs ws, stk st, S, rfl, mi, mu, mo, so, be, fun d fd H3 hd e3 hd3 ki lw op => ?_⟩
    refine ⟨m, a, mkM rs ws, d, fd, rfl, mi.mono e3, mo, hd3, fun p e H4 hp he e4 hp4 he4 => ?_⟩
    have ex := e1.trans e2
    rw [askP_eq I3.ro ki] at he4
    exact q p d e fd H4 (fresh_back (ex.trans e3) hp) (fresh_back ex hd) (fresh_back (ex.trans e3) he) (ex.trans (e3.trans e4)) hp4 (e4 _ _ hd3) he4 ki op lw.le
/-- what the greatest prices are -/
structure Great (rs : List K59.Row) (st : List (Key × Int)) (ws : List (List Key × Int)) (fd : List (Key × Int)) : Prop where
  opt : Opt (theI rs ws) (stk st) (gf fd)
  top : ∀ p, Opt (theI rs ws) (stk st) p → ∀ k ∈ sortsOf rs, 0 < stk st k → p k ≤ gf fd k
  rest : ∀ k ∈ sortsOf rs, ¬ 0 < stk st k → gf fd k = (theI rs ws).rest (fun j => if j ∈ sortsOf rs ∧ 0 < stk st j then some (gf fd j) else none) k
def spGreatP (CL : Addr) : Sp := fun vs H Q _ => ∃ (l sd wd : Addr) (rs : List K59.Row) (st : List (Key × Int)) (ws : List (List Key × Int)), vs = [.ref l, .ref sd, .ref wd] ∧ In3 CL H l sd wd rs st ws ∧
  ∀ (p d e : Addr) (fd : List (Key × Int)) (H' : Hp), H p = none → H d = none → H e = none → Ex H H' → H' p = some (.tup [.ref d, .ref e]) → H' d = some (.dK (mI fd)) → H' e = some (.dK (mI (akOf rs ws fd))) →
    KeysI fd (sortsOf rs) → Great rs st ws fd → Q (.ref p) H'
theorem Opt.congr {I : Inst Str} (ok : I.Ok) {s p p' : Str → Int} (h : ∀ k ∈ I.K, p k = p' k) (o : Opt I s p) : Opt I s p' := by
  refine ⟨fun k hk => by rw [← h k hk]; exact o.pn k hk, ?_⟩
  rw [← dobj_congr (q := I.over p) (q' := I.over p') h fun i hi => ?_]
  · exact o.eq
  · unfold Inst.over
    congr 1
    exact List.map_congr_left fun k hk => by rw [h k (ok.sub i hi k hk)]
theorem d_greatest_prices {f : Addr} {fd : FuncData} (F : Fun K "greatest_prices" "greatest_prices" s_greatest_prices f fd) (T : Txt K mg CA CL CM) (c_market_of : CalK P w K mg base 5 "market_of" (spMarketOf CL CM)) (c_Market_greatest : MetK P w K mg base 3 CM "greatest" (spGreatest CM)) (c_Market_priced : MetK P w K mg base 3 CM "priced" (spPriced CM)) :
    FnOk P w K mg base CX0 6 f fd ["line", "stock", "worths"] (spGreatP CL) := by
  refine F.ok sc_greatest_prices (fun vs H Q E h => ?_) (fun cdv A outer s H vs Q E hr h => ?_)
  · obtain ⟨_, _, _, _, _, _, rfl, _⟩ := h
    rfl
  · obtain ⟨l, sd, wd, rs, st, ws, rfl, I3, q⟩ := h
    refine ⟨_, (pss_cons (ps_set (i := 3) sc_greatest_prices.nd rfl (Or.inl rfl) (ec c_market_of hr (by decide) rfl (pa_cons (pv 0) (pa_cons (pv 1) (pa_cons (pv 2) pa_nil)))))
    (pss_one (ps_ret (em c_Market_priced hr (by decide) (pv 3) (pa_cons (em0 c_Market_greatest hr (by decide) (pv 3)) pa_nil))))), ?_⟩
    have mo := mok I3.ro I3.wo
    refine q_call (ea3 (ev_var rfl) (ev_var rfl) (ev_var rfl)) fun H1 e1 => ⟨l, sd, wd, rs, st, ws, rfl, I3.mono e1, fun m a S H2 e2 mi mu so be => ?_⟩
    refine ⟨.ref m, rfl, m, a.dx, mfl a, rfl, mi.ins, rfl, .ref m, rfl, m, a.dx, mfl a, rfl, mi.ins, rfl, m, a, mkM rs ws, stk st, S, rfl, mi, mu, mo, so, be, fun k _ => stk_nn I3.so k, fun d fd f H3 hd e3 hd3 ki hi hdom hgf hop hov => ?_⟩
    refine ⟨m, a, mkM rs ws, d, fd, rfl, mi.mono e3, mo, hd3, fun p e H4 hp he e4 hp4 he4 => ?_⟩
    have ex := e1.trans e2
    rw [askP_eq I3.ro ki] at he4
    have hf : ∀ k x, f k = some x → k ∈ sortsOf rs ∧ 0 < stk st k ∧ gf fd k = x := fun k x e => by
      have hk : k ∈ sortsOf rs := hi.dom k x e
      refine ⟨hk, (hdom k hk).mp (by rw [e]; simp), ?_⟩
      rw [hgf k hk]
      unfold Inst.full
      rw [e]; rfl
    have hfe : f = fun j => if j ∈ sortsOf rs ∧ 0 < stk st j then some (gf fd j) else none := funext fun j => by
      cases e : f j with
      | none =>
        rw [if_neg]
        rintro ⟨h1, h2⟩
        exact (hdom j h1).mpr h2 e
      | some x =>
        obtain ⟨h1, h2, h3⟩ := hf j x e
        rw [if_pos ⟨h1, h2⟩, h3]
    refine q p d e fd H4 (fresh_back (ex.trans e3) hp) (fresh_back ex hd) (fresh_back (ex.trans e3) he) (ex.trans (e3.trans e4)) hp4 (e4 _ _ hd3) he4 ki ⟨Opt.congr mo.ok (fun k hk => (hgf k hk).symm) hop, fun p' o k hk hs => ?_, fun k hk hs => ?_⟩
    · cases e : f k with
      | none => exact absurd e ((hdom k hk).mpr hs)
      | some x =>
        rw [(hf k x e).2.2]
        exact hi.ge p' o k x e
    · rw [← hfe, hgf k hk]
      unfold Inst.full
      cases e : f k with
      | none => rfl
      | some x => exact absurd (hf k x e).2.1 hs
theorem d_prices {f : Addr} {fd : FuncData} (F : Fun K "prices" "prices" s_prices f fd) (T : Txt K mg CA CL CM) (c_least_prices : CalK P w K mg base 6 "least_prices" (spLeastP CL)) : FnOk P w K mg base CX0 7 f fd ["line", "stock", "worths"] (spLeastP CL) := by
  refine F.ok sc_prices (fun vs H Q E h => ?_) (fun cdv A outer s H vs Q E hr h => ?_)
  · obtain ⟨_, _, _, _, _, _, rfl, _⟩ := h
    rfl
  · obtain ⟨l, sd, wd, rs, st, ws, rfl, I3, q⟩ := h
    refine ⟨_, (pss_one (ps_ret (ec c_least_prices hr (by decide) rfl (pa_cons (pv 0) (pa_cons (pv 1) (pa_cons (pv 2) pa_nil)))))), ?_⟩
    refine s_rcall (ea3 (ev_var rfl) (ev_var rfl) (ev_var rfl)) fun H1 e1 => ⟨l, sd, wd, rs, st, ws, rfl, I3.mono e1, fun p d e fd H' hp hd he ex => q p d e fd H' (fresh_back e1 hp) (fresh_back e1 hd) (fresh_back e1 he) (e1.trans ex)⟩
end
end K59
/-! M5: going through all ways: what the law's own search finds. Plain Lean. -/
namespace K59
section
variable {κ : Type} [DecidableEq κ]
/-- all ways to take some of the kinds fs, at most room -/
def stepF (k : κ) (x : (κ → Int) × Int × List Int) : List ((κ → Int) × Int × List Int) :=
  (List.range ((if x.2.1 < x.1 k then x.2.1 else x.1 k) + 1).toNat).map fun (n : Nat) => ((fun j => if j = k then x.1 j - (n : Int) else x.1 j), x.2.1 - (n : Int), x.2.2 ++ [(n : Int)])
def waysF (f : κ → Int) (room : Int) (fs : List κ) : List ((κ → Int) × Int × List Int) := fs.foldl (fun W k => W.flatMap (stepF k)) [(f, room, [])]
theorem waysF_snoc (f : κ → Int) (room : Int) (fs : List κ) (k : κ) : waysF f room (fs ++ [k]) = (waysF f room fs).flatMap (stepF k) := by
  unfold waysF
  rw [List.foldl_append]
  rfl
/-- f less c on fs -/
def lessF (f : κ → Int) (fs : List κ) (c : κ → Int) : κ → Int := fun j => if j ∈ fs then f j - c j else f j
structure WayOk (f : κ → Int) (room : Int) (fs : List κ) (x : (κ → Int) × Int × List Int) (c : κ → Int) : Prop where
  g : x.1 = lessF f fs c
  fr : x.2.1 = room - sm fs c
  nu : x.2.2 = fs.map c
  nn : ∀ k ∈ fs, 0 ≤ c k
  le : ∀ k ∈ fs, c k ≤ f k
  f0 : 0 ≤ x.2.1
theorem sm_snoc (l : List κ) (k : κ) (f : κ → Int) : sm (l ++ [k]) f = sm l f + f k := by rw [sm_append, sm_cons, sm_nil]; omega
theorem rev_ind {α : Type} {P : List α → Prop} (h0 : P []) (h1 : ∀ l a, P l → P (l ++ [a])) : ∀ l, P l := fun l => by
  have : ∀ n, ∀ l : List α, l.length = n → P l := by
    intro n
    induction n with
    | zero => intro l h; rw [List.eq_nil_of_length_eq_zero h]; exact h0
    | succ n ih =>
      intro l h
      have hne : l ≠ [] := by intro z; rw [z] at h; simp at h
      rw [← List.dropLast_concat_getLast hne]
      exact h1 _ _ (ih _ (by rw [List.length_dropLast, h]; rfl))
  exact this _ l rfl
theorem waysF_ok {f : κ → Int} {room : Int} (hr : 0 ≤ room) : ∀ fs : List κ, fs.Nodup → ∀ x ∈ waysF f room fs, ∃ c, WayOk f room fs x c := by
  refine rev_ind (fun _ x hx => ?_) fun fs k ih hn x hx => ?_
  · rw [show waysF f room [] = [(f, room, [])] from rfl, List.mem_singleton] at hx
    subst hx
    exact ⟨fun _ => 0, funext fun j => (if_neg (by simp)).symm, by rw [sm_nil]; simp, rfl, fun k hk => by simp at hk, fun k hk => by simp at hk, hr⟩
  · obtain ⟨n1, _, n2⟩ := List.nodup_append.mp hn
    have hk : k ∉ fs := fun z => n2 k z k (by simp) rfl
    rw [waysF_snoc, List.mem_flatMap] at hx
    obtain ⟨y, hy, hx⟩ := hx
    obtain ⟨c, w⟩ := ih n1 y hy
    obtain ⟨n, hnr, rfl⟩ := List.mem_map.mp hx
    have hnr := List.mem_range.mp hnr
    have hgk : y.1 k = f k := by rw [w.g]; exact if_neg hk
    have hn1 : (n : Int) ≤ y.2.1 ∧ (n : Int) ≤ f k := by
      rw [hgk] at hnr
      split at hnr <;> omega
    have hc : ∀ j ∈ fs, (if j = k then (n : Int) else c j) = c j := fun j hj => if_neg fun z => hk (by rw [← z]; exact hj)
    refine ⟨fun j => if j = k then (n : Int) else c j, funext fun j => ?_, ?_, ?_, fun j hj => ?_, fun j hj => ?_, by show 0 ≤ y.2.1 - (n : Int); omega⟩
    · show (if j = k then y.1 j - (n : Int) else y.1 j) = lessF f (fs ++ [k]) _ j
      unfold lessF
      by_cases e : j = k
      · subst e
        rw [if_pos rfl, if_pos (by simp), hgk]
        show _ = f j - (if j = j then (n : Int) else c j)
        rw [if_pos rfl]
      · rw [if_neg e, w.g]
        unfold lessF
        by_cases z : j ∈ fs
        · rw [if_pos z, if_pos (by simp [z])]
          show _ = f j - (if j = k then (n : Int) else c j)
          rw [if_neg e]
        · rw [if_neg z, if_neg (by simp [z, e])]
    · show y.2.1 - (n : Int) = room - sm (fs ++ [k]) _
      rw [sm_snoc, sm_congr hc, if_pos rfl, w.fr]; omega
    · show y.2.2 ++ [(n : Int)] = (fs ++ [k]).map _
      rw [List.map_append, w.nu, List.map_congr_left hc]
      simp
    · by_cases e : j = k
      · rw [if_pos e]; omega
      · rw [if_neg e]
        exact w.nn j (by simpa [e] using hj)
    · by_cases e : j = k
      · subst e; rw [if_pos rfl]; exact hn1.2
      · rw [if_neg e]
        exact w.le j (by simpa [e] using hj)
theorem waysF_all {f : κ → Int} {room : Int} {c : κ → Int} : ∀ fs : List κ, fs.Nodup → (∀ k ∈ fs, 0 ≤ c k) → (∀ k ∈ fs, c k ≤ f k) → sm fs c ≤ room → (lessF f fs c, room - sm fs c, fs.map c) ∈ waysF f room fs := by
  refine rev_ind (fun _ _ _ _ => ?_) fun fs k ih hn h0 h1 h2 => ?_
  · rw [show waysF f room [] = [(f, room, [])] from rfl, List.mem_singleton, sm_nil]
    refine Prod.ext (funext fun j => show lessF f [] c j = f j from if_neg (by simp)) (Prod.ext ?_ rfl)
    show room - 0 = room
    omega
  · obtain ⟨n1, _, n2⟩ := List.nodup_append.mp hn
    have hk : k ∉ fs := fun z => n2 k z k (by simp) rfl
    rw [sm_snoc] at h2
    have hk0 := h0 k (by simp)
    have hk1 := h1 k (by simp)
    have hm := ih n1 (fun j hj => h0 j (by simp [hj])) (fun j hj => h1 j (by simp [hj])) (by omega)
    rw [waysF_snoc, List.mem_flatMap]
    refine ⟨_, hm, List.mem_map.mpr ⟨(c k).toNat, List.mem_range.mpr ?_, ?_⟩⟩
    · show (c k).toNat < ((if room - sm fs c < lessF f fs c k then room - sm fs c else lessF f fs c k) + 1).toNat
      rw [show lessF f fs c k = f k from if_neg hk]
      split <;> omega
    · have ec : ((c k).toNat : Int) = c k := by omega
      refine Prod.ext (funext fun j => ?_) (Prod.ext ?_ ?_)
      · show (if j = k then lessF f fs c j - ((c k).toNat : Int) else lessF f fs c j) = lessF f (fs ++ [k]) c j
        rw [ec]
        unfold lessF
        by_cases e : j = k
        · subst e; rw [if_pos rfl, if_neg hk, if_pos (by simp)]
        · rw [if_neg e]
          by_cases z : j ∈ fs
          · rw [if_pos z, if_pos (by simp [z])]
          · rw [if_neg z, if_neg (by simp [z, e])]
      · show room - sm fs c - ((c k).toNat : Int) = room - sm (fs ++ [k]) c
        rw [sm_snoc, ec]; omega
      · show fs.map c ++ [((c k).toNat : Int)] = (fs ++ [k]).map c
        rw [List.map_append, ec]; rfl
theorem waysF_len {f : κ → Int} {room : Int} (hr : 0 ≤ room) (h2 : room ≤ 2) : ∀ fs : List κ, fs.Nodup → (waysF f room fs).length ≤ 3 ^ fs.length := by
  refine rev_ind (fun _ => by simp [waysF]) fun fs k ih hn => ?_
  obtain ⟨n1, _, _⟩ := List.nodup_append.mp hn
  have h1 := ih n1
  rw [waysF_snoc, List.length_flatMap, List.length_append]
  have hx : ∀ x ∈ waysF f room fs, (stepF k x).length ≤ 3 := fun x hx => by
    obtain ⟨c, w⟩ := waysF_ok hr fs n1 x hx
    have h0 := w.f0
    have h3 := w.fr
    have h4 : 0 ≤ sm fs c := sm_nonneg w.nn
    unfold stepF
    rw [List.length_map, List.length_range]
    split <;> omega
  have : ∀ l : List ((κ → Int) × Int × List Int), (∀ x ∈ l, (stepF k x).length ≤ 3) → (l.map fun x => (stepF k x).length).sum ≤ 3 * l.length := by
    intro l
    induction l with
    | nil => intro _; exact Nat.zero_le _
    | cons x l ihl =>
      intro h
      rw [List.map_cons, List.sum_cons, List.length_cons]
      have a := h x (by simp)
      have b := ihl fun y hy => h y (by simp [hy])
      omega
  have := this _ hx
  rw [show fs.length + [k].length = fs.length + 1 from rfl, Nat.pow_succ]
  omega
/-! ### spreads over the first rows -/
structure PF (I : Inst κ) (kh : List κ) (s : κ → Int) (i : Nat) (y : Nat → κ → Int) : Prop where
  nn : ∀ j k, 0 ≤ y j k
  sup : ∀ j k, y j k ≠ 0 → j < i ∧ j < I.n ∧ k ∈ I.fits j ∧ k ∈ kh
  row : ∀ j, j < I.n → I.got y j ≤ I.want j
  col : ∀ k ∈ kh, I.used y k ≤ s k
def hereF (I : Inst κ) (kh : List κ) (i : Nat) : List κ := (I.fits i).filter fun k => decide (k ∈ kh)
def putRow (y : Nat → κ → Int) (i : Nat) (fs : List κ) (c : κ → Int) : Nat → κ → Int := fun j k => if j = i then (if k ∈ fs then c k else 0) else y j k
variable {I : Inst κ} {kh : List κ} {s : κ → Int}
theorem sm_ite {l fs : List κ} (hl : l.Nodup) (hf : fs.Nodup) (hs : ∀ k ∈ fs, k ∈ l) (c : κ → Int) : (sm l fun k => if k ∈ fs then c k else 0) = sm fs c := by
  rw [← sm_congr (l := fs) (f := fun k => if k ∈ fs then c k else 0) (g := c) fun k hk => if_pos hk]
  exact (sm_part hf hl hs fun k _ hk => if_neg hk).symm
theorem PF.up (ok : I.Ok) {i : Nat} {y : Nat → κ → Int} {c : κ → Int} (h : PF I kh s i y) (hi : i < I.n) (c0 : ∀ k ∈ hereF I kh i, 0 ≤ c k) (c1 : ∀ k ∈ hereF I kh i, c k ≤ s k - I.used y k) (c2 : sm (hereF I kh i) c ≤ I.want i) :
    PF I kh s (i + 1) (putRow y i (hereF I kh i) c) ∧ (∀ k, I.used (putRow y i (hereF I kh i) c) k = I.used y k + if k ∈ hereF I kh i then c k else 0) ∧ I.worth (putRow y i (hereF I kh i) c) = I.worth y + sm (hereF I kh i) fun k => c k * I.w i k := by
  have hfn := ok.fnd i hi
  have hhn : (hereF I kh i).Nodup := hfn.filter _
  have hsub : ∀ k ∈ hereF I kh i, k ∈ I.fits i := fun k hk => (List.mem_filter.mp hk).1
  have y0 : ∀ k, y i k = 0 := fun k => Classical.byContradiction fun z => absurd (h.sup i k z).1 (Nat.lt_irrefl i)
  have hrow : ∀ k, putRow y i (hereF I kh i) c i k = if k ∈ hereF I kh i then c k else 0 := fun k => if_pos rfl
  have hoth : ∀ j k, j ≠ i → putRow y i (hereF I kh i) c j k = y j k := fun j k hj => if_neg hj
  have hu : ∀ k, I.used (putRow y i (hereF I kh i) c) k = I.used y k + if k ∈ hereF I kh i then c k else 0 := fun k => by
    have := sm_change (l := List.range I.n) List.nodup_range (List.mem_range.mpr hi) (f := fun j => putRow y i (hereF I kh i) c j k) (g := fun j => y j k) fun j _ hj => hoth j k hj
    simp only [hrow, y0] at this
    show sm (List.range I.n) (fun j => putRow y i (hereF I kh i) c j k) = sm (List.range I.n) (fun j => y j k) + _
    omega
  refine ⟨⟨fun j k => ?_, fun j k hz => ?_, fun j hj => ?_, fun k hk => ?_⟩, hu, ?_⟩
  · by_cases e : j = i
    · subst e
      rw [hrow]
      split
      · rename_i z; exact c0 k z
      · exact Int.le_refl 0
    · rw [hoth j k e]; exact h.nn j k
  · by_cases e : j = i
    · subst e
      rw [hrow] at hz
      by_cases z : k ∈ hereF I kh j
      · exact ⟨Nat.lt_succ_self j, hi, hsub k z, of_decide_eq_true (List.mem_filter.mp z).2⟩
      · rw [if_neg z] at hz; exact absurd rfl hz
    · rw [hoth j k e] at hz
      obtain ⟨a, b⟩ := h.sup j k hz
      exact ⟨Nat.lt_succ_of_lt a, b⟩
  · by_cases e : j = i
    · subst e
      show sm (I.fits j) (putRow y j (hereF I kh j) c j) ≤ _
      rw [sm_congr fun k _ => hrow k, sm_ite hfn hhn hsub]
      exact c2
    · have : I.got (putRow y i (hereF I kh i) c) j = I.got y j := sm_congr fun k _ => hoth j k e
      rw [this]; exact h.row j hj
  · rw [hu]
    split
    · rename_i z; have := c1 k z; omega
    · have := h.col k hk; omega
  · have := sm_change (l := List.range I.n) List.nodup_range (List.mem_range.mpr hi) (f := fun j => sm (I.fits j) fun k => putRow y i (hereF I kh i) c j k * I.w j k) (g := fun j => sm (I.fits j) fun k => y j k * I.w j k) fun j _ hj => sm_congr fun k _ => by rw [hoth j k hj]
    have e1 : (sm (I.fits i) fun k => putRow y i (hereF I kh i) c i k * I.w i k) = sm (hereF I kh i) fun k => c k * I.w i k := by
      rw [← sm_ite hfn hhn hsub fun k => c k * I.w i k]
      refine sm_congr fun k _ => ?_
      rw [hrow]
      split <;> simp
    have e2 : (sm (I.fits i) fun k => y i k * I.w i k) = 0 := sm_zero fun k _ => by rw [y0]; simp
    simp only [e1, e2] at this
    show sm (List.range I.n) (fun j => sm (I.fits j) fun k => putRow y i (hereF I kh i) c j k * I.w j k) = sm (List.range I.n) (fun j => sm (I.fits j) fun k => y j k * I.w j k) + _
    omega
theorem PF.down (ok : I.Ok) {i : Nat} {y : Nat → κ → Int} (h : PF I kh s (i + 1) y) (hi : i < I.n) :
    ∃ z, PF I kh s i z ∧ (∀ k ∈ hereF I kh i, 0 ≤ y i k) ∧ (∀ k ∈ hereF I kh i, y i k ≤ s k - I.used z k) ∧ sm (hereF I kh i) (y i) ≤ I.want i ∧ y = putRow z i (hereF I kh i) (y i) := by
  let z : Nat → κ → Int := fun j k => if j = i then 0 else y j k
  have hz : ∀ j k, z j k ≤ y j k ∧ 0 ≤ z j k := fun j k => by
    show (if j = i then 0 else y j k) ≤ y j k ∧ 0 ≤ if j = i then 0 else y j k
    have := h.nn j k
    split <;> omega
  have hfn := ok.fnd i hi
  have hhn : (hereF I kh i).Nodup := hfn.filter _
  have hsub : ∀ k ∈ hereF I kh i, k ∈ I.fits i := fun k hk => (List.mem_filter.mp hk).1
  have hu : ∀ k, I.used y k = I.used z k + y i k := fun k => by
    have := sm_change (l := List.range I.n) List.nodup_range (List.mem_range.mpr hi) (f := fun j => y j k) (g := fun j => z j k) fun j _ hj => (if_neg hj).symm
    have e : z i k = 0 := if_pos rfl
    simp only [e] at this
    show sm (List.range I.n) (fun j => y j k) = sm (List.range I.n) (fun j => z j k) + y i k
    omega
  refine ⟨z, ⟨fun j k => (hz j k).2, fun j k hne => ?_, fun j hj => ?_, fun k hk => ?_⟩, fun k _ => h.nn i k, fun k hk => ?_, ?_, ?_⟩
  · have hne : (if j = i then 0 else y j k) ≠ 0 := hne
    by_cases e : j = i
    · rw [if_pos e] at hne; exact absurd rfl hne
    · rw [if_neg e] at hne
      obtain ⟨a, b⟩ := h.sup j k hne
      exact ⟨by omega, b⟩
  · exact Int.le_trans (sm_le fun k _ => (hz j k).1) (h.row j hj)
  · have := h.col k hk
    have := hu k
    have := h.nn i k
    omega
  · have h1 := h.col k (of_decide_eq_true (List.mem_filter.mp hk).2)
    have := hu k
    omega
  · refine Int.le_trans (Int.le_of_eq ?_) (h.row i hi)
    exact sm_part hhn hfn hsub fun k hk hn => Classical.byContradiction fun ne => hn (List.mem_filter.mpr ⟨hk, decide_eq_true (h.sup i k ne).2.2.2⟩)
  · refine funext fun j => funext fun k => ?_
    unfold putRow
    by_cases e : j = i
    · subst e
      rw [if_pos rfl]
      by_cases m : k ∈ hereF I kh j
      · rw [if_pos m]
      · rw [if_neg m]
        exact Classical.byContradiction fun ne => m (List.mem_filter.mpr ⟨(h.sup j k ne).2.2.1, decide_eq_true (h.sup j k ne).2.2.2⟩)
    · rw [if_neg e]
      exact (if_neg e).symm
theorem PF.zero (hs : ∀ k ∈ kh, 0 ≤ s k) (ok : I.Ok) : PF I kh s 0 (fun _ _ => 0) := ⟨fun _ _ => Int.le_refl 0, fun j k h => absurd rfl h, fun j hj => by
  have : I.got (fun _ _ => 0) j = 0 := sm_zero fun _ _ => rfl
  rw [this]; have := ok.want1 j hj; omega, fun k hk => by
  have : I.used (fun _ _ => 0) k = 0 := sm_zero fun _ _ => rfl
  rw [this]; exact hs k hk⟩
/-- all spreads are among them -/
theorem PF.feas {y : Nat → κ → Int} (hs : ∀ k, k ∉ kh → s k = 0) (h0 : ∀ k, 0 ≤ s k) (ok : I.Ok) : PF I kh s I.n y ↔ Feas I s y := by
  constructor
  · intro h
    refine ⟨h.nn, fun i k hz => ⟨(h.sup i k hz).2.1, (h.sup i k hz).2.2.1⟩, h.row, fun k _ => ?_⟩
    by_cases m : k ∈ kh
    · exact h.col k m
    · have : I.used y k = 0 := sm_zero fun j _ => Classical.byContradiction fun ne => m (h.sup j k ne).2.2.2
      rw [this]; exact h0 k
  · intro h
    refine ⟨h.nn, fun i k hz => ?_, h.row, fun k hk => ?_⟩
    · obtain ⟨a, b⟩ := h.sup i k hz
      refine ⟨a, a, b, Classical.byContradiction fun m => ?_⟩
      have h1 := h.col k (ok.sub i a k b)
      rw [hs k m] at h1
      have h2 : y i k ≤ I.used y k := le_sm (l := List.range I.n) (f := fun j => y j k) (fun j _ => h.nn j k) (List.mem_range.mpr a)
      have := h.nn i k
      omega
    · by_cases m : k ∈ I.K
      · exact h.col k m
      · have : I.used y k = 0 := sm_zero fun j hj => Classical.byContradiction fun ne => m (ok.sub j (List.mem_range.mp hj) k (h.sup j k ne).2)
        rw [this]; exact h0 k
end
end K59
namespace K59
open PySem PySem.Spec PyProof.Rows L2 Evl
section
variable {P : Program} {w : World} {K : PySem.W.Frag} {mg : Str → Option Value} {base : Heap} {CA CL CM : Addr}
/-! ### sums of products -/
def dotI (xs ys : List Int) : Int := ((xs.zip ys).map fun z => z.1 * z.2).sum
theorem el_lcZTL {σ : L2.St} {H : Hp} {te ta tb : TE} {t : TT} {g : TG} {vs : List Nat} {a b : Addr} {xs ys : List V} (f : Nat → Bool) (v : Nat → V) (ha : Ev ta σ H (.ref a)) (hb : Ev tb σ H (.ref b)) (hx : SqT K H a xs) (hy : SqL K H b ys) (hz : xs.length ≤ 50000) (hl : ys.length = xs.length)
    (ht : ∀ (i : Nat) (x y : V) (p : Addr) H1, Ex H H1 → xs[i]? = some x → ys[i]? = some y → H1 p = some (.tup [x, y]) → TurnC σ vs g t te (.ref p) H1 (f i) (v i)) : EvL (tLc (iZipTL K (tCons ta (tCons tb tNil))) g t te vs) σ H (given xs.length f v) := fun H0 e Q q => ha H0 e _ fun H1 e1 => hb H1 (e.trans e1) _ fun H2 e2 => by
  have e02 := (e.trans e1).trans e2
  refine ⟨a, b, xs, ys, rfl, ex_t e02 hx, ex_l e02 hy, lcG f v hz (fun i H' e3 hi => ⟨xs, ys, xs[i], ys[i]'(by omega), ex_t (e02.trans e3) hx, ex_l (e02.trans e3) hy, List.getElem?_eq_getElem hi, List.getElem?_eq_getElem (by omega)⟩) (fun H' e3 => ⟨xs, ys, ex_t (e02.trans e3) hx, ex_l (e02.trans e3) hy, .inl (Nat.le_refl _)⟩)
    (fun i x H' H'' e3 hi y => ?_) fun p H3 hp e3 h3 => q p H3 (fresh_back (e1.trans e2) hp) ((e1.trans e2).trans e3) h3⟩
  obtain ⟨p, x', y', rfl, hp, rfl, hx', hy'⟩ := y
  have e4 := Ex.new (o := .tup [x', y']) hp
  exact ⟨e4, ht i x' y' p _ ((e02.trans e3).trans e4) (hx' xs (ex_t (e02.trans e3) hx)) (hy' ys (ex_l (e02.trans e3) hy)) upd_same⟩
def spBrought : Sp := fun vs H Q _ => ∃ (q l : Addr) (ns ws : List Int), vs = [.ref q, .ref l] ∧ H q = some (.tup (ns.map V.int)) ∧ H l = some (.lst (ws.map V.int)) ∧ ws.length = ns.length ∧ ns.length ≤ 20 ∧ (∀ n ∈ ns, 0 ≤ n ∧ n ≤ 10) ∧ ∀ H', Ex H H' → Q (.int (dotI ns ws)) H'
theorem d_L_brought {f : Addr} {fd : FuncData} (F : Fun K "_law_brought" "_law_brought" s_L_brought f fd) (T : Txt K mg CA CL CM) : FnOk P w K mg base CX0 1 f fd ["_law_numbers", "_law_values"] spBrought := by
  refine F.ok sc_L_brought (fun vs H Q E h => ?_) (fun cdv A outer s H vs Q E hr h => ?_)
  · obtain ⟨_, _, _, _, rfl, _⟩ := h
    rfl
  · obtain ⟨q, l, ns, ws, rfl, hq, hl, hlen, h10, hn, k⟩ := h
    refine ⟨_, (pss_one (ps_ret (pe_callB (sumK K rfl rfl) (by rfl) T.g_sum boot_sum (pa_cons (pe_lc (own := [("_law_number", 2), ("_law_worth", 3)]) (g := (gTup K 2 (gCons (gName 2) (gCons (gName 3) gNil)))) (tt := tYes) rfl sc_L_brought.nd (zipTLK K rfl (by rfl) T.g_zip (pa_cons (pv 0) (pa_cons (pv 1) pa_nil))) (blkOk_by (own := [("_law_number", 2), ("_law_worth", 3)]) (N := ["_law_numbers", "_law_values", "_law_number", "_law_worth"]) (sc := defScope s_L_brought) (by decide +kernel)) (fun _ _ _ _ _ => (tupTK K rfl rfl (pgs_cons (pg_name (i := 2) sc_L_brought.nd rfl (by first | exact Or.inl rfl | exact Or.inr rfl)) (pgs_cons (pg_name (i := 3) sc_L_brought.nd rfl (by first | exact Or.inl rfl | exact Or.inr rfl)) pgs_nil)))) (fun _ _ _ _ _ => pts_nil) (fun _ _ _ _ _ => (pe_op op_mul (pv 2) (pv 3)))) pa_nil)))), ?_⟩
    refine s_ret (v := .int (dotI ns ws)) (ev_sumL ?_) k
    have e := given_map (ns.zip ws) (fun _ => true) (fun z => V.int (z.1 * z.2)) (f := fun _ => true) (v := fun j => .int (((ns.zip ws).getD j (0, 0)).1 * ((ns.zip ws).getD j (0, 0)).2)) fun j z hz => by rw [List.getD_eq_getElem?_getD, hz]; exact ⟨rfl, rfl⟩
    rw [List.filter_eq_self.mpr fun _ _ => rfl] at e
    rw [List.map_map]
    show EvL _ _ _ ((ns.zip ws).map fun z => V.int (z.1 * z.2))
    rw [← e, show (ns.zip ws).length = (ns.map V.int).length by rw [List.length_zip, List.length_map]; omega]
    refine el_lcZTL (fun _ => true) _ (ev_var rfl) (ev_var rfl) (st_get hq) (sq_get hl) (by rw [List.length_map]; omega) (by rw [List.length_map, List.length_map, hlen]) fun i x y p H1 e1 hx hy hp => ?_
    obtain ⟨n, hn1, rfl⟩ := get_map hx
    obtain ⟨m, hm1, rfl⟩ := get_map hy
    have hz : (ns.zip ws)[i]? = some (n, m) := List.getElem?_zip_eq_some.mpr ⟨hn1, hm1⟩
    have hb := hn n (List.mem_of_getElem? hn1)
    refine turn2 hp rfl et_yes fun _ => ?_
    rw [List.getD_eq_getElem?_getD, hz, Option.getD_some]
    exact ev_mul (ev_var rfl) (ev_var rfl) (.inl ⟨by omega, by omega⟩)
/-! ### the kinds in rows -/
def spKindsIn : Sp := fun vs H Q _ => ∃ (a : Addr) (rs : List K59.Row), vs = [.ref a] ∧ LRowsL H a rs ∧ Small rs ∧ (∀ r ∈ rs, r.fits.Nodup) ∧ ∀ p H', H p = none → Ex H H' → H' p = some (.lst ((sortsOf rs).map V.str)) → Q (.ref p) H'
theorem d_L_kinds_in {f : Addr} {fd : FuncData} (F : Fun K "_law_kinds_in" "_law_kinds_in" s_L_kinds_in f fd) (T : Txt K mg CA CL CM) : FnOk P w K mg base CX0 1 f fd ["_law_rows_here"] spKindsIn := by
  refine F.ok sc_L_kinds_in (fun vs H Q E h => ?_) (fun cdv A outer s H vs Q E hr h => ?_)
  · obtain ⟨_, _, rfl, _⟩ := h
    rfl
  · obtain ⟨a, rs, rfl, ⟨vs, hvs, rel⟩, sm, hnd, q⟩ := h
    refine ⟨_, (pss_cons (ps_set (i := 1) sc_L_kinds_in.nd rfl (Or.inr rfl) (pe_lst pa_nil))
    (pss_cons (ps_for PassesOwn.never rfl (listK K rfl (pv 0)) (tupTK K rfl rfl (pgs_cons (pg_name (i := 2) sc_L_kinds_in.nd rfl (by first | exact Or.inl rfl | exact Or.inr rfl)) (pgs_cons (pg_name (i := 3) sc_L_kinds_in.nd rfl (by first | exact Or.inl rfl | exact Or.inr rfl)) (pgs_cons (pg_name (i := 4) sc_L_kinds_in.nd rfl (by first | exact Or.inl rfl | exact Or.inr rfl)) pgs_nil))))
    (pss_one (ps_set (i := 1) sc_L_kinds_in.nd rfl (Or.inr rfl) (pe_op op_cat (pv 1) (pe_lc (own := [("_law_kind", 5)]) (g := (gName 5)) rfl sc_L_kinds_in.nd (listK K rfl (pv 3)) (blkOk_by (own := [("_law_kind", 5)]) (N := ["_law_rows_here", "_law_found", "_law_name", "_law_fits_here", "_law_most", "_law_kind"]) (sc := defScope s_L_kinds_in) (by decide +kernel)) (fun _ _ _ _ _ => (pg_name (i := 5) sc_L_kinds_in.nd rfl (by first | exact Or.inl rfl | exact Or.inr rfl))) (fun _ _ _ _ _ => (pts_one (pt_cmpR (notInK K rfl) (pv 5) (pv 1) (by rfl)))) (fun _ _ _ _ _ => (pv 5)))))))
    (pss_one (ps_ret (pe_callB (sortSK K rfl) (by rfl) T.g_sorted boot_sorted (pa_cons (pv 1) pa_nil)))))), ?_⟩
    have hfew := sm.few
    refine q_asgL (xs := []) (el_lst ea_nil (by simp)) fun l0 H1 hl0 e1 h1 => ?_
    refine q_forL (a := a) (xs := vs) (ev_var rfl) (sq_get (e1 _ _ hvs)) (fun n σ' H' => ∃ (l : Addr) (zs : List Str) (x2 x3 x4 : Option V), σ' = [some (.ref a), some (.ref l), x2, x3, x4, none] ∧ Ex H H' ∧ H' l = some (.lst (zs.map V.str)) ∧ zs.Nodup ∧ (∀ z, z ∈ zs ↔ ∃ r ∈ rs.take n, z ∈ r.fits) ∧ zs.length ≤ 6 * n)
      (fun H2 e2 => ⟨l0, [], none, none, none, rfl, e1.trans e2, e2 _ _ h1, List.nodup_nil, fun z => by simp, by simp⟩) (fun n σ' H' _ h => by obtain ⟨_, _, _, _, _, _, ex, _⟩ := h; exact sq_get (ex _ _ hvs)) (fun n x σ' H' hx h => ?_) (fun σ' H' h => ?_)
    · obtain ⟨l, zs, x2, x3, x4, rfl, ex, hl, hn, hm, hlen⟩ := h
      have hi : n < rs.length := by rw [← rel.len]; exact (List.getElem?_eq_some_iff.mp hx).1
      have hr : rs[n]? = some rs[n] := List.getElem?_eq_getElem hi
      obtain ⟨t, f, rfl, h3, h4⟩ := rel.get n x _ hx hr
      have hfl := sm.fw _ (List.getElem_mem hi)
      refine ⟨t, _, rfl, st_get (ex _ _ h3), rfl, _, _, rfl, _, _, rfl, _, _, rfl, rfl, ?_⟩
      refine s_asgL (xs := (zs ++ (rs[n].fits.filter fun k => !decide (k ∈ zs))).map V.str) ?_ fun l' H2 hl' e2 h2 => ⟨l', _, _, _, _, rfl, ex.trans e2, h2, ?_, fun z => ?_, ?_⟩
      · rw [List.map_append]
        refine el_catO (ev_var rfl) hl ?_ (by
          rw [List.length_map, List.length_map]
          have := List.length_filter_le (fun k => !decide (k ∈ zs)) rs[n].fits
          omega)
        have e := given_map rs[n].fits (fun k => !decide (k ∈ zs)) V.str (f := fun j => !decide (rs[n].fits.getD j default ∈ zs)) (v := fun j => .str (rs[n].fits.getD j default)) fun j k hk => by rw [getD_of hk]; exact ⟨rfl, rfl⟩
        rw [← e, ← List.length_map (f := V.str)]
        refine el_lcLg (a := f) _ _ (ev_var rfl) (sq_get (ex _ _ h4)) (by rw [List.length_map]; omega) fun j x H3 e3 hx => ?_
        obtain ⟨k, hk, rfl⟩ := get_map hx
        rw [getD_of hk]
        exact turnN rfl (et_test (ev_is (ev_op (ev_var rfl) (ev_var rfl) (rv_niL (sq_get (e3 _ _ hl)) rfl (by rw [List.all_map]; exact List.all_eq_true.mpr fun _ _ => rfl))) (by rw [inV_strs]))) fun _ => ev_var rfl
      · rw [List.nodup_append]
        refine ⟨hn, (hnd _ (List.getElem_mem hi)).filter _, fun x hx y hy e => ?_⟩
        subst e
        have := (List.mem_filter.mp hy).2
        simp [hx] at this
      · rw [List.mem_append, List.mem_filter, List.take_add_one, hr]
        constructor
        · rintro (hz0 | ⟨hz, _⟩)
          · obtain ⟨r, hr', hz⟩ := (hm z).mp hz0
            exact ⟨r, List.mem_append.mpr (.inl hr'), hz⟩
          · exact ⟨rs[n], List.mem_append.mpr (.inr (List.mem_singleton.mpr rfl)), hz⟩
        · rintro ⟨r, hr', hz⟩
          rcases List.mem_append.mp hr' with hr' | hr'
          · exact .inl ((hm z).mpr ⟨r, hr', hz⟩)
          · rw [Option.toList_some, List.mem_singleton] at hr'
            subst hr'
            by_cases m : z ∈ zs
            · exact .inl m
            · exact .inr ⟨hz, by simp [m]⟩
      · rw [List.length_append]
        have := List.length_filter_le (fun k => !decide (k ∈ zs)) rs[n].fits
        omega
    · obtain ⟨l, zs, x2, x3, x4, rfl, ex, hl, hn, hm, hlen⟩ := h
      rw [rel.len, List.take_length] at hm
      rw [rel.len] at hlen
      have hs := sortsOf_is rs
      refine s_retL (el_sortS (ev_var rfl) hl (by omega) fun ys hp hso => sorted_same hso hs.srt (hp.nodup_iff.mpr hn) hs.nd fun z => by rw [hp.mem_iff, hm, hs.mem]) fun p H2 hp e2 h2 => q p H2 (fresh_back ex hp) (ex.trans e2) h2
/-! ### an asker's price -/
def spLOver : Sp := fun vs H Q _ => ∃ (t wd kd : Addr) (r : K59.Row) (ws : List (List Key × Int)) (fd : List (Key × Int)), vs = [.ref t, .ref wd, .ref kd] ∧ LRow H (.ref t) r ∧ H wd = some (.dT (mI ws)) ∧ Rd H kd (.dK (mI fd)) ∧ r.fits.length ≤ 6 ∧ (∀ k ∈ r.fits, (lkI ws [.inr r.name, .inr k]).isSome = true ∧ (lkS fd k).isSome = true) ∧
  ∀ H', Ex H H' → Q (.int (mx0 (r.fits.map fun k => gtI ws [.inr r.name, .inr k] - gf fd k))) H'
theorem d_L_over {f : Addr} {fd : FuncData} (F : Fun K "_law_over" "_law_over" s_L_over f fd) (T : Txt K mg CA CL CM) : FnOk P w K mg base CX0 1 f fd ["_law_row", "_law_worths_here", "_law_kinds_here"] spLOver := by
  refine F.ok sc_L_over (fun vs H Q E h => ?_) (fun cdv A outer s H vs Q E hr h => ?_)
  · obtain ⟨_, _, _, _, _, _, rfl, _⟩ := h
    rfl
  · obtain ⟨t, wd, kd, r, ws, fd, rfl, ⟨_, f, e, h1, h2⟩, hw, hk, h6, has, q⟩ := h
    cases e
    refine ⟨_, (pss_one (ps_ret (pe_callB (maxK K rfl rfl) (by rfl) T.g_max boot_max (pa_cons (pe_op op_cat (pe_lst (pa_cons pe_int pa_nil)) (pe_lc (own := [("_law_kind", 3)]) (g := (gName 3)) (tt := tYes) rfl sc_L_over.nd (listK K rfl (pe_ix (ixTK K rfl) (pv 0) pe_int (fun _ _ => rfl))) (blkOk_by (own := [("_law_kind", 3)]) (N := ["_law_row", "_law_worths_here", "_law_kinds_here", "_law_kind"]) (sc := defScope s_L_over) (by decide +kernel)) (fun _ _ _ _ _ => (pg_name (i := 3) sc_L_over.nd rfl (by first | exact Or.inl rfl | exact Or.inr rfl))) (fun _ _ _ _ _ => pts_nil) (fun _ _ _ _ _ => (pe_op op_sub (pe_dget (hu_of hr) (pv 1) (pe_tup (pa_cons (pe_ix (ixTK K rfl) (pv 0) pe_int (fun _ _ => rfl)) (pa_cons (pv 3) pa_nil))) (fun _ _ => rfl)) (pe_dget (hu_of hr) (pv 2) (pv 3) (fun _ _ => rfl)))))) pa_nil)))), ?_⟩
    refine s_ret (ev_maxL (ns := 0 :: (r.fits.map fun k => gtI ws [.inr r.name, .inr k] - gf fd k)) (el_cat (xs := [.int 0]) (el_lst (ea1 ev_c) (by simp)) (ys := (r.fits.map fun k => gtI ws [.inr r.name, .inr k] - gf fd k).map V.int) ?_ ?_) (mx0_top _).1 (mx0_top _).2) q
    · have e := given_map r.fits (fun _ => true) (fun k => V.int (gtI ws [.inr r.name, .inr k] - gf fd k)) (f := fun _ => true) (v := fun j => .int (gtI ws [.inr r.name, .inr (r.fits.getD j default)] - gf fd (r.fits.getD j default))) fun j k hk => by rw [getD_of hk]; exact ⟨rfl, rfl⟩
      rw [List.filter_eq_self.mpr fun _ _ => rfl] at e
      rw [List.map_map]
      show EvL _ _ _ (r.fits.map fun k => V.int (gtI ws [.inr r.name, .inr k] - gf fd k))
      rw [← e, ← List.length_map (f := V.str)]
      refine el_lcLg (a := f) (fun _ => true) _ (ev_ixT (ev_var rfl) ev_c (st_get h1) (atI_get (i := 1) rfl)) (sq_get h2) (by rw [List.length_map]; omega) fun j x H3 e3 hx => ?_
      obtain ⟨k, hkk, rfl⟩ := get_map hx
      rw [getD_of hkk]
      obtain ⟨a1, a2⟩ := has k (List.mem_of_getElem? hkk)
      obtain ⟨v1, hv1⟩ := Option.isSome_iff_exists.mp a1
      obtain ⟨v2, hv2⟩ := Option.isSome_iff_exists.mp a2
      rw [show gtI ws [.inr r.name, .inr k] = v1 by unfold gtI; rw [hv1]; rfl, gf_of hv2]
      refine turnN rfl et_yes fun _ => ev_sub (ev_dgetU (ks := [.inr r.name, .inr k]) (ev_var rfl) (eu2 (ev_ixT (ev_var rfl) ev_c (st_get (e3 _ _ h1)) (atI_get (i := 0) rfl)) (ev_var rfl)) (e3 _ _ hw) (by rw [valV_mI, hv1]; rfl)) (ev_dget (ev_var rfl) (ev_var rfl) fun H4 e4 => ?_)
      refine .inl ⟨mI fd, .inr k, ex_rd (e3.trans e4) hk, rfl, ?_⟩
      rw [valV_mI, show lkI fd (.inr k) = some v2 from hv2]; rfl
    · rw [List.length_map, List.length_map]; simp only [List.length_singleton]; omega
/-! ### a stock with more -/
def withT (st : List (Key × Int)) (k : Str) (d : Int) : List (Key × Int) := putI st (.inr k) ((lkS st k).getD 0 + d)
def spLWith : Sp := fun vs H Q _ => ∃ (sd : Addr) (k : Str) (d : Int) (st : List (Key × Int)), vs = [.ref sd, .str k, .int d] ∧ H sd = some (.dK (mI st)) ∧ st.length ≤ 100 ∧ ∀ p H', H p = none → Ex H H' → H' p = some (.dK (mI (withT st k d))) → Q (.ref p) H'
theorem d_L_with {f : Addr} {fd : FuncData} (F : Fun K "_law_with" "_law_with" s_L_with f fd) (T : Txt K mg CA CL CM) : FnOk P w K mg base CX0 1 f fd ["_law_stock", "_law_kind", "_law_more"] spLWith := by
  refine F.ok sc_L_with (fun vs H Q E h => ?_) (fun cdv A outer s H vs Q E hr h => ?_)
  · obtain ⟨_, _, _, _, rfl, _⟩ := h
    rfl
  · obtain ⟨sd, k, d, st, rfl, hs, hl, q⟩ := h
    refine ⟨_, (pss_cons (ps_set (i := 3) sc_L_with.nd rfl (Or.inl rfl) (pe_callTy call_dictD (by rfl) T.g_dict boot_dict (pa_cons (pv 0) pa_nil)))
    (pss_cons (ps_dput (hu_of hr) (pv 3) (pv 1) (pe_op op_add (pe_dget2 (hu_of hr) (pv 3) (pv 1) pe_int (.mk rfl rfl rfl rfl)) (pv 2)) rfl)
    (pss_one (ps_ret (pv 3))))), ?_⟩
    refine q_asgN (R := isK (mI st)) (fun H1 e Q q => ⟨_, rfl, sd, mI st, rfl, .inl (e _ _ hs), fun p hp => q p _ hp (Ex.new hp) ⟨_, upd_same⟩ fun Hx _ k => k _ _ hp upd_same⟩) fun p H1 hp e1 _ nw => ?_
    have hp1 := nw.now (Ex.refl _) e1
    refine q_putS (k := k) (l := st) (v := (lkS st k).getD 0 + d) (ev_add (ev_get2S (ev_var rfl) (ev_var rfl) ev_c hp1) (ev_var rfl)) (ev_var rfl) (ev_var rfl) hp1 (by omega) fun H2 e2 => ?_
    exact s_ret (ev_var rfl) fun H3 e3 => q p H3 hp ((Ex.mut (e1.trans e2) hp).trans e3) (e3 _ _ upd_same)
/-! ### prices without those of kinds without bags -/
def bare (fd st : List (Key × Int)) : List (Key × Int) := fd.map fun x => (x.1, if 0 < (lkI st x.1).getD 0 then x.2 else 10 ^ 12)
def spWithout : Sp := fun vs H Q _ => ∃ (gd sd : Addr) (fd st : List (Key × Int)), vs = [.ref gd, .ref sd] ∧ Rd H gd (.dK (mI fd)) ∧ H gd = some (.dK (mI fd)) ∧ H sd = some (.dK (mI st)) ∧ (fd.map (·.1)).Nodup ∧ (∀ x ∈ fd, ∃ k, x.1 = .inr k) ∧ fd.length ≤ 100 ∧ ∀ p H', H p = none → Ex H H' → H' p = some (.dK (mI (bare fd st))) → Q (.ref p) H'
theorem d_L_without {f : Addr} {fd : FuncData} (F : Fun K "_law_without" "_law_without" s_L_without f fd) (T : Txt K mg CA CL CM) : FnOk P w K mg base CX0 1 f fd ["_law_greatest", "_law_stock"] spWithout := by
  refine F.ok sc_L_without (fun vs H Q E h => ?_) (fun cdv A outer s H vs Q E hr h => ?_)
  · obtain ⟨_, _, _, _, rfl, _⟩ := h
    rfl
  · obtain ⟨gd, sd, fd, st, rfl, _, hg, hs, hn, hk, hl, q⟩ := h
    refine ⟨_, (pss_cons (ps_set (i := 2) sc_L_without.nd rfl (Or.inl rfl) pe_dnewK)
    (pss_cons (ps_lock (ps_for PassesOwn.never rfl (pi_keys (pv 0)) (pg_name (i := 3) sc_L_without.nd rfl (by first | exact Or.inl rfl | exact Or.inr rfl))
    (pss_one (ps_dput (hu_of hr) (pv 2) (pv 3) (pe_ifExp (pt_cmpR op_gt (pe_dget2 (hu_of hr) (pv 1) (pv 3) pe_int (.mk rfl rfl rfl rfl)) pe_int (nomark _)) (pe_dget (hu_of hr) (pv 0) (pv 3) (fun _ _ => rfl)) (pe_op op_powS pe_int pe_int)) rfl))))
    (pss_one (ps_ret (pv 2))))), ?_⟩
    refine q_newK fun d H1 hd e1 h1 => ?_
    have ngs : gd = sd → mI fd = mI st := fun z => by subst z; rw [hg] at hs; exact HO.dK.inj (Option.some.inj hs)
    refine q_forK (d := gd) (kvs := mI fd) (e1 _ _ hg) (fun od => ev_var rfl) (fun od n σ' H' => (∃ x3, σ' = [some (.ref gd), some (.ref sd), some (.ref d), x3]) ∧ Ex (del H gd) H' ∧ H' gd = some (.frz od (.dK (mI fd))) ∧ H' d = some (.dK (mI (bare (fd.take n) st))))
      (fun od H2 e2 => ⟨⟨none, rfl⟩, ?_, e2 _ _ upd_same, ?_⟩) (fun od n σ' H' _ h => h.2.2.1) (fun od n k x σ' H' hx h => ?_) (fun od σ' H' h => ?_)
    · exact (Ex.mut ((del_ex _ _).trans e1) (del_self _ _)).trans e2
    · refine e2 _ _ ?_
      rw [upd_ne (ne_of_none hg hd).symm]; exact h1
    · obtain ⟨⟨x3, rfl⟩, ex, hgf, hdd⟩ := h
      obtain ⟨⟨k0, i0⟩, hfd, e0⟩ := get_map (l := fd) (f := fun x => (x.1, V.int x.2)) hx
      cases e0
      obtain ⟨kk, hkk⟩ := hk _ (List.mem_of_getElem? hfd)
      have hkk : k0 = .inr kk := hkk
      subst hkk
      have hgi : lkI fd (.inr kk) = some i0 := lkI_of_mem hn (List.mem_of_getElem? hfd)
      have rs : Rd H' sd (.dK (mI st)) := by
        by_cases z : gd = sd
        · rw [← ngs z, ← z]; exact .inr ⟨od, hgf⟩
        · exact .inl (ex _ _ (by rw [del_ne fun y => z y.symm]; exact hs))
      have hbl : (bare (fd.take n) st).length ≤ 100 := by unfold bare; rw [List.length_map, List.length_take]; omega
      have hnew : (.inr kk : Key) ∉ (bare (fd.take n) st).map (·.1) := by
        unfold bare
        rw [List.map_map]
        intro m
        obtain ⟨y, hy, e⟩ := List.mem_map.mp m
        obtain ⟨j, hj⟩ := List.getElem?_of_mem hy
        have hjn : j < n := by have := (List.getElem?_eq_some_iff.mp hj).1; rw [List.length_take] at this; omega
        rw [List.getElem?_take_of_lt hjn] at hj
        have := nodup_inj hn (i := j) (j := n) (a := .inr kk) (by rw [List.getElem?_map, hj]; exact congrArg some e) (by rw [List.getElem?_map, hfd]; rfl)
        omega
      refine s_putS (D := EndsK _ gd (.dK (mI fd)) od _) (k := kk) (l := bare (fd.take n) st) (v := if 0 < (lkI st (.inr kk)).getD 0 then i0 else 10 ^ 12) (ev_if (b := decide (0 < (lkI st (.inr kk)).getD 0)) (et_test (ev_gt (ev_is (ev_get2 (o := valV (mI st) (.inr kk)) (ev_var rfl) (fun H3 e3 => .inl ⟨_, ex_rd e3 rs⟩) (ev_var rfl) ev_c fun H3 e3 => .inl ⟨mI st, .inr kk, ex_rd e3 rs, rfl, rfl⟩) (getD_intN _ _ _)) ev_c)) (fun hb => ?_) (fun hb => ?_)) (ev_var rfl) (ev_var rfl) hdd (by omega) fun H3 e3 => ⟨⟨_, rfl⟩, ?_, ?_, ?_⟩
      · rw [if_pos (of_decide_eq_true hb)]
        refine ev_dget (ev_var rfl) (ev_var rfl) fun H3 e3 => ?_
        have := dget_strF (k := kk) hgf H3 e3
        rw [valV_mI, hgi] at this
        exact this
      · rw [if_neg (of_decide_eq_false hb)]
        exact ev_op ev_c ev_c (rv_I (show CPowS 10 12 from ⟨by decide, by decide +kernel⟩))
      · refine Ex.mut (ex.trans e3) ?_
        by_cases z : d = gd
        · rw [z]; exact del_self _ _
        · rw [del_ne z]; exact hd
      · rw [upd_ne (ne_of_none hg hd)]; exact e3 _ _ hgf
      · rw [upd_same, putI_new hnew]
        unfold bare
        rw [List.take_add_one, hfd, List.map_append]
        rfl
    · obtain ⟨⟨x3, rfl⟩, ex, hgf, hdd⟩ := h
      rw [len_mI, List.take_length] at hdd
      have hdg : d ≠ gd := (ne_of_none hg hd).symm
      refine s_ret (ev_var rfl) fun H3 e3 => q d H3 hd ?_ (e3 _ _ (by rw [upd_ne hdg]; exact hdd))
      refine Ex.trans (fun b o hb => ?_) e3
      by_cases z : b = gd
      · subst z; rw [upd_same]; rw [hg] at hb; exact hb
      · rw [upd_ne z]; exact ex _ _ (by rw [del_ne z]; exact hb)
end
end K59
namespace K59
open PySem PySem.Spec PyProof.Rows L2 Evl
section
variable {P : Program} {w : World} {K : PySem.W.Frag} {mg : Str → Option Value} {base : Heap} {CA CL CM : Addr}
/-- what the law hands about -/
structure LIn (H : Hp) (ra sd wd : Addr) (rs : List K59.Row) (st : List (Key × Int)) (ws : List (List Key × Int)) : Prop where
  rows : LRowsL H ra rs
  ro : RowsOk rs
  sd : H sd = some (.dK (mI st))
  so : StOk st
  wd : H wd = some (.dT (mI ws))
  wo : WsOk ws rs
  top : ∀ x ∈ st, x.2 ≤ 5
  few : st.length ≤ 6
theorem LIn.mono {H H' : Hp} {ra sd wd : Addr} {rs : List K59.Row} {st : List (Key × Int)} {ws : List (List Key × Int)} (h : LIn H ra sd wd rs st ws) (e : Ex H H') : LIn H' ra sd wd rs st ws := ⟨h.rows.mono e, h.ro, e _ _ h.sd, h.so, e _ _ h.wd, h.wo, h.top, h.few⟩
theorem stk_top {st : List (Key × Int)} (top : ∀ x ∈ st, x.2 ≤ 5) (k : Str) : stk st k ≤ 5 := by
  unfold stk
  cases e : lkS st k with
  | none => show (0 : Int) ≤ 5; decide
  | some v => exact top _ (mem_of_lkI e)
theorem map_range_getD {α β : Type} [Inhabited α] (l : List α) (f : α → β) : (List.range l.length).map (fun i => f (l.getD i default)) = l.map f := by
  refine List.ext_getElem (by simp) fun i h1 h2 => ?_
  simp only [List.getElem_map, List.getElem_range]
  rw [List.length_map] at h2
  rw [List.getD_eq_getElem?_getD, List.getElem?_eq_getElem h2]; rfl
def kstr : Key → Str
  | .inr k => k
  | .inl _ => default
theorem kinds_keys {fd : List (Key × Int)} {S : List Str} (h : KeysI fd S) : ((fd.map fun x => kstr x.1).Nodup) ∧ ∀ k, k ∈ (fd.map fun x => kstr x.1) ↔ k ∈ S := by
  have e : fd.map (·.1) = (fd.map fun x => kstr x.1).map Sum.inr := by
    rw [List.map_map]
    refine List.map_congr_left fun x hx => ?_
    obtain ⟨k, _, e⟩ := h.ks x.1 (List.mem_map.mpr ⟨x, hx, rfl⟩)
    show x.1 = Sum.inr (kstr x.1)
    rw [e]; rfl
  refine ⟨?_, fun k => ?_⟩
  · have := h.nd
    rw [e] at this
    exact (List.pairwise_map.mp this).imp fun {a b} h e => h (by rw [e])
  · have h1 : k ∈ (fd.map fun x => kstr x.1) ↔ (Sum.inr k : Key) ∈ fd.map (·.1) := by
      rw [e]
      exact ⟨fun z => List.mem_map.mpr ⟨k, z, rfl⟩, fun z => by
        obtain ⟨j, hj, ej⟩ := List.mem_map.mp z
        rw [← Sum.inr.inj ej]; exact hj⟩
    rw [h1]
    constructor
    · intro m
      obtain ⟨j, hj, ej⟩ := h.ks _ m
      rw [Sum.inr.inj ej]; exact hj
    · intro m
      exact lkI_isSome.mp (h.all k m)
/-- what prices cost -/
noncomputable def cost (rs : List K59.Row) (st : List (Key × Int)) (ws : List (List Key × Int)) (fd : List (Key × Int)) : Int := (theI rs ws).dobj (stk st) (gf fd) ((theI rs ws).over (gf fd))
theorem cost_eq {rs : List K59.Row} {st fd : List (Key × Int)} {ws : List (List Key × Int)} (ki : KeysI fd (sortsOf rs)) :
    (fd.map fun x => stk st (kstr x.1) * gf fd (kstr x.1)).sum + (rs.map fun r => r.most * mx0 (r.fits.map fun k => gtI ws [.inr r.name, .inr k] - gf fd k)).sum = cost rs st ws fd := by
  obtain ⟨k1, k2⟩ := kinds_keys ki
  unfold cost Inst.dobj
  congr 1
  · have : (fd.map fun x => stk st (kstr x.1) * gf fd (kstr x.1)) = (fd.map fun x => kstr x.1).map fun k => stk st k * gf fd k := by rw [List.map_map]; rfl
    rw [this, sm_sum]
    exact sm_same k1 (sortsOf_is rs).nd fun k => by rw [k2]; rfl
  · rw [← map_range_getD rs fun r => r.most * mx0 (r.fits.map fun k => gtI ws [.inr r.name, .inr k] - gf fd k), sm_sum]
    refine sm_congr fun i hi => ?_
    have hi : i < rs.length := List.mem_range.mp hi
    show (rs.getD i default).most * _ = (rs.map (·.most)).getD i 0 * _
    rw [want_mk hi]
    rfl
def spLSum : Sp := fun vs H Q _ => ∃ (ra sd wd kd : Addr) (rs : List K59.Row) (st : List (Key × Int)) (ws : List (List Key × Int)) (fd : List (Key × Int)), vs = [.ref ra, .ref sd, .ref wd, .ref kd] ∧ LIn H ra sd wd rs st ws ∧ H kd = some (.dK (mI fd)) ∧ KeysI fd (sortsOf rs) ∧
  ∀ H', Ex H H' → Q (.int (cost rs st ws fd)) H'
theorem d_L_sum {f : Addr} {fd : FuncData} (F : Fun K "_law_sum" "_law_sum" s_L_sum f fd) (T : Txt K mg CA CL CM) (c_L_over : CalK P w K mg base 1 "_law_over" spLOver) : FnOk P w K mg base CX0 2 f fd ["_law_rows_here", "_law_stock", "_law_worths_here", "_law_kinds_here"] spLSum := by
  refine F.ok sc_L_sum (fun vs H Q E h => ?_) (fun cdv A outer s H vs Q E hr h => ?_)
  · obtain ⟨_, _, _, _, _, _, _, _, rfl, _⟩ := h
    rfl
  · obtain ⟨ra, sd, wd, kd, rs, st, ws, fd, rfl, L, hk, ki, q⟩ := h
    refine ⟨_, (pss_cons (ps_set (i := 4) sc_L_sum.nd rfl (Or.inl rfl) (pe_callB (sumK K rfl rfl) (by rfl) T.g_sum boot_sum (pa_cons (pe_lock (pe_lc (own := [("_law_kind", 5)]) (g := (gName 5)) (tt := tYes) rfl sc_L_sum.nd (pi_keys (pv 3)) (blkOk_by (own := [("_law_kind", 5)]) (N := ["_law_rows_here", "_law_stock", "_law_worths_here", "_law_kinds_here", "_law_total", "_law_kind", "_law_row"]) (sc := defScope s_L_sum) (by decide +kernel)) (fun _ _ _ _ _ => (pg_name (i := 5) sc_L_sum.nd rfl (by first | exact Or.inl rfl | exact Or.inr rfl))) (fun _ _ _ _ _ => pts_nil) (fun _ _ _ _ _ => (pe_op op_mul (pe_dget2 (hu_of hr) (pv 1) (pv 5) pe_int (.mk rfl rfl rfl rfl)) (pe_dget (hu_of hr) (pv 3) (pv 5) (fun _ _ => rfl)))))) pa_nil)))
    (pss_one (ps_ret (pe_op op_add (pv 4) (pe_callB (sumK K rfl rfl) (by rfl) T.g_sum boot_sum (pa_cons (pe_lc (own := [("_law_row", 6)]) (g := (gName 6)) (tt := tYes) rfl sc_L_sum.nd (listK K rfl (pv 0)) (blkOk_by (own := [("_law_row", 6)]) (N := ["_law_rows_here", "_law_stock", "_law_worths_here", "_law_kinds_here", "_law_total", "_law_kind", "_law_row"]) (sc := defScope s_L_sum) (by decide +kernel)) (fun _ _ _ _ _ => (pg_name (i := 6) sc_L_sum.nd rfl (by first | exact Or.inl rfl | exact Or.inr rfl))) (fun _ _ _ _ _ => pts_nil) (fun _ _ _ _ _ => (pe_op op_mul (pe_ix (ixTK K rfl) (pv 6) pe_int (fun _ _ => rfl)) (ec c_L_over hr (by decide) rfl (pa_cons (pv 6) (pa_cons (pv 2) (pa_cons (pv 3) pa_nil))))))) pa_nil)))))), ?_⟩
    obtain ⟨vs, hvs, rel⟩ := L.rows
    have hfew := L.ro.few
    have hsf := sorts_few L.ro.small
    have hkl := ki.len
    refine q_asg (v := .int (fd.map fun x => stk st (kstr x.1) * gf fd (kstr x.1)).sum) (ev_sumL ?_) fun H1 e1 => ?_
    · have e := given_map fd (fun _ => true) (fun x => V.int (stk st (kstr x.1) * gf fd (kstr x.1))) (f := fun _ => true) (v := fun j => .int (stk st (kstr (fd.getD j (.inl 0, 0)).1) * gf fd (kstr (fd.getD j (.inl 0, 0)).1))) fun j x hx => by rw [List.getD_eq_getElem?_getD, hx]; exact ⟨rfl, rfl⟩
      rw [List.filter_eq_self.mpr fun _ _ => rfl] at e
      rw [List.map_map]
      show EvL _ _ _ (fd.map fun x => V.int (stk st (kstr x.1) * gf fd (kstr x.1)))
      rw [← e, ← len_mI]
      refine el_lcK (fun _ => true) _ hk (fun od => ev_var rfl) (by rw [len_mI]; omega) fun od i k x H2 e2 hx => ?_
      obtain ⟨⟨k0, i0⟩, hfd, e0⟩ := get_map (l := fd) (f := fun x => (x.1, V.int x.2)) hx
      cases e0
      obtain ⟨kk, hkk, e1⟩ := ki.ks k0 (List.mem_map.mpr ⟨_, List.mem_of_getElem? hfd, rfl⟩)
      subst e1
      rw [List.getD_eq_getElem?_getD, hfd, Option.getD_some]
      have hs2 : Rd H2 sd (.dK (mI st)) := by
        by_cases z : sd = kd
        · subst z
          have em := HO.dK.inj (Option.some.inj (L.sd.symm.trans hk))
          rw [em]
          exact .inr ⟨od, e2 _ _ upd_same⟩
        · exact .inl (e2 _ _ (by rw [upd_ne z]; exact L.sd))
      have b1 := stk_nn L.so kk
      have b2 := stk_top L.top kk
      refine turnN rfl et_yes fun _ => ev_mul (i := stk st kk) (j := gf fd kk) (ev_is (ev_get2 (o := valV (mI st) (.inr kk)) (ev_var rfl) (fun H3 e3 => .inl ⟨_, ex_rd e3 hs2⟩) (ev_var rfl) ev_c fun H3 e3 => .inl ⟨mI st, .inr kk, ex_rd e3 hs2, rfl, rfl⟩) (getD_intN _ _ _)) (ev_dget (ev_var rfl) (ev_var rfl) fun H3 e3 => ?_) (.inl ⟨by omega, by omega⟩)
      have := dget_strF (k := kk) (e2 _ _ upd_same) H3 e3
      rw [valV_mI, ki.get hkk] at this
      exact this
    · refine s_ret (v := .int (cost rs st ws fd)) (ev_is (ev_add (j := (rs.map fun r => r.most * mx0 (r.fits.map fun k => gtI ws [.inr r.name, .inr k] - gf fd k)).sum) (ev_var rfl) (ev_sumL ?_)) (by rw [cost_eq ki])) fun H2 e2 => q H2 (e1.trans e2)
      have e := given_map rs (fun _ => true) (fun r => V.int (r.most * mx0 (r.fits.map fun k => gtI ws [.inr r.name, .inr k] - gf fd k))) (f := fun _ => true) (v := fun j => .int ((rs.getD j default).most * mx0 ((rs.getD j default).fits.map fun k => gtI ws [.inr (rs.getD j default).name, .inr k] - gf fd k))) fun j x hx => by rw [getD_of hx]; exact ⟨rfl, rfl⟩
      rw [List.filter_eq_self.mpr fun _ _ => rfl, ← rel.len] at e
      rw [List.map_map]
      show EvL _ _ _ (rs.map fun r => V.int (r.most * mx0 (r.fits.map fun k => gtI ws [.inr r.name, .inr k] - gf fd k)))
      rw [← e]
      refine el_lcLg (a := ra) (fun _ => true) _ (ev_var rfl) (sq_get (e1 _ _ hvs)) (by rw [rel.len]; omega) fun i x H2 e2 hx => ?_
      have hi : i < rs.length := by rw [← rel.len]; exact (List.getElem?_eq_some_iff.mp hx).1
      have hr : rs[i]? = some rs[i] := List.getElem?_eq_getElem hi
      have hrm := List.getElem_mem hi
      obtain ⟨t, f, rfl, h3, h4⟩ := rel.get i x _ hx hr
      rw [getD_of hr]
      have ro := L.ro.ok _ hrm
      have m1 := ro.m1
      have m2 := ro.m2
      refine turnN rfl et_yes fun _ => ev_mul (ev_ixT (ev_var rfl) ev_c (st_get ((e1.trans e2) _ _ h3)) (atI_get (i := 2) rfl)) (ev_callN (vs := [.ref t, .ref wd, .ref kd]) (ea3 (ev_var rfl) (ev_var rfl) (ev_var rfl)) fun H3 e3 Q q _ => ⟨t, wd, kd, rs[i], ws, fd, rfl, ⟨t, f, rfl, ((e1.trans e2).trans e3) _ _ h3, ((e1.trans e2).trans e3) _ _ h4⟩, ((e1.trans e2).trans e3) _ _ L.wd, .inl (((e1.trans e2).trans e3) _ _ hk), ro.few, fun k hkf => ⟨?_, ?_⟩, q⟩) (.inl ⟨by omega, by omega⟩)
      · exact L.wo.has (rs[i].name, k) (List.mem_flatMap.mpr ⟨_, hrm, List.mem_map.mpr ⟨k, hkf, rfl⟩⟩)
      · exact ki.all k (((sortsOf_is rs).mem k).mpr ⟨_, hrm, hkf⟩)
/-! ### all prices -/
def stepP (k : Str) (one : List (Key × Int)) : List (List (Key × Int)) := (List.range 7).map fun (n : Nat) => withT one k (n : Int)
def allP (ks : List Str) : List (List (Key × Int)) := ks.foldl (fun L k => L.flatMap (stepP k)) [[]]
theorem allP_snoc (ks : List Str) (k : Str) : allP (ks ++ [k]) = (allP ks).flatMap (stepP k) := by
  unfold allP
  rw [List.foldl_append]
  rfl
def isT (l : List (Key × Int)) : RN := isK (mI l)
theorem allP_len (ks : List Str) : ∀ n, n ≤ ks.length → (∀ t ∈ allP (ks.take n), t.length ≤ n) ∧ (allP (ks.take n)).length ≤ 7 ^ n := by
  intro n
  induction n with
  | zero => intro _; exact ⟨fun t ht => by rw [show allP (ks.take 0) = [[]] from rfl, List.mem_singleton] at ht; subst ht; exact Nat.le_refl 0, by show 1 ≤ 1; decide⟩
  | succ n ih =>
    intro hn
    obtain ⟨h1, h2⟩ := ih (by omega)
    have hk : ks[n]? = some ks[n] := List.getElem?_eq_getElem (by omega)
    rw [List.take_add_one, hk, Option.toList_some, allP_snoc]
    refine ⟨fun t ht => ?_, ?_⟩
    · obtain ⟨y, hy, ht⟩ := List.mem_flatMap.mp ht
      obtain ⟨m, _, rfl⟩ := List.mem_map.mp ht
      have := h1 y hy
      have := length_put y (.inr ks[n]) ((lkS y ks[n]).getD 0 + (m : Int))
      show (putI y _ _).length ≤ n + 1
      omega
    · rw [List.length_flatMap]
      have : ∀ l : List (List (Key × Int)), (l.map fun x => (stepP ks[n] x).length).sum = 7 * l.length := by
        intro l
        induction l with
        | nil => rfl
        | cons x l ihl =>
          rw [List.map_cons, List.sum_cons, List.length_cons, ihl]
          show ((List.range 7).map _).length + _ = _
          rw [List.length_map, List.length_range]
          omega
      rw [this, Nat.pow_succ]
      omega
theorem relP_app {ps qs : List Addr} {Rs Ss : List RN} {H : Hp} (h : RelP ps Rs H) (g : RelP qs Ss H) : RelP (ps ++ qs) (Rs ++ Ss) H := by
  refine ⟨by rw [List.length_append, List.length_append, h.1, g.1], fun i q R a b => ?_⟩
  by_cases hi : i < ps.length
  · rw [List.getElem?_append_left hi] at a
    rw [List.getElem?_append_left (by rw [← h.1]; exact hi)] at b
    exact h.2 i q R a b
  · rw [List.getElem?_append_right (by omega)] at a
    rw [List.getElem?_append_right (by rw [← h.1]; omega), ← h.1] at b
    exact g.2 _ q R a b
theorem isT_mono {L : List (List (Key × Int))} {ps : List Addr} {H H' : Hp} (e : Ex H H') (h : RelP ps (L.map isT) H) : RelP ps (L.map isT) H' := relP_mono (fun R hR q r => by
  obtain ⟨y, _, rfl⟩ := List.mem_map.mp hR
  exact e _ _ r) h
def spAllP : Sp := fun vs H Q _ => ∃ (kl : Addr) (ks : List Str), vs = [.ref kl, .int 6] ∧ H kl = some (.lst (ks.map V.str)) ∧ ks.length ≤ 3 ∧ ∀ p ps H', H p = none → Ex H H' → H' p = some (.lst (ps.map V.ref)) → RelP ps ((allP ks).map isT) H' → Q (.ref p) H'
theorem d_L_all_prices {f : Addr} {fd : FuncData} (F : Fun K "_law_all_prices" "_law_all_prices" s_L_all_prices f fd) (T : Txt K mg CA CL CM) (c_L_with : CalK P w K mg base 1 "_law_with" spLWith) : FnOk P w K mg base CX0 2 f fd ["_law_kinds_here", "_law_most"] spAllP := by
  refine F.ok sc_L_all_prices (fun vs H Q E h => ?_) (fun cdv A outer s H vs Q E hr h => ?_)
  · obtain ⟨_, _, rfl, _⟩ := h
    rfl
  · obtain ⟨kl, ks, rfl, hkl, h3, q⟩ := h
    refine ⟨_, (pss_cons (ps_set (i := 2) sc_L_all_prices.nd rfl (Or.inl rfl) (pe_lst (pa_cons pe_dnewK pa_nil)))
    (pss_cons (ps_for PassesOwn.never rfl (listK K rfl (pv 0)) (pg_name (i := 3) sc_L_all_prices.nd rfl (by first | exact Or.inl rfl | exact Or.inr rfl))
    (pss_cons (ps_set (i := 4) sc_L_all_prices.nd rfl (Or.inl rfl) (pe_lst pa_nil))
    (pss_cons (ps_for PassesOwn.never rfl (listK K rfl (pv 2)) (pg_name (i := 5) sc_L_all_prices.nd rfl (by first | exact Or.inl rfl | exact Or.inr rfl))
    (pss_one (ps_set (i := 4) sc_L_all_prices.nd rfl (Or.inl rfl) (pe_op op_cat (pv 4) (pe_lc (own := [("_law_number", 6)]) (g := (gName 6)) (tt := tYes) rfl sc_L_all_prices.nd (pi_range1 rfl T.g_range (pa_cons (pe_op op_add (pv 1) pe_int) pa_nil)) (blkOk_by (own := [("_law_number", 6)]) (N := ["_law_kinds_here", "_law_most", "_law_found", "_law_kind", "_law_longer", "_law_one", "_law_number"]) (sc := defScope s_L_all_prices) (by decide +kernel)) (fun _ _ _ _ _ => (pg_name (i := 6) sc_L_all_prices.nd rfl (by first | exact Or.inl rfl | exact Or.inr rfl))) (fun _ _ _ _ _ => pts_nil) (fun _ _ _ _ _ => (ec c_L_with hr (by decide) rfl (pa_cons (pv 5) (pa_cons (pv 3) (pa_cons (pv 6) pa_nil))))))))))
    (pss_one (ps_set (i := 2) sc_L_all_prices.nd rfl (Or.inl rfl) (pv 4))))))
    (pss_one (ps_ret (pv 2))))), ?_⟩
    have enew : EvN tDNewK ([some (.ref kl), some (.int 6), none, none, none, none, none] : L2.St) H H (isT []) := fun H1 e Q q p hp => q p _ hp (Ex.new hp) ⟨_, upd_same⟩ fun Hx _ k => k _ _ hp upd_same
    refine q_asgN (en_lst1 enew) fun l0 H1 hl0 e1 _ nw => ?_
    obtain ⟨ps0, hps0, r0⟩ := nw.now (Ex.refl _) e1
    refine q_forLn (a := kl) (xs := ks.map V.str) (ev_var rfl) (sq_get (e1 _ _ hkl)) (fun n σ' H' => ∃ (l : Addr) (ps : List Addr) (x3 x4 x5 : Option V), σ' = [some (.ref kl), some (.int 6), some (.ref l), x3, x4, x5, none] ∧ Ex H H' ∧ H l = none ∧ H' l = some (.lst (ps.map V.ref)) ∧ RelP ps ((allP (ks.take n)).map isT) H')
      (fun H2 e2 => ⟨l0, ps0, none, none, none, rfl, e1.trans e2, hl0, e2 _ _ hps0, isT_mono e2 r0⟩) (fun n σ' H' _ h => by obtain ⟨_, _, _, _, _, _, ex, _⟩ := h; exact sq_get (ex _ _ hkl)) (fun n x σ' H' hx h => ?_) (fun σ' H' h => ?_)
    · obtain ⟨l, ps, x3, x4, x5, rfl, ex, hl0', hl, rP⟩ := h
      obtain ⟨k, hk, rfl⟩ := get_map hx
      have hn : n < ks.length := (List.getElem?_eq_some_iff.mp hk).1
      obtain ⟨al1, al2⟩ := allP_len ks n (by omega)
      have hpl : ps.length = (allP (ks.take n)).length := by rw [rP.1, List.length_map]
      have h7 : 7 ^ n ≤ 49 := by
        have : n = 0 ∨ n = 1 ∨ n = 2 := by omega
        rcases this with e | e | e <;> subst e <;> decide
      refine q_asgN en_lst0 fun g0 H2 hg0 e2 _ nw2 => ?_
      obtain ⟨qs0, hqs0, rq0⟩ := nw2.now (Ex.refl _) e2
      refine q_forLn (a := l) (xs := ps.map V.ref) (ev_var rfl) (sq_get (e2 _ _ hl)) (fun j σ' H' => ∃ (g : Addr) (qs : List Addr) (x5 : Option V), σ' = [some (.ref kl), some (.int 6), some (.ref l), some (.str k), some (.ref g), x5, none] ∧ Ex H H' ∧ H g = none ∧ H' l = some (.lst (ps.map V.ref)) ∧ RelP ps ((allP (ks.take n)).map isT) H' ∧ H' g = some (.lst (qs.map V.ref)) ∧ RelP qs ((((allP (ks.take n)).take j).flatMap (stepP k)).map isT) H' ∧ qs.length ≤ 7 * j)
        (fun H3 e3 => ⟨g0, qs0, x5, rfl, ex.trans (e2.trans e3), fresh_back ex hg0, e3 _ _ (e2 _ _ hl), isT_mono (e2.trans e3) rP, e3 _ _ hqs0, isT_mono (L := []) e3 rq0, by rw [rq0.1]; exact Nat.zero_le _⟩) (fun j σ' H' _ h => by obtain ⟨_, _, _, _, _, _, hh, _⟩ := h; exact sq_get hh) (fun j x σ' H' hx h => ?_) (fun σ' H' h => ?_)
      · obtain ⟨g, qs, x5, rfl, ex3, hg, hl3, rP3, hg3, rq3, hql⟩ := h
        obtain ⟨p, hp, rfl⟩ := get_map hx
        have hj : j < (allP (ks.take n)).length := by rw [← hpl]; exact (List.getElem?_eq_some_iff.mp hp).1
        have hL : (allP (ks.take n))[j]? = some (allP (ks.take n))[j] := List.getElem?_eq_getElem hj
        have hpT : H' p = some (.dK (mI (allP (ks.take n))[j])) := rP3.2 j p (isT (allP (ks.take n))[j]) hp (by rw [List.getElem?_map, hL]; rfl)
        have htl := al1 _ (List.getElem_mem hj)
        generalize (allP (ks.take n))[j] = one at hL hpT htl
        have hen : EvN (tLc (iRng1 (tCons (tOp (rI0 fun i j => .int (i + j)) (tVar 1) (tC (.int 1))) tNil)) (gName 6) tYes (tCall spLWith [] E0 (tCons (tVar 5) (tCons (tVar 3) (tCons (tVar 6) tNil)))) [6]) ([some (.ref kl), some (.int 6), some (.ref l), some (.str k), some (.ref g), some (.ref p), none] : L2.St) H' H' (NewL ((stepP k one).map isT)) := by
          have e := gvN_map (List.range 7) (fun _ => true) (fun (m : Nat) => isT (withT one k (m : Int))) (f := fun _ => true) (R := fun (m : Nat) => isT (withT one k (m : Int))) fun i a ha => by
            have := (List.getElem?_eq_some_iff.mp ha).2
            rw [List.getElem_range] at this
            subst this
            exact ⟨rfl, rfl⟩
          rw [List.filter_eq_self.mpr fun _ _ => rfl, List.length_range] at e
          have e' : (stepP k one).map isT = gvN 7 (fun _ => true) (fun (m : Nat) => isT (withT one k (m : Int))) := by
            rw [e]
            unfold stepP
            rw [List.map_map]
            rfl
          rw [e']
          refine en_lcR (n := 7) (fun _ => true) _ (Ex.refl _) (ea1 (ev_is (ev_add (i := 6) (j := 1) (ev_var rfl) ev_c) rfl)) (by decide) fun i H4 e4 hi => nturn1 rfl et_yes fun _ => ?_
          intro H5 e5 Q q
          refine ⟨_, rfl, _, rfl, _, rfl, p, k, (i : Int), one, rfl, (e4.trans e5) _ _ hpT, by omega, fun d H6 hd e6 h6 => q d H6 hd e6 ⟨_, h6⟩ fun Hx _ kk => kk _ _ hd h6⟩
        show tAsg (tOp rCat (tVar 4) _) (gName 4) _ _ _
        refine ⟨.ref g, rfl, hen H' (Ex.refl _) _ fun p2 H4 hp2 e4 _ nw4 => ?_⟩
        obtain ⟨rs', hrs', rr⟩ := nw4.now (Ex.refl _) e4
        have hrl : rs'.length = 7 := by rw [rr.1, List.length_map]; show ((List.range 7).map _).length = 7; simp
        refine ⟨g, p2, qs.map V.ref, rs'.map V.ref, rfl, rfl, e4 _ _ hg3, hrs', sz_of (by rw [List.length_map, List.length_map]; omega), fun g' hg' => ?_⟩
        have e5 := Ex.new (o := .lst (qs.map V.ref ++ rs'.map V.ref)) hg'
        refine ⟨g', qs ++ rs', _, rfl, (ex3.trans e4).trans e5, fresh_back (ex3.trans e4) hg', e5 _ _ (e4 _ _ hl3), isT_mono (e4.trans e5) rP3, by rw [upd_same, List.map_append], ?_, by rw [List.length_append]; omega⟩
        rw [List.take_add_one, hL, List.flatMap_append, List.map_append]
        refine relP_app (isT_mono (e4.trans e5) rq3) ?_
        have := isT_mono e5 rr
        simpa using this
      · obtain ⟨g, qs, x5, rfl, ex3, hg, hl3, rP3, hg3, rq3, hql⟩ := h
        rw [List.length_map, hpl, List.take_length] at rq3
        refine s_asg (v := .ref g) (ev_var rfl) fun H4 e4 => ⟨g, qs, _, _, _, rfl, ex3.trans e4, hg, e4 _ _ hg3, ?_⟩
        rw [List.take_add_one, hk, Option.toList_some, allP_snoc]
        exact isT_mono e4 rq3
    · obtain ⟨l, ps, x3, x4, x5, rfl, ex, hl0', hl, rP⟩ := h
      rw [List.length_map, List.take_length] at rP
      exact s_ret (ev_var rfl) fun H2 e2 => q l ps H2 hl0' (ex.trans e2) (e2 _ _ hl) (isT_mono e2 rP)
end
end K59
namespace K59
open PySem PySem.Spec PyProof.Rows L2 Evl
section
variable {P : Program} {w : World} {K : PySem.W.Frag} {mg : Str → Option Value} {base : Heap} {CA CL CM : Addr}
/-! ### the line of rows -/
theorem en_ask {σ : L2.St} {B H : Hp} {ta tb tc : TE} {E : XK} {r : K59.Row} (ro : RowOk r) (h1 : Ev ta σ H (.str r.name)) (h2 : EvL tb σ H (r.fits.map V.str)) (h3 : Ev tc σ H (.int r.most)) : EvN (tMake CA (spAsker CA) [] E (tCons ta (tCons tb (tCons tc tNil)))) σ B H (AskAt CA r) := fun H0 e Q q =>
  h1 H0 e _ fun H1 e1 => h2 H1 (e.trans e1) _ fun l H2 hl e2 hl2 => h3 H2 ((e.trans e1).trans e2) _ fun H3 e3 => fun x dx hx hdx hne => by
    have eN : Ex H3 (upd (upd H3 dx (.own x)) x (.ins CA dx [])) := Ex.mut (Ex.new hdx) hx
    refine ⟨x, dx, l, r, H3, rfl, ro, upd_same, eN, hx, e3 _ _ hl2, fun t ft H' ex ht hft hx' ht' hft' => ⟨rfl, ?_⟩⟩
    have e03 := (e1.trans e2).trans e3
    refine q x H' (fresh_back e03 hx) (e03.trans ex) ⟨_, hx'⟩ fun Hx _ k => ⟨dx, t, k _ _ (fresh_back e03 hx) hx', t, ft, rfl, k _ _ (fresh_back (e03.trans eN) ht) ht', k _ _ (fresh_back (e03.trans eN) hft) hft'⟩
theorem s_rmake {σ : L2.St} {H : Hp} {te : TE} {C : Addr} {sp : Sp} {E : XK} {R : RN} {D : Ends} (h : EvN te σ H H R) (k : ∀ p H1, H p = none → Ex H H1 → Nw H H H1 (R p) → ∀ x dx, H1 x = none → H1 dx = none → dx ≠ x → sp [.ref x, .ref p] (upd (upd H1 dx (.own x)) x (.ins C dx [])) (fun v H2 => v = .non ∧ D.rt (.ref x) H2) E) :
    tRet (tMake C sp [] E (tCons te tNil)) D σ H := h H (Ex.refl H) _ fun p H1 hp e _ nw => fun x dx hx hdx hne => k p H1 hp e nw x dx hx hdx hne
def spLineOf (CL : Addr) : Sp := fun vs H Q _ => ∃ (ra : Addr) (rs : List K59.Row), vs = [.ref ra] ∧ LRowsL H ra rs ∧ RowsOk rs ∧ ∀ l H', H l = none → Ex H H' → LineAt CL H' l rs → Q (.ref l) H'
theorem d_L_line_of {f : Addr} {fd : FuncData} (F : Fun K "_law_line_of" "_law_line_of" s_L_line_of f fd) (T : Txt K mg CA CL CM) (k_Asker : MakK P w K mg base 3 "Asker" CA (spAsker CA)) (k_Line : MakK P w K mg base 1 "Line" CL (spLine CA CL)) : FnOk P w K mg base CX0 5 f fd ["_law_rows_here"] (spLineOf CL) := by
  refine F.ok sc_L_line_of (fun vs H Q E h => ?_) (fun cdv A outer s H vs Q E hr h => ?_)
  · obtain ⟨_, _, rfl, _⟩ := h
    rfl
  · obtain ⟨ra, rs, rfl, ⟨vs, hvs, rel⟩, ro, q⟩ := h
    refine ⟨_, (pss_one (ps_ret (ek k_Line hr (by decide) rfl (pa_cons (pe_lc (own := [("_law_name", 1), ("_law_fits_here", 2), ("_law_most", 3)]) (g := (gTup K 3 (gCons (gName 1) (gCons (gName 2) (gCons (gName 3) gNil))))) (tt := tYes) rfl sc_L_line_of.nd (listK K rfl (pv 0)) (blkOk_by (own := [("_law_name", 1), ("_law_fits_here", 2), ("_law_most", 3)]) (N := ["_law_rows_here", "_law_name", "_law_fits_here", "_law_most"]) (sc := defScope s_L_line_of) (by decide +kernel)) (fun _ _ _ _ _ => (tupTK K rfl rfl (pgs_cons (pg_name (i := 1) sc_L_line_of.nd rfl (by first | exact Or.inl rfl | exact Or.inr rfl)) (pgs_cons (pg_name (i := 2) sc_L_line_of.nd rfl (by first | exact Or.inl rfl | exact Or.inr rfl)) (pgs_cons (pg_name (i := 3) sc_L_line_of.nd rfl (by first | exact Or.inl rfl | exact Or.inr rfl)) pgs_nil))))) (fun _ _ _ _ _ => pts_nil) (fun _ _ _ _ _ => (ek k_Asker hr (by decide) rfl (pa_cons (pv 1) (pa_cons (pe_callTy (listofK K rfl) (by rfl) T.g_list boot_list (pa_cons (pv 2) pa_nil)) (pa_cons (pv 3) pa_nil)))))) pa_nil)))), ?_⟩
    have hfew := ro.few
    have e := gvN_map rs (fun _ => true) (fun r => AskAt CA r) (f := fun _ => true) (R := fun j => AskAt CA (rs.getD j default)) fun j r hr => by rw [getD_of hr]; exact ⟨rfl, rfl⟩
    rw [List.filter_eq_self.mpr fun _ _ => rfl, ← rel.len] at e
    have hen : EvN (tLc (iList K (tVar 0)) (gTup K 3 (gCons (gName 1) (gCons (gName 2) (gCons (gName 3) gNil)))) tYes (tMake CA (spAsker CA) [] E0 (tCons (tVar 1) (tCons (tCB (rListS K) (tCons (tVar 2) tNil)) (tCons (tVar 3) tNil)))) [1, 2, 3]) ([some (.ref ra), none, none, none] : L2.St) H H (NewL (rs.map (AskAt CA))) := by
      rw [← e]
      refine en_lcL (a := ra) (fun _ => true) _ (Ex.refl _) (ev_var rfl) (sq_get hvs) (by rw [rel.len]; omega) fun i x H1 e1 hx => ?_
      have hi : i < rs.length := by rw [← rel.len]; exact (List.getElem?_eq_some_iff.mp hx).1
      have hr : rs[i]? = some rs[i] := List.getElem?_eq_getElem hi
      obtain ⟨t, f, rfl, h3, h4⟩ := rel.get i x _ hx hr
      rw [getD_of hr]
      exact nturn3 (e1 _ _ h3) rfl et_yes fun _ => en_ask (ro.ok _ (List.getElem_mem hi)) (ev_var rfl) (el_list (ev_var rfl) (sq_get (e1 _ _ h4))) (ev_var rfl)
    refine s_rmake hen fun p H1 hp e1 nw x dx hx hdx hne => ?_
    obtain ⟨ps, hps, rP⟩ := nw.now (Ex.refl _) e1
    have eN : Ex H1 (upd (upd H1 dx (.own x)) x (.ins CL dx [])) := Ex.mut (Ex.new hdx) hx
    refine ⟨x, dx, p, ps, rs, H1, rfl, upd_same, eN, hx, hps, rP, ro.nd, ro.few, fun al e ts H' ex hal he hx' hal' he' rel' => ⟨rfl, ?_⟩⟩
    exact q x H' (fresh_back e1 hx) (e1.trans ex) ⟨dx, al, e, hx', ts.map V.ref, he', rel'.imp fun _ _ => PRow.mono ex⟩
/-! ### all ways of a row -/
abbrev Wy := (Str → Int) × Int × List Int
def WayAt (kh : List Str) (H : Hp) (v : V) (x : Wy) : Prop := ∃ t r q, v = .ref t ∧ H t = some (.tup [.ref r, .int x.2.1, .ref q]) ∧ H r = some (.tup (kh.map fun k => .int (x.1 k))) ∧ H q = some (.tup (x.2.2.map V.int))
theorem WayAt.mono {kh : List Str} {H H' : Hp} (e : Ex H H') {v : V} {x : Wy} (h : WayAt kh H v x) : WayAt kh H' v x := let ⟨t, r, q, a, b, c, d⟩ := h; ⟨t, r, q, a, e _ _ b, e _ _ c, e _ _ d⟩
structure RelW (kh : List Str) (H : Hp) (vs : List V) (W : List Wy) : Prop where
  len : vs.length = W.length
  get : ∀ (i : Nat) (v : V) (x : Wy), vs[i]? = some v → W[i]? = some x → WayAt kh H v x
theorem RelW.mono {kh : List Str} {H H' : Hp} (e : Ex H H') {vs : List V} {W : List Wy} (h : RelW kh H vs W) : RelW kh H' vs W := ⟨h.len, fun i v x a b => (h.get i v x a b).mono e⟩
theorem RelW.snoc {kh : List Str} {H : Hp} {vs : List V} {W : List Wy} (h : RelW kh H vs W) {v : V} {x : Wy} (g : WayAt kh H v x) : RelW kh H (vs ++ [v]) (W ++ [x]) := by
  refine ⟨by rw [List.length_append, List.length_append, h.len]; rfl, fun i q R a b => ?_⟩
  by_cases hi : i < vs.length
  · rw [List.getElem?_append_left hi] at a
    rw [List.getElem?_append_left (by rw [← h.len]; exact hi)] at b
    exact h.get i q R a b
  · rw [List.getElem?_append_right (by omega)] at a
    rw [List.getElem?_append_right (by rw [← h.len]; omega), ← h.len] at b
    cases hz : i - vs.length with
    | zero => rw [hz] at a b; cases a; cases b; exact g
    | succ m => rw [hz] at a; cases a
/-- ways stand when a list changes -/
theorem RelW.upd {kh : List Str} {H : Hp} {vs : List V} {W : List Wy} (h : RelW kh H vs W) {l : Addr} {xs : List V} {o : HO} (hl : H l = some (.lst xs)) : RelW kh (upd H l o) vs W := ⟨h.len, fun i v x a b => by
  obtain ⟨t, r, q, h1, h2, h3, h4⟩ := h.get i v x a b
  have ne : ∀ {p : Addr} {ys : List V}, H p = some (.tup ys) → p ≠ l := fun h z => by rw [z, hl] at h; cases h
  exact ⟨t, r, q, h1, by rw [upd_ne (ne h2)]; exact h2, by rw [upd_ne (ne h3)]; exact h3, by rw [upd_ne (ne h4)]; exact h4⟩⟩
/-- the place of a kind -/
def plc (kh : List Str) (k : Str) : Nat := kh.findIdx fun x => decide (x = k)
theorem plc_get {kh : List Str} {k : Str} (h : k ∈ kh) : kh[plc kh k]? = some k := by
  have h1 : plc kh k < kh.length := List.findIdx_lt_length_of_exists ⟨k, h, by simp⟩
  rw [List.getElem?_eq_getElem h1]
  have := List.findIdx_getElem (p := fun x => decide (x = k)) (xs := kh) (w := h1)
  rw [show kh[plc kh k] = k from of_decide_eq_true this]
theorem map_split {kh : List Str} (hn : kh.Nodup) {k : Str} (hk : k ∈ kh) (f : Str → Int) (v : Int) :
    (kh.map fun j => V.int (if j = k then v else f j)) = (kh.map fun j => V.int (f j)).take (plc kh k) ++ [V.int v] ++ (kh.map fun j => V.int (f j)).drop (plc kh k + 1) := by
  have hg := plc_get hk
  have hl : plc kh k < kh.length := (List.getElem?_eq_some_iff.mp hg).1
  refine List.ext_getElem? fun i => ?_
  have hne : ∀ j a, kh[j]? = some a → j ≠ plc kh k → a ≠ k := fun j a ha hj e => hj (nodup_inj hn (by rw [ha, e]) hg)
  have htl : ((kh.map fun j => V.int (f j)).take (plc kh k)).length = plc kh k := by rw [List.length_take, List.length_map]; omega
  rcases Nat.lt_trichotomy i (plc kh k) with h | h | h
  · rw [List.append_assoc, List.getElem?_append_left (by omega), List.getElem?_take_of_lt h, List.getElem?_map, List.getElem?_map]
    cases e : kh[i]? with
    | none => rfl
    | some a => show some (V.int (if a = k then v else f a)) = some (V.int (f a)); rw [if_neg (hne i a e (by omega))]
  · subst h
    rw [List.append_assoc, List.getElem?_append_right (by omega), htl, Nat.sub_self, List.getElem?_map, hg]
    show some (V.int (if k = k then v else f k)) = some (V.int v)
    rw [if_pos rfl]
  · rw [List.getElem?_append_right (by rw [List.length_append, htl]; simp; omega), List.getElem?_drop, List.length_append, htl, List.getElem?_map, List.getElem?_map]
    rw [show plc kh k + 1 + (i - (plc kh k + [V.int v].length)) = i by simp; omega]
    cases e : kh[i]? with
    | none => rfl
    | some a => show some (V.int (if a = k then v else f a)) = some (V.int (f a)); rw [if_neg (hne i a e (by omega))]
def spLWays : Sp := fun vs H Q _ => ∃ (lt pl : Addr) (room : Int) (kh fs : List Str) (f : Str → Int), vs = [.ref lt, .ref pl, .int room] ∧ H lt = some (.tup (kh.map fun k => .int (f k))) ∧ H pl = some (.lst (fs.map fun k => .int ((plc kh k : Nat) : Int))) ∧ kh.Nodup ∧ kh.length ≤ 100 ∧ fs.Nodup ∧ (∀ k ∈ fs, k ∈ kh) ∧ fs.length ≤ 6 ∧ 0 ≤ room ∧ room ≤ 2 ∧
  (∀ k ∈ kh, 0 ≤ f k ∧ f k ≤ 100) ∧ ∀ l ws H', H l = none → Ex H H' → H' l = some (.lst ws) → RelW kh H' ws (waysF f room fs) → Q (.ref l) H'
/-- a tuple that stands in B or is new -/
def EvS (te : TE) (σ : L2.St) (B H : Hp) (zs : List V) : Prop := ∀ H1, Ex H H1 → ∀ Q : VK, (∀ p H2, Ex H1 H2 → H2 p = some (.tup zs) → (H1 p = none ∨ B p = some (.tup zs)) → Q (.ref p) H2) → te σ H1 Q
theorem es_U {σ : L2.St} {B H : Hp} {te : TE} {zs : List V} (h : EvU te σ H zs) : EvS te σ B H zs := fun H1 e Q q => h H1 e Q fun p H2 hp e2 h2 => q p H2 e2 h2 (.inl hp)
theorem es_var {σ : L2.St} {B H : Hp} {i : Nat} {p : Addr} {zs : List V} (h : σ[i]? = some (some (.ref p))) (hb : B p = some (.tup zs)) (eb : Ex B H) : EvS (tVar i) σ B H zs := fun H1 e Q q => ⟨_, h, q p H1 (Ex.refl _) (e _ _ (eb _ _ hb)) (.inr hb)⟩
theorem es_cat {σ : L2.St} {B H : Hp} {ta tb : TE} {xs ys : List V} (ha : EvS ta σ B H xs) (hb : EvS tb σ B H ys) (hz : xs.length + ys.length ≤ 100000) : EvS (tOp (rCatA K) ta tb) σ B H (xs ++ ys) := fun H1 e Q q =>
  ha H1 e _ fun p H2 e2 h2 o2 => hb H2 (e.trans e2) _ fun p' H3 e3 h3 o3 => ⟨p, p', xs, ys, rfl, rfl, st_get (e3 _ _ h2), st_get h3, sz_of hz, fun z => by
    subst z
    refine q p' H3 (e2.trans e3) h3 ?_
    rcases o3 with o | o
    · exact .inl (fresh_back e2 o)
    · exact .inr o, fun _ z => by
    subst z
    refine q p H3 (e2.trans e3) (by rw [List.append_nil]; exact e3 _ _ h2) ?_
    rw [List.append_nil]; exact o2, fun _ _ r hr => q r _ ((e2.trans e3).trans (Ex.new hr)) upd_same (.inl (fresh_back (e2.trans e3) hr))⟩
theorem es_slice {σ : L2.St} {B H : Hp} {te : TE} {tl th : TO} {a : Addr} {xs : List V} {lo hi : Option Int} (h : Ev te σ H (.ref a)) (h1 : EvO tl σ H lo) (h2 : EvO th σ H hi) (hb : B a = some (.tup xs)) (eb : Ex B H) : EvS (tSl (rSlA K) te tl th) σ B H (cutV xs lo hi) := fun H1 e Q q =>
  h H1 e _ fun H2 e2 => h1 H2 (e.trans e2) _ fun H3 e3 => h2 H3 ((e.trans e2).trans e3) _ fun H4 e4 => by
    have e14 := (e2.trans e3).trans e4
    have ha4 := (eb.trans (e.trans e14)) _ _ hb
    refine ⟨a, xs, rfl, st_get ha4, fun z => ?_, fun _ p hp => q p _ (e14.trans (Ex.new hp)) upd_same (.inl (fresh_back e14 hp))⟩
    have hc : cutV xs lo hi = xs := by
      unfold cutV
      rw [z.1, z.2]
      simp
    refine q a H4 e14 (by rw [hc]; exact ha4) (.inr (by rw [hc]; exact hb))
theorem cut_take {xs : List V} {p : Nat} (h : p ≤ xs.length) : cutV xs none (some (p : Int)) = xs.take p := by
  unfold cutV
  rw [HT.sIx_none, HT.sIx_nat, Nat.min_eq_left h]
  simp
theorem cut_drop {xs : List V} {p : Nat} (h : p ≤ xs.length) : cutV xs (some (p : Int)) none = xs.drop p := by
  unfold cutV
  rw [HT.sIx_none, HT.sIx_nat, Nat.min_eq_left h]
  exact List.take_of_length_le (by rw [List.length_drop]; omega)
theorem s_appE {σ : L2.St} {H : Hp} {ta te : TE} {D : Ends} {l : Addr} {xs : List V} {E : EN} (hl : H l = some (.lst xs)) (ha : Ev ta σ H (.ref l)) (h : EvE te σ (del H l) H E) (hz : xs.length < 100000) (k : ∀ v H1, Ex H H1 → E v (upd H1 l (.lst (xs ++ [v]))) → D.nx σ (upd H1 l (.lst (xs ++ [v])))) :
    tDrop (tBM K "list" rAppend ta (tCons te tNil)) D σ H := ha H (Ex.refl H) _ fun H1 e1 =>
  ⟨Or.inl ⟨rfl, xs, sq_of (e1 l _ hl)⟩, h H1 e1 _ fun v H2 e2 nw => ⟨l, xs, v, rfl, rfl, e2 l _ (e1 l _ hl), sz_lt hz, k v H2 (e1.trans e2) (nw _ (Ex.mut ((del_ex _ _).trans (e1.trans e2)) (del_self _ _)) fun a o h1 h2 => by
    rw [upd_ne fun z => by subst z; rw [e1 _ _ hl] at h1; cases h1]; exact h2)⟩⟩
theorem stepF_len {k : Str} {x : Wy} (h : 0 ≤ (if x.2.1 < x.1 k then x.2.1 else x.1 k) + 1) : ((stepF k x).length : Int) = (if x.2.1 < x.1 k then x.2.1 else x.1 k) + 1 := by
  unfold stepF
  rw [List.length_map, List.length_range]
  omega
theorem stepF_get {k : Str} {x : Wy} {m : Nat} (h : m < (stepF k x).length) : (stepF k x)[m]? = some ((fun j => if j = k then x.1 j - (m : Int) else x.1 j), x.2.1 - (m : Int), x.2.2 ++ [(m : Int)]) := by
  unfold stepF at h ⊢
  rw [List.length_map, List.length_range] at h
  rw [List.getElem?_map, List.getElem?_range h]
  rfl
theorem d_L_ways {f : Addr} {fd : FuncData} (F : Fun K "_law_ways" "_law_ways" s_L_ways f fd) (T : Txt K mg CA CL CM) : FnOk P w K mg base CX0 1 f fd ["_law_left", "_law_places", "_law_room"] spLWays := by
  refine F.ok sc_L_ways (fun vs H Q E h => ?_) (fun cdv A outer s H vs Q E hr h => ?_)
  · obtain ⟨_, _, _, _, _, _, rfl, _⟩ := h
    rfl
  · obtain ⟨lt, pl, room, kh, fs, f, rfl, hlt, hpl, hkn, hkl, hfn, hfk, hf6, hr0, hr2, hfb, q⟩ := h
    refine ⟨_, (pss_cons (ps_set (i := 3) sc_L_ways.nd rfl (Or.inl rfl) (pe_lst (pa_cons (pe_tup (pa_cons (pv 0) (pa_cons (pv 2) (pa_cons (pe_tup pa_nil) pa_nil)))) pa_nil)))
    (pss_cons (ps_for PassesOwn.never rfl (listK K rfl (pv 1)) (pg_name (i := 4) sc_L_ways.nd rfl (by first | exact Or.inl rfl | exact Or.inr rfl))
    (pss_cons (ps_set (i := 5) sc_L_ways.nd rfl (Or.inl rfl) (pe_lst pa_nil))
    (pss_cons (ps_for PassesOwn.never rfl (listK K rfl (pv 3)) (tupTK K rfl rfl (pgs_cons (pg_name (i := 6) sc_L_ways.nd rfl (by first | exact Or.inl rfl | exact Or.inr rfl)) (pgs_cons (pg_name (i := 7) sc_L_ways.nd rfl (by first | exact Or.inl rfl | exact Or.inr rfl)) (pgs_cons (pg_name (i := 8) sc_L_ways.nd rfl (by first | exact Or.inl rfl | exact Or.inr rfl)) pgs_nil))))
    (pss_one (ps_for PassesOwn.never rfl (pi_range1 rfl T.g_range (pa_cons (pe_op op_add (pe_callB (call_min2 rfl) (by rfl) T.g_min boot_min (pa_cons (pe_ix (ixTK K rfl) (pv 6) (pv 4) (fun _ _ => rfl)) (pa_cons (pv 7) pa_nil))) pe_int) pa_nil)) (pg_name (i := 9) sc_L_ways.nd rfl (by first | exact Or.inl rfl | exact Or.inr rfl))
    (pss_cons (ps_set (i := 10) sc_L_ways.nd rfl (Or.inl rfl) (pe_op (catAK K rfl) (pe_op (catAK K rfl) (pe_slice (slAK K rfl) (pv 6) po_none (po_some (pv 4))) (pe_tup (pa_cons (pe_op op_sub (pe_ix (ixTK K rfl) (pv 6) (pv 4) (fun _ _ => rfl)) (pv 9)) pa_nil))) (pe_slice (slAK K rfl) (pv 6) (po_some (pe_op op_add (pv 4) pe_int)) po_none)))
    (pss_one (ps_expr (pe_bmK K rfl PySem.F.plainAttrs_list PySem.F.slot_list_append PySem.F.type_list_append mt_append (pv 5) (pa_cons (pe_tup (pa_cons (pv 10) (pa_cons (pe_op op_sub (pv 7) (pv 9)) (pa_cons (pe_op (catAK K rfl) (pv 8) (pe_tup (pa_cons (pv 9) pa_nil))) pa_nil)))) pa_nil))))))))
    (pss_one (ps_set (i := 3) sc_L_ways.nd rfl (Or.inl rfl) (pv 5))))))
    (pss_one (ps_ret (pv 3))))), ?_⟩
    have en0 : EvN (tLst (tCons (tTup (tCons (tVar 0) (tCons (tVar 2) (tCons (tTup tNil) tNil)))) tNil)) ([some (.ref lt), some (.ref pl), some (.int room), none, none, none, none, none, none, none, none] : L2.St) H H (fun l Hx => ∃ ws, Hx l = some (.lst ws) ∧ RelW kh Hx ws [(f, room, [])]) := by
      intro H1 e1 Q qq
      refine ⟨_, rfl, _, rfl, by show 0 ≤ sizeLine; decide, fun qa hqa => ⟨by show 3 ≤ sizeLine; decide, fun t ht => ⟨by show 1 ≤ sizeLine; decide, fun l hl => ?_⟩⟩⟩
      have eq1 := Ex.new (o := .tup []) hqa
      have eq2 := Ex.new (o := .tup [.ref lt, .int room, .ref qa]) ht
      have eq3 := Ex.new (o := .lst [.ref t]) hl
      refine qq l _ (fresh_back (eq1.trans eq2) hl) ((eq1.trans eq2).trans eq3) ⟨_, upd_same⟩ fun Hx eb k => ⟨[.ref t], k _ _ (fresh_back (eq1.trans eq2) hl) upd_same, rfl, fun i v x a b => ?_⟩
      cases i with
      | succ i => cases a
      | zero =>
        cases a
        cases b
        exact ⟨t, lt, qa, rfl, k _ _ (fresh_back eq1 ht) (eq3 _ _ upd_same), eb _ _ hlt, k _ _ hqa ((eq2.trans eq3) _ _ upd_same)⟩
    refine q_asgN en0 fun l0 H1 hl0 e1 _ nw => ?_
    obtain ⟨ws0, hws0, rw0⟩ := nw.now (Ex.refl _) e1
    refine q_forLn (a := pl) (xs := fs.map fun k => V.int ((plc kh k : Nat) : Int)) (ev_var rfl) (sq_get (e1 _ _ hpl)) (fun n σ' H' => ∃ (l : Addr) (ws : List V) (x4 x5 x6 x7 x8 x9 x10 : Option V), σ' = [some (.ref lt), some (.ref pl), some (.int room), some (.ref l), x4, x5, x6, x7, x8, x9, x10] ∧ Ex H H' ∧ H l = none ∧ H' l = some (.lst ws) ∧ RelW kh H' ws (waysF f room (fs.take n)))
      (fun H2 e2 => ⟨l0, ws0, none, none, none, none, none, none, none, rfl, e1.trans e2, hl0, e2 _ _ hws0, rw0.mono e2⟩) (fun n σ' H' _ h => by obtain ⟨_, _, _, _, _, _, _, _, _, _, ex, _⟩ := h; exact sq_get (ex _ _ hpl)) (fun n x σ' H' hx h => ?_) (fun σ' H' h => ?_)
    · obtain ⟨l, ws, x4, x5, x6, x7, x8, x9, x10, rfl, ex, hl0', hl, rW⟩ := h
      obtain ⟨k, hk, rfl⟩ := get_map hx
      have hn : n < fs.length := (List.getElem?_eq_some_iff.mp hk).1
      have hkm : k ∈ kh := hfk k (List.mem_of_getElem? hk)
      have hknt : k ∉ fs.take n := fun z => by
        obtain ⟨j, hj⟩ := List.getElem?_of_mem z
        have hjn : j < n := by have := (List.getElem?_eq_some_iff.mp hj).1; rw [List.length_take] at this; omega
        rw [List.getElem?_take_of_lt hjn] at hj
        have := nodup_inj hfn hj hk
        omega
      have htn : (fs.take n).Nodup := hfn.sublist (List.take_sublist _ _)
      have hWl := waysF_len (f := f) hr0 hr2 _ htn
      have h36 : 3 ^ (fs.take n).length ≤ 729 := by
        rw [List.length_take]
        exact Nat.le_trans (Nat.pow_le_pow_right (by decide) (show min n fs.length ≤ 6 by omega)) (by decide)
      have hWb : ∀ x ∈ waysF f room (fs.take n), x.1 k = f k ∧ 0 ≤ x.2.1 ∧ x.2.1 ≤ 2 ∧ x.2.2.length ≤ 6 := fun x hx => by
        obtain ⟨c, w⟩ := waysF_ok hr0 _ htn x hx
        refine ⟨by rw [w.g]; exact if_neg hknt, w.f0, ?_, by rw [w.nu, List.length_map, List.length_take]; omega⟩
        have := w.fr
        have : 0 ≤ sm (fs.take n) c := sm_nonneg w.nn
        omega
      generalize hW : waysF f room (fs.take n) = W at rW hWl hWb
      refine q_asgL (xs := []) (el_lst ea_nil (by simp)) fun lg H2 hlg e2 h2 => ?_
      have hllg : l ≠ lg := ne_of_none hl hlg
      have hfk' := hfb k hkm
      refine q_forL (a := l) (xs := ws) (ev_var rfl) (sq_get (e2 _ _ hl)) (fun j σ' H' => ∃ (ws2 : List V) (x6 x7 x8 x9 x10 : Option V), σ' = [some (.ref lt), some (.ref pl), some (.int room), some (.ref l), some (.int ((plc kh k : Nat) : Int)), some (.ref lg), x6, x7, x8, x9, x10] ∧ Ex H H' ∧ H' l = some (.lst ws) ∧ RelW kh H' ws W ∧ H' lg = some (.lst ws2) ∧ RelW kh H' ws2 ((W.take j).flatMap (stepF k)) ∧ ws2.length ≤ 3 * j)
        (fun H3 e3 => ⟨[], x6, x7, x8, x9, x10, rfl, ex.trans (e2.trans e3), e3 _ _ (e2 _ _ hl), rW.mono (e2.trans e3), e3 _ _ h2, ⟨rfl, fun i v x a b => by cases a⟩, by simp⟩) (fun j σ' H' _ h => by obtain ⟨_, _, _, _, _, _, _, _, hh, _⟩ := h; exact sq_get hh) (fun j x σ' H' hx h => ?_) (fun σ' H' h => ?_)
      · obtain ⟨ws2, x6, x7, x8, x9, x10, rfl, ex3, hl3, rW3, hlg3, rV3, hlen⟩ := h
        have hj : j < W.length := by rw [← rW3.len]; exact (List.getElem?_eq_some_iff.mp hx).1
        have hWj : W[j]? = some W[j] := List.getElem?_eq_getElem hj
        obtain ⟨b1, b2, b3, b4⟩ := hWb _ (List.getElem_mem hj)
        obtain ⟨t, r, qa, rfl, ht, hrr, hqq⟩ := rW3.get j x _ hx hWj
        generalize W[j] = y at hWj b1 b2 b3 b4 ht hrr hqq
        have hmin : 0 ≤ (if y.2.1 < y.1 k then y.2.1 else y.1 k) + 1 ∧ (if y.2.1 < y.1 k then y.2.1 else y.1 k) + 1 ≤ 3 := by rw [b1]; split <;> omega
        have hsl := stepF_len (k := k) (x := y) hmin.1
        have hpg : (kh.map fun k => V.int (y.1 k))[plc kh k]? = some (.int (y.1 k)) := by rw [List.getElem?_map, plc_get hkm]; rfl
        refine ⟨t, _, rfl, st_get ht, rfl, _, _, rfl, _, _, rfl, _, _, rfl, rfl, ?_⟩
        refine s_forR1 (n := (if y.2.1 < y.1 k then y.2.1 else y.1 k) + 1) (ea1 (ev_add (ev_min2 (ev_ixT (ev_var rfl) (ev_var rfl) (st_get hrr) (atI_get hpg)) (ev_var rfl)) ev_c)) ⟨hmin.1, by omega⟩ (fun m σ' H' => ∃ (ws3 : List V) (x9 x10 : Option V), σ' = [some (.ref lt), some (.ref pl), some (.int room), some (.ref l), some (.int ((plc kh k : Nat) : Int)), some (.ref lg), some (.ref r), some (.int y.2.1), some (.ref qa), x9, x10] ∧ Ex H H' ∧ H' l = some (.lst ws) ∧ RelW kh H' ws W ∧ WayAt kh H' (.ref t) y ∧ H' r = some (.tup (kh.map fun k => .int (y.1 k))) ∧ H' qa = some (.tup (y.2.2.map V.int)) ∧ H' lg = some (.lst ws3) ∧ RelW kh H' ws3 ((W.take j).flatMap (stepF k) ++ (stepF k y).take m) ∧ ws3.length ≤ 3 * j + m)
          (fun H4 e4 => ⟨ws2, x9, x10, rfl, ex3.trans e4, e4 _ _ hl3, rW3.mono e4, ⟨t, r, qa, rfl, e4 _ _ ht, e4 _ _ hrr, e4 _ _ hqq⟩, e4 _ _ hrr, e4 _ _ hqq, e4 _ _ hlg3, by rw [List.take_zero, List.append_nil]; exact rV3.mono e4, by omega⟩) (fun m σ' H' hm h => ?_) (fun σ' H' h => ?_)
        · obtain ⟨ws3, x9, x10, rfl, ex4, hl4, rW4, way4, hr4, hq4, hlg4, rV4, hlen4⟩ := h
          have hmlt : m < (stepF k y).length := by omega
          have hB : del H' lg r = some (.tup (kh.map fun k => .int (y.1 k))) := del_of hr4 hlg4 fun z => nomatch z
          have hsplit := map_split hkn hkm y.1 (y.1 k - (m : Int))
          have hpl' : plc kh k < kh.length := (List.getElem?_eq_some_iff.mp (plc_get hkm)).1
          have hS : EvS (tOp (rCatA K) (tOp (rCatA K) (tSl (rSlA K) (tVar 6) tNoPart (tPart (tVar 4))) (tTup (tCons (tOp (rI0 fun i j => .int (i - j)) (tOp (rIxT K) (tVar 6) (tVar 4)) (tVar 9)) tNil))) (tSl (rSlA K) (tVar 6) (tPart (tOp (rI0 fun i j => .int (i + j)) (tVar 4) (tC (.int 1)))) tNoPart))
              ([some (.ref lt), some (.ref pl), some (.int room), some (.ref l), some (.int ((plc kh k : Nat) : Int)), some (.ref lg), some (.ref r), some (.int y.2.1), some (.ref qa), some (.int (m : Int)), x10] : L2.St) (del H' lg) H' (kh.map fun j => .int (if j = k then y.1 k - (m : Int) else y.1 j)) := by
            rw [hsplit]
            have c1 := cut_take (xs := kh.map fun j => V.int (y.1 j)) (p := plc kh k) (by rw [List.length_map]; omega)
            have c2 := cut_drop (xs := kh.map fun j => V.int (y.1 j)) (p := plc kh k + 1) (by rw [List.length_map]; omega)
            rw [← c1, ← c2]
            have l1 := cutV_length (kh.map fun j => V.int (y.1 j)) none (some ((plc kh k : Nat) : Int))
            have l2 := cutV_length (kh.map fun j => V.int (y.1 j)) (some ((plc kh k + 1 : Nat) : Int)) none
            rw [List.length_map] at l1 l2
            refine es_cat (es_cat (es_slice (ev_var rfl) eo_none (eo_some (ev_var rfl)) hB (del_ex _ _)) (es_U (eu_tup (ea1 (ev_sub (ev_ixT (ev_var rfl) (ev_var rfl) (st_get hr4) (atI_get hpg)) (ev_var rfl))) (by simp))) (by simp only [List.length_singleton]; omega)) (es_slice (ev_var rfl) (eo_some (ev_is (ev_add (ev_var rfl) ev_c) rfl)) eo_none hB (del_ex _ _)) (by rw [List.length_append]; simp only [List.length_singleton]; omega)
          refine hS H' (Ex.refl _) _ fun p H5 e5 hp5 _ => ?_
          have hB5 : del H5 lg qa = some (.tup (y.2.2.map V.int)) := del_of (e5 _ _ hq4) (e5 _ _ hlg4) fun z => nomatch z
          have hBp : del H5 lg p = some (.tup (kh.map fun j => .int (if j = k then y.1 k - (m : Int) else y.1 j))) := del_of hp5 (e5 _ _ hlg4) fun z => nomatch z
          have hq8 : y.2.2.length ≤ 6 := b4
          refine s_appE (l := lg) (xs := ws3) (E := fun v H => WayAt kh H v ((fun j => if j = k then y.1 j - (m : Int) else y.1 j), y.2.1 - (m : Int), y.2.2 ++ [(m : Int)])) (e5 _ _ hlg4) (ev_var rfl) ?_ (by omega) fun v H6 e6 hway => ?_
          · intro H6 e6 Q qq
            refine ⟨_, rfl, _, rfl, _, rfl, _, _, rfl, rfl, ?_⟩
            refine es_cat (K := K) (B := del H5 lg) (H := H5) (ta := tVar 8) (tb := tTup (tCons (tVar 9) tNil)) (es_var rfl hB5 (del_ex _ _)) (es_U (eu_tup (ea1 (ev_var rfl)) (by simp))) (by rw [List.length_map]; simp only [List.length_singleton]; omega) H6 e6 _ fun q2 H7 e7 h7 o7 => ⟨by show 3 ≤ sizeLine; decide, fun t2 ht2 => ?_⟩
            refine qq _ _ (e7.trans (Ex.new ht2)) fun Hx eb kk => ⟨t2, p, q2, rfl, kk _ _ (fresh_back e7 ht2) upd_same, ?_, ?_⟩
            · have := eb _ _ hBp
              rw [this]
              refine congrArg (fun z => some (HO.tup z)) (List.map_congr_left fun j _ => ?_)
              show V.int (if j = k then y.1 k - (m : Int) else y.1 j) = V.int (if j = k then y.1 j - (m : Int) else y.1 j)
              by_cases e : j = k
              · rw [if_pos e, if_pos e, e]
              · rw [if_neg e, if_neg e]
            · rw [List.map_append]
              rcases o7 with o | o
              · exact kk _ _ o ((Ex.new ht2) _ _ h7)
              · exact eb _ _ o
          · have hll : l ≠ lg := hllg
            have e46 := e5.trans e6
            refine ⟨ws3 ++ [v], _, _, rfl, ?_, by rw [upd_ne hll]; exact e46 _ _ hl4, (rW4.mono e46).upd (e46 _ _ hlg4), ?_, ?_, ?_, upd_same, ?_, by rw [List.length_append]; simp; omega⟩
            · exact Ex.mut (ex4.trans e46) (fresh_back ex hlg)
            · obtain ⟨t', r', q', a1, a2, a3, a4⟩ := way4.mono e46
              cases a1
              have ne : ∀ {p : Addr} {ys : List V}, H6 p = some (.tup ys) → p ≠ lg := fun h z => by rw [z, e46 _ _ hlg4] at h; cases h
              exact ⟨t, r', q', rfl, by rw [upd_ne (ne a2)]; exact a2, by rw [upd_ne (ne a3)]; exact a3, by rw [upd_ne (ne a4)]; exact a4⟩
            · rw [upd_ne fun z => by rw [z, hlg4] at hr4; cases hr4]; exact e46 _ _ hr4
            · rw [upd_ne fun z => by rw [z, hlg4] at hq4; cases hq4]; exact e46 _ _ hq4
            · rw [List.take_add_one, stepF_get hmlt, Option.toList_some, ← List.append_assoc]
              exact ((rV4.mono e46).upd (e46 _ _ hlg4)).snoc hway
        · obtain ⟨ws3, x9, x10, rfl, ex4, hl4, rW4, way4, hr4, hq4, hlg4, rV4, hlen4⟩ := h
          have hto : ((if y.2.1 < y.1 k then y.2.1 else y.1 k) + 1).toNat = (stepF k y).length := by omega
          rw [hto, List.take_length] at rV4
          refine ⟨ws3, _, _, _, _, _, rfl, ex4, hl4, rW4, hlg4, ?_, by omega⟩
          rw [List.take_add_one, hWj, List.flatMap_append]
          simpa using rV4
      · obtain ⟨ws2, x6, x7, x8, x9, x10, rfl, ex3, hl3, rW3, hlg3, rV3, hlen⟩ := h
        rw [rW.len, List.take_length] at rV3
        refine s_asg (v := .ref lg) (ev_var rfl) fun H4 e4 => ⟨lg, ws2, _, _, _, _, _, _, _, rfl, ex3.trans e4, fresh_back ex hlg, e4 _ _ hlg3, ?_⟩
        rw [List.take_add_one, hk, Option.toList_some, waysF_snoc, hW]
        exact rV3.mono e4
    · obtain ⟨l, ws, x4, x5, x6, x7, x8, x9, x10, rfl, ex, hl0', hl, rW⟩ := h
      rw [List.length_map, List.take_length] at rW
      exact s_ret (ev_var rfl) fun H2 e2 => q l ws H2 hl0' (ex.trans e2) (e2 _ _ hl) (rW.mono e2)
end
end K59
/-! W12: the table of the law's own search. -/
namespace K59
open PySem PySem.Spec PyProof.Rows L2 Evl
def boxes : Nat → List (List Key)
  | 0 => [[]]
  | m + 1 => (boxes m).flatMap fun l => (List.range 6).map fun (v : Nat) => .inl (v : Int) :: l
theorem boxes_len : ∀ m, (boxes m).length = 6 ^ m
  | 0 => rfl
  | m + 1 => by
    show ((boxes m).flatMap _).length = _
    rw [List.length_flatMap]
    have : ∀ l : List (List Key), (l.map fun l => ((List.range 6).map fun (v : Nat) => (.inl (v : Int) :: l : List Key)).length).sum = 6 * l.length := by
      intro l
      induction l with
      | nil => rfl
      | cons x l ih =>
        rw [List.map_cons, List.sum_cons, List.length_cons, ih, List.length_map, List.length_range]
        omega
    rw [this, boxes_len m, Nat.pow_succ]
    omega
theorem mem_boxes : ∀ {l : List Key}, (∀ x ∈ l, ∃ v : Int, x = .inl v ∧ 0 ≤ v ∧ v ≤ 5) → l ∈ boxes l.length
  | [], _ => List.mem_singleton.mpr rfl
  | x :: l, h => by
    obtain ⟨v, rfl, h0, h4⟩ := h x (by simp)
    refine List.mem_flatMap.mpr ⟨l, mem_boxes fun y hy => h y (by simp [hy]), List.mem_map.mpr ⟨v.toNat, List.mem_range.mpr (by omega), ?_⟩⟩
    rw [show ((v.toNat : Nat) : Int) = v by omega]
section
variable {I : Inst Str} {kh : List Str} {s : Str → Int}
def lkf (kh : List Str) (f : Str → Int) : List Key := kh.map fun k => .inl (f k)
def lky (I : Inst Str) (kh : List Str) (s : Str → Int) (y : Nat → Str → Int) : List Key := lkf kh fun k => s k - I.used y k
structure DP (I : Inst Str) (kh : List Str) (s : Str → Int) (i : Nat) (kn : List (List Key × Int)) : Prop where
  nd : (kn.map (·.1)).Nodup
  a : ∀ key v, lkI kn key = some v → ∃ y, PF I kh s i y ∧ key = lky I kh s y ∧ v = I.worth y
  b : ∀ y, PF I kh s i y → ∃ v, lkI kn (lky I kh s y) = some v ∧ I.worth y ≤ v
theorem used_nn {i : Nat} {y : Nat → Str → Int} (h : PF I kh s i y) (k : Str) : 0 ≤ I.used y k := sm_nonneg fun j _ => h.nn j k
theorem key_box {i : Nat} {y : Nat → Str → Int} (h : PF I kh s i y) (top : ∀ k, s k ≤ 5) : lky I kh s y ∈ boxes kh.length := by
  have e : (lky I kh s y).length = kh.length := by unfold lky lkf; rw [List.length_map]
  rw [← e]
  refine mem_boxes fun x hx => ?_
  obtain ⟨k, hk, rfl⟩ := List.mem_map.mp hx
  have := h.col k hk
  have := used_nn h k
  have := top k
  exact ⟨s k - I.used y k, rfl, by omega, by omega⟩
/-- a table under way: its entries are spreads -/
structure LA (I : Inst Str) (kh : List Str) (s : Str → Int) (i : Nat) (lt : List (List Key × Int)) : Prop where
  nd : (lt.map (·.1)).Nodup
  a : ∀ key v, lkI lt key = some v → ∃ y, PF I kh s i y ∧ key = lky I kh s y ∧ v = I.worth y
theorem LA.len {i : Nat} {lt : List (List Key × Int)} (h : LA I kh s i lt) (top : ∀ k, s k ≤ 5) (h7 : kh.length ≤ 6) : lt.length ≤ 46656 := by
  have h1 := len_keys h.nd (S := boxes kh.length) fun x hx => by
    obtain ⟨v, hv⟩ := Option.isSome_iff_exists.mp (lkI_isSome.mpr hx)
    obtain ⟨y, hy, e, _⟩ := h.a x v hv
    rw [e]
    exact key_box hy top
  rw [boxes_len] at h1
  have : 6 ^ kh.length ≤ 6 ^ 6 := Nat.pow_le_pow_right (by decide) h7
  omega
theorem LA.put {i : Nat} {lt : List (List Key × Int)} (h : LA I kh s i lt) {y : Nat → Str → Int} (hy : PF I kh s i y) : LA I kh s i (putI lt (lky I kh s y) (I.worth y)) := by
  refine ⟨nodup_put h.nd _ _, fun key v hv => ?_⟩
  rw [lkI_put] at hv
  by_cases e : key = lky I kh s y
  · rw [if_pos e] at hv
    cases hv
    exact ⟨y, hy, e, rfl⟩
  · rw [if_neg e] at hv
    exact h.a key v hv
/-- at this key at least v -/
def AtL (lt : List (List Key × Int)) (key : List Key) (v : Int) : Prop := ∃ v', lkI lt key = some v' ∧ v ≤ v'
theorem AtL.put {lt : List (List Key × Int)} {key kx : List Key} {v val : Int} (h : AtL lt key v) (hv : (lkI lt kx).getD val ≤ val) : AtL (putI lt kx val) key v := by
  obtain ⟨v', h1, h2⟩ := h
  unfold AtL
  rw [lkI_put]
  by_cases e : key = kx
  · subst e
    rw [if_pos rfl]
    rw [h1] at hv
    exact ⟨val, rfl, Int.le_trans h2 hv⟩
  · rw [if_neg e]
    exact ⟨v', h1, h2⟩
theorem lky_put (ok : I.Ok) {i : Nat} (hi : i < I.n) {y : Nat → Str → Int} {c : Str → Int} (u : ∀ k, I.used (putRow y i (hereF I kh i) c) k = I.used y k + if k ∈ hereF I kh i then c k else 0) :
    lky I kh s (putRow y i (hereF I kh i) c) = lkf kh (lessF (fun k => s k - I.used y k) (hereF I kh i) c) := by
  unfold lky lkf
  refine List.map_congr_left fun k _ => ?_
  show Sum.inl (s k - I.used (putRow y i (hereF I kh i) c) k) = Sum.inl (if k ∈ hereF I kh i then s k - I.used y k - c k else s k - I.used y k)
  rw [u]
  split
  · exact congrArg Sum.inl (by omega)
  · exact congrArg Sum.inl (by omega)
theorem lkf_inj {f g : Str → Int} (h : lkf kh f = lkf kh g) : ∀ k ∈ kh, f k = g k := fun k hk => by
  have := List.map_inj_left.mp h k hk
  exact Sum.inl.inj this
theorem DP.start (ok : I.Ok) (hs : ∀ k ∈ kh, 0 ≤ s k) : DP I kh s 0 [(lkf kh s, 0)] := by
  have u0 : ∀ k, I.used (fun _ _ => 0) k = 0 := fun k => sm_zero fun _ _ => rfl
  have w0 : I.worth (fun _ _ => 0) = 0 := sm_zero fun i _ => sm_zero fun k _ => by simp
  have l0 : lky I kh s (fun _ _ => 0) = lkf kh s := List.map_congr_left fun k _ => congrArg Sum.inl (show s k - I.used (fun _ _ => 0) k = s k by rw [u0]; omega)
  refine ⟨by simp, fun key v hv => ?_, fun y hy => ?_⟩
  · rw [lkI_cons] at hv
    split at hv
    · rename_i e
      cases hv
      exact ⟨_, PF.zero hs ok, by rw [l0]; exact e.symm, w0.symm⟩
    · cases hv
  · have : y = fun _ _ => 0 := funext fun j => funext fun k => Classical.byContradiction fun ne => absurd (hy.sup j k ne).1 (Nat.not_lt_zero j)
    subst this
    rw [l0, lkI_cons, if_pos rfl, w0]
    exact ⟨0, rfl, Int.le_refl 0⟩
/-- all that row i can do from what is known is in the table -/
theorem DP.next (ok : I.Ok) {i : Nat} (hi : i < I.n) {kn lt : List (List Key × Int)} (d : DP I kh s i kn) (la : LA I kh s (i + 1) lt)
    (lb : ∀ (n : Nat) key v, kn[n]? = some (key, v) → ∃ y0, PF I kh s i y0 ∧ key = lky I kh s y0 ∧ v = I.worth y0 ∧ ∀ c, (∀ k ∈ hereF I kh i, 0 ≤ c k) → (∀ k ∈ hereF I kh i, c k ≤ s k - I.used y0 k) → sm (hereF I kh i) c ≤ I.want i →
      AtL lt (lkf kh (lessF (fun k => s k - I.used y0 k) (hereF I kh i) c)) (v + sm (hereF I kh i) fun k => c k * I.w i k)) : DP I kh s (i + 1) lt := by
  refine ⟨la.nd, la.a, fun y hy => ?_⟩
  obtain ⟨z, hz, c0, c1, c2, ey⟩ := PF.down ok hy hi
  obtain ⟨v, hv, hle⟩ := d.b z hz
  obtain ⟨n, hn⟩ := List.getElem?_of_mem (mem_of_lkI hv)
  obtain ⟨y0, hy0, ek, ev, hall⟩ := lb n _ v hn
  have hf := lkf_inj ek
  have hin : ∀ k ∈ hereF I kh i, k ∈ kh := fun k hk => of_decide_eq_true (List.mem_filter.mp hk).2
  obtain ⟨v', h1, h2⟩ := hall (y i) c0 (fun k hk => by have := c1 k hk; have := hf k (hin k hk); omega) c2
  obtain ⟨_, u, w⟩ := PF.up ok hz hi c0 c1 c2
  rw [← ey] at u w
  have el : lky I kh s y = lkf kh (lessF (fun k => s k - I.used y0 k) (hereF I kh i) (y i)) := by
    have := lky_put (s := s) (kh := kh) ok hi (y := z) (c := y i) (by rw [← ey]; exact u)
    rw [← ey] at this
    rw [this]
    refine List.map_congr_left fun k hk => congrArg Sum.inl ?_
    show (if k ∈ hereF I kh i then s k - I.used z k - y i k else s k - I.used z k) = if k ∈ hereF I kh i then s k - I.used y0 k - y i k else s k - I.used y0 k
    rw [hf k hk]
  rw [el]
  exact ⟨v', h1, by omega⟩
theorem DP.opt (ok : I.Ok) {kn : List (List Key × Int)} (d : DP I kh s I.n kn) (hk : ∀ k, k ∉ kh → s k = 0) (h0 : ∀ k, 0 ≤ s k) {M : Int} (m1 : M ∈ kn.map (·.2) ++ [-10 ^ 60]) (m2 : ∀ x ∈ kn.map (·.2) ++ [-10 ^ 60], x ≤ M) : IsOpt I s M := by
  have up : ∀ y, PF I kh s I.n y → I.worth y ≤ M := fun y hy => by
    obtain ⟨v, hv, hle⟩ := d.b y hy
    have := m2 v (List.mem_append.mpr (.inl (List.mem_map.mpr ⟨_, mem_of_lkI hv, rfl⟩)))
    omega
  refine ⟨fun y hy => up y ((PF.feas hk h0 ok).mpr hy), ?_⟩
  rcases List.mem_append.mp m1 with h | h
  · obtain ⟨x, hx, e⟩ := List.mem_map.mp h
    obtain ⟨y, hy, _, ev⟩ := d.a x.1 x.2 (lkI_of_mem d.nd hx)
    exact ⟨y, (PF.feas hk h0 ok).mp hy, by rw [← ev]; exact e⟩
  · have z := PF.zero (I := I) (kh := kh) (s := s) (fun k _ => h0 k) ok
    have z' : PF I kh s I.n (fun _ _ => 0) := ⟨z.nn, fun j k h => absurd rfl h, z.row, z.col⟩
    have w0 : I.worth (fun _ _ => 0) = 0 := sm_zero fun i _ => sm_zero fun k _ => by simp
    have := up _ z'
    rw [List.mem_singleton] at h
    rw [w0, h] at this
    exact absurd this (by decide)
end
theorem dot_map (fs : List Str) (c w : Str → Int) : dotI (fs.map c) (fs.map w) = sm fs fun k => c k * w k := by
  unfold dotI
  rw [← sm_sum]
  congr 1
  induction fs with
  | nil => rfl
  | cons k fs ih => rw [List.map_cons, List.map_cons, List.zip_cons_cons, List.map_cons, List.map_cons, ih]
end K59
namespace K59
open PySem PySem.Spec PyProof.Rows L2 Evl
section
variable {P : Program} {w : World} {K : PySem.W.Frag} {mg : Str → Option Value} {base : Heap} {CA CL CM : Addr}
section
variable {σ : L2.St} {H B : Hp} {ta tb te tk tv td tl : TE} {D : Ends} {tz tu : TS}
/-- sorted(a dict by texts) -/
def rSortD : List V → Hp → VK → Prop := fun xs H Q => ∃ (a : Addr) (kvs : List (Key × V)) (ks : List Str), xs = [.ref a] ∧ Rd H a (.dK kvs) ∧ kvs.map (·.1) = ks.map Sum.inr ∧ ks.length < 64 ∧
    ∀ ys p, ys.Perm ks → sortedS ys = true → H p = none → Q (.ref p) (upd H p (.lst (ys.map V.str)))
def isKh (fd : List (Key × Int)) : RN := fun p H => ∃ ys : List Str, H p = some (.lst (ys.map V.str)) ∧ ys.Nodup ∧ (∀ z, z ∈ ys ↔ (.inr z : Key) ∈ fd.map (·.1)) ∧ sortedS ys = true ∧ ys.length = fd.length
theorem keys_strs {fd : List (Key × Int)} (h : ∀ x ∈ fd, ∃ k, x.1 = .inr k) : fd.map (·.1) = (fd.map fun x => kstr x.1).map Sum.inr := by
  rw [List.map_map]
  refine List.map_congr_left fun x hx => ?_
  obtain ⟨k, e⟩ := h x hx
  show x.1 = Sum.inr (kstr x.1)
  rw [e]; rfl
theorem en_sortD {a : Addr} {fd : List (Key × Int)} (ha : Ev ta σ H (.ref a)) (hd : H a = some (.dK (mI fd))) (hn : (fd.map (·.1)).Nodup) (hk : ∀ x ∈ fd, ∃ k, x.1 = .inr k) (hl : fd.length < 64) : EvN (tCB rSortD (tCons ta tNil)) σ B H (isKh fd) := fun H1 e Q q =>
  ha H1 e _ fun H2 e2 => ⟨a, mI fd, fd.map fun x => kstr x.1, rfl, .inl ((e.trans e2) _ _ hd), by
    rw [← keys_strs hk]
    show (fd.map fun x => (x.1, V.int x.2)).map (·.1) = _
    rw [List.map_map]; rfl, by rw [List.length_map]; exact hl, fun ys p hp hs hn' => by
    have e0 := keys_strs hk
    have hnd : (fd.map fun x => kstr x.1).Nodup := by
      rw [e0] at hn
      exact (List.pairwise_map.mp hn).imp fun {a b} h e => h (by rw [e])
    refine q p _ (fresh_back e2 hn') (e2.trans (Ex.new hn')) ⟨_, upd_same⟩ fun Hx _ k => ⟨ys, k _ _ (fresh_back e2 hn') upd_same, hp.nodup_iff.mpr hnd, fun z => ?_, hs, by rw [hp.length_eq, List.length_map]⟩
    rw [hp.mem_iff, e0]
    exact ⟨fun m => List.mem_map.mpr ⟨z, m, rfl⟩, fun m => by
      obtain ⟨y, hy, e⟩ := List.mem_map.mp m
      rw [← Sum.inr.inj e]; exact hy⟩⟩
/-- {a tuple: a number} -/
theorem q_dispT1 {i : Nat} {key : List Key} {v : Int} (hk : EvU tk σ H (key.map kV)) (hv : Ev tv σ H (.int v)) (k : ∀ p H1, H p = none → Ex H H1 → H1 p = some (.dT (mI [(key, v)])) → tz D (σ.set i (some (.ref p))) H1) : tSeq (tAsg (tDispT [(tk, tv)]) (gName i)) tz D σ H := by
  intro p hp
  have e0 := Ex.new (o := .dT []) hp
  refine hk _ e0 _ fun b H1 hb e1 h1 => hv H1 (e0.trans e1) _ fun H2 e2 => ⟨e2 _ _ (e1 _ _ upd_same), [(key, b, .int v)], rfl, fun x hx => ?_, by show 1 ≤ 15; decide, ?_⟩
  · rw [List.mem_singleton] at hx
    subst hx
    exact e2 _ _ h1
  · exact k p _ hp (Ex.mut ((e0.trans e1).trans e2) hp) upd_same
theorem en_newT : EvN tDNewT σ B H (fun p H => H p = some (.dT (mI ([] : List (List Key × Int))))) := fun H1 e Q q p hp => q p _ hp (Ex.new hp) ⟨_, upd_same⟩ fun Hx _ k => k _ _ hp upd_same
theorem q_parNV {i j : Nat} {R : RN} {y : V} (h1 : EvN ta σ H H R) (h2 : Ev tb σ H y) (k : ∀ p H1, H p = none → Ex H H1 → R p H1 → tz D ((σ.set i (some (.ref p))).set j (some y)) H1) : tSeq (tPar i j (tCons ta (tCons tb tNil))) tz D σ H :=
  h1 H (Ex.refl H) _ fun p H1 hp e1 ⟨o, ho⟩ r1 => h2 H1 e1 _ fun H2 e2 => ⟨.ref p, y, rfl, k p H2 hp (e1.trans e2) ((r1.weak (Ex.refl _) e2).now (Ex.refl _) (e1.trans e2))⟩
theorem q_forZ {a b : Addr} {xs ys : List V} {i j : Nat} (ha : Ev ta σ H (.ref a)) (hb : Ev tb σ H (.ref b)) (hx : SqL K H a xs) (hy : SqL K H b ys) (hl : ys.length = xs.length) (Pv : Nat → L2.St → Hp → Prop) (h0 : ∀ H1, Ex H H1 → Pv 0 σ H1) (hk : ∀ n σ' H', n ≤ xs.length → Pv n σ' H' → SqL K H' a xs ∧ SqL K H' b ys)
    (hs : ∀ n x y σ' H' p, xs[n]? = some x → ys[n]? = some y → Pv n σ' H' → H' p = none → tu { D with nx := Pv (n + 1), ct := Pv (n + 1), bk := tz D } ((σ'.set i (some x)).set j (some y)) (upd H' p (.tup [x, y])))
    (hd : ∀ σ' H', Pv xs.length σ' H' → tz D σ' H') : tSeq (tFor (iZip K (tCons ta (tCons tb tNil))) (gTup K 2 (gCons (gName i) (gCons (gName j) gNil))) tu) tz D σ H :=
  ha H (Ex.refl H) _ fun H1 e1 => hb H1 e1 _ fun H2 e2 => ⟨a, b, xs, ys, rfl, ex_l (e1.trans e2) hx, ex_l (e1.trans e2) hy, forG (n := xs.length) (D := { D with nx := tz D }) Pv (h0 H2 (e1.trans e2))
    (fun n σ' H' hn p => ⟨xs, ys, xs[n], ys[n]'(by omega), (hk n σ' H' (by omega) p).1, (hk n σ' H' (by omega) p).2, List.getElem?_eq_getElem hn, List.getElem?_eq_getElem (by omega)⟩) (fun σ' H' p => ⟨xs, ys, (hk _ σ' H' (Nat.le_refl _) p).1, (hk _ σ' H' (Nat.le_refl _) p).2, .inl (Nat.le_refl _)⟩)
    (fun n x σ' H' H3 hn p y => by
      obtain ⟨T, x', y', rfl, hT, rfl, hx', hy'⟩ := y
      exact ⟨T, [x', y'], rfl, st_get upd_same, rfl, _, [y'], rfl, y', [], rfl, rfl, hs n x' y' σ' H' T (hx' xs (hk n σ' H' (by omega) p).1) (hy' ys (hk n σ' H' (by omega) p).2) p hT⟩) hd⟩
/-- over a locked dict with tuple keys -/
theorem q_forKT {d : Addr} {kvs : List (List Key × V)} {j : Nat} (hd0 : H d = some (.dT kvs)) (h : ∀ od, Ev td σ (upd H d (.frz od (.dT kvs))) (.ref d)) (Pv : Obj → Nat → L2.St → Hp → Prop) (h0 : ∀ od H1, Ex (upd H d (.frz od (.dT kvs))) H1 → Pv od 0 σ H1)
    (hl : ∀ od n σ' H', n ≤ kvs.length → Pv od n σ' H' → H' d = some (.frz od (.dT kvs)))
    (hs : ∀ od n k x b σ' H', kvs[n]? = some (k, x) → H' b = some (.tup (k.map kV)) → Pv od n σ' H' → tu (EndsK { D with nx := tz D } d (.dT kvs) od (Pv od (n + 1))) (σ'.set j (some (.ref b))) H')
    (hd : ∀ od σ' H', Pv od kvs.length σ' H' → tz D σ' (upd H' d (.dT kvs))) : tSeq (tLock (tFor (iKeys td) (gName j) tu)) tz D σ H :=
  ⟨d, .dT kvs, hd0, True.intro, fun od => h od _ (Ex.refl _) _ fun H1 e1 => ⟨d, od, rfl, .inr ⟨kvs, e1 _ _ upd_same, forG (J := Itkt d od kvs) (D := ⟨fun σ' H' => H' d = some (.frz od (.dT kvs)) ∧ tz D σ' (upd H' d (.dT kvs)), fun v H' => H' d = some (.frz od (.dT kvs)) ∧ D.rt v (upd H' d (.dT kvs)), _, _⟩) (g := gName j) (tu := tu) (n := kvs.length) (Pv od) (h0 od H1 e1)
    (fun n σ' H' hn p => ⟨hl od n σ' H' (by omega) p, hn⟩) (fun σ' H' p => ⟨hl od _ σ' H' (Nat.le_refl _) p, Nat.le_refl _⟩)
    (fun n x σ' H' H2 hn p y => by
      obtain ⟨rfl, k, v, b, hk, rfl, hb⟩ := y
      exact hs od n k v b σ' _ hk hb p) fun σ' H' p => ⟨hl od _ σ' H' (Nat.le_refl _) p, hd od σ' H' p⟩⟩⟩⟩
/-- over a list that is made -/
theorem s_forP {g : TG} {PP : List V → Hp → Prop} (h : ∀ Q : VK, (∀ p ws H1, Ex H H1 → H1 p = some (.lst ws) → H p = none → PP ws H1 → Q (.ref p) H1) → tl σ H Q) (k : ∀ p ws H1, Ex H H1 → H1 p = some (.lst ws) → H p = none → PP ws H1 → ∃ Pv : Nat → L2.St → Hp → Prop, Pv 0 σ H1 ∧ (∀ i σ' H', i ≤ ws.length → Pv i σ' H' → SqL K H' p ws) ∧
    (∀ i x σ' H', ws[i]? = some x → Pv i σ' H' → g x σ' H' fun σ2 H2 => tu { D with nx := Pv (i + 1), ct := Pv (i + 1), bk := D.nx } σ2 H2) ∧ ∀ σ' H', Pv ws.length σ' H' → D.nx σ' H') : tFor (iList K tl) g tu D σ H :=
  h _ fun p ws H1 e h1 hp pp => by
    obtain ⟨Pv, a, b, c, d⟩ := k p ws H1 e h1 hp pp
    exact ⟨p, rfl, ⟨ws, sq_get h1⟩, for_list Pv a b c d⟩
theorem ev_index {a : Addr} {kh : List Str} {k : Str} (ha : Ev ta σ H (.ref a)) (hb : Ev tb σ H (.str k)) (hl : H a = some (.lst (kh.map V.str))) (hk : k ∈ kh) : Ev (tBM K "list" (rIndex K) ta (tCons tb tNil)) σ H (.int ((plc kh k : Nat) : Int)) := fun H1 e Q q =>
  ha H1 e _ fun H2 e2 => ⟨Or.inl ⟨rfl, _, sq_get ((e.trans e2) _ _ hl)⟩, hb H2 (e.trans e2) _ fun H3 e3 => ⟨a, kh.map V.str, .str k, plc kh k, .str k, rfl, rfl, sq_get (((e.trans e2).trans e3) _ _ hl), rfl, by rw [List.all_map]; exact List.all_eq_true.mpr fun _ _ => rfl, map_get (plc_get hk), by show (k == k) = true; exact beq_self_eq_true k, fun m z hm hz => by
    obtain ⟨y, hy, rfl⟩ := get_map hz
    have hmk : m < kh.length := (List.getElem?_eq_some_iff.mp hy).1
    have := List.not_of_lt_findIdx (p := fun x => decide (x = k)) (xs := kh) hm
    have ey : kh[m] = y := by rw [List.getElem?_eq_getElem hmk] at hy; exact Option.some.inj hy
    rw [ey] at this
    show (y == k) = false
    simpa using this, q H3 (e2.trans e3)⟩⟩
end
theorem RelW.del {kh : List Str} {H : Hp} {vs : List V} {W : List Wy} (h : RelW kh H vs W) {x : Addr} {u : HO} (hx : H x = some u) (hu : ∀ xs, u ≠ .tup xs) : RelW kh (del H x) vs W := ⟨h.len, fun i v y a b => by
  obtain ⟨t, r, q, h1, h2, h3, h4⟩ := h.get i v y a b
  exact ⟨t, r, q, h1, del_of h2 hx fun z => hu _ z.symm, del_of h3 hx fun z => hu _ z.symm, del_of h4 hx fun z => hu _ z.symm⟩⟩
theorem lkf_kV (kh : List Str) (g : Str → Int) : (lkf kh g).map kV = kh.map fun k => .int (g k) := by
  unfold lkf
  rw [List.map_map]
  rfl
def spLBest : Sp := fun vs H Q _ => ∃ (ra sd wd wl : Addr) (rs : List K59.Row) (st : List (Key × Int)) (ws : List (List Key × Int)), vs = [.ref ra, .ref sd, .ref wd, .ref wl] ∧ LIn H ra sd wd rs st ws ∧ H wl = some (.lst (rs.map fun _ => V.non)) ∧
  ∀ M H', Ex H H' → IsOpt (theI rs ws) (stk st) M → Q (.int M) H'
theorem d_L_best {f : Addr} {fd : FuncData} (F : Fun K "_law_best" "_law_best" s_L_best f fd) (T : Txt K mg CA CL CM) (c_L_ways : CalK P w K mg base 1 "_law_ways" spLWays) (c_L_brought : CalK P w K mg base 1 "_law_brought" spBrought) : FnOk P w K mg base CX0 2 f fd ["_law_rows_here", "_law_stock", "_law_worths_here", "_law_wants"] spLBest := by
  refine F.ok sc_L_best (fun vs H Q E h => ?_) (fun cdv A outer s H vs Q E hr h => ?_)
  · obtain ⟨_, _, _, _, _, _, _, rfl, _⟩ := h
    rfl
  · obtain ⟨ra, sd, wd, wl, rs, st, ws, rfl, L, hwl, q⟩ := h
    refine ⟨_, (pss_cons (ps_set (i := 4) sc_L_best.nd rfl (Or.inr rfl) (pe_callB (call_sortedD rfl) (by rfl) T.g_sorted boot_sorted (pa_cons (pv 1) pa_nil)))
    (pss_cons (ps_set (i := 5) sc_L_best.nd rfl (Or.inr rfl) (pe_dispT (hu_of hr) (pps_cons (pe_callTy (tupofK K rfl) (by rfl) T.g_tuple boot_tuple (pa_cons (pe_lc (own := [("_law_kind", 18)]) (g := (gName 18)) (tt := tYes) rfl sc_L_best.nd (listK K rfl (pv 4)) (blkOk_by (own := [("_law_kind", 18)]) (N := ["_law_rows_here", "_law_stock", "_law_worths_here", "_law_wants", "_law_kinds_here", "_law_known", "_law_row", "_law_want", "_law_fits_here", "_law_values", "_law_later", "_law_places", "_law_room", "_law_left", "_law_rest", "_law_free", "_law_numbers", "_law_value", "_law_kind"]) (sc := defScope s_L_best) (by decide +kernel)) (fun _ _ _ _ _ => (pg_name (i := 18) sc_L_best.nd rfl (by first | exact Or.inl rfl | exact Or.inr rfl))) (fun _ _ _ _ _ => pts_nil) (fun _ _ _ _ _ => (pe_dget (hu_of hr) (pv 1) (pv 18) (fun _ _ => rfl)))) pa_nil)) pe_int pps_nil) (by rfl) (by rfl) (fun z => by cases z) (by decide)))
    (pss_cons (ps_for PassesOwn.never rfl (zipK K rfl (by rfl) T.g_zip (pa_cons (pv 0) (pa_cons (pv 3) pa_nil))) (tupTK K rfl rfl (pgs_cons (pg_name (i := 6) sc_L_best.nd rfl (by first | exact Or.inl rfl | exact Or.inr rfl)) (pgs_cons (pg_name (i := 7) sc_L_best.nd rfl (by first | exact Or.inl rfl | exact Or.inr rfl)) pgs_nil)))
    (pss_cons (ps_setLc (i := 8) (own := [("_law_kind", 18)]) (g := (gName 18)) rfl sc_L_best.nd rfl rfl (sw_true rfl rfl rfl (by decide +kernel)) (listK K rfl (pe_ix (ixTK K rfl) (pv 6) pe_int (fun _ _ => rfl))) (blkOk_by (own := [("_law_kind", 18)]) (N := ["_law_rows_here", "_law_stock", "_law_worths_here", "_law_wants", "_law_kinds_here", "_law_known", "_law_row", "_law_want", "_law_fits_here", "_law_values", "_law_later", "_law_places", "_law_room", "_law_left", "_law_rest", "_law_free", "_law_numbers", "_law_value", "_law_kind"]) (sc := defScope s_L_best) (by decide +kernel)) (fun _ _ _ _ _ => (pg_name (i := 18) sc_L_best.nd rfl (by first | exact Or.inl rfl | exact Or.inr rfl))) (fun _ _ _ _ _ => (pts_one (pt_cmpR (inK K rfl) (pv 18) (pv 4) (by rfl)))) (fun _ _ _ _ _ => (pv 18)))
    (pss_cons (ps_par (i := 9) (j := 10) (by rfl) sc_L_best.nd rfl rfl (by decide) rfl rfl (pa_cons (pe_lc (own := [("_law_kind", 18)]) (g := (gName 18)) (tt := tYes) rfl sc_L_best.nd (listK K rfl (pv 8)) (blkOk_by (own := [("_law_kind", 18)]) (N := ["_law_rows_here", "_law_stock", "_law_worths_here", "_law_wants", "_law_kinds_here", "_law_known", "_law_row", "_law_want", "_law_fits_here", "_law_values", "_law_later", "_law_places", "_law_room", "_law_left", "_law_rest", "_law_free", "_law_numbers", "_law_value", "_law_kind"]) (sc := defScope s_L_best) (by decide +kernel)) (fun _ _ _ _ _ => (pg_name (i := 18) sc_L_best.nd rfl (by first | exact Or.inl rfl | exact Or.inr rfl))) (fun _ _ _ _ _ => pts_nil) (fun _ _ _ _ _ => (pe_dget (hu_of hr) (pv 2) (pe_tup (pa_cons (pe_ix (ixTK K rfl) (pv 6) pe_int (fun _ _ => rfl)) (pa_cons (pv 18) pa_nil))) (fun _ _ => rfl)))) (pa_cons pe_dnewT pa_nil)) (by rfl))
    (pss_cons (ps_par (i := 11) (j := 12) (by rfl) sc_L_best.nd rfl rfl (by decide) rfl rfl (pa_cons (pe_lc (own := [("_law_kind", 18)]) (g := (gName 18)) (tt := tYes) rfl sc_L_best.nd (listK K rfl (pv 8)) (blkOk_by (own := [("_law_kind", 18)]) (N := ["_law_rows_here", "_law_stock", "_law_worths_here", "_law_wants", "_law_kinds_here", "_law_known", "_law_row", "_law_want", "_law_fits_here", "_law_values", "_law_later", "_law_places", "_law_room", "_law_left", "_law_rest", "_law_free", "_law_numbers", "_law_value", "_law_kind"]) (sc := defScope s_L_best) (by decide +kernel)) (fun _ _ _ _ _ => (pg_name (i := 18) sc_L_best.nd rfl (by first | exact Or.inl rfl | exact Or.inr rfl))) (fun _ _ _ _ _ => pts_nil) (fun _ _ _ _ _ => (pe_bmK K rfl PySem.F.plainAttrs_list PySem.F.slot_list_index PySem.F.type_list_index (idxK K rfl) (pv 4) (pa_cons (pv 18) pa_nil)))) (pa_cons (pe_ifExp (pt_cmpR op_isN (pv 7) pe_non (nomark _)) (pe_ix (ixTK K rfl) (pv 6) pe_int (fun _ _ => rfl)) (pv 7)) pa_nil)) (by rfl))
    (pss_cons (ps_lock (ps_for PassesOwn.never rfl (pi_keys (pv 5)) (pg_name (i := 13) sc_L_best.nd rfl (by first | exact Or.inl rfl | exact Or.inr rfl))
    (pss_one (ps_for PassesOwn.never rfl (listK K rfl (ec c_L_ways hr (by decide) rfl (pa_cons (pv 13) (pa_cons (pv 11) (pa_cons (pv 12) pa_nil))))) (tupTK K rfl rfl (pgs_cons (pg_name (i := 14) sc_L_best.nd rfl (by first | exact Or.inl rfl | exact Or.inr rfl)) (pgs_cons (pg_name (i := 15) sc_L_best.nd rfl (by first | exact Or.inl rfl | exact Or.inr rfl)) (pgs_cons (pg_name (i := 16) sc_L_best.nd rfl (by first | exact Or.inl rfl | exact Or.inr rfl)) pgs_nil))))
    (pss_cons (ps_set (i := 17) sc_L_best.nd rfl (Or.inl rfl) (pe_op op_add (pe_dget (hu_of hr) (pv 5) (pv 13) (fun _ _ => rfl)) (ec c_L_brought hr (by decide) rfl (pa_cons (pv 16) (pa_cons (pv 9) pa_nil)))))
    (pss_one (ps_if (PW.pt (pw_and (PW.pt (pw_or (pt_cmpR op_isN (pv 7) pe_non (nomark _)) (pw_or1 (pt_cmpR op_eq (pv 15) pe_int (nomark _))))) (pw_and1 (pt_cmpR op_ge (pv 17) (pe_dget2 (hu_of hr) (pv 10) (pv 14) (pv 17) (.mk rfl rfl rfl rfl)) (nomark _))))) (pss_one (ps_dput (hu_of hr) (pv 10) (pv 14) (pv 17) rfl)) pss_nil)))))))
    (pss_one (ps_set (i := 5) sc_L_best.nd rfl (Or.inr rfl) (pv 10))))))))
    (pss_one (ps_ret (pe_callB (maxK K rfl rfl) (by rfl) T.g_max boot_max (pa_cons (pe_op op_cat (pe_lock (pe_lc (own := [("_law_left", 13)]) (g := (gName 13)) (tt := tYes) rfl sc_L_best.nd (pi_keys (pv 5)) (blkOk_by (own := [("_law_left", 13)]) (N := ["_law_rows_here", "_law_stock", "_law_worths_here", "_law_wants", "_law_kinds_here", "_law_known", "_law_row", "_law_want", "_law_fits_here", "_law_values", "_law_later", "_law_places", "_law_room", "_law_left", "_law_rest", "_law_free", "_law_numbers", "_law_value", "_law_kind"]) (sc := defScope s_L_best) (by decide +kernel)) (fun _ _ _ _ _ => (pg_name (i := 13) sc_L_best.nd rfl (by first | exact Or.inl rfl | exact Or.inr rfl))) (fun _ _ _ _ _ => pts_nil) (fun _ _ _ _ _ => (pe_dget (hu_of hr) (pv 5) (pv 13) (fun _ _ => rfl))))) (pe_lst (pa_cons (pe_un un_neg (pe_op op_powS pe_int pe_int)) pa_nil))) pa_nil))))))), ?_⟩
    obtain ⟨vs, hvs, rel⟩ := L.rows
    have okI : (theI rs ws).Ok := (mok L.ro L.wo).ok
    have hfew := L.ro.few
    have h7 := L.few
    refine q_asgN (R := isKh st) (en_sortD (ev_var rfl) L.sd L.so.nd (fun x hx => let ⟨k, h, _⟩ := L.so.ks x hx; ⟨k, h⟩) (by omega)) fun ka H1 hka e1 _ nw => ?_
    obtain ⟨kh, hkh, khn, khm, _, khl⟩ := nw.now (Ex.refl _) e1
    have hkst : ∀ k ∈ kh, lkI st (.inr k) = some (stk st k) := fun k hk => by
      obtain ⟨v, hv⟩ := Option.isSome_iff_exists.mp (lkI_isSome.mpr ((khm k).mp hk))
      unfold stk lkS
      rw [hv]; rfl
    have hkno : ∀ k, k ∉ kh → stk st k = 0 := fun k hk => by
      unfold stk lkS
      rw [lkI_none.mpr fun z => hk ((khm k).mpr z)]; rfl
    have stop := stk_top L.top
    have snn := stk_nn L.so
    refine q_dispT1 (key := lkf kh (stk st)) (v := 0) ?_ ev_c fun kd0 H2 hkd0 e2 hkd2 => ?_
    · rw [lkf_kV]
      refine eu_tupofN ?_
      have e := given_map kh (fun _ => true) (fun k => V.int (stk st k)) (f := fun _ => true) (v := fun j => .int (stk st (kh.getD j default))) fun j k hk => by rw [getD_of hk]; exact ⟨rfl, rfl⟩
      rw [List.filter_eq_self.mpr fun _ _ => rfl] at e
      rw [← e, ← List.length_map (f := V.str)]
      refine el_lcLg (a := ka) (fun _ => true) _ (ev_var rfl) (sq_get hkh) (by rw [List.length_map]; omega) fun j x H3 e3 hx => ?_
      obtain ⟨k, hk, rfl⟩ := get_map hx
      rw [getD_of hk]
      exact turnN rfl et_yes fun _ => ev_getS (ev_var rfl) (ev_var rfl) ((e1.trans e3) _ _ L.sd) (hkst k (List.mem_of_getElem? hk))
    · have e12 := e1.trans e2
      refine q_forZ (a := ra) (b := wl) (xs := vs) (ys := rs.map fun _ => V.non) (ev_var rfl) (ev_var rfl) (sq_get (e12 _ _ hvs)) (sq_get (e12 _ _ hwl)) (by rw [List.length_map, rel.len]) (fun n σ' H' => ∃ (kd : Addr) (kn : List (List Key × Int)) (x6 x7 x8 x9 x10 x11 x12 x13 x14 x15 x16 x17 : Option V), σ' = [some (.ref ra), some (.ref sd), some (.ref wd), some (.ref wl), some (.ref ka), some (.ref kd), x6, x7, x8, x9, x10, x11, x12, x13, x14, x15, x16, x17, none] ∧ Ex H1 H' ∧ H1 kd = none ∧ H' kd = some (.dT (mI kn)) ∧ DP (theI rs ws) kh (stk st) n kn)
        (fun H3 e3 => ⟨kd0, _, none, none, none, none, none, none, none, none, none, none, none, none, rfl, e2.trans e3, hkd0, e3 _ _ hkd2, DP.start okI fun k _ => snn k⟩) (fun n σ' H' _ h => by obtain ⟨_, _, _, _, _, _, _, _, _, _, _, _, _, _, _, ex, _⟩ := h; exact ⟨sq_get ((e1.trans ex) _ _ hvs), sq_get ((e1.trans ex) _ _ hwl)⟩) (fun n x y σ' H' pt hx hy h hp => ?_) (fun σ' H' h => ?_)
      · obtain ⟨kd, kn, x6, x7, x8, x9, x10, x11, x12, x13, x14, x15, x16, x17, rfl, ex, hkd, hkn, dp⟩ := h
        have hi : n < rs.length := by rw [← rel.len]; exact (List.getElem?_eq_some_iff.mp hx).1
        have hr : rs[n]? = some rs[n] := List.getElem?_eq_getElem hi
        have ey : y = .non := by
          rw [List.getElem?_map, hr] at hy
          exact (Option.some.inj hy).symm
        subst ey
        obtain ⟨t, fa, rfl, h3, h4⟩ := rel.get n x _ hx hr
        have ro := L.ro.ok _ (List.getElem_mem hi)
        have hgr : rs.getD n default = rs[n] := getD_of hr
        have hI : (theI rs ws).fits n = rs[n].fits := by show (rs.getD n default).fits = _; rw [hgr]
        have hwant : (theI rs ws).want n = rs[n].most := by show (rs.map (·.most)).getD n 0 = _; rw [want_mk hi, hgr]
        have hwI : ∀ k, (theI rs ws).w n k = gtI ws [.inr rs[n].name, .inr k] := fun k => by show gtI ws [.inr (rs.getD n default).name, .inr k] = _; rw [hgr]
        have hfeq : rs[n].fits.filter (fun k => decide (k ∈ kh)) = hereF (theI rs ws) kh n := by unfold hereF; rw [hI]
        have hfn : (hereF (theI rs ws) kh n).Nodup := by rw [← hfeq]; exact ro.nd.filter _
        have hfk : ∀ k ∈ hereF (theI rs ws) kh n, k ∈ kh ∧ k ∈ rs[n].fits := fun k hk => by rw [← hfeq] at hk; exact ⟨of_decide_eq_true (List.mem_filter.mp hk).2, (List.mem_filter.mp hk).1⟩
        have hf6 : (hereF (theI rs ws) kh n).length ≤ 6 := by rw [← hfeq]; exact Nat.le_trans (List.length_filter_le _ _) ro.few
        have hws : ∀ k ∈ rs[n].fits, lkI ws [.inr rs[n].name, .inr k] = some ((theI rs ws).w n k) := fun k hk => by
          obtain ⟨v, hv⟩ := Option.isSome_iff_exists.mp (L.wo.has (rs[n].name, k) (List.mem_flatMap.mpr ⟨_, List.getElem_mem hi, List.mem_map.mpr ⟨k, hk, rfl⟩⟩))
          rw [hwI]
          unfold gtI
          rw [show lkI ws [.inr rs[n].name, .inr k] = some v from hv]; rfl
        generalize hhf : hereF (theI rs ws) kh n = hf at hfeq hfn hfk hf6
        have exp := ex.trans (Ex.new (o := .tup [.ref t, .non]) hp)
        have hkn1 := (Ex.new (o := .tup [.ref t, .non]) hp) _ _ hkn
        refine q_asgL (xs := hf.map V.str) ?_ fun hl H3 hhl e3 hh3 => ?_
        · have e := given_map rs[n].fits (fun k => decide (k ∈ kh)) V.str (f := fun j => decide (rs[n].fits.getD j default ∈ kh)) (v := fun j => .str (rs[n].fits.getD j default)) fun j k hk => by rw [getD_of hk]; exact ⟨rfl, rfl⟩
          rw [← hfeq, ← e, ← List.length_map (f := V.str)]
          refine el_lcLg (a := fa) _ _ (ev_ixT (ev_var rfl) ev_c (st_get ((e1.trans exp) _ _ h3)) (atI_get (i := 1) rfl)) (sq_get ((e1.trans exp) _ _ h4)) (by rw [List.length_map]; have := ro.few; omega) fun j x H4 e4 hx => ?_
          obtain ⟨k, hk, rfl⟩ := get_map hx
          rw [getD_of hk]
          exact turnN rfl (et_test (ev_is (ev_op (ev_var rfl) (ev_var rfl) (rv_isL (sq_get ((exp.trans e4) _ _ hkh)) rfl (by rw [List.all_map]; exact List.all_eq_true.mpr fun _ _ => rfl))) (by rw [inV_strs]))) fun _ => ev_var rfl
        · have ex3 := exp.trans e3
          refine q_parN (R1 := isL ((hf.map fun k => (theI rs ws).w n k).map V.int)) (R2 := fun p H => H p = some (.dT (mI ([] : List (List Key × Int))))) (en_L ?_) en_newT fun vl lt H4 hvl hlt hne e4 hvl4 hlt4 => ?_
          · have e := given_map hf (fun _ => true) (fun k => V.int ((theI rs ws).w n k)) (f := fun _ => true) (v := fun j => .int ((theI rs ws).w n (hf.getD j default))) fun j k hk => by rw [getD_of hk]; exact ⟨rfl, rfl⟩
            rw [List.filter_eq_self.mpr fun _ _ => rfl] at e
            rw [List.map_map]
            show EvL _ _ _ (hf.map fun k => V.int ((theI rs ws).w n k))
            rw [← e, ← List.length_map (f := V.str)]
            refine el_lcLg (a := hl) (fun _ => true) _ (ev_var rfl) (sq_get hh3) (by rw [List.length_map]; omega) fun j x H5 e5 hx => ?_
            obtain ⟨k, hk, rfl⟩ := get_map hx
            rw [getD_of hk]
            refine turnN rfl et_yes fun _ => ev_dgetU (ks := [.inr rs[n].name, .inr k]) (ev_var rfl) (eu2 (ev_ixT (ev_var rfl) ev_c (st_get ((e1.trans (ex3.trans e5)) _ _ h3)) (atI_get (i := 0) rfl)) (ev_var rfl)) ((e1.trans (ex3.trans e5)) _ _ L.wd) ?_
            rw [valV_mI, hws k (hfk k (List.mem_of_getElem? hk)).2]; rfl
          · have ex4 := ex3.trans e4
            refine q_parNV (R := isL (hf.map fun k => .int ((plc kh k : Nat) : Int))) (y := .int rs[n].most) (en_L ?_) (ev_if (b := true) (et_test (ev_op (ev_var rfl) ev_c fun H1 _ Q q => ⟨rfl, q H1 (Ex.refl H1)⟩)) (fun _ => ev_ixT (ev_var rfl) ev_c (st_get ((e1.trans ex4) _ _ h3)) (atI_get (i := 2) rfl)) fun z => nomatch z) fun pl H5 hpl e5 hpl5 => ?_
            · have e := given_map hf (fun _ => true) (fun k => V.int ((plc kh k : Nat) : Int)) (f := fun _ => true) (v := fun j => .int ((plc kh (hf.getD j default) : Nat) : Int)) fun j k hk => by rw [getD_of hk]; exact ⟨rfl, rfl⟩
              rw [List.filter_eq_self.mpr fun _ _ => rfl] at e
              rw [← e, ← List.length_map (f := V.str)]
              refine el_lcLg (a := hl) (fun _ => true) _ (ev_var rfl) (sq_get (e4 _ _ hh3)) (by rw [List.length_map]; omega) fun j x H6 e6 hx => ?_
              obtain ⟨k, hk, rfl⟩ := get_map hx
              rw [getD_of hk]
              exact turnN rfl et_yes fun _ => ev_index (ev_var rfl) (ev_var rfl) ((ex4.trans e6) _ _ hkh) (hfk k (List.mem_of_getElem? hk)).1
            · subst hhf
              have ex5 := ex4.trans e5
              have hn6 : n < (theI rs ws).n := hi
              have hkd5 : H5 kd = some (.dT (mI kn)) := ((e3.trans e4).trans e5) _ _ hkn1
              have hlt5 : H5 lt = some (.dT (mI [])) := e5 _ _ hlt4
              have hkl : kd ≠ lt := ne_of_none (e3 _ _ hkn1) hlt
              have hlt1 : H1 lt = none := fresh_back ex3 hlt
              have exB : Ex H1 (del (del H5 kd) lt) := ex_del (ex_del ex5 hkd) hlt1
              have hvlB : del (del H5 kd) lt vl = some (.lst (((hereF (theI rs ws) kh n).map fun k => (theI rs ws).w n k).map V.int)) := by
                rw [del_ne hne, del_ne (ne_of_none (e3 _ _ hkn1) hvl).symm]; exact e5 _ _ hvl4
              have hplB : del (del H5 kd) lt pl = some (.lst ((hereF (theI rs ws) kh n).map fun k => .int ((plc kh k : Nat) : Int))) := by
                rw [del_ne (ne_of_none hlt4 hpl).symm, del_ne (ne_of_none ((e3.trans e4) _ _ hkn1) hpl).symm]; exact hpl5
              have m1 := ro.m1
              have m2 := ro.m2
              let LB : Nat → List (List Key × Int) → Prop := fun m tab => ∀ m', m' < m → ∀ key v, kn[m']? = some (key, v) → ∃ y0, PF (theI rs ws) kh (stk st) n y0 ∧ key = lky (theI rs ws) kh (stk st) y0 ∧ v = (theI rs ws).worth y0 ∧ ∀ c, (∀ k ∈ hereF (theI rs ws) kh n, 0 ≤ c k) → (∀ k ∈ hereF (theI rs ws) kh n, c k ≤ stk st k - (theI rs ws).used y0 k) → sm (hereF (theI rs ws) kh n) c ≤ (theI rs ws).want n →
                AtL tab (lkf kh (lessF (fun k => stk st k - (theI rs ws).used y0 k) (hereF (theI rs ws) kh n) c)) (v + sm (hereF (theI rs ws) kh n) fun k => c k * (theI rs ws).w n k)
              refine q_forKT (d := kd) (kvs := mI kn) hkd5 (fun od => ev_var rfl) (fun od m σ' H' => ∃ (tab : List (List Key × Int)) (x13 x14 x15 x16 x17 : Option V), σ' = [some (.ref ra), some (.ref sd), some (.ref wd), some (.ref wl), some (.ref ka), some (.ref kd), some (.ref t), some .non, some (.ref hl), some (.ref vl), some (.ref lt), some (.ref pl), some (.int rs[n].most), x13, x14, x15, x16, x17, none] ∧
                  Ex (del (del H5 kd) lt) H' ∧ H' kd = some (.frz od (.dT (mI kn))) ∧ H' lt = some (.dT (mI tab)) ∧ LA (theI rs ws) kh (stk st) (n + 1) tab ∧ LB m tab)
                (fun od H6 e6 => ⟨[], x13, x14, x15, x16, x17, rfl, ?_, e6 _ _ upd_same, e6 _ _ (by rw [upd_ne hkl.symm]; exact hlt5), ⟨List.nodup_nil, fun key v hv => nomatch hv⟩, fun m' hm' => absurd hm' (Nat.not_lt_zero m')⟩) (fun od m σ' H' _ h => by obtain ⟨_, _, _, _, _, _, _, _, h, _⟩ := h; exact h) (fun od m key9 xv b σ' H' hx hb h => ?_) (fun od σ' H' h => ?_)
              · exact (Ex.mut ((del_ex _ _).trans (del_ex _ _)) (by rw [del_ne hkl]; exact del_self _ _)).trans e6
              · obtain ⟨tab, x13, x14, x15, x16, x17, rfl, exH, hkH, hlH, la, lb⟩ := h
                obtain ⟨⟨key, v0⟩, hkm0, e0⟩ := get_map (l := kn) (f := fun x => (x.1, V.int x.2)) hx
                cases e0
                have hlk0 : lkI kn key = some v0 := lkI_of_mem dp.nd (List.mem_of_getElem? hkm0)
                obtain ⟨y0, hy0, ek0, ev0⟩ := dp.a key v0 hlk0
                have hb' : H' b = some (.tup (kh.map fun k => .int (stk st k - (theI rs ws).used y0 k))) := by
                  rw [hb, ek0]
                  exact congrArg (fun z => some (HO.tup z)) (lkf_kV kh fun k => stk st k - (theI rs ws).used y0 k)
                have hf0 : ∀ k ∈ kh, 0 ≤ stk st k - (theI rs ws).used y0 k ∧ stk st k - (theI rs ws).used y0 k ≤ 5 := fun k hk => by
                  have a1 := hy0.col k hk
                  have a2 := used_nn hy0 k
                  have a3 := stop k
                  constructor <;> omega
                refine s_forP (PP := fun ws' H => RelW kh H ws' (waysF (fun k => stk st k - (theI rs ws).used y0 k) rs[n].most (hereF (theI rs ws) kh n))) (fun Q qq => ⟨_, rfl, _, rfl, _, rfl, b, pl, rs[n].most, kh, hereF (theI rs ws) kh n, fun k => stk st k - (theI rs ws).used y0 k, rfl, hb', exH _ _ hplB, khn, by omega, hfn, fun k hk => (hfk k hk).1, hf6, by omega, m2, fun k hk => ⟨(hf0 k hk).1, Int.le_trans (hf0 k hk).2 (by decide)⟩, fun l ws' H6 hl6 e6 h6 r6 => qq l ws' H6 e6 h6 hl6 r6⟩) fun lw ws' H6 e6 hlw hlw0 rW => ?_
                have hk6 := e6 _ _ hkH
                have hl6 := e6 _ _ hlH
                have e56 : Ex (del (del H5 kd) lt) (del (del H6 kd) lt) := ex_del (ex_del (exH.trans e6) (by rw [del_ne hkl]; exact del_self _ _)) (del_self _ _)
                have hl6' : del H6 kd lt = some (.dT (mI tab)) := by rw [del_ne hkl.symm]; exact hl6
                have rWB : RelW kh (del (del H6 kd) lt) ws' (waysF (fun k => stk st k - (theI rs ws).used y0 k) rs[n].most (hereF (theI rs ws) kh n)) := (rW.del hk6 fun _ z => nomatch z).del hl6' fun _ z => nomatch z
                have hbB : del (del H6 kd) lt b = some (.tup (key.map kV)) := del_of (del_of (e6 _ _ hb) hk6 fun z => nomatch z) hl6' fun z => nomatch z
                have hlwB : del (del H6 kd) lt lw = some (.lst ws') := del_of (del_of hlw hk6 fun z => nomatch z) hl6' fun z => nomatch z
                refine ⟨fun j σ' H' => ∃ (tab : List (List Key × Int)) (x14 x15 x16 x17 : Option V), σ' = [some (.ref ra), some (.ref sd), some (.ref wd), some (.ref wl), some (.ref ka), some (.ref kd), some (.ref t), some .non, some (.ref hl), some (.ref vl), some (.ref lt), some (.ref pl), some (.int rs[n].most), some (.ref b), x14, x15, x16, x17, none] ∧
                  Ex (del (del H6 kd) lt) H' ∧ H' kd = some (.frz od (.dT (mI kn))) ∧ H' lt = some (.dT (mI tab)) ∧ LA (theI rs ws) kh (stk st) (n + 1) tab ∧ LB m tab ∧ ∀ j', j' < j → ∀ x, (waysF (fun k => stk st k - (theI rs ws).used y0 k) rs[n].most (hereF (theI rs ws) kh n))[j']? = some x → AtL tab (lkf kh x.1) (v0 + dotI x.2.2 ((hereF (theI rs ws) kh n).map fun k => (theI rs ws).w n k)),
                  ⟨tab, x14, x15, x16, x17, rfl, (del_ex _ _).trans (del_ex _ _), hk6, hl6, la, lb, fun j' hj' => absurd hj' (Nat.not_lt_zero j')⟩, fun j σ' H' _ h => by obtain ⟨_, _, _, _, _, _, exx, _⟩ := h; exact sq_get (exx _ _ hlwB), fun j xw σ' H7 hxw h => ?_, fun σ' H7 h => ?_⟩
                · obtain ⟨tab, x14, x15, x16, x17, rfl, ex7, hk7, hl7, la, lb, lw7⟩ := h
                  have hj : j < (waysF (fun k => stk st k - (theI rs ws).used y0 k) rs[n].most (hereF (theI rs ws) kh n)).length := by rw [← rWB.len]; exact (List.getElem?_eq_some_iff.mp hxw).1
                  have hWj := List.getElem?_eq_getElem hj
                  obtain ⟨tw, r, qa, rfl, htw, hrw, hqw⟩ := rWB.get j xw _ hxw hWj
                  obtain ⟨c, wk⟩ := waysF_ok (show 0 ≤ rs[n].most by omega) _ hfn _ (List.getElem_mem hj)
                  generalize (waysF (fun k => stk st k - (theI rs ws).used y0 k) rs[n].most (hereF (theI rs ws) kh n))[j] = x at hWj htw hrw hqw wk
                  have hc2 : sm (hereF (theI rs ws) kh n) c ≤ (theI rs ws).want n := by have a1 := wk.fr; have a2 := wk.f0; rw [hwant]; omega
                  obtain ⟨pu, us, wo⟩ := PF.up okI hy0 hn6 wk.nn wk.le hc2
                  have hkx : lkf kh x.1 = lky (theI rs ws) kh (stk st) (putRow y0 n (hereF (theI rs ws) kh n) c) := by rw [lky_put okI hn6 us, wk.g]
                  have hval : v0 + dotI x.2.2 ((hereF (theI rs ws) kh n).map fun k => (theI rs ws).w n k) = (theI rs ws).worth (putRow y0 n (hereF (theI rs ws) kh n) c) := by rw [wk.nu, dot_map, wo, ev0]
                  refine ⟨tw, _, rfl, st_get (ex7 _ _ htw), rfl, _, _, rfl, _, _, rfl, _, _, rfl, rfl, ?_⟩
                  have hdg : ∀ H8, Ex H7 H8 → DGet H8 kd (.ref b) (some (.int v0)) := fun H8 e8 => .inr ⟨mI kn, key, b, .inr ⟨od, e8 _ _ hk7⟩, rfl, e8 _ _ (ex7 _ _ hbB), by rw [valV_mI, hlk0]; rfl⟩
                  refine q_asg (v := .int (v0 + dotI x.2.2 ((hereF (theI rs ws) kh n).map fun k => (theI rs ws).w n k))) (ev_add (ev_dget (ev_var rfl) (ev_var rfl) hdg) (ev_callN (vs := [.ref qa, .ref vl]) (ea2 (ev_var rfl) (ev_var rfl)) fun H8 e8 Q qq _ => ⟨qa, vl, x.2.2, (hereF (theI rs ws) kh n).map fun k => (theI rs ws).w n k, rfl, e8 _ _ (ex7 _ _ hqw), e8 _ _ (ex7 _ _ (e56 _ _ hvlB)), by rw [wk.nu, List.length_map, List.length_map], by rw [wk.nu, List.length_map]; omega, fun m hm => ?_, qq⟩)) fun H8 e8 => ?_
                  · rw [wk.nu] at hm
                    obtain ⟨k, hk, rfl⟩ := List.mem_map.mp hm
                    have b1 := wk.nn k hk
                    have b2 := wk.le k hk
                    have b3 := (hf0 k (hfk k hk).1).2
                    constructor
                    · exact b1
                    · exact Int.le_trans b2 (Int.le_trans b3 (by decide))
                  · generalize hv : v0 + dotI x.2.2 ((hereF (theI rs ws) kh n).map fun k => (theI rs ws).w n k) = val at hval ⊢
                    have hrk : ∀ H9, Ex H8 H9 → H9 r = some (.tup ((lkf kh x.1).map kV)) := fun H9 e9 => by rw [lkf_kV]; exact e9 _ _ (e8 _ _ (ex7 _ _ hrw))
                    have hl8 := e8 _ _ hl7
                    refine s_when (b := decide ((lkI tab (lkf kh x.1)).getD val ≤ val)) (et_is (et_and (a := true) (b := decide ((lkI tab (lkf kh x.1)).getD val ≤ val)) (et_or (a := true) (b := true) (et_test (ev_op (ev_var rfl) ev_c fun H1 _ Q q => ⟨rfl, q H1 (Ex.refl H1)⟩)) fun z => nomatch z) fun _ => et_test (ev_ge (ev_var rfl) (ev_is (ev_get2 (o := valV (mI tab) (lkf kh x.1)) (ev_var rfl) (isD_T hl8) (ev_var rfl) (ev_var rfl) (dget_tup hl8 (hrk H8 (Ex.refl _)))) (getD_intN _ _ _)))) (by simp)) (fun hd9 H9 e9 => ?_) (fun hd9 H9 e9 => ?_)
                    · have hd9 := of_decide_eq_true hd9
                      have hlen := la.len stop (by omega)
                      refine s_putT (b := r) (k := lkf kh x.1) (v := val) (l := tab) (ev_var rfl) (ev_var rfl) (ev_var rfl) (hrk H9 e9) (e9 _ _ hl8) (by omega) fun H10 e10 => ⟨putI tab (lkf kh x.1) val, _, _, _, _, rfl, Ex.mut ((ex7.trans e8).trans (e9.trans e10)) (del_self _ _), by rw [upd_ne hkl]; exact (e8.trans (e9.trans e10)) _ _ hk7, upd_same, ?_, fun m' hm' key v hk => ?_, fun j' hj' x' hx' => ?_⟩
                      · rw [hkx, hval]; exact la.put pu
                      · obtain ⟨y1, z1, z2, z3, z4⟩ := lb m' hm' key v hk
                        exact ⟨y1, z1, z2, z3, fun c a b d => (z4 c a b d).put hd9⟩
                      · by_cases ej : j' = j
                        · subst ej
                          rw [hWj] at hx'
                          cases hx'
                          refine ⟨val, ?_, by rw [hv]; exact Int.le_refl _⟩
                          rw [lkI_put, if_pos rfl]
                        · exact (lw7 j' (by omega) x' hx').put hd9
                    · have hd9 := of_decide_eq_false hd9
                      refine ⟨tab, _, _, _, _, rfl, (ex7.trans e8).trans e9, e9 _ _ (e8 _ _ hk7), e9 _ _ hl8, la, lb, fun j' hj' x' hx' => ?_⟩
                      by_cases ej : j' = j
                      · subst ej
                        rw [hWj] at hx'
                        cases hx'
                        cases e : lkI tab (lkf kh x.1) with
                        | none => rw [e] at hd9; exact absurd (Int.le_refl val) hd9
                        | some v' =>
                          rw [e] at hd9
                          refine ⟨v', e, ?_⟩
                          rw [hv]
                          simp at hd9
                          omega
                      · exact lw7 j' (by omega) x' hx'
                · obtain ⟨tab, x14, x15, x16, x17, rfl, ex7, hk7, hl7, la, lb, lw7⟩ := h
                  refine ⟨tab, _, _, _, _, _, rfl, e56.trans ex7, hk7, hl7, la, fun m' hm' key' v hk => ?_⟩
                  by_cases em : m' = m
                  · subst em
                    rw [hkm0] at hk
                    cases hk
                    refine ⟨y0, hy0, ek0, ev0, fun c c0 c1 c2 => ?_⟩
                    rw [hwant] at c2
                    obtain ⟨j', hj'⟩ := List.getElem?_of_mem (waysF_all (f := fun k => stk st k - (theI rs ws).used y0 k) (room := rs[n].most) (c := c) (hereF (theI rs ws) kh n) hfn c0 c1 c2)
                    have := lw7 j' (by rw [rWB.len]; exact (List.getElem?_eq_some_iff.mp hj').1) _ hj'
                    rw [dot_map] at this
                    exact this
                  · exact lb m' (by omega) key' v hk
              · obtain ⟨tab, x13, x14, x15, x16, x17, rfl, exH, hkH, hlH, la, lb⟩ := h
                rw [len_mI] at lb
                have hlt6 : (upd H' kd (.dT (mI kn))) lt = some (.dT (mI tab)) := by rw [upd_ne hkl.symm]; exact hlH
                refine s_asg (v := .ref lt) (ev_var rfl) fun H6 e6 => ⟨lt, tab, _, _, _, _, _, _, _, _, _, _, _, _, rfl, (Ex.mut (exB.trans exH) hkd).trans e6, hlt1, e6 _ _ hlt6, DP.next okI hn6 dp la fun m key v hm => lb m (List.getElem?_eq_some_iff.mp hm).1 key v hm⟩
      · obtain ⟨kd, kn, x6, x7, x8, x9, x10, x11, x12, x13, x14, x15, x16, x17, rfl, ex, hkd, hkn, dp⟩ := h
        rw [rel.len] at dp
        have dp : DP (theI rs ws) kh (stk st) (theI rs ws).n kn := dp
        obtain ⟨t1, t2⟩ := mxL_top (kn.map (·.2) ++ [-10 ^ 60]) (by simp)
        have hop := DP.opt okI dp hkno snn t1 t2
        have hlen : kn.length ≤ 46656 := LA.len ⟨dp.nd, dp.a⟩ stop (by omega)
        refine s_ret (v := .int (mxL (kn.map (·.2) ++ [-10 ^ 60]))) (ev_maxL (ns := kn.map (·.2) ++ [-10 ^ 60]) ?_ t1 t2) fun H3 e3 => q _ H3 (e1.trans (ex.trans e3)) hop
        rw [List.map_append]
        refine el_cat (ys := [.int (-10 ^ 60)]) ?_ ?_ (by rw [List.length_map, List.length_map]; simp only [List.length_singleton]; omega)
        · have e := given_map kn (fun _ => true) (fun x => V.int x.2) (f := fun _ => true) (v := fun j => .int (kn.getD j ([], 0)).2) fun j x hx => by rw [List.getD_eq_getElem?_getD, hx]; exact ⟨rfl, rfl⟩
          rw [List.filter_eq_self.mpr fun _ _ => rfl] at e
          rw [List.map_map]
          show EvL _ _ _ (kn.map fun x => V.int x.2)
          rw [← e, ← len_mI]
          refine el_lcKt (fun _ => true) _ hkn (fun od => ev_var rfl) (by rw [len_mI]; omega) fun od i k x b H3 e3 hx hb => ?_
          obtain ⟨⟨k0, i0⟩, hfd, e0⟩ := get_map (l := kn) (f := fun x => (x.1, V.int x.2)) hx
          cases e0
          rw [List.getD_eq_getElem?_getD, hfd, Option.getD_some]
          refine turnN rfl et_yes fun _ => ev_dget (ev_var rfl) (ev_var rfl) fun H4 e4 => .inr ⟨mI kn, k0, b, .inr ⟨od, (e3.trans e4) _ _ upd_same⟩, rfl, e4 _ _ hb, ?_⟩
          rw [valV_mI, lkI_of_mem dp.nd (List.mem_of_getElem? hfd)]; rfl
        · exact el_lst (ea1 (ev_un (ev_op ev_c ev_c (rv_I (show CPowS 10 60 from ⟨by decide, by decide +kernel⟩))) ru_neg)) (by simp)
end
end K59
namespace K59
open PySem PySem.Spec PyProof.Rows L2 Evl
section
variable {P : Program} {w : World} {K : PySem.W.Frag} {mg : Str → Option Value} {base : Heap} {CA CL CM : Addr}
def spLAny : Sp := fun vs H Q _ => ∃ (ra sd wd : Addr) (rs : List K59.Row) (st : List (Key × Int)) (ws : List (List Key × Int)), vs = [.ref ra, .ref sd, .ref wd] ∧ LIn H ra sd wd rs st ws ∧ ∀ M H', Ex H H' → IsOpt (theI rs ws) (stk st) M → Q (.int M) H'
theorem d_L_any {f : Addr} {fd : FuncData} (F : Fun K "_law_any" "_law_any" s_L_any f fd) (T : Txt K mg CA CL CM) (c_L_best : CalK P w K mg base 2 "_law_best" spLBest) : FnOk P w K mg base CX0 3 f fd ["_law_rows_here", "_law_stock", "_law_worths_here"] spLAny := by
  refine F.ok sc_L_any (fun vs H Q E h => ?_) (fun cdv A outer s H vs Q E hr h => ?_)
  · obtain ⟨_, _, _, _, _, _, rfl, _⟩ := h
    rfl
  · obtain ⟨ra, sd, wd, rs, st, ws, rfl, L, q⟩ := h
    refine ⟨_, (pss_one (ps_ret (ec c_L_best hr (by decide) rfl (pa_cons (pv 0) (pa_cons (pv 1) (pa_cons (pv 2) (pa_cons (pe_lc (own := [("_law_row", 3)]) (g := (gName 3)) (tt := tYes) rfl sc_L_any.nd (listK K rfl (pv 0)) (blkOk_by (own := [("_law_row", 3)]) (N := ["_law_rows_here", "_law_stock", "_law_worths_here", "_law_row"]) (sc := defScope s_L_any) (by decide +kernel)) (fun _ _ _ _ _ => (pg_name (i := 3) sc_L_any.nd rfl (by first | exact Or.inl rfl | exact Or.inr rfl))) (fun _ _ _ _ _ => pts_nil) (fun _ _ _ _ _ => pe_non)) pa_nil))))))), ?_⟩
    obtain ⟨vs, hvs, rel⟩ := L.rows
    have hfew := L.ro.few
    have hel : EvL (tLc (iList K (tVar 0)) (gName 3) tYes (tC .non) [3]) ([some (.ref ra), some (.ref sd), some (.ref wd), none] : L2.St) H (rs.map fun _ => V.non) := by
      have e := given_map rs (fun _ => true) (fun _ => V.non) (f := fun _ => true) (v := fun _ => .non) fun j k hk => ⟨rfl, rfl⟩
      rw [List.filter_eq_self.mpr fun _ _ => rfl, ← rel.len] at e
      rw [← e]
      exact el_lcLg (fun _ => true) _ (ev_var rfl) (sq_get hvs) (by rw [rel.len]; omega) fun i y H9 e9 hy => turnN rfl et_yes fun _ => ev_c
    refine ⟨_, rfl, _, rfl, _, rfl, ?_⟩
    exact hel H (Ex.refl _) _ fun p H1 hp e1 h1 => ⟨ra, sd, wd, p, rs, st, ws, rfl, L.mono e1, h1, fun M H' e => q M H' (e1.trans e)⟩
theorem spv_any {H : Hp} {ra sd wd : Addr} {rs : List K59.Row} {st : List (Key × Int)} {ws : List (List Key × Int)} (L : LIn H ra sd wd rs st ws) {M : Int} (o : IsOpt (theI rs ws) (stk st) M) : SpV spLAny [.ref ra, .ref sd, .ref wd] H (.int M) := fun H1 e Q q _ => ⟨ra, sd, wd, rs, st, ws, rfl, L.mono e, fun M' H' e' o' => by
  rw [o'.one o]; exact q H' e'⟩
theorem stk_with (st : List (Key × Int)) (k : Str) (d : Int) : stk (withT st k d) = fun j => if j = k then stk st j + d else stk st j := funext fun j => by
  show (lkS (putI st (.inr k) _) j).getD 0 = _
  rw [lkS_put]
  by_cases e : j = k
  · subst e
    simp [stk]
  · simp [e, stk]
theorem withT_ok {st : List (Key × Int)} (so : StOk st) {k : Str} (hk : NameOk k) {d : Int} (h0 : 0 ≤ stk st k + d) (hl : (withT st k d).length ≤ 60) : StOk (withT st k d) := by
  have hm : ∀ x ∈ withT st k d, x ∈ st ∨ x = (.inr k, stk st k + d) := fun x hx => by
    have h1 : lkI (withT st k d) x.1 = some x.2 := lkI_of_mem (nodup_put so.nd _ _) hx
    unfold withT at h1
    rw [lkI_put] at h1
    by_cases e : x.1 = .inr k
    · rw [if_pos e] at h1
      exact .inr (Prod.ext e (Option.some.inj h1).symm)
    · rw [if_neg e] at h1
      exact .inl (mem_of_lkI h1)
  refine ⟨fun x hx => ?_, fun x hx => ?_, nodup_put so.nd _ _, hl⟩
  · rcases hm x hx with h | h
    · exact so.ks x h
    · subst h; exact ⟨k, rfl, hk⟩
  · rcases hm x hx with h | h
    · exact so.nn x h
    · subst h; exact h0
theorem withT_top {st : List (Key × Int)} (so : StOk st) {k : Str} {d : Int} {b : Int} (ht : ∀ x ∈ st, x.2 ≤ b) (h0 : stk st k + d ≤ b) : ∀ x ∈ withT st k d, x.2 ≤ b := fun x hx => by
  have h1 : lkI (withT st k d) x.1 = some x.2 := lkI_of_mem (nodup_put so.nd _ _) hx
  unfold withT at h1
  rw [lkI_put] at h1
  by_cases e : x.1 = .inr k
  · rw [if_pos e] at h1
    rw [← Option.some.inj h1]; exact h0
  · rw [if_neg e] at h1
    exact ht x (mem_of_lkI h1)
/-- any(rows, with(stock, kind, d), worths) -/
theorem ev_anyw {σ : L2.St} {H : Hp} {t0 t1 t2 tk td : TE} {E1 E2 : XK} {ra sd wd : Addr} {rs : List K59.Row} {st : List (Key × Int)} {ws : List (List Key × Int)} {k : Str} {d M : Int} (h0 : Ev t0 σ H (.ref ra)) (h1 : Ev t1 σ H (.ref sd)) (h2 : Ev t2 σ H (.ref wd)) (hk : Ev tk σ H (.str k)) (hd : Ev td σ H (.int d))
    (hL : ∀ p H', Ex H H' → H' p = some (.dK (mI (withT st k d))) → LIn H' ra p wd rs (withT st k d) ws) (hs : H sd = some (.dK (mI st))) (hl : st.length ≤ 100) (o : IsOpt (theI rs ws) (stk (withT st k d)) M) :
    Ev (tCall spLAny [] E1 (tCons t0 (tCons (tCall spLWith [] E2 (tCons t1 (tCons tk (tCons td tNil)))) (tCons t2 tNil)))) σ H (.int M) := fun H1 e Q q =>
  h0 H1 e _ fun H2 e2 => h1 H2 (e.trans e2) _ fun H3 e3 => hk H3 ((e.trans e2).trans e3) _ fun H4 e4 => hd H4 (((e.trans e2).trans e3).trans e4) _ fun H5 e5 => by
    have e15 := ((e2.trans e3).trans e4).trans e5
    refine ⟨sd, k, d, st, rfl, (e.trans e15) _ _ hs, hl, fun p H6 hp e6 h6 => ?_⟩
    refine h2 H6 ((e.trans e15).trans e6) _ fun H7 e7 => ?_
    show spLAny ([.ref ra, .ref p, .ref wd] ++ []) H7 Q E1
    rw [List.append_nil]
    exact spv_any (hL p H7 ((e.trans e15).trans (e6.trans e7)) (e7 _ _ h6)) o H7 (Ex.refl _) Q (fun H8 e8 => q H8 (e15.trans (e6.trans (e7.trans e8)))) E1
/-- the rest price, by rows -/
theorem mx0_congr0 : ∀ {l m : List Int}, (∀ a ∈ l, 0 < a → a ∈ m) → (∀ a ∈ m, 0 < a → a ∈ l) → mx0 l = mx0 m := fun {l m} h g => by
  refine Int.le_antisymm (mx0_le (mx0_nonneg m) fun a ha => ?_) (mx0_le (mx0_nonneg l) fun a ha => ?_)
  · by_cases p : 0 < a
    · exact le_mx0 (h a ha p)
    · have := mx0_nonneg m; omega
  · by_cases p : 0 < a
    · exact le_mx0 (g a ha p)
    · have := mx0_nonneg l; omega
theorem gf_bare {fd st : List (Key × Int)} {S : List Str} (ki : KeysI fd S) {k : Str} (hk : k ∈ S) : lkS (bare fd st) k = some (if 0 < stk st k then gf fd k else 10 ^ 12) := by
  have h := ki.get hk
  unfold lkS bare
  have : ∀ l : List (Key × Int), lkI (l.map fun x => (x.1, if 0 < (lkI st x.1).getD 0 then x.2 else 10 ^ 12)) (.inr k) = (lkI l (.inr k)).map fun v => if 0 < (lkI st (.inr k)).getD 0 then v else 10 ^ 12 := by
    intro l
    induction l with
    | nil => rfl
    | cons x l ih =>
      rw [List.map_cons, lkI_cons, lkI_cons, ih]
      by_cases e : x.1 = .inr k
      · rw [if_pos e, if_pos e]; simp [e]
      · rw [if_neg e, if_neg e]
  rw [this, h]
  rfl
theorem rest_eq {rs : List K59.Row} {st fd : List (Key × Int)} {ws : List (List Key × Int)} (ki : KeysI fd (sortsOf rs)) (hb : ∀ x ∈ ws, x.2 ≤ 10 ^ 12) {k : Str} :
    (theI rs ws).rest (fun j => if j ∈ sortsOf rs ∧ 0 < stk st j then some (gf fd j) else none) k = mx0 ((rs.filter fun r => decide (k ∈ r.fits)).map fun r => gtI ws [.inr r.name, .inr k] - mx0 (r.fits.map fun j => gtI ws [.inr r.name, .inr j] - gf (bare fd st) j)) := by
  unfold Inst.rest
  have hov : ∀ i, i < rs.length → (theI rs ws).overP (fun j => if j ∈ sortsOf rs ∧ 0 < stk st j then some (gf fd j) else none) i = mx0 ((rs.getD i default).fits.map fun j => gtI ws [.inr (rs.getD i default).name, .inr j] - gf (bare fd st) j) := fun i hi => by
    unfold Inst.overP
    have hwle : ∀ key, gtI ws key ≤ 10 ^ 12 := fun key => by
      unfold gtI
      cases e : lkI ws key with
      | none => show (0 : Int) ≤ _; decide
      | some v => exact hb _ (mem_of_lkI e)
    have hin : ∀ j ∈ (rs.getD i default).fits, j ∈ sortsOf rs := fun j hj => ((sortsOf_is rs).mem j).mpr ⟨_, row_mem hi, hj⟩
    refine mx0_congr0 (fun a ha _ => ?_) fun a ha hpos => ?_
    · obtain ⟨j, hj, e⟩ := List.mem_filterMap.mp ha
      have hj : j ∈ (rs.getD i default).fits := hj
      have e : Option.map (fun x => (theI rs ws).w i j - x) (if j ∈ sortsOf rs ∧ 0 < stk st j then some (gf fd j) else none) = some a := e
      by_cases z : j ∈ sortsOf rs ∧ 0 < stk st j
      · rw [if_pos z] at e
        refine List.mem_map.mpr ⟨j, hj, ?_⟩
        rw [gf_of (gf_bare ki z.1), if_pos z.2]
        exact Option.some.inj e
      · rw [if_neg z] at e; cases e
    · obtain ⟨j, hj, rfl⟩ := List.mem_map.mp ha
      rw [gf_of (gf_bare ki (hin j hj))] at hpos ⊢
      by_cases z : 0 < stk st j
      · refine List.mem_filterMap.mpr ⟨j, hj, ?_⟩
        show Option.map (fun x => (theI rs ws).w i j - x) (if j ∈ sortsOf rs ∧ 0 < stk st j then some (gf fd j) else none) = some _
        rw [if_pos ⟨hin j hj, z⟩, if_pos z]
        rfl
      · rw [if_neg z] at hpos
        have := hwle [.inr (rs.getD i default).name, .inr j]
        omega
  have h1 : rs = (List.range rs.length).map fun i => rs.getD i default := by
    have := map_range_getD rs (fun r => r)
    rw [List.map_id'] at this
    exact this.symm
  congr 1
  have h2 : (rs.filter fun r => decide (k ∈ r.fits)) = ((List.range rs.length).filter fun i => decide (k ∈ (rs.getD i default).fits)).map fun i => rs.getD i default := by
    have := List.filter_map (f := fun i => rs.getD i default) (p := fun r => decide (k ∈ r.fits)) (l := List.range rs.length)
    rw [← h1] at this
    exact this
  rw [h2, List.map_map]
  refine List.map_congr_left fun i hi => ?_
  have hi : i < rs.length := List.mem_range.mp (List.mem_filter.mp hi).1
  rw [hov i hi]
  rfl
end
end K59
namespace K59
open PySem PySem.Spec PyProof.Rows L2 Evl
section
variable {P : Program} {w : World} {K : PySem.W.Frag} {mg : Str → Option Value} {base : Heap} {CA CL CM : Addr}
theorem length_put_has {κ : Type} [DecidableEq κ] {l : List (κ × Int)} {k : κ} (h : (lkI l k).isSome = true) (v : Int) : (putI l k v).length = l.length := by
  unfold putI
  rw [if_pos]
  · exact List.length_map _
  · obtain ⟨x, hx, e⟩ := List.mem_map.mp (lkI_isSome.mp h)
    exact List.any_eq_true.mpr ⟨x, hx, decide_eq_true e⟩
/-- small enough for one bag more or less -/
structure Tame (rs : List K59.Row) (st : List (Key × Int)) (ws : List (List Key × Int)) : Prop where
  more : ∀ k ∈ sortsOf rs, (withT st k 1).length ≤ 6
  t3 : ∀ x ∈ st, x.2 ≤ 4
  wb : ∀ x ∈ ws, x.2 ≤ 10 ^ 12
theorem sorts_name {rs : List K59.Row} (ro : RowsOk rs) {k : Str} (hk : k ∈ sortsOf rs) : NameOk k := by
  obtain ⟨r, hr, hk⟩ := ((sortsOf_is rs).mem k).mp hk
  exact (ro.ok r hr).nms k hk
theorem stk3 {st : List (Key × Int)} (top : ∀ x ∈ st, x.2 ≤ 4) (k : Str) : stk st k ≤ 4 := by
  unfold stk
  cases e : lkS st k with
  | none => show (0 : Int) ≤ 4; decide
  | some v => exact top _ (mem_of_lkI e)
def spLEnds : Sp := fun vs H Q _ => ∃ (ra sd wd ld gd : Addr) (due : Int) (rs : List K59.Row) (st : List (Key × Int)) (ws : List (List Key × Int)) (lf gr : List (Key × Int)), vs = [.ref ra, .ref sd, .ref wd, .int due, .ref ld, .ref gd] ∧ LIn H ra sd wd rs st ws ∧ Tame rs st ws ∧ IsOpt (theI rs ws) (stk st) due ∧
  sd ≠ ld ∧ gd ≠ ld ∧ H ld = some (.dK (mI lf)) ∧ H gd = some (.dK (mI gr)) ∧ KeysI lf (sortsOf rs) ∧ Opt (theI rs ws) (stk st) (gf lf) ∧ (∀ p, Opt (theI rs ws) (stk st) p → ∀ k ∈ sortsOf rs, gf lf k ≤ p k) ∧ KeysI gr (sortsOf rs) ∧ Great rs st ws gr ∧ ∀ H', Ex H H' → Q (.bl true) H'
theorem d_L_ends_right {f : Addr} {fd : FuncData} (F : Fun K "_law_ends_right" "_law_ends_right" s_L_ends_right f fd) (T : Txt K mg CA CL CM) (c_L_any : CalK P w K mg base 3 "_law_any" spLAny) (c_L_with : CalK P w K mg base 1 "_law_with" spLWith) (c_L_over : CalK P w K mg base 1 "_law_over" spLOver) (c_L_without : CalK P w K mg base 1 "_law_without" spWithout) :
    FnOk P w K mg base CX0 4 f fd ["_law_rows_here", "_law_stock", "_law_worths_here", "_law_due", "_law_least", "_law_greatest"] spLEnds := by
  refine F.ok sc_L_ends_right (fun vs H Q E h => ?_) (fun cdv A outer s H vs Q E hr h => ?_)
  · obtain ⟨_, _, _, _, _, _, _, _, _, _, _, rfl, _⟩ := h
    rfl
  · obtain ⟨ra, sd, wd, ld, gd, due, rs, st, ws, lf, gr, rfl, L, tm, hdue, nsl, ngl, hld, hgd, kl, ol, ll, kg, gg, q⟩ := h
    refine ⟨_, (pss_cons (ps_lock (ps_for PassesOwn.never rfl (pi_keys (pv 4)) (pg_name (i := 6) sc_L_ends_right.nd rfl (by first | exact Or.inl rfl | exact Or.inr rfl))
    (pss_cons (ps_if (pt_cmpR op_ne (pe_dget (hu_of hr) (pv 4) (pv 6) (fun _ _ => rfl)) (pe_op op_sub (ec c_L_any hr (by decide) rfl (pa_cons (pv 0) (pa_cons (ec c_L_with hr (by decide) rfl (pa_cons (pv 1) (pa_cons (pv 6) (pa_cons pe_int pa_nil)))) (pa_cons (pv 2) pa_nil)))) (pv 3)) (nomark _)) (pss_one (ps_ret pe_bl)) pss_nil)
    (pss_one (ps_if (pt_cmpR op_gt (pe_dget2 (hu_of hr) (pv 1) (pv 6) pe_int (.mk rfl rfl rfl rfl)) pe_int (nomark _)) (pss_one (ps_if (pt_cmpR op_ne (pe_dget (hu_of hr) (pv 5) (pv 6) (fun _ _ => rfl)) (pe_op op_sub (pv 3) (ec c_L_any hr (by decide) rfl (pa_cons (pv 0) (pa_cons (ec c_L_with hr (by decide) rfl (pa_cons (pv 1) (pa_cons (pv 6) (pa_cons (pe_un un_neg pe_int) pa_nil)))) (pa_cons (pv 2) pa_nil))))) (nomark _)) (pss_one (ps_ret pe_bl)) pss_nil)) (pss_cons (ps_setLc (i := 7) (own := [("_law_row", 9)]) (g := (gName 9)) rfl sc_L_ends_right.nd rfl rfl (sw_true rfl rfl rfl (by decide +kernel)) (listK K rfl (pv 0)) (blkOk_by (own := [("_law_row", 9)]) (N := ["_law_rows_here", "_law_stock", "_law_worths_here", "_law_due", "_law_least", "_law_greatest", "_law_kind", "_law_some", "_law_bare", "_law_row"]) (sc := defScope s_L_ends_right) (by decide +kernel)) (fun _ _ _ _ _ => (pg_name (i := 9) sc_L_ends_right.nd rfl (by first | exact Or.inl rfl | exact Or.inr rfl))) (fun _ _ _ _ _ => (pts_one (pt_cmpR (inK K rfl) (pv 6) (pe_ix (ixTK K rfl) (pv 9) pe_int (fun _ _ => rfl)) (by rfl)))) (fun _ _ _ _ _ => (pv 9)))
    (pss_cons (ps_setLc (i := 8) (own := [("_law_row", 9)]) (g := (gName 9)) (tt := tYes) rfl sc_L_ends_right.nd rfl rfl (sw_true rfl rfl rfl (by decide +kernel)) (listK K rfl (pv 7)) (blkOk_by (own := [("_law_row", 9)]) (N := ["_law_rows_here", "_law_stock", "_law_worths_here", "_law_due", "_law_least", "_law_greatest", "_law_kind", "_law_some", "_law_bare", "_law_row"]) (sc := defScope s_L_ends_right) (by decide +kernel)) (fun _ _ _ _ _ => (pg_name (i := 9) sc_L_ends_right.nd rfl (by first | exact Or.inl rfl | exact Or.inr rfl))) (fun _ _ _ _ _ => pts_nil) (fun _ _ _ _ _ => (pe_op op_sub (pe_dget (hu_of hr) (pv 2) (pe_tup (pa_cons (pe_ix (ixTK K rfl) (pv 9) pe_int (fun _ _ => rfl)) (pa_cons (pv 6) pa_nil))) (fun _ _ => rfl)) (ec c_L_over hr (by decide) rfl (pa_cons (pv 9) (pa_cons (pv 2) (pa_cons (ec c_L_without hr (by decide) rfl (pa_cons (pv 5) (pa_cons (pv 1) pa_nil))) pa_nil)))))))
    (pss_one (ps_if (pt_cmpR op_ne (pe_dget (hu_of hr) (pv 5) (pv 6) (fun _ _ => rfl)) (pe_callB (maxK K rfl rfl) (by rfl) T.g_max boot_max (pa_cons (pe_op op_cat (pe_lst (pa_cons pe_int pa_nil)) (pv 8)) pa_nil)) (nomark _)) (pss_one (ps_ret pe_bl)) pss_nil)))))))))
    (pss_one (ps_ret pe_bl))), ?_⟩
    obtain ⟨vs, hvs, rel⟩ := L.rows
    have okI : (theI rs ws).Ok := (mok L.ro L.wo).ok
    have hsn := stk_nn L.so
    have hfew := L.ro.few
    have hst : st.length ≤ 6 := L.few
    have LW : ∀ (k : Str) (d : Int) (p : Addr) (H' : Hp), k ∈ sortsOf rs → 0 ≤ stk st k + d → d ≤ 1 → (withT st k d).length ≤ 6 → Ex (del H ld) H' → H' p = some (.dK (mI (withT st k d))) → LIn H' ra p wd rs (withT st k d) ws := fun k d p H' hk h0 h1 hl ex hp => by
      have hra : del H ld ra = some (.lst vs) := del_of hvs hld fun z => nomatch z
      have hrel : LRowsL (del H ld) ra rs := ⟨vs, hra, rel.imp fun v r ⟨t, f, a, b, c⟩ => ⟨t, f, a, del_of b hld (fun z => nomatch z), del_of c hld fun z => nomatch z⟩⟩
      exact ⟨hrel.mono ex, L.ro, hp, withT_ok L.so (sorts_name L.ro hk) h0 (by omega), ex _ _ (del_of L.wd hld fun z => nomatch z), L.wo, withT_top L.so L.top (by have := stk3 tm.t3 k; omega), hl⟩
    refine q_forK (d := ld) (kvs := mI lf) hld (fun od => ev_var rfl) (fun od n σ' H' => (∃ x6 x7 x8, σ' = [some (.ref ra), some (.ref sd), some (.ref wd), some (.int due), some (.ref ld), some (.ref gd), x6, x7, x8, none]) ∧ Ex (del H ld) H' ∧ H' ld = some (.frz od (.dK (mI lf))))
      (fun od H1 e1 => ⟨⟨none, none, none, rfl⟩, (Ex.mut (del_ex _ _) (del_self _ _)).trans e1, e1 _ _ upd_same⟩) (fun od n σ' H' _ h => h.2.2) (fun od n key x σ' H' hx h => ?_) (fun od σ' H' h => ?_)
    · obtain ⟨⟨x6, x7, x8, rfl⟩, ex, hfz⟩ := h
      obtain ⟨⟨k0, i0⟩, hlf, e0⟩ := get_map (l := lf) (f := fun x => (x.1, V.int x.2)) hx
      cases e0
      obtain ⟨k, hk, e0⟩ := kl.ks k0 (List.mem_map.mpr ⟨_, List.mem_of_getElem? hlf, rfl⟩)
      have e0 : k0 = .inr k := e0
      subst e0
      have hkK : k ∈ (theI rs ws).K := hk
      have hsd : del H ld sd = some (.dK (mI st)) := by rw [del_ne nsl]; exact L.sd
      have hgdd : del H ld gd = some (.dK (mI gr)) := by rw [del_ne ngl]; exact hgd
      obtain ⟨M1, _, o1, _⟩ := exOpt okI (s := stk (withT st k 1)) fun j _ => by
        rw [stk_with]
        have := hsn j
        show 0 ≤ if j = k then stk st j + 1 else stk st j
        split <;> omega
      have hle : gf lf k = M1 - due := least_is okI (small_800 L.ro) (fun j _ => hsn j) hkK hdue (show IsOpt (theI rs ws) (inc (stk st) k) M1 by rw [stk_with] at o1; exact o1) ol fun p' o => ll p' o k hk
      have hdl : ∀ H1, Ex H' H1 → DGet H1 ld (.str k) (some (.int (gf lf k))) := fun H1 e1 => by
        have := dget_strF (k := k) hfz H1 e1
        rw [valV_mI, kl.get hk] at this
        exact this
      refine q_when (D := EndsK _ ld (.dK (mI lf)) od _) (b := false) (et_test (ev_is (ev_neS (x := .int (gf lf k)) (y := .int (M1 - due)) (ev_dget (ev_var rfl) (ev_var rfl) hdl) (ev_sub (ev_anyw (ev_var rfl) (ev_var rfl) (ev_var rfl) (ev_var rfl) ev_c (fun p H1 e1 hp => LW k 1 p H1 hk (by have := hsn k; omega) (Int.le_refl 1) (tm.more k hk) (ex.trans e1) hp) (ex _ _ hsd) (by omega) o1) (ev_var rfl)) rfl) (by rw [hle]; simp))) (fun z => nomatch z) fun _ H1 e1 => ?_
      have ex1 := ex.trans e1
      have hst1 := ex1 _ _ hsd
      refine s_if (D := EndsK _ ld (.dK (mI lf)) od _) (b := decide (0 < stk st k)) (et_test (ev_gt (ev_get2S (ev_var rfl) (ev_var rfl) ev_c hst1) ev_c)) (fun hb H2 e2 => ?_) (fun hb H2 e2 => ?_)
      · have hb := of_decide_eq_true hb
        have ex2 := ex1.trans e2
        have hlen : (withT st k (-1)).length ≤ 6 := by
          have : (lkI st (.inr k)).isSome = true := by
            cases e : lkI st (.inr k) with
            | none => unfold stk lkS at hb; rw [e] at hb; exact absurd hb (by decide)
            | some _ => rfl
          show (putI st _ _).length ≤ 6
          rw [length_put_has this]; exact hst
        have hi : inc (stk (withT st k (-1))) k = stk st := funext fun j => by
          show (if j = k then stk (withT st k (-1)) j + 1 else stk (withT st k (-1)) j) = stk st j
          rw [stk_with]
          show (if j = k then (if j = k then stk st j + -1 else stk st j) + 1 else if j = k then stk st j + -1 else stk st j) = stk st j
          by_cases e : j = k
          · rw [if_pos e, if_pos e]; omega
          · rw [if_neg e, if_neg e]
        have h2n : ∀ j, 0 ≤ stk (withT st k (-1)) j := fun j => by
          rw [stk_with]
          have := hsn j
          show 0 ≤ if j = k then stk st j + -1 else stk st j
          split
          · rename_i e; rw [e]; omega
          · omega
        obtain ⟨M2, _, o2, _⟩ := exOpt okI (s := stk (withT st k (-1))) fun j _ => h2n j
        have hge : gf gr k = due - M2 := greatest_is okI (small_800 L.ro) (fun j _ => h2n j) hkK o2 (by rw [hi]; exact hdue) (by rw [hi]; exact gg.opt) fun p' o => gg.top p' (by rw [hi] at o; exact o) k hk hb
        refine s_when (D := EndsK _ ld (.dK (mI lf)) od _) (b := false) (et_test (ev_is (ev_neS (x := .int (gf gr k)) (y := .int (due - M2)) (ev_getS (ev_var rfl) (ev_var rfl) (ex2 _ _ hgdd) (kg.get hk)) (ev_sub (ev_var rfl) (ev_anyw (ev_var rfl) (ev_var rfl) (ev_var rfl) (ev_var rfl) (ev_un ev_c ru_neg) (fun p H1 e1 hp => LW k (-1) p H1 hk (by omega) (by decide) hlen (ex2.trans e1) hp) (ex2 _ _ hsd) (by omega) o2)) rfl) (by rw [hge]; simp))) (fun z => nomatch z) fun _ H3 e3 => ⟨⟨_, _, _, rfl⟩, ex2.trans e3, e3 _ _ (e2 _ _ (e1 _ _ hfz))⟩
      · have hb := of_decide_eq_false hb
        have ex2 := ex1.trans e2
        have hvl : vs.length = rs.length := rel.len
        have hrow : ∀ z ∈ vs.zip rs, LRow H z.1 z.2 ∧ z.2 ∈ rs := fun z hz => by
          obtain ⟨i, hi⟩ := List.getElem?_of_mem hz
          rw [List.getElem?_zip_eq_some] at hi
          exact ⟨rel.get i z.1 z.2 hi.1 hi.2, List.mem_of_getElem? hi.2⟩
        have hrowD : ∀ z ∈ vs.zip rs, LRow (del H ld) z.1 z.2 := fun z hz => by
          obtain ⟨t, f, a, b, c⟩ := (hrow z hz).1
          exact ⟨t, f, a, del_of b hld (fun z => nomatch z), del_of c hld fun z => nomatch z⟩
        have hraD : del H ld ra = some (.lst vs) := del_of hvs hld fun z => nomatch z
        have hwdD : del H ld wd = some (.dT (mI ws)) := del_of L.wd hld fun z => nomatch z
        have hzl : (vs.zip rs).length = vs.length := by rw [List.length_zip]; omega
        refine q_asgL (D := EndsK _ ld (.dK (mI lf)) od _) (xs := ((vs.zip rs).filter fun z => decide (k ∈ z.2.fits)).map (·.1)) ?_ fun sl H3 hsl e3 h3 => ?_
        · have e := given_map (vs.zip rs) (fun z => decide (k ∈ z.2.fits)) (fun z => z.1) (f := fun j => decide (k ∈ ((vs.zip rs).getD j (.non, default)).2.fits)) (v := fun j => ((vs.zip rs).getD j (.non, default)).1) fun j z hz => by rw [List.getD_eq_getElem?_getD, hz]; exact ⟨rfl, rfl⟩
          rw [← e, hzl]
          refine el_lcLg (a := ra) _ _ (ev_var rfl) (sq_get (ex2 _ _ hraD)) (by omega) fun j x H4 e4 hx => ?_
          have hj : j < vs.length := (List.getElem?_eq_some_iff.mp hx).1
          have hzj : (vs.zip rs)[j]? = some (x, rs[j]'(by omega)) := List.getElem?_zip_eq_some.mpr ⟨hx, List.getElem?_eq_getElem (by omega)⟩
          rw [List.getD_eq_getElem?_getD, hzj, Option.getD_some]
          obtain ⟨t, f, ev, h3, h4⟩ := hrowD _ (List.mem_of_getElem? hzj)
          have ev : x = .ref t := ev
          subst ev
          exact turnN rfl (et_test (ev_is (ev_op (ev_var rfl) (ev_ixT (ev_var rfl) ev_c (st_get ((ex2.trans e4) _ _ h3)) (atI_get (i := 1) rfl)) (rv_isL (sq_get ((ex2.trans e4) _ _ h4)) rfl (by rw [List.all_map]; exact List.all_eq_true.mpr fun _ _ => rfl))) (congrArg V.bl (inV_strs _ _)))) fun _ => ev_var rfl
        · have ex3 := ex2.trans e3
          have hfl : ((vs.zip rs).filter fun z => decide (k ∈ z.2.fits)).length ≤ 6 := Nat.le_trans (List.length_filter_le _ _) (by omega)
          have hF : (((vs.zip rs).filter fun z => decide (k ∈ z.2.fits)).map fun z => gtI ws [.inr z.2.name, .inr k] - mx0 (z.2.fits.map fun j => gtI ws [.inr z.2.name, .inr j] - gf (bare gr st) j)) = (rs.filter fun r => decide (k ∈ r.fits)).map fun r => gtI ws [.inr r.name, .inr k] - mx0 (r.fits.map fun j => gtI ws [.inr r.name, .inr j] - gf (bare gr st) j) := by
            have h1 : (vs.zip rs).map (·.2) = rs := List.map_snd_zip (by omega)
            have h2 := List.filter_map (f := Prod.snd) (p := fun r : K59.Row => decide (k ∈ r.fits)) (l := vs.zip rs)
            rw [h1] at h2
            rw [h2, List.map_map]
            rfl
          refine q_asgL (D := EndsK _ ld (.dK (mI lf)) od _) (xs := (((vs.zip rs).filter fun z => decide (k ∈ z.2.fits)).map fun z => gtI ws [.inr z.2.name, .inr k] - mx0 (z.2.fits.map fun j => gtI ws [.inr z.2.name, .inr j] - gf (bare gr st) j)).map V.int) ?_ fun bl H4 hbl e4 h4 => ?_
          · have e := given_map ((vs.zip rs).filter fun z => decide (k ∈ z.2.fits)) (fun _ => true) (fun z => V.int (gtI ws [.inr z.2.name, .inr k] - mx0 (z.2.fits.map fun j => gtI ws [.inr z.2.name, .inr j] - gf (bare gr st) j))) (f := fun _ => true)
              (v := fun j => V.int (gtI ws [.inr (((vs.zip rs).filter fun z => decide (k ∈ z.2.fits)).getD j (.non, default)).2.name, .inr k] - mx0 ((((vs.zip rs).filter fun z => decide (k ∈ z.2.fits)).getD j (.non, default)).2.fits.map fun i => gtI ws [.inr (((vs.zip rs).filter fun z => decide (k ∈ z.2.fits)).getD j (.non, default)).2.name, .inr i] - gf (bare gr st) i))) fun j z hz => by rw [List.getD_eq_getElem?_getD, hz]; exact ⟨rfl, rfl⟩
            rw [List.filter_eq_self.mpr fun _ _ => rfl] at e
            rw [List.map_map]
            show EvL _ _ _ (((vs.zip rs).filter fun z => decide (k ∈ z.2.fits)).map fun z => V.int (gtI ws [.inr z.2.name, .inr k] - mx0 (z.2.fits.map fun j => gtI ws [.inr z.2.name, .inr j] - gf (bare gr st) j)))
            rw [← e, ← List.length_map (f := Prod.fst)]
            refine el_lcLg (a := sl) (fun _ => true) _ (ev_var rfl) (sq_get h3) (by rw [List.length_map]; omega) fun j x H5 e5 hx => ?_
            obtain ⟨z, hzz, rfl⟩ := get_map hx
            have hzm := List.mem_filter.mp (List.mem_of_getElem? hzz)
            rw [List.getD_eq_getElem?_getD, hzz, Option.getD_some]
            obtain ⟨t, f, ev, ht3, ht4⟩ := hrowD _ hzm.1
            have hrm := (hrow z hzm.1).2
            have hkf : k ∈ z.2.fits := of_decide_eq_true hzm.2
            have ex5 := ex3.trans e5
            have hhas : ∀ j ∈ z.2.fits, (lkI ws [.inr z.2.name, .inr j]).isSome = true := fun j hj => L.wo.has (z.2.name, j) (List.mem_flatMap.mpr ⟨_, hrm, List.mem_map.mpr ⟨j, hj, rfl⟩⟩)
            obtain ⟨v1, hv1⟩ := Option.isSome_iff_exists.mp (hhas k hkf)
            rw [ev]
            refine turnN rfl et_yes fun _ => ev_sub (ev_dgetU (ks := [.inr z.2.name, .inr k]) (ev_var rfl) (eu2 (ev_ixT (ev_var rfl) ev_c (st_get (ex5 _ _ ht3)) (atI_get (i := 0) rfl)) (ev_var rfl)) (ex5 _ _ hwdD) (by rw [valV_mI, hv1]; unfold gtI; rw [hv1]; rfl)) fun H6 e6 Q qq => ?_
            refine ⟨_, rfl, _, rfl, _, rfl, _, rfl, gd, sd, gr, st, rfl, .inl ((ex5.trans e6) _ _ hgdd), (ex5.trans e6) _ _ hgdd, (ex5.trans e6) _ _ hsd, kg.nd, fun x hx => ?_, by have := kg.len; have := sorts_few L.ro.small; omega, fun p H7 hp e7 h7 => ?_⟩
            · obtain ⟨j, _, ej⟩ := kg.ks x.1 (List.mem_map.mpr ⟨x, hx, rfl⟩)
              exact ⟨j, ej⟩
            · refine ⟨t, wd, p, z.2, ws, bare gr st, rfl, ⟨t, f, rfl, ((ex5.trans e6).trans e7) _ _ ht3, ((ex5.trans e6).trans e7) _ _ ht4⟩, ((ex5.trans e6).trans e7) _ _ hwdD, .inl h7, (L.ro.ok _ hrm).few, fun j hj => ⟨hhas j hj, ?_⟩, fun H8 e8 => qq H8 (e7.trans e8)⟩
              rw [gf_bare kg (((sortsOf_is rs).mem j).mpr ⟨_, hrm, hj⟩)]
              rfl
          · have hgk : gf gr k = mx0 (((vs.zip rs).filter fun z => decide (k ∈ z.2.fits)).map fun z => gtI ws [.inr z.2.name, .inr k] - mx0 (z.2.fits.map fun j => gtI ws [.inr z.2.name, .inr j] - gf (bare gr st) j)) := by
              rw [hF, ← rest_eq kg tm.wb]
              exact gg.rest k hk hb
            refine s_when (D := EndsK _ ld (.dK (mI lf)) od _) (b := false) (et_test (ev_is (ev_neS (x := .int (gf gr k)) (y := .int (gf gr k)) (ev_getS (ev_var rfl) (ev_var rfl) ((ex3.trans e4) _ _ hgdd) (kg.get hk)) (ev_is (ev_maxL (el_catNO (xs := [.int 0]) (el_lst (ea1 ev_c) (by simp)) (ev_var rfl) h4 (by rw [List.length_map, List.length_map]; simp only [List.length_singleton]; omega)) (mx0_top _).1 (mx0_top _).2) (by rw [← hgk])) rfl) (by simp))) (fun z => nomatch z) fun _ H5 e5 => ⟨⟨_, _, _, rfl⟩, (ex3.trans e4).trans e5, e5 _ _ (e4 _ _ (e3 _ _ (e2 _ _ (e1 _ _ hfz))))⟩
    · obtain ⟨_, ex, hfz⟩ := h
      refine s_ret ev_c fun H3 e3 => q H3 (Ex.trans (fun b o hb => ?_) e3)
      by_cases z : b = ld
      · subst z; rw [upd_same]; rw [hld] at hb; exact hb
      · rw [upd_ne z]; exact ex _ _ (by rw [del_ne z]; exact hb)
end
end K59
/-! W13: all small prices; capped prices. -/
namespace K59
open PySem PySem.Spec PyProof.Rows L2 Evl
def tabF (ks : List Str) (f : Str → Int) : List (Key × Int) := ks.map fun k => (.inr k, f k)
theorem tabF_keys (ks : List Str) (f : Str → Int) : (tabF ks f).map (·.1) = ks.map Sum.inr := by unfold tabF; rw [List.map_map]; rfl
theorem tabF_get {ks : List Str} {f : Str → Int} {k : Str} (h : k ∈ ks) : lkS (tabF ks f) k = some (f k) := by
  unfold lkS tabF
  induction ks with
  | nil => simp at h
  | cons j ks ih =>
    rw [List.map_cons, lkI_cons]
    by_cases e : j = k
    · rw [if_pos (by rw [e]), e]
    · rw [if_neg fun z => e (Sum.inr.inj z)]
      rcases List.mem_cons.mp h with z | z
      · exact absurd z.symm e
      · exact ih z
theorem tabF_none {ks : List Str} {f : Str → Int} {k : Str} (h : k ∉ ks) : lkS (tabF ks f) k = none := by
  unfold lkS
  rw [lkI_none, tabF_keys]
  intro m
  obtain ⟨j, hj, e⟩ := List.mem_map.mp m
  exact h (by rw [← Sum.inr.inj e]; exact hj)
theorem tabF_keysI {ks : List Str} {f : Str → Int} (hn : ks.Nodup) : KeysI (tabF ks f) ks := by
  refine ⟨?_, fun x hx => ?_, fun k hk => by rw [tabF_get hk]; rfl⟩
  · rw [tabF_keys]
    exact List.pairwise_map.mpr (hn.imp fun {a b} h e => h (Sum.inr.inj e))
  · rw [tabF_keys] at hx
    obtain ⟨k, hk, e⟩ := List.mem_map.mp hx
    exact ⟨k, hk, e.symm⟩
theorem allP_iff : ∀ (ks : List Str), ks.Nodup → ∀ t, t ∈ allP ks ↔ ∃ f, t = tabF ks f ∧ ∀ k ∈ ks, 0 ≤ f k ∧ f k ≤ 6 := by
  refine rev_ind (fun _ t => ?_) fun ks k ih hn t => ?_
  · rw [show allP [] = [[]] from rfl, List.mem_singleton]
    exact ⟨fun e => ⟨fun _ => 0, e, fun k hk => by simp at hk⟩, fun ⟨f, e, _⟩ => e⟩
  · obtain ⟨n1, _, n2⟩ := List.nodup_append.mp hn
    have hk : k ∉ ks := fun z => n2 k z k (by simp) rfl
    have hnew : ∀ (f : Str → Int) (d : Int), withT (tabF ks f) k d = tabF (ks ++ [k]) (fun j => if j = k then d else f j) := fun f d => by
      unfold withT
      rw [tabF_none hk, putI_new (by rw [tabF_keys]; intro m; obtain ⟨j, hj, e⟩ := List.mem_map.mp m; exact hk (by rw [← Sum.inr.inj e]; exact hj))]
      unfold tabF
      rw [List.map_append, List.map_cons, List.map_nil]
      congr 1
      · refine List.map_congr_left fun j hj => ?_
        show (Sum.inr j, f j) = ((Sum.inr j : Key), if j = k then d else f j)
        rw [if_neg fun z : j = k => hk (by rw [← z]; exact hj)]
      · show [(Sum.inr k, (0 : Int) + d)] = [(Sum.inr k, if k = k then d else f k)]
        rw [if_pos rfl, Int.zero_add]
    rw [allP_snoc, List.mem_flatMap]
    constructor
    · rintro ⟨one, ho, ht⟩
      obtain ⟨f, rfl, hf⟩ := (ih n1 one).mp ho
      obtain ⟨m, hm, rfl⟩ := List.mem_map.mp ht
      have hm := List.mem_range.mp hm
      refine ⟨_, hnew f (m : Int), fun j hj => ?_⟩
      by_cases e : j = k
      · rw [if_pos e]; omega
      · rw [if_neg e]
        exact hf j (by simpa [e] using hj)
    · rintro ⟨f, rfl, hf⟩
      have h6 := hf k (by simp)
      refine ⟨tabF ks f, (ih n1 _).mpr ⟨f, rfl, fun j hj => hf j (by simp [hj])⟩, List.mem_map.mpr ⟨(f k).toNat, List.mem_range.mpr (by omega), ?_⟩⟩
      rw [hnew]
      unfold tabF
      refine List.map_congr_left fun j _ => ?_
      show ((Sum.inr j : Key), if j = k then (((f k).toNat : Nat) : Int) else f j) = (Sum.inr j, f j)
      by_cases e : j = k
      · rw [if_pos e, e, show (((f k).toNat : Nat) : Int) = f k by omega]
      · rw [if_neg e]
section
variable {I : Inst Str} {s : Str → Int}
def capP (p : Str → Int) (c : Int) (k : Str) : Int := if c < p k then c else p k
theorem cap_over {p : Str → Int} {c : Int} {i : Nat} (hw : ∀ k ∈ I.fits i, I.w i k ≤ c) : I.over (capP p c) i = I.over p i := by
  unfold Inst.over
  refine mx0_congr0 (fun a ha hp => ?_) fun a ha hp => ?_
  · obtain ⟨k, hk, rfl⟩ := List.mem_map.mp ha
    have := hw k hk
    refine List.mem_map.mpr ⟨k, hk, ?_⟩
    unfold capP at hp ⊢
    split
    · rename_i z; rw [if_pos z] at hp; omega
    · rfl
  · obtain ⟨k, hk, rfl⟩ := List.mem_map.mp ha
    have := hw k hk
    refine List.mem_map.mpr ⟨k, hk, ?_⟩
    unfold capP
    rw [if_neg (by omega)]
theorem cap_dobj (ok : I.Ok) {p : Str → Int} {c : Int} (hw : ∀ i, i < I.n → ∀ k ∈ I.fits i, I.w i k ≤ c) : I.dobj s (capP p c) (I.over (capP p c)) = I.dobj s p (I.over p) - sm I.K fun k => s k * (p k - capP p c k) := by
  have h1 : (sm I.K fun k => s k * (p k - capP p c k)) = sm I.K (fun k => s k * p k) - sm I.K fun k => s k * capP p c k := by
    rw [← sm_sub]
    exact sm_congr fun k _ => Int.mul_sub _ _ _
  have h2 : (sm (List.range I.n) fun i => I.want i * I.over (capP p c) i) = sm (List.range I.n) fun i => I.want i * I.over p i := sm_congr fun i hi => by rw [cap_over fun k hk => hw i (List.mem_range.mp hi) k hk]
  show sm I.K (fun k => s k * capP p c k) + sm (List.range I.n) (fun i => I.want i * I.over (capP p c) i) = sm I.K (fun k => s k * p k) + sm (List.range I.n) (fun i => I.want i * I.over p i) - _
  rw [h1, h2]
  omega
theorem cap_opt (ok : I.Ok) (hs : ∀ k ∈ I.K, 0 ≤ s k) {p : Str → Int} {c : Int} (hc : 0 ≤ c) (hw : ∀ i, i < I.n → ∀ k ∈ I.fits i, I.w i k ≤ c) (o : Opt I s p) : Opt I s (capP p c) ∧ ∀ k ∈ I.K, 0 < s k → p k ≤ c := by
  have pn : ∀ k ∈ I.K, 0 ≤ capP p c k := fun k hk => by
    have := o.pn k hk
    unfold capP
    split <;> omega
  have hd := cap_dobj (s := s) ok (p := p) hw
  have hnn : ∀ k ∈ I.K, 0 ≤ s k * (p k - capP p c k) := fun k hk => Int.mul_nonneg (hs k hk) (by unfold capP; split <;> omega)
  have h0 := sm_nonneg hnn
  obtain ⟨y, hy, ey⟩ := o.eq.ex
  have hwk := weak ok hy (Holds.over (I := I) (p := capP p c) pn)
  have hz : sm I.K (fun k => s k * (p k - capP p c k)) ≤ 0 := by omega
  refine ⟨⟨pn, ?_⟩, fun k hk hsk => ?_⟩
  · have : I.dobj s (capP p c) (I.over (capP p c)) = I.dobj s p (I.over p) := by omega
    rw [this]
    exact o.eq
  · have := sm_eq_zero hnn hz k hk
    have h3 : p k - capP p c k = 0 := by
      rcases Int.mul_eq_zero.mp this with h | h
      · omega
      · exact h
    unfold capP at h3
    split at h3 <;> omega
end
end K59
/-! W14: what is kept and compared. -/
namespace K59
open PySem PySem.Spec PyProof.Rows L2 Evl
def keyD : Key → PyData
  | .inr k => .str k
  | .inl i => .int i
def itemsD (st : List (Key × Int)) : PyData := .list (st.map fun x => .tuple [keyD x.1, .int x.2])
def itemsDT (ws : List (List Key × Int)) : PyData := .list (ws.map fun x => .tuple [.tuple (x.1.map keyD), .int x.2])
def ItemsAt (H : Hp) (p : Addr) (st : List (Key × Int)) : Prop := ∃ ts : List Addr, H p = some (.lst (ts.map V.ref)) ∧ Paired (fun (t : Addr) (q : Key × V) => H t = some (.tup [kV q.1, q.2])) ts (mI st)
def ItemsAtT (H : Hp) (p : Addr) (ws : List (List Key × Int)) : Prop := ∃ ts : List Addr, H p = some (.lst (ts.map V.ref)) ∧ Paired (fun (t : Addr) (q : List Key × V) => ∃ b, H t = some (.tup [.ref b, q.2]) ∧ H b = some (.tup (q.1.map kV))) ts (mI ws)
theorem paired_imp {α β : Type} {F G : α → β → Prop} (h : ∀ a b, F a b → G a b) : ∀ {xs : List α} {ys : List β}, Paired F xs ys → Paired G xs ys
  | _, _, .nil => .nil
  | _, _, .cons a b => .cons (h _ _ a) (paired_imp h b)
theorem ItemsAt.mono {H H' : Hp} {p : Addr} {st : List (Key × Int)} (e : Ex H H') (h : ItemsAt H p st) : ItemsAt H' p st := let ⟨ts, a, b⟩ := h; ⟨ts, e _ _ a, paired_imp (fun _ _ z => e _ _ z) b⟩
theorem ItemsAtT.mono {H H' : Hp} {p : Addr} {ws : List (List Key × Int)} (e : Ex H H') (h : ItemsAtT H p ws) : ItemsAtT H' p ws := let ⟨ts, a, b⟩ := h; ⟨ts, e _ _ a, paired_imp (fun _ _ ⟨c, y, z⟩ => ⟨c, e _ _ y, e _ _ z⟩) b⟩
section
variable {K : PySem.W.Frag} {H : Hp}
theorem dp_key : ∀ k : Key, Dp K H (kV k) (keyD k)
  | .inr k => .str k
  | .inl i => .int i
theorem dpAll_keys : ∀ ks : List Key, DpAll K H (ks.map kV) (ks.map keyD)
  | [] => .nil
  | k :: ks => .cons (dp_key k) (dpAll_keys ks)
theorem dp_items {p : Addr} {st : List (Key × Int)} (h : ItemsAt H p st) : Dp K H (.ref p) (itemsD st) := by
  obtain ⟨ts, h1, h2⟩ := h
  refine .lst (sq_get h1) ?_
  clear h1
  induction st generalizing ts with
  | nil => cases h2; exact .nil
  | cons x st ih =>
    cases h2 with
    | cons a b => exact .cons (.tup (st_get a) (.cons (dp_key x.1) (.cons (.int x.2) .nil))) (ih _ b)
theorem dp_itemsT {p : Addr} {ws : List (List Key × Int)} (h : ItemsAtT H p ws) : Dp K H (.ref p) (itemsDT ws) := by
  obtain ⟨ts, h1, h2⟩ := h
  refine .lst (sq_get h1) ?_
  clear h1
  induction ws generalizing ts with
  | nil => cases h2; exact .nil
  | cons x ws ih =>
    cases h2 with
    | cons a b =>
      obtain ⟨c, y, z⟩ := a
      exact .cons (.tup (st_get y) (.cons (.tup (st_get z) (dpAll_keys x.1)) (.cons (.int x.2) .nil))) (ih _ b)
theorem dpAll_strs : ∀ l : List Str, DpAll K H (l.map V.str) (l.map PyData.str)
  | [] => .nil
  | k :: ks => .cons (.str k) (dpAll_strs ks)
end
theorem lay_all {ds : List PyData} (h : ∀ d ∈ ds, d.canLay0 = true) : PyData.canLayAll0 ds = true := by
  induction ds with
  | nil => simp [PyData.canLayAll0]
  | cons d ds ih => simp [PyData.canLayAll0, h d (by simp), ih fun e he => h e (by simp [he])]
theorem depth_all {ds : List PyData} {n : Nat} (h : ∀ d ∈ ds, d.depth ≤ n) : PyData.depthAll ds ≤ n := by
  induction ds with
  | nil => simp [PyData.depthAll]
  | cons d ds ih =>
    have a := h d (by simp)
    have b := ih fun e he => h e (by simp [he])
    simp only [PyData.depthAll]
    omega
theorem key_lay {k : Key} (h : ∃ z, k = .inr z ∧ NameOk z) : (keyD k).canLay0 = true ∧ (keyD k).depth = 0 := by
  obtain ⟨z, rfl, hz⟩ := h
  exact ⟨by simp only [keyD, PyData.canLay0]; exact strOk_name hz, by simp [keyD, PyData.depth]⟩
theorem items_lay {st : List (Key × Int)} (h : ∀ x ∈ st, ∃ k, x.1 = .inr k ∧ NameOk k) : (itemsD st).canLay0 = true ∧ (itemsD st).depth ≤ 5 := by
  unfold itemsD
  constructor
  · simp only [PyData.canLay0]
    refine lay_all fun d hd => ?_
    obtain ⟨x, hx, rfl⟩ := List.mem_map.mp hd
    simp [PyData.canLay0, PyData.canLayAll0, (key_lay (h x hx)).1]
  · simp only [PyData.depth]
    have := depth_all (n := 1) (ds := st.map fun x => PyData.tuple [keyD x.1, .int x.2]) fun d hd => by
      obtain ⟨x, hx, rfl⟩ := List.mem_map.mp hd
      simp [PyData.depth, PyData.depthAll, (key_lay (h x hx)).2]
    omega
theorem itemsT_lay {ws : List (List Key × Int)} (h : ∀ x ∈ ws, ∃ a b, x.1 = [.inr a, .inr b] ∧ NameOk a ∧ NameOk b) : (itemsDT ws).canLay0 = true ∧ (itemsDT ws).depth ≤ 5 := by
  unfold itemsDT
  constructor
  · simp only [PyData.canLay0]
    refine lay_all fun d hd => ?_
    obtain ⟨x, hx, rfl⟩ := List.mem_map.mp hd
    obtain ⟨a, b, e, ha, hb⟩ := h x hx
    rw [e]
    simp [PyData.canLay0, PyData.canLayAll0, (key_lay ⟨a, rfl, ha⟩).1, (key_lay ⟨b, rfl, hb⟩).1]
  · simp only [PyData.depth]
    have := depth_all (n := 2) (ds := ws.map fun x => PyData.tuple [.tuple (x.1.map keyD), .int x.2]) fun d hd => by
      obtain ⟨x, hx, rfl⟩ := List.mem_map.mp hd
      obtain ⟨a, b, e, ha, hb⟩ := h x hx
      rw [e]
      simp [PyData.depth, PyData.depthAll, (key_lay ⟨a, rfl, ha⟩).2, (key_lay ⟨b, rfl, hb⟩).2]
    omega
/-- lists of texts compared: the same -/
theorem rv_neStrs {K : PySem.W.Frag} {H : Hp} {p q : Addr} {l : List Str} (hp : H p = some (.lst (l.map V.str))) (hq : H q = some (.lst (l.map V.str))) (hl : ∀ z ∈ l, NameOk z) : RV (rNeD K) (.ref p) (.ref q) H (.bl false) := by
  have hs : ∀ d ∈ l.map PyData.str, d.canLay0 = true ∧ d.depth ≤ 5 := fun d hd => by
    obtain ⟨z, hz, rfl⟩ := List.mem_map.mp hd
    exact ⟨by simp only [PyData.canLay0]; exact strOk_name (hl z hz), by simp [PyData.depth]⟩
  refine rv_val fun H2 e2 Q k => ⟨.list (l.map PyData.str), .list (l.map PyData.str), .lst (sq_get (e2 _ _ hp)) (dpAll_strs l), .lst (sq_get (e2 _ _ hq)) (dpAll_strs l), shaped_list hs, shaped_list hs, ?_⟩
  have : PyData.eqv (.list (l.map PyData.str)) (.list (l.map PyData.str)) = true := SeqAt.eqv_refl _ (by simp only [PyData.canLay0]; exact lay_all fun d hd => (hs d hd).1)
  rw [this]
  exact k
theorem rv_neKept {K : PySem.W.Frag} {H : Hp} {p q p1 p2 q1 q2 : Addr} {st : List (Key × Int)} {ws : List (List Key × Int)} (hp : H p = some (.lst [.ref p1, .ref p2])) (hq : H q = some (.lst [.ref q1, .ref q2])) (a1 : ItemsAt H p1 st) (a2 : ItemsAtT H p2 ws) (b1 : ItemsAt H q1 st) (b2 : ItemsAtT H q2 ws)
    (l1 : ∀ x ∈ st, ∃ k, x.1 = .inr k ∧ NameOk k) (l2 : ∀ x ∈ ws, ∃ a b, x.1 = [.inr a, .inr b] ∧ NameOk a ∧ NameOk b) : RV (rNeD K) (.ref p) (.ref q) H (.bl false) := by
  have hs : ∀ d ∈ [itemsD st, itemsDT ws], d.canLay0 = true ∧ d.depth ≤ 5 := fun d hd => by
    simp only [List.mem_cons, List.not_mem_nil, or_false] at hd
    rcases hd with rfl | rfl
    · exact items_lay l1
    · exact itemsT_lay l2
  refine rv_val fun H2 e2 Q k => ⟨.list [itemsD st, itemsDT ws], .list [itemsD st, itemsDT ws], .lst (sq_get (e2 _ _ hp)) (.cons (dp_items (a1.mono e2)) (.cons (dp_itemsT (a2.mono e2)) .nil)), .lst (sq_get (e2 _ _ hq)) (.cons (dp_items (b1.mono e2)) (.cons (dp_itemsT (b2.mono e2)) .nil)), shaped_list hs, shaped_list hs, ?_⟩
  have : PyData.eqv (.list [itemsD st, itemsDT ws]) (.list [itemsD st, itemsDT ws]) = true := SeqAt.eqv_refl _ (by simp only [PyData.canLay0]; exact lay_all fun d hd => (hs d hd).1)
  rw [this]
  exact k
end K59
namespace K59
open PySem PySem.Spec PyProof.Rows L2 Evl
section
variable {P : Program} {w : World} {K : PySem.W.Frag} {mg : Str → Option Value} {base : Heap} {CA CL CM : Addr}
def WsK (ws : List (List Key × Int)) : Prop := (ws.map (·.1)).Nodup ∧ ∀ x ∈ ws, ∃ a b, x.1 = [.inr a, .inr b] ∧ NameOk a ∧ NameOk b
def isKept (st : List (Key × Int)) (ws : List (List Key × Int)) : RN := fun p H => ∃ p1 p2, H p = some (.lst [.ref p1, .ref p2]) ∧ ItemsAt H p1 st ∧ ItemsAtT H p2 ws
theorem isKept.mono {st : List (Key × Int)} {ws : List (List Key × Int)} {p : Addr} {H H' : Hp} (e : Ex H H') (h : isKept st ws p H) : isKept st ws p H' := let ⟨p1, p2, a, b, c⟩ := h; ⟨p1, p2, e _ _ a, b.mono e, c.mono e⟩
theorem run_kept {σ : L2.St} {H : Hp} {sd wd : Addr} {st : List (Key × Int)} {ws : List (List Key × Int)} (h1 : σ[1]? = some (some (.ref sd))) (h2 : σ[2]? = some (some (.ref wd))) (hs : H sd = some (.dK (mI st))) (hw : H wd = some (.dT (mI ws))) {Q : VK} (q : ∀ p H1, Ex H H1 → isKept st ws p H1 → Q (.ref p) H1) :
    tLst (tCons (LiI.tListItems (tVar 1)) (tCons (tListItemsT (tVar 2)) tNil)) σ H Q :=
  ⟨_, h1, sd, mI st, rfl, hs, fun H1 p1 ts e1 _ _ _ hp1 pr1 => ⟨_, h2, wd, mI ws, rfl, e1 _ _ hw, fun H2 p2 ts2 e2 _ hp2 pr2 => ⟨by show 2 ≤ sizeLine; decide, fun l hl => by
    have e3 := Ex.new (o := .lst [.ref p1, .ref p2]) hl
    have e12 : Ex H1 H2 := e2
    refine q l _ ((Ex.trans e1 e12).trans e3) ⟨p1, p2, upd_same, ItemsAt.mono (e12.trans e3) ⟨ts, hp1, pr1⟩, ItemsAtT.mono e3 ⟨ts2, hp2, paired_imp (fun _ _ ⟨b, x, y⟩ => ⟨b, x, e12 _ _ y⟩) pr2⟩⟩⟩⟩⟩
theorem q_kept {σ : L2.St} {H : Hp} {sd wd : Addr} {st : List (Key × Int)} {ws : List (List Key × Int)} {i : Nat} {tz : TS} {D : Ends} (h1 : σ[1]? = some (some (.ref sd))) (h2 : σ[2]? = some (some (.ref wd))) (hs : H sd = some (.dK (mI st))) (hw : H wd = some (.dT (mI ws))) (k : ∀ p H1, Ex H H1 → isKept st ws p H1 → tz D (σ.set i (some (.ref p))) H1) :
    tSeq (tAsg (tLst (tCons (LiI.tListItems (tVar 1)) (tCons (tListItemsT (tVar 2)) tNil))) (gName i)) tz D σ H := run_kept (Q := fun x H1 => gName i x σ H1 (tz D)) h1 h2 hs hw k
theorem ev_neKept {σ : L2.St} {H : Hp} {sd wd kp : Addr} {st : List (Key × Int)} {ws : List (List Key × Int)} (h1 : σ[1]? = some (some (.ref sd))) (h2 : σ[2]? = some (some (.ref wd))) (h5 : σ[5]? = some (some (.ref kp))) (hs : H sd = some (.dK (mI st))) (hw : H wd = some (.dT (mI ws))) (hk : isKept st ws kp H)
    (l1 : ∀ x ∈ st, ∃ k, x.1 = .inr k ∧ NameOk k) (l2 : ∀ x ∈ ws, ∃ a b, x.1 = [.inr a, .inr b] ∧ NameOk a ∧ NameOk b) : Ev (tOp (rNeD K) (tLst (tCons (LiI.tListItems (tVar 1)) (tCons (tListItemsT (tVar 2)) tNil))) (tVar 5)) σ H (.bl false) := fun H1 e Q q =>
  run_kept (Q := fun x H1 => tVar 5 σ H1 fun y H2 => rNeD K x y H2 Q) h1 h2 (e _ _ hs) (e _ _ hw) fun p H2 e2 ⟨p1, p2, a, b, c⟩ => ⟨_, h5, by
    obtain ⟨q1, q2, a', b', c'⟩ := hk.mono (e.trans e2)
    exact rv_neKept a a' b c b' c' l1 l2 H2 (Ex.refl _) Q fun H3 e3 => q H3 (e2.trans e3)⟩
/-- sorted(d) != kinds_in(rows) -/
theorem ev_sortedKinds {σ : L2.St} {H : Hp} {te t0 : TE} {E : XK} {d ra : Addr} {fd : List (Key × Int)} {rs : List K59.Row} (ht : Ev te σ H (.ref d)) (h0 : Ev t0 σ H (.ref ra)) (hd : H d = some (.dK (mI fd))) (ki : KeysI fd (sortsOf rs)) (hr : LRowsL H ra rs) (ro : RowsOk rs) : Ev (tOp (rNeD K) (tCB rSortD (tCons te tNil)) (tCall spKindsIn [] E (tCons t0 tNil))) σ H (.bl false) := fun H1 e Q q => by
  have hn := sortsOf_is rs
  refine en_sortD (B := H) ht hd ki.nd (fun x hx => let ⟨k, _, e⟩ := ki.ks x.1 (List.mem_map.mpr ⟨x, hx, rfl⟩); ⟨k, e⟩) (by have := ki.len; have := sorts_few ro.small; omega) H1 e _ fun p H2 hp e2 _ nw => ?_
  obtain ⟨ys, hys, y1, y2, y3, _⟩ := nw H2 (e.trans e2) fun _ _ _ h => h
  have ey : ys = sortsOf rs := sorted_same y3 hn.srt y1 hn.nd fun z => by
    rw [y2]
    constructor
    · intro m
      obtain ⟨k, hk, ek⟩ := ki.ks _ m
      rw [Sum.inr.inj ek]; exact hk
    · intro m
      exact lkI_isSome.mp (ki.all z m)
  subst ey
  refine h0 H2 (e.trans e2) _ fun H3 e3 => ?_
  refine ⟨ra, rs, rfl, hr.mono ((e.trans e2).trans e3), ro.small, fun r hr => (ro.ok r hr).nd, fun p' H4 hp' e4 h4 => ?_⟩
  exact rv_neStrs ((e3.trans e4) _ _ hys) h4 (fun z hz => sorts_name ro hz) H4 (Ex.refl _) Q fun H5 e5 => q H5 ((e2.trans e3).trans (e4.trans e5))
theorem q_forP {σ : L2.St} {H : Hp} {tl : TE} {g : TG} {tu tz : TS} {D : Ends} {PP : List V → Hp → Prop} (h : ∀ Q : VK, (∀ p ws H1, Ex H H1 → H1 p = some (.lst ws) → H p = none → PP ws H1 → Q (.ref p) H1) → tl σ H Q) (k : ∀ p ws H1, Ex H H1 → H1 p = some (.lst ws) → H p = none → PP ws H1 → ∃ Pv : Nat → L2.St → Hp → Prop, Pv 0 σ H1 ∧ (∀ i σ' H', i ≤ ws.length → Pv i σ' H' → SqL K H' p ws) ∧
    (∀ i x σ' H', ws[i]? = some x → Pv i σ' H' → g x σ' H' fun σ2 H2 => tu { D with nx := Pv (i + 1), ct := Pv (i + 1), bk := tz D } σ2 H2) ∧ ∀ σ' H', Pv ws.length σ' H' → tz D σ' H') : tSeq (tFor (iList K tl) g tu) tz D σ H := s_forP (D := { D with nx := tz D }) h k
theorem ak_get {rs : List K59.Row} {ws : List (List Key × Int)} {fd : List (Key × Int)} (ro : RowsOk rs) {i : Nat} (hi : i < rs.length) : lkI (akOf rs ws fd) (.inr (rs.getD i default).name) = some ((theI rs ws).over (gf fd) i) := by
  refine lkI_of_mem ?_ (List.mem_map.mpr ⟨i, List.mem_range.mpr hi, rfl⟩)
  unfold akOf
  rw [List.map_map]
  have : ((List.range rs.length).map ((fun x : Key × Int => x.1) ∘ fun i => ((.inr (rs.getD i default).name : Key), (theI rs ws).over (gf fd) i))) = (rs.map (·.name)).map Sum.inr := by
    rw [List.map_map]
    exact map_range_getD rs fun r => (Sum.inr r.name : Key)
  rw [this]
  exact List.pairwise_map.mpr (ro.nd.imp fun {a b} h e => h (Sum.inr.inj e))
/-- an entry of a table that may be locked -/
theorem dget_lk {H H2 : Hp} {ld d : Addr} {lf fd : List (Key × Int)} {od : Obj} (hl : H ld = some (.dK (mI lf))) (hd : H d = some (.dK (mI fd))) (e : Ex (upd H ld (.frz od (.dK (mI lf)))) H2) {k : Str} {v : Int} (hv : lkI fd (.inr k) = some v) : ∀ H3, Ex H2 H3 → DGet H3 d (.str k) (some (.int v)) := fun H3 e3 => by
  by_cases z : d = ld
  · subst z
    rw [hl] at hd
    have em := HO.dK.inj (Option.some.inj hd)
    have := dget_strF (k := k) ((e.trans e3) _ _ upd_same) H3 (Ex.refl _)
    rw [em, valV_mI, hv] at this
    exact this
  · have := dget_str (k := k) ((e.trans e3) _ _ (by rw [upd_ne z]; exact hd)) H3 (Ex.refl _)
    rw [valV_mI, hv] at this
    exact this
theorem q_lcP {σ : L2.St} {H : Hp} {tl te : TE} {g : TG} {t : TT} {vs : List Nat} {i : Nat} {tz : TS} {D : Ends} {PP : List V → Hp → Prop} (h : ∀ Q : VK, (∀ p ws H1, Ex H H1 → H1 p = some (.lst ws) → H p = none → PP ws H1 → Q (.ref p) H1) → tl σ H Q)
    (k : ∀ p ws H1, Ex H H1 → H1 p = some (.lst ws) → H p = none → PP ws H1 → ∃ (f : Nat → Bool) (v : Nat → V), ws.length ≤ 50000 ∧ (∀ (j : Nat) (x : V) H2, Ex H1 H2 → ws[j]? = some x → TurnC σ vs g t te x H2 (f j) (v j)) ∧ ∀ r H2, H1 r = none → Ex H1 H2 → H2 r = some (.lst (given ws.length f v)) → tz D (σ.set i (some (.ref r))) H2) :
    tSeq (tAsg (tLc (iList K tl) g t te vs) (gName i)) tz D σ H := h _ fun p ws H1 e h1 hp pp => by
  obtain ⟨f, v, hz, ht, q⟩ := k p ws H1 e h1 hp pp
  exact ⟨p, rfl, ⟨ws, sq_get h1⟩, lcG (J := Itl K p) (Q := fun x H2 => tz D (σ.set i (some x)) H2) f v hz (fun i H' e2 hi => ⟨ws, ws[i], ex_l e2 (sq_get h1), List.getElem?_eq_getElem hi⟩) (fun H' e2 => ⟨ws, ex_l e2 (sq_get h1), Nat.le_refl _⟩)
    (fun i x H' H'' e2 hi y => by
      obtain ⟨rfl, y⟩ := y
      exact ⟨Ex.refl _, ht i x H'' e2 (y ws (ex_l e2 (sq_get h1)))⟩) fun p H2 hp e2 h2 => q p H2 hp e2 h2⟩
theorem el_valsT {σ : L2.St} {H : Hp} {te : TE} {d : Addr} {ws : List (List Key × Int)} (h : Ev te σ H (.ref d)) (hd : H d = some (.dT (mI ws))) : EvL (tListValsT te) σ H ((ws.map (·.2)).map V.int) := fun H1 e Q q =>
  h H1 e _ fun H2 e2 => ⟨d, mI ws, rfl, (e.trans e2) _ _ hd, fun p hp => q p _ (fresh_back e2 hp) (e2.trans (Ex.new hp)) (by
    rw [upd_same]
    unfold mI
    rw [List.map_map, List.map_map]
    rfl)⟩
theorem ev_lenD {σ : L2.St} {H : Hp} {te : TE} {d : Addr} {fd : List (Key × Int)} (h : Ev te σ H (.ref d)) (hd : H d = some (.dK (mI fd))) : Ev (tCB (fun xs H Q => ∃ (a : Addr) (kvs : List (Key × V)), xs = [V.ref a] ∧ H a = some (.dK kvs) ∧ Q (.int kvs.length) H) (tCons te tNil)) σ H (.int fd.length) := fun H1 e Q q =>
  h H1 e _ fun H2 e2 => ⟨d, mI fd, rfl, (e.trans e2) _ _ hd, by rw [len_mI]; exact q H2 e2⟩
theorem keysI_len {fd : List (Key × Int)} {S : List Str} (h : KeysI fd S) (hn : S.Nodup) : fd.length = S.length := by
  refine Nat.le_antisymm h.len ?_
  have := len_le_of_sub (l := S.map Sum.inr) (r := fd.map (·.1)) (List.pairwise_map.mpr (hn.imp fun {a b} h e => h (Sum.inr.inj e))) fun x hx => by
    obtain ⟨k, hk, rfl⟩ := List.mem_map.mp hx
    exact lkI_isSome.mp (h.all k hk)
  rwa [List.length_map, List.length_map] at this
theorem gf_tabF {ks : List Str} {f : Str → Int} {k : Str} (h : k ∈ ks) : gf (tabF ks f) k = f k := gf_of (tabF_get h)
theorem run_allP {σ : L2.St} {H : Hp} {te : TE} {E : XK} {d : Addr} {fd : List (Key × Int)} {rs : List K59.Row} (ht : Ev te σ H (.ref d)) (hd : H d = some (.dK (mI fd))) (ki : KeysI fd (sortsOf rs)) (ro : RowsOk rs) (h3 : (sortsOf rs).length ≤ 3) (Q : VK) (q : ∀ p ws H1, Ex H H1 → H1 p = some (.lst ws) → H p = none → (∃ ps : List Addr, ws = ps.map V.ref ∧ RelP ps ((allP (sortsOf rs)).map isT) H1) → Q (.ref p) H1) :
    tCall spAllP [] E (tCons (tCB rSortD (tCons te tNil)) (tCons (tC (.int 6)) tNil)) σ H Q := by
  have hn := sortsOf_is rs
  refine en_sortD (B := H) ht hd ki.nd (fun x hx => let ⟨k, _, e⟩ := ki.ks x.1 (List.mem_map.mpr ⟨x, hx, rfl⟩); ⟨k, e⟩) (by have := ki.len; have := sorts_few ro.small; omega) H (Ex.refl _) _ fun p H2 hp e2 _ nw => ?_
  obtain ⟨ys, hys, y1, y2, y3, _⟩ := nw H2 e2 fun _ _ _ h => h
  have ey : ys = sortsOf rs := sorted_same y3 hn.srt y1 hn.nd fun z => by
    rw [y2]
    constructor
    · intro m
      obtain ⟨k, hk, ek⟩ := ki.ks _ m
      rw [Sum.inr.inj ek]; exact hk
    · intro m
      exact lkI_isSome.mp (ki.all z m)
  subst ey
  exact ⟨p, sortsOf rs, rfl, hys, h3, fun p2 ps H3 hp2 e3 h3 rP => q p2 _ H3 (e2.trans e3) h3 (fresh_back e2 hp2) ⟨ps, rfl, rP⟩⟩
/-- d in a list of tables, one of which has its keys and values -/
theorem ev_inDD {σ : L2.St} {H : Hp} {ta tb : TE} {d l : Addr} {fd : List (Key × Int)} {R : List (Addr × List (Key × Int))} {S : List Str} (ha : Ev ta σ H (.ref d)) (hb : Ev tb σ H (.ref l)) (hd : H d = some (.dK (mI fd))) (hl : H l = some (.lst (R.map fun z => V.ref z.1))) (hR : ∀ z ∈ R, H z.1 = some (.dK (mI z.2))) (kf : KeysI fd S) (hn : S.Nodup)
    (hx : ∃ z ∈ R, z.2 = tabF S (gf fd)) : Ev (tOp (rInDD K) ta tb) σ H (.bl true) := ev_op ha hb (rv_val fun H2 e2 Q q => by
  obtain ⟨z, hz, ez⟩ := hx
  refine ⟨d, l, mI fd, R.map (·.1), rfl, rfl, e2 _ _ hd, sq_get (by rw [List.map_map]; exact e2 _ _ hl), fun y hy => ?_, fun y hy => ?_, ⟨z.1, List.mem_map.mpr ⟨z, hz, rfl⟩, z.1, d, mI z.2, mI fd, rfl, rfl, e2 _ _ (hR z hz), e2 _ _ hd, ?_, fun y hy => ?_⟩, q⟩
  · obtain ⟨x, _, rfl⟩ := List.mem_map.mp hy
    exact ⟨x.2, rfl⟩
  · obtain ⟨x, hx, rfl⟩ := List.mem_map.mp hy
    exact ⟨mI x.2, e2 _ _ (hR x hx), fun y hy => by
      obtain ⟨w, _, rfl⟩ := List.mem_map.mp hy
      exact ⟨w.2, rfl⟩⟩
  · rw [len_mI, len_mI, ez, keysI_len kf hn]
    unfold tabF
    rw [List.length_map]
  · rw [ez] at hy
    obtain ⟨x, hx, rfl⟩ := List.mem_map.mp hy
    obtain ⟨k, hk, rfl⟩ := List.mem_map.mp hx
    exact ⟨by rw [valV_mI, kf.get hk]; rfl, rfl⟩)
theorem cost_tabF {rs : List K59.Row} {st fd : List (Key × Int)} {ws : List (List Key × Int)} {due : Int} (ok : (theI rs ws).Ok) (o : Opt (theI rs ws) (stk st) (gf fd)) (hd : IsOpt (theI rs ws) (stk st) due) : cost rs st ws (tabF (sortsOf rs) (gf fd)) = due :=
  (Opt.congr ok (fun k hk => (gf_tabF hk).symm) o).val hd
structure PrAt (rs : List K59.Row) (st : List (Key × Int)) (ws : List (List Key × Int)) (H : Hp) (p d e : Addr) (fd : List (Key × Int)) : Prop where
  p : H p = some (.tup [.ref d, .ref e])
  d : H d = some (.dK (mI fd))
  e : H e = some (.dK (mI (akOf rs ws fd)))
  ki : KeysI fd (sortsOf rs)
  op : Opt (theI rs ws) (stk st) (gf fd)
theorem PrAt.mono {rs : List K59.Row} {st : List (Key × Int)} {ws : List (List Key × Int)} {H H' : Hp} {p d e : Addr} {fd : List (Key × Int)} (h : PrAt rs st ws H p d e fd) (x : Ex H H') : PrAt rs st ws H' p d e fd := ⟨x _ _ h.p, x _ _ h.d, x _ _ h.e, h.ki, h.op⟩
def spLFits : Sp := fun vs H Q _ => ∃ (ra sd wd : Addr) (rs : List K59.Row) (st : List (Key × Int)) (ws : List (List Key × Int)), vs = [.ref ra, .ref sd, .ref wd] ∧ LIn H ra sd wd rs st ws ∧ Tame rs st ws ∧ WsK ws ∧ ∀ H', Ex H H' → Q (.bl true) H'
theorem d_L_fits {f : Addr} {fd : FuncData} (F : Fun K "_law_fits" "_law_fits" s_L_fits f fd) (T : Txt K mg CA CL CM) (c_L_line_of : CalK P w K mg base 5 "_law_line_of" (spLineOf CL)) (c_L_any : CalK P w K mg base 3 "_law_any" spLAny) (c_least_prices : CalK P w K mg base 6 "least_prices" (spLeastP CL)) (c_greatest_prices : CalK P w K mg base 6 "greatest_prices" (spGreatP CL))
    (c_prices : CalK P w K mg base 7 "prices" (spLeastP CL)) (c_L_kinds_in : CalK P w K mg base 1 "_law_kinds_in" spKindsIn) (c_L_ends_right : CalK P w K mg base 4 "_law_ends_right" spLEnds) (c_L_over : CalK P w K mg base 1 "_law_over" spLOver) (c_L_sum : CalK P w K mg base 2 "_law_sum" spLSum) (c_L_all_prices : CalK P w K mg base 2 "_law_all_prices" spAllP) :
    FnOk P w K mg base CX0 8 f fd ["_law_rows_here", "_law_stock", "_law_worths_here"] spLFits := by
  refine F.ok sc_L_fits (fun vs H Q E h => ?_) (fun cdv A outer s H vs Q E hr h => ?_)
  · obtain ⟨_, _, _, _, _, _, rfl, _⟩ := h
    rfl
  · obtain ⟨ra, sd, wd, rs, st, ws, rfl, L, tm, wk, q⟩ := h
    refine ⟨_, (pss_cons (ps_asg (pe_tup (pa_cons (ec c_L_line_of hr (by decide) rfl (pa_cons (pv 0) pa_nil)) (pa_cons (ec c_L_any hr (by decide) rfl (pa_cons (pv 0) (pa_cons (pv 1) (pa_cons (pv 2) pa_nil)))) pa_nil))) (tupTK K rfl rfl (pgs_cons (pg_name (i := 3) sc_L_fits.nd rfl (by first | exact Or.inl rfl | exact Or.inr rfl)) (pgs_cons (pg_name (i := 4) sc_L_fits.nd rfl (by first | exact Or.inl rfl | exact Or.inr rfl)) pgs_nil))))
    (pss_cons (ps_set (i := 5) sc_L_fits.nd rfl (Or.inl rfl) (pe_lst (pa_cons (LiI.pe_listItems rfl (pv 1) (by rfl) T.g_list boot_list) (pa_cons (pe_listItemsT rfl (pv 2) (by rfl) T.g_list boot_list) pa_nil))))
    (pss_cons (ps_asg (pe_tup (pa_cons (ec c_least_prices hr (by decide) rfl (pa_cons (pv 3) (pa_cons (pv 1) (pa_cons (pv 2) pa_nil)))) (pa_cons (ec c_greatest_prices hr (by decide) rfl (pa_cons (pv 3) (pa_cons (pv 1) (pa_cons (pv 2) pa_nil)))) pa_nil))) (tupTK K rfl rfl (pgs_cons (pg_name (i := 6) sc_L_fits.nd rfl (by first | exact Or.inl rfl | exact Or.inr rfl)) (pgs_cons (pg_name (i := 7) sc_L_fits.nd rfl (by first | exact Or.inl rfl | exact Or.inr rfl)) pgs_nil))))
    (pss_cons (ps_if (pt_cmpR (neDK K rfl hr.units) (pe_lst (pa_cons (LiI.pe_listItems rfl (pv 1) (by rfl) T.g_list boot_list) (pa_cons (pe_listItemsT rfl (pv 2) (by rfl) T.g_list boot_list) pa_nil))) (pv 5) (nomark _)) (pss_one (ps_ret pe_bl)) pss_nil)
    (pss_cons (ps_if (PW.pt (pw_or (pt_cmpR (neDK K rfl hr.units) (pe_callB (call_sortedD rfl) (by rfl) T.g_sorted boot_sorted (pa_cons (pe_ix (ixTK K rfl) (pv 6) pe_int (fun _ _ => rfl)) pa_nil)) (ec c_L_kinds_in hr (by decide) rfl (pa_cons (pv 0) pa_nil)) (nomark _)) (pw_or1 (pt_cmpR (neDK K rfl hr.units) (pe_callB (call_sortedD rfl) (by rfl) T.g_sorted boot_sorted (pa_cons (pe_ix (ixTK K rfl) (pv 7) pe_int (fun _ _ => rfl)) pa_nil)) (ec c_L_kinds_in hr (by decide) rfl (pa_cons (pv 0) pa_nil)) (nomark _))))) (pss_one (ps_ret pe_bl)) pss_nil)
    (pss_cons (ps_if (pt_not (pt_val (ec c_L_ends_right hr (by decide) rfl (pa_cons (pv 0) (pa_cons (pv 1) (pa_cons (pv 2) (pa_cons (pv 4) (pa_cons (pe_ix (ixTK K rfl) (pv 6) pe_int (fun _ _ => rfl)) (pa_cons (pe_ix (ixTK K rfl) (pv 7) pe_int (fun _ _ => rfl)) pa_nil))))))))) (pss_one (ps_ret pe_bl)) pss_nil)
    (pss_cons (ps_for PassesOwn.never rfl (listK K rfl (pe_lst (pa_cons (pv 6) (pa_cons (pv 7) (pa_cons (ec c_prices hr (by decide) rfl (pa_cons (pv 3) (pa_cons (pv 1) (pa_cons (pv 2) pa_nil)))) pa_nil))))) (pg_name (i := 8) sc_L_fits.nd rfl (by first | exact Or.inl rfl | exact Or.inr rfl))
    (pss_cons (ps_if (pt_cmpR (neDK K rfl hr.units) (pe_lc (own := [("_law_row", 11)]) (g := (gName 11)) rfl sc_L_fits.nd (listK K rfl (pv 0)) (blkOk_by (own := [("_law_row", 11)]) (N := ["_law_rows_here", "_law_stock", "_law_worths_here", "_law_line", "_law_due", "_law_kept", "_law_low", "_law_high", "_law_value", "_law_one", "_law_right", "_law_row", "_law_kind"]) (sc := defScope s_L_fits) (by decide +kernel)) (fun _ _ _ _ _ => (pg_name (i := 11) sc_L_fits.nd rfl (by first | exact Or.inl rfl | exact Or.inr rfl))) (fun _ _ _ _ _ => (pts_one (pt_cmpR op_ne (pe_dget (hu_of hr) (pe_ix (ixTK K rfl) (pv 8) pe_int (fun _ _ => rfl)) (pe_ix (ixTK K rfl) (pv 11) pe_int (fun _ _ => rfl)) (fun _ _ => rfl)) (ec c_L_over hr (by decide) rfl (pa_cons (pv 11) (pa_cons (pv 2) (pa_cons (pe_ix (ixTK K rfl) (pv 8) pe_int (fun _ _ => rfl)) pa_nil)))) (nomark _)))) (fun _ _ _ _ _ => (pv 11))) (pe_lst pa_nil) (nomark _)) (pss_one (ps_ret pe_bl)) pss_nil)
    (pss_cons (ps_if (pt_cmpR op_ne (ec c_L_sum hr (by decide) rfl (pa_cons (pv 0) (pa_cons (pv 1) (pa_cons (pv 2) (pa_cons (pe_ix (ixTK K rfl) (pv 8) pe_int (fun _ _ => rfl)) pa_nil))))) (pv 4) (nomark _)) (pss_one (ps_ret pe_bl)) pss_nil)
    (pss_one (ps_if (pt_cmpR (neDK K rfl hr.units) (pe_lock (pe_lc (own := [("_law_kind", 12)]) (g := (gName 12)) rfl sc_L_fits.nd (pi_keys (pe_ix (ixTK K rfl) (pv 6) pe_int (fun _ _ => rfl))) (blkOk_by (own := [("_law_kind", 12)]) (N := ["_law_rows_here", "_law_stock", "_law_worths_here", "_law_line", "_law_due", "_law_kept", "_law_low", "_law_high", "_law_value", "_law_one", "_law_right", "_law_row", "_law_kind"]) (sc := defScope s_L_fits) (by decide +kernel)) (fun _ _ _ _ _ => (pg_name (i := 12) sc_L_fits.nd rfl (by first | exact Or.inl rfl | exact Or.inr rfl))) (fun _ _ _ _ _ => (pts_one (pt_cmpR op_lt (pe_dget (hu_of hr) (pe_ix (ixTK K rfl) (pv 8) pe_int (fun _ _ => rfl)) (pv 12) (fun _ _ => rfl)) (pe_dget (hu_of hr) (pe_ix (ixTK K rfl) (pv 6) pe_int (fun _ _ => rfl)) (pv 12) (fun _ _ => rfl)) (nomark _)))) (fun _ _ _ _ _ => (pv 12)))) (pe_lst pa_nil) (nomark _)) (pss_one (ps_ret pe_bl)) pss_nil)))))
    (pss_cons (ps_if (PW.pt (pw_or (pt_cmpR op_gt (pe_callB call_lenD (by rfl) T.g_len boot_len (pa_cons (pe_ix (ixTK K rfl) (pv 6) pe_int (fun _ _ => rfl)) pa_nil)) pe_int (nomark _)) (pw_or1 (pt_cmpR op_gt (pe_callB (maxK K rfl rfl) (by rfl) T.g_max boot_max (pa_cons (pe_listValuesT rfl (pv 2) (by rfl) T.g_list boot_list) pa_nil)) pe_int (nomark _))))) (pss_one (ps_ret pe_bl)) pss_nil)
    (pss_cons (ps_setLc (i := 10) (own := [("_law_one", 9)]) (g := (gName 9)) rfl sc_L_fits.nd rfl rfl (sw_true rfl rfl rfl (by decide +kernel)) (listK K rfl (ec c_L_all_prices hr (by decide) rfl (pa_cons (pe_callB (call_sortedD rfl) (by rfl) T.g_sorted boot_sorted (pa_cons (pe_ix (ixTK K rfl) (pv 6) pe_int (fun _ _ => rfl)) pa_nil)) (pa_cons pe_int pa_nil)))) (blkOk_by (own := [("_law_one", 9)]) (N := ["_law_rows_here", "_law_stock", "_law_worths_here", "_law_line", "_law_due", "_law_kept", "_law_low", "_law_high", "_law_value", "_law_one", "_law_right", "_law_row", "_law_kind"]) (sc := defScope s_L_fits) (by decide +kernel)) (fun _ _ _ _ _ => (pg_name (i := 9) sc_L_fits.nd rfl (by first | exact Or.inl rfl | exact Or.inr rfl))) (fun _ _ _ _ _ => (pts_one (pt_cmpR op_eq (ec c_L_sum hr (by decide) rfl (pa_cons (pv 0) (pa_cons (pv 1) (pa_cons (pv 2) (pa_cons (pv 9) pa_nil))))) (pv 4) (nomark _)))) (fun _ _ _ _ _ => (pv 9)))
    (pss_cons (ps_for PassesOwn.never rfl (listK K rfl (pv 10)) (pg_name (i := 9) sc_L_fits.nd rfl (by first | exact Or.inl rfl | exact Or.inr rfl))
    (pss_cons (ps_if (pt_cmpR (neDK K rfl hr.units) (pe_lock (pe_lc (own := [("_law_kind", 12)]) (g := (gName 12)) rfl sc_L_fits.nd (pi_keys (pv 9)) (blkOk_by (own := [("_law_kind", 12)]) (N := ["_law_rows_here", "_law_stock", "_law_worths_here", "_law_line", "_law_due", "_law_kept", "_law_low", "_law_high", "_law_value", "_law_one", "_law_right", "_law_row", "_law_kind"]) (sc := defScope s_L_fits) (by decide +kernel)) (fun _ _ _ _ _ => (pg_name (i := 12) sc_L_fits.nd rfl (by first | exact Or.inl rfl | exact Or.inr rfl))) (fun _ _ _ _ _ => (pts_one (pt_cmpR op_lt (pe_dget (hu_of hr) (pv 9) (pv 12) (fun _ _ => rfl)) (pe_dget (hu_of hr) (pe_ix (ixTK K rfl) (pv 6) pe_int (fun _ _ => rfl)) (pv 12) (fun _ _ => rfl)) (nomark _)))) (fun _ _ _ _ _ => (pv 12)))) (pe_lst pa_nil) (nomark _)) (pss_one (ps_ret pe_bl)) pss_nil)
    (pss_one (ps_if (pt_cmpR (neDK K rfl hr.units) (pe_lock (pe_lc (own := [("_law_kind", 12)]) (g := (gName 12)) rfl sc_L_fits.nd (pi_keys (pv 9)) (blkOk_by (own := [("_law_kind", 12)]) (N := ["_law_rows_here", "_law_stock", "_law_worths_here", "_law_line", "_law_due", "_law_kept", "_law_low", "_law_high", "_law_value", "_law_one", "_law_right", "_law_row", "_law_kind"]) (sc := defScope s_L_fits) (by decide +kernel)) (fun _ _ _ _ _ => (pg_name (i := 12) sc_L_fits.nd rfl (by first | exact Or.inl rfl | exact Or.inr rfl))) (fun _ _ _ _ _ => (pts_one (PW.pt (pw_and (pt_cmpR op_gt (pe_dget2 (hu_of hr) (pv 1) (pv 12) pe_int (.mk rfl rfl rfl rfl)) pe_int (nomark _)) (pw_and1 (pt_cmpR op_gt (pe_dget (hu_of hr) (pv 9) (pv 12) (fun _ _ => rfl)) (pe_dget (hu_of hr) (pe_ix (ixTK K rfl) (pv 7) pe_int (fun _ _ => rfl)) (pv 12) (fun _ _ => rfl)) (nomark _))))))) (fun _ _ _ _ _ => (pv 12)))) (pe_lst pa_nil) (nomark _)) (pss_one (ps_ret pe_bl)) pss_nil))))
    (pss_one (ps_ret (pe_and (pe_cmpR (inDDK K rfl hr.units) (pe_ix (ixTK K rfl) (pv 6) pe_int (fun _ _ => rfl)) (pv 10) (by rfl)) (pe_one (pe_cmpR (inDDK K rfl hr.units) (pe_ix (ixTK K rfl) (pv 7) pe_int (fun _ _ => rfl)) (pv 10) (by rfl)))))))))))))))), ?_⟩
    have okI : (theI rs ws).Ok := (mok L.ro L.wo).ok
    have hfew := L.ro.few
    refine ⟨_, rfl, ra, rs, rfl, L.rows, L.ro, fun lo H1 hlo e1 la => ⟨_, rfl, _, rfl, _, rfl, ra, sd, wd, rs, st, ws, rfl, L.mono e1, fun due H2 e2 hdue => ⟨by show 2 ≤ sizeLine; decide, fun t ht => ⟨t, _, rfl, st_get upd_same, rfl, _, _, rfl, _, _, rfl, rfl, ?_⟩⟩⟩⟩
    have e3 := Ex.new (o := .tup [.ref lo, .int due]) ht
    have ex3 := (e1.trans e2).trans e3
    generalize (upd H2 t (.tup [.ref lo, .int due])) = H3 at e3 ex3 ⊢
    have la3 := la.mono (e2.trans e3)
    refine q_kept rfl rfl (ex3 _ _ L.sd) (ex3 _ _ L.wd) fun kp H4 e4 kept => ?_
    have ex4 := ex3.trans e4
    have I4 : In3 CL H4 lo sd wd rs st ws := ⟨la3.mono e4, L.ro, ex4 _ _ L.sd, L.so, ex4 _ _ L.wd, L.wo⟩
    refine ⟨_, rfl, _, rfl, _, rfl, lo, sd, wd, rs, st, ws, rfl, I4, fun pl ld le lf H5 hpl hld hle e5 p1 p2 p3 kl ol ll => ⟨_, rfl, _, rfl, _, rfl, lo, sd, wd, rs, st, ws, rfl, I4.mono e5, fun ph hd he gr H6 hph hhd hhe e6 g1 g2 g3 kg gg => ⟨by show 2 ≤ sizeLine; decide, fun t2 ht2 => ⟨t2, _, rfl, st_get upd_same, rfl, _, _, rfl, _, _, rfl, rfl, ?_⟩⟩⟩⟩
    have e7 := Ex.new (o := .tup [.ref pl, .ref ph]) ht2
    generalize (upd H6 t2 (.tup [.ref pl, .ref ph])) = H7 at e7 ⊢
    have ex7 := ex4.trans ((e5.trans e6).trans e7)
    have lowAt : PrAt rs st ws H7 pl ld le lf := PrAt.mono ⟨p1, p2, p3, kl, ol⟩ (e6.trans e7)
    have highAt : PrAt rs st ws H7 ph hd he gr := PrAt.mono ⟨g1, g2, g3, kg, gg.opt⟩ e7
    have kept7 := kept.mono ((e5.trans e6).trans e7)
    have I7 := I4.mono ((e5.trans e6).trans e7)
    have nsl : sd ≠ ld := ne_of_none (ex4 _ _ L.sd) hld
    have nhl : hd ≠ ld := (ne_of_none p2 hhd).symm
    have nsh : sd ≠ hd := ne_of_none ((ex4.trans e5) _ _ L.sd) hhd
    have L7 := L.mono ex7
    refine q_when (b := false) (et_test (ev_neKept rfl rfl rfl L7.sd L7.wd kept7 L.so.ks wk.2)) (fun z => nomatch z) fun _ H8 e8 => ?_
    refine q_when (b := false) (et_or (a := false) (b := false) (et_test (ev_sortedKinds (ev_ixT (ev_var rfl) ev_c (st_get (e8 _ _ lowAt.p)) (atI_get (i := 0) rfl)) (ev_var rfl) (e8 _ _ lowAt.d) kl (L7.rows.mono e8) L.ro)) fun _ => et_test (ev_sortedKinds (ev_ixT (ev_var rfl) ev_c (st_get (e8 _ _ highAt.p)) (atI_get (i := 0) rfl)) (ev_var rfl) (e8 _ _ highAt.d) kg (L7.rows.mono e8) L.ro)) (fun z => nomatch z) fun _ H9 e9 => ?_
    have e79 := e8.trans e9
    refine q_when (b := false) (et_not (a := true) (et_B (ev_callN (vs := [.ref ra, .ref sd, .ref wd, .int due, .ref ld, .ref hd]) (ea_cons (ev_var rfl) (ea_cons (ev_var rfl) (ea_cons (ev_var rfl) (ea3 (ev_var rfl) (ev_ixT (ev_var rfl) ev_c (st_get (e79 _ _ lowAt.p)) (atI_get (i := 0) rfl)) (ev_ixT (ev_var rfl) ev_c (st_get (e79 _ _ highAt.p)) (atI_get (i := 0) rfl)))))) fun H10 e10 Q q _ =>
      ⟨ra, sd, wd, ld, hd, due, rs, st, ws, lf, gr, rfl, L7.mono (e79.trans e10), tm, hdue, nsl, nhl, (e79.trans e10) _ _ lowAt.d, (e79.trans e10) _ _ highAt.d, kl, ol, ll, kg, gg, q⟩))) (fun z => nomatch z) fun _ H10 e10 => ?_
    have e710 := e79.trans e10
    have L10 := L7.mono e710
    have low10 := lowAt.mono e710
    have high10 := highAt.mono e710
    have I10 := I7.mono e710
    have ex10 := ex7.trans e710
    clear kept7 kept
    obtain ⟨vs, hvs, rel⟩ := L10.rows
    refine q_forP (PP := fun xs H1 => ∀ x ∈ xs, ∃ p d e fd, x = .ref p ∧ PrAt rs st ws H1 p d e fd ∧ sd ≠ d) (fun Q qq => ⟨_, rfl, _, rfl, _, rfl, _, rfl, _, rfl, lo, sd, wd, rs, st, ws, rfl, I10, fun pp d e fd H11 hpp hd0 he0 e11 r1 r2 r3 kr or lr => ⟨by show 3 ≤ sizeLine; decide, fun l hl => qq l _ _ (e11.trans (Ex.new hl)) upd_same (fresh_back e11 hl) fun x hx => ?_⟩⟩) fun l xs H11 e11 hl11 hl0 pp => ⟨fun n σ' H' => (∃ x8, σ' = [some (.ref ra), some (.ref sd), some (.ref wd), some (.ref lo), some (.int due), some (.ref kp), some (.ref pl), some (.ref ph), x8, none, none, none, none]) ∧ Ex H11 H', ⟨⟨none, rfl⟩, Ex.refl _⟩, fun n σ' H' _ h => sq_get (h.2 _ _ hl11), fun n x σ' H' hx h => ?_, fun σ' H' h => ?_⟩
    · simp only [List.mem_cons, List.not_mem_nil, or_false] at hx
      rcases hx with rfl | rfl | rfl
      · exact ⟨pl, ld, le, lf, rfl, low10.mono (e11.trans (Ex.new hl)), nsl⟩
      · exact ⟨ph, hd, he, gr, rfl, high10.mono (e11.trans (Ex.new hl)), nsh⟩
      · exact ⟨pp, d, e, fd, rfl, PrAt.mono ⟨r1, r2, r3, kr, or⟩ (Ex.new hl), ne_of_none L10.sd hd0⟩
    · obtain ⟨⟨x8, rfl⟩, exx⟩ := h
      obtain ⟨p, d, e, fd, rfl, pr, nsd⟩ := pp _ (List.mem_of_getElem? hx)
      have pr := pr.mono exx
      have e12 := e11.trans exx
      have L12 := L10.mono e12
      have low12 := low10.mono e12
      refine q_when (b := false) (et_test (ev_neNN (el_nil (n := vs.length) (v := fun _ => .non) (el_lcLg (a := ra) (fun _ => false) (fun _ => .non) (ev_var rfl) (sq_get (e12 _ _ hvs)) (by rw [rel.len]; omega) fun i x H13 e13 hx => ?_)))) (fun z => nomatch z) fun _ H13 e13 => ?_
      · have hi : i < rs.length := by rw [← rel.len]; exact (List.getElem?_eq_some_iff.mp hx).1
        have hr : rs[i]? = some rs[i] := List.getElem?_eq_getElem hi
        have hg : rs.getD i default = rs[i] := getD_of hr
        obtain ⟨t, f, rfl, h3, h4⟩ := rel.get i x _ hx hr
        have pr13 := pr.mono e13
        have hak := ak_get (ws := ws) (fd := fd) L.ro hi
        rw [hg] at hak
        have hov : (theI rs ws).over (gf fd) i = mx0 (rs[i].fits.map fun k => gtI ws [.inr rs[i].name, .inr k] - gf fd k) := by
          show mx0 ((rs.getD i default).fits.map fun k => gtI ws [.inr (rs.getD i default).name, .inr k] - gf fd k) = _
          rw [hg]
        have eee := e12.trans e13
        refine turnN rfl (et_test (ev_is (ev_neS (x := .int ((theI rs ws).over (gf fd) i)) (y := .int ((theI rs ws).over (gf fd) i)) (ev_getS (ev_ixT (ev_var rfl) ev_c (st_get pr13.p) (atI_get (i := 1) rfl)) (ev_ixT (ev_var rfl) ev_c (st_get (eee _ _ h3)) (atI_get (i := 0) rfl)) pr13.e hak) (ev_callN (vs := [.ref t, .ref wd, .ref d]) (ea3 (ev_var rfl) (ev_var rfl) (ev_ixT (ev_var rfl) ev_c (st_get pr13.p) (atI_get (i := 0) rfl))) fun H14 e14 Q qq _ => ⟨t, wd, d, rs[i], ws, fd, rfl, ⟨t, f, rfl, (eee.trans e14) _ _ h3, (eee.trans e14) _ _ h4⟩, (eee.trans e14) _ _ L10.wd, .inl (e14 _ _ pr13.d), (L.ro.ok _ (List.getElem_mem hi)).few, fun k hk => ⟨?_, ?_⟩, fun H15 e15 => by rw [← hov]; exact qq H15 e15⟩) rfl) (by simp))) fun z => nomatch z
        · exact L.wo.has (rs[i].name, k) (List.mem_flatMap.mpr ⟨_, List.getElem_mem hi, List.mem_map.mpr ⟨k, hk, rfl⟩⟩)
        · exact pr.ki.all k (((sortsOf_is rs).mem k).mpr ⟨_, List.getElem_mem hi, hk⟩)
      · have pr13 := pr.mono e13
        have hcost : cost rs st ws fd = due := pr.op.val hdue
        refine q_when (b := false) (et_test (ev_is (ev_neS (x := .int due) (y := .int due) (ev_callN (vs := [.ref ra, .ref sd, .ref wd, .ref d]) (ea_cons (ev_var rfl) (ea3 (ev_var rfl) (ev_var rfl) (ev_ixT (ev_var rfl) ev_c (st_get pr13.p) (atI_get (i := 0) rfl)))) fun H14 e14 Q qq _ => ⟨ra, sd, wd, d, rs, st, ws, fd, rfl, L12.mono (e13.trans e14), e14 _ _ pr13.d, pr.ki, fun H15 e15 => by rw [hcost]; exact qq H15 e15⟩) (ev_var rfl) rfl) (by simp))) (fun z => nomatch z) fun _ H14 e14 => ?_
        have pr14 := pr13.mono e14
        have low14 := low12.mono (e13.trans e14)
        refine s_when (b := false) (et_test (ev_neNN (el_nil (n := (mI lf).length) (v := fun _ => .non) (el_lcK (d := ld) (fun _ => false) (fun _ => .non) low14.d (fun od => ev_ixT (ev_var rfl) ev_c (st_get (by rw [upd_ne fun z => by have := low14.p; rw [z, low14.d] at this; cases this]; exact low14.p)) (atI_get (i := 0) rfl)) (by rw [len_mI]; have := kl.len; have := sorts_few L.ro.small; omega) fun od i key x H15 e15 hx => ?_)))) (fun z => nomatch z) fun _ H15 e15 => ⟨⟨_, rfl⟩, exx.trans (e13.trans (e14.trans e15))⟩
        obtain ⟨⟨k0, i0⟩, hlf, e0⟩ := get_map (l := lf) (f := fun x => (x.1, V.int x.2)) hx
        cases e0
        obtain ⟨k, hk, e0⟩ := kl.ks k0 (List.mem_map.mpr ⟨_, List.mem_of_getElem? hlf, rfl⟩)
        have e0 : k0 = .inr k := e0
        subst e0
        have tupAt : ∀ {p d e : Addr} {fd : List (Key × Int)}, PrAt rs st ws H14 p d e fd → H15 p = some (.tup [.ref d, .ref e]) := fun pr => e15 _ _ (by rw [upd_ne fun z => by have := pr.p; rw [z, low14.d] at this; cases this]; exact pr.p)
        have hge := ll (gf fd) pr.op k hk
        exact turnN rfl (et_test (ev_is (ev_lt (ev_dget (ev_ixT (ev_var rfl) ev_c (st_get (tupAt pr14)) (atI_get (i := 0) rfl)) (ev_var rfl) (dget_lk low14.d pr14.d e15 (pr.ki.get hk))) (ev_dget (ev_ixT (ev_var rfl) ev_c (st_get (tupAt low14)) (atI_get (i := 0) rfl)) (ev_var rfl) (dget_lk low14.d low14.d e15 (kl.get hk)))) (congrArg V.bl (decide_eq_false (by omega))))) fun z => nomatch z
    · obtain ⟨⟨x8, rfl⟩, exx⟩ := h
      have e12 := e11.trans exx
      have L12 := L10.mono e12
      have low12 := low10.mono e12
      have high12 := high10.mono e12
      have wne : ws.map (·.2) ≠ [] := by
        intro z
        have h1 : ws.length = 0 := by rw [← List.length_map (f := fun x : List Key × Int => x.2), z]; rfl
        have h2 := L.wo.len
        obtain ⟨r, hr⟩ := List.exists_mem_of_ne_nil _ L.ro.ne
        obtain ⟨k, hk⟩ := List.exists_mem_of_ne_nil _ (L.ro.ok r hr).ne
        have h3 : (r.name, k) ∈ places rs := List.mem_flatMap.mpr ⟨r, hr, List.mem_map.mpr ⟨k, hk, rfl⟩⟩
        have := List.length_pos_of_mem h3
        omega
      obtain ⟨t1, t2⟩ := mxL_top (ws.map (·.2)) wne
      refine q_when (b := decide ((3 : Int) < lf.length) || decide (6 < mxL (ws.map (·.2)))) (et_or (a := decide ((3 : Int) < lf.length)) (b := decide (6 < mxL (ws.map (·.2)))) (et_test (ev_gt (ev_lenD (ev_ixT (ev_var rfl) ev_c (st_get low12.p) (atI_get (i := 0) rfl)) low12.d) ev_c)) fun _ => et_test (ev_gt (ev_maxL (el_valsT (ev_var rfl) L12.wd) t1 t2) ev_c)) (fun _ H13 e13 => s_ret ev_c fun H14 e14 => q H14 (ex10.trans (e12.trans (e13.trans e14)))) fun hb H13 e13 => ?_
      rw [Bool.or_eq_false_iff] at hb
      have hl3 := of_decide_eq_false hb.1
      have hm6 := of_decide_eq_false hb.2
      have hw6 : ∀ x ∈ ws, x.2 ≤ 6 := fun x hx => by have := t2 x.2 (List.mem_map.mpr ⟨x, hx, rfl⟩); omega
      have hkl := keysI_len kl (sortsOf_is rs).nd
      have L13 := L12.mono e13
      have low13 := low12.mono e13
      have high13 := high12.mono e13
      have e13' := e12.trans e13
      refine q_lcP (PP := fun xs H1 => ∃ ps : List Addr, xs = ps.map V.ref ∧ RelP ps ((allP (sortsOf rs)).map isT) H1) (run_allP (ev_ixT (ev_var rfl) ev_c (st_get low13.p) (atI_get (i := 0) rfl)) low13.d kl L.ro (by omega)) fun ap xs H14 e14 hap hap0 pp => ?_
      obtain ⟨ps, rfl, rP⟩ := pp
      have hpl : ps.length = (allP (sortsOf rs)).length := by rw [rP.1, List.length_map]
      have hal : (allP (sortsOf rs)).length ≤ 343 := by
        have := (allP_len (sortsOf rs) (sortsOf rs).length (Nat.le_refl _)).2
        rw [List.take_length] at this
        refine Nat.le_trans this ?_
        exact Nat.le_trans (Nat.pow_le_pow_right (by decide) (show (sortsOf rs).length ≤ 3 by omega)) (by decide)
      have hki : ∀ t ∈ allP (sortsOf rs), KeysI t (sortsOf rs) ∧ ∀ k ∈ sortsOf rs, 0 ≤ gf t k := fun t ht => by
        obtain ⟨f, rfl, hf⟩ := (allP_iff _ (sortsOf_is rs).nd t).mp ht
        exact ⟨tabF_keysI (sortsOf_is rs).nd, fun k hk => by rw [gf_tabF hk]; exact (hf k hk).1⟩
      have hzl : (ps.zip (allP (sortsOf rs))).length = (ps.map V.ref).length := by rw [List.length_zip, List.length_map]; omega
      refine ⟨fun j => decide (cost rs st ws ((ps.zip (allP (sortsOf rs))).getD j (0, [])).2 = due), fun j => .ref ((ps.zip (allP (sortsOf rs))).getD j (0, [])).1, by rw [List.length_map]; omega, fun j x H15 e15 hx => ?_, fun r H15 hr0 e15 hr => ?_⟩
      · obtain ⟨p, hp, rfl⟩ := get_map hx
        have hj : j < (allP (sortsOf rs)).length := by rw [← hpl]; exact (List.getElem?_eq_some_iff.mp hp).1
        have hL := List.getElem?_eq_getElem hj
        have hz : (ps.zip (allP (sortsOf rs)))[j]? = some (p, (allP (sortsOf rs))[j]) := List.getElem?_zip_eq_some.mpr ⟨hp, hL⟩
        have hgd : (ps.zip (allP (sortsOf rs))).getD j (0, []) = (p, (allP (sortsOf rs))[j]) := by rw [List.getD_eq_getElem?_getD, hz, Option.getD_some]
        show TurnC _ _ _ _ _ _ _ (decide (cost rs st ws ((ps.zip (allP (sortsOf rs))).getD j (0, [])).2 = due)) (.ref ((ps.zip (allP (sortsOf rs))).getD j (0, [])).1)
        rw [hgd]
        have hpT : H14 p = some (.dK (mI (allP (sortsOf rs))[j])) := rP.2 j p (isT (allP (sortsOf rs))[j]) hp (by rw [List.getElem?_map, hL]; rfl)
        refine turnN rfl (et_test (ev_is (ev_eqS (x := .int (cost rs st ws (allP (sortsOf rs))[j])) (y := .int due) (ev_callN (vs := [.ref ra, .ref sd, .ref wd, .ref p]) (ea_cons (ev_var rfl) (ea3 (ev_var rfl) (ev_var rfl) (ev_var rfl))) fun H16 e16 Q qq _ => ⟨ra, sd, wd, p, rs, st, ws, (allP (sortsOf rs))[j], rfl, L13.mono (e14.trans (e15.trans e16)), (e15.trans e16) _ _ hpT, (hki _ (List.getElem_mem hj)).1, qq⟩) (ev_var rfl) rfl) (congrArg V.bl (decide_eq_decide.mpr ⟨fun h => by injection h, fun h => by rw [h]⟩)))) fun _ => ev_var rfl
      · have hgiv := given_map (ps.zip (allP (sortsOf rs))) (fun z => decide (cost rs st ws z.2 = due)) (fun z => V.ref z.1) (f := fun j => decide (cost rs st ws ((ps.zip (allP (sortsOf rs))).getD j (0, [])).2 = due)) (v := fun j => .ref ((ps.zip (allP (sortsOf rs))).getD j (0, [])).1) fun j z hz => by rw [List.getD_eq_getElem?_getD, hz]; exact ⟨rfl, rfl⟩
        rw [← hzl, hgiv] at hr
        have hin : ∀ z ∈ (ps.zip (allP (sortsOf rs))).filter (fun z => decide (cost rs st ws z.2 = due)), H15 z.1 = some (.dK (mI z.2)) ∧ z.2 ∈ allP (sortsOf rs) ∧ cost rs st ws z.2 = due := fun z hz => by
          obtain ⟨h1, h2⟩ := List.mem_filter.mp hz
          obtain ⟨i, hi⟩ := List.getElem?_of_mem h1
          rw [List.getElem?_zip_eq_some] at hi
          exact ⟨e15 _ _ (rP.2 i z.1 (isT z.2) hi.1 (by rw [List.getElem?_map, hi.2]; rfl)), List.mem_of_getElem? hi.2, of_decide_eq_true h2⟩
        have hout : ∀ t ∈ allP (sortsOf rs), cost rs st ws t = due → ∃ z ∈ (ps.zip (allP (sortsOf rs))).filter (fun z => decide (cost rs st ws z.2 = due)), z.2 = t := fun t ht hc => by
          obtain ⟨i, hi⟩ := List.getElem?_of_mem ht
          have h1 := (List.getElem?_eq_some_iff.mp hi).1
          exact ⟨(ps[i]'(by omega), t), List.mem_filter.mpr ⟨List.mem_of_getElem? (i := i) (List.getElem?_zip_eq_some.mpr ⟨List.getElem?_eq_getElem (by omega), hi⟩), decide_eq_true hc⟩, rfl⟩
        generalize (ps.zip (allP (sortsOf rs))).filter (fun z => decide (cost rs st ws z.2 = due)) = R at hr hin hout
        have hopt : ∀ z ∈ R, Opt (theI rs ws) (stk st) (gf z.2) := fun z hz => by
          obtain ⟨_, h2, h3⟩ := hin z hz
          exact ⟨(hki _ h2).2, by
            have h3 : (theI rs ws).dobj (stk st) (gf z.2) ((theI rs ws).over (gf z.2)) = due := h3
            rw [h3]; exact hdue⟩
        have L15 := L13.mono (e14.trans e15)
        have low15 := low13.mono (e14.trans e15)
        have high15 := high13.mono (e14.trans e15)
        refine q_forLn (a := r) (xs := R.map fun z => V.ref z.1) (ev_var rfl) (sq_get hr) (fun n σ' H' => (∃ x9, σ' = [some (.ref ra), some (.ref sd), some (.ref wd), some (.ref lo), some (.int due), some (.ref kp), some (.ref pl), some (.ref ph), x8, x9, some (.ref r), none, none]) ∧ Ex H15 H') (fun H16 e16 => ⟨⟨none, rfl⟩, e16⟩) (fun n σ' H' _ h => sq_get (h.2 _ _ hr)) (fun n x σ' H' hx h => ?_) (fun σ' H' h => ?_)
        · obtain ⟨⟨x9, rfl⟩, exx⟩ := h
          obtain ⟨z, hz, rfl⟩ := get_map hx
          have hzm := List.mem_of_getElem? hz
          obtain ⟨z1, z2, z3⟩ := hin z hzm
          have zo := hopt z hzm
          have zk := (hki _ z2).1
          have z1' := exx _ _ z1
          have zl : z.2.length ≤ 36 := by have := zk.len; have := sorts_few L.ro.small; omega
          refine q_when (b := false) (et_test (ev_neNN (el_nil (n := (mI z.2).length) (v := fun _ => .non) (el_lcK (d := z.1) (fun _ => false) (fun _ => .non) z1' (fun od => ev_var rfl) (by rw [len_mI]; omega) fun od i key x H16 e16 hx => ?_)))) (fun z => nomatch z) fun _ H16 e16 => ?_
          · obtain ⟨⟨k0, i0⟩, hlf, e0⟩ := get_map (l := z.2) (f := fun x => (x.1, V.int x.2)) hx
            cases e0
            obtain ⟨k, hk, e0⟩ := zk.ks k0 (List.mem_map.mpr ⟨_, List.mem_of_getElem? hlf, rfl⟩)
            have e0 : k0 = .inr k := e0
            subst e0
            have tupL : H16 pl = some (.tup [.ref ld, .ref le]) := e16 _ _ (by rw [upd_ne fun y => by have := exx _ _ low15.p; rw [y, z1'] at this; cases this]; exact exx _ _ low15.p)
            have hge := ll _ zo k hk
            exact turnN rfl (et_test (ev_is (ev_lt (ev_dget (ev_var rfl) (ev_var rfl) (dget_lk z1' z1' e16 (zk.get hk))) (ev_dget (ev_ixT (ev_var rfl) ev_c (st_get tupL) (atI_get (i := 0) rfl)) (ev_var rfl) (dget_lk z1' (exx _ _ low15.d) e16 (kl.get hk)))) (congrArg V.bl (decide_eq_false (by omega))))) fun z => nomatch z
          · have z1'' := e16 _ _ z1'
            refine s_when (b := false) (et_test (ev_neNN (el_nil (n := (mI z.2).length) (v := fun _ => .non) (el_lcK (d := z.1) (fun _ => false) (fun _ => .non) z1'' (fun od => ev_var rfl) (by rw [len_mI]; omega) fun od i key x H17 e17 hx => ?_)))) (fun z => nomatch z) fun _ H17 e17 => ⟨⟨_, rfl⟩, exx.trans (e16.trans e17)⟩
            obtain ⟨⟨k0, i0⟩, hlf, e0⟩ := get_map (l := z.2) (f := fun x => (x.1, V.int x.2)) hx
            cases e0
            obtain ⟨k, hk, e0⟩ := zk.ks k0 (List.mem_map.mpr ⟨_, List.mem_of_getElem? hlf, rfl⟩)
            have e0 : k0 = .inr k := e0
            subst e0
            have ex16 := exx.trans e16
            have tupH : H17 ph = some (.tup [.ref hd, .ref he]) := e17 _ _ (by rw [upd_ne fun y => by have := ex16 _ _ high15.p; rw [y, z1''] at this; cases this]; exact ex16 _ _ high15.p)
            have hsd16 := ex16 _ _ L15.sd
            have rsd : Rd H17 sd (.dK (mI st)) := by
              by_cases y : sd = z.1
              · rw [y] at hsd16 ⊢
                have em := HO.dK.inj (Option.some.inj (hsd16.symm.trans z1''))
                rw [em]
                exact .inr ⟨od, e17 _ _ upd_same⟩
              · exact .inl (e17 _ _ (by rw [upd_ne y]; exact hsd16))
            refine turnN rfl (et_is (et_and (a := decide (0 < stk st k)) (b := false) (et_test (ev_gt (ev_is (ev_get2 (o := valV (mI st) (.inr k)) (ev_var rfl) (fun H3 e3 => .inl ⟨_, ex_rd e3 rsd⟩) (ev_var rfl) ev_c fun H3 e3 => .inl ⟨mI st, .inr k, ex_rd e3 rsd, rfl, rfl⟩) (getD_intN _ _ _)) ev_c)) fun hb => ?_) (by simp)) fun z => nomatch z
            have hle := gg.top _ zo k hk (of_decide_eq_true hb)
            exact et_test (ev_is (ev_gt (ev_dget (ev_var rfl) (ev_var rfl) (dget_lk z1'' z1'' e17 (zk.get hk))) (ev_dget (ev_ixT (ev_var rfl) ev_c (st_get tupH) (atI_get (i := 0) rfl)) (ev_var rfl) (dget_lk z1'' (ex16 _ _ high15.d) e17 (kg.get hk)))) (congrArg V.bl (decide_eq_false (by omega))))
        · obtain ⟨⟨x9, rfl⟩, exx⟩ := h
          have hwI : ∀ i, i < (theI rs ws).n → ∀ k ∈ (theI rs ws).fits i, (theI rs ws).w i k ≤ 6 := fun i _ k _ => by
            show gtI ws _ ≤ 6
            unfold gtI
            cases e : lkI ws [.inr (rowAt (mkM rs ws) i).name, .inr k] with
            | none => show (0 : Int) ≤ 6; decide
            | some v => exact hw6 _ (mem_of_lkI e)
          have hsn := stk_nn L.so
          have hin6 : ∀ {fd : List (Key × Int)}, Opt (theI rs ws) (stk st) (gf fd) → (∀ k ∈ sortsOf rs, gf fd k ≤ 6) → ∃ z ∈ R, z.2 = tabF (sortsOf rs) (gf fd) := fun {fd} o h6 => hout _ ((allP_iff _ (sortsOf_is rs).nd _).mpr ⟨gf fd, rfl, fun k hk => ⟨o.pn k hk, h6 k hk⟩⟩) (cost_tabF okI o hdue)
          have low6 : ∀ k ∈ sortsOf rs, gf lf k ≤ 6 := fun k hk => by
            have h1 := (cap_opt okI (fun k _ => hsn k) (show (0 : Int) ≤ 6 by decide) hwI ol).1
            have h2 := ll _ h1 k hk
            unfold capP at h2
            split at h2 <;> omega
          have high6 : ∀ k ∈ sortsOf rs, gf gr k ≤ 6 := fun k hk => by
            by_cases hs : 0 < stk st k
            · exact (cap_opt okI (fun k _ => hsn k) (show (0 : Int) ≤ 6 by decide) hwI gg.opt).2 k hk hs
            · rw [gg.rest k hk hs]
              refine mx0_le (by decide) fun a ha => ?_
              obtain ⟨i, hi, rfl⟩ := List.mem_map.mp ha
              have hi2 := List.mem_filter.mp hi
              have h1 := hwI i (List.mem_range.mp hi2.1) k (of_decide_eq_true hi2.2)
              have h2 := overP_nonneg (I := theI rs ws) (fun j => if j ∈ sortsOf rs ∧ 0 < stk st j then some (gf gr j) else none) i
              omega
          have R16 : ∀ z ∈ R, H' z.1 = some (.dK (mI z.2)) := fun z hz => exx _ _ (hin z hz).1
          exact s_ret (v := .bl true) (ev_andV (a := true) (b := true) (ev_inDD (ev_ixT (ev_var rfl) ev_c (st_get (exx _ _ low15.p)) (atI_get (i := 0) rfl)) (ev_var rfl) (exx _ _ low15.d) (exx _ _ hr) R16 kl (sortsOf_is rs).nd (hin6 ol low6)) fun _ => ev_inDD (ev_ixT (ev_var rfl) ev_c (st_get (exx _ _ high15.p)) (atI_get (i := 0) rfl)) (ev_var rfl) (exx _ _ high15.d) (exx _ _ hr) R16 kg (sortsOf_is rs).nd (hin6 gg.opt high6)) fun H16 e16 => q H16 ((ex10.trans e13').trans ((e14.trans e15).trans (exx.trans e16)))
end
end K59
namespace K59
open PySem PySem.Spec PyProof.Rows L2 Evl
section
variable {P : Program} {w : World} {K : PySem.W.Frag} {mg : Str → Option Value} {base : Heap} {CA CL CM : Addr}
theorem ev_mod {σ : L2.St} {H : Hp} {ta tb : TE} {i j : Int} (ha : Ev ta σ H (.int i)) (hb : Ev tb σ H (.int j)) (h : 0 < j) : Ev (tOp (rI (fun _ j => 0 < j) fun i j => .int (i % j)) ta tb) σ H (.int (i % j)) := ev_op ha hb (rv_I h)
def spMixed : Sp := fun vs H Q _ => ∃ s t a : Int, vs = [.int s, .int t, .int a] ∧ 0 ≤ s ∧ s < 2 ^ 32 ∧ 0 ≤ t ∧ t < 2 ^ 32 ∧ 0 ≤ a ∧ a < 2 ^ 32 ∧ ∀ v H', Ex H H' → 0 ≤ v → v < 2 ^ 31 → Q (.int v) H'
theorem d_L_mixed {f : Addr} {fd : FuncData} (F : Fun K "_law_mixed" "_law_mixed" s_L_mixed f fd) (T : Txt K mg CA CL CM) : FnOk P w K mg base CX0 1 f fd ["_law_seed", "_law_turn", "_law_at"] spMixed := by
  refine F.ok sc_L_mixed (fun vs H Q E h => ?_) (fun cdv A outer s H vs Q E hr h => ?_)
  · obtain ⟨_, _, _, rfl, _⟩ := h
    rfl
  · obtain ⟨s, t, a, rfl, s0, s1, t0, t1, a0, a1, q⟩ := h
    refine ⟨_, (pss_cons (ps_set (i := 3) sc_L_mixed.nd rfl (Or.inl rfl) (pe_op op_add (pe_op op_mul (pv 0) pe_int) (pe_op op_mul (pe_op op_mul pe_int (pv 1)) (pv 1))))
    (pss_cons (ps_set (i := 3) sc_L_mixed.nd rfl (Or.inl rfl) (pe_op op_mod (pe_op op_add (pe_op op_add (pv 3) (pe_op op_mul pe_int (pv 2))) (pv 1)) pe_int))
    (pss_cons (ps_set (i := 3) sc_L_mixed.nd rfl (Or.inl rfl) (pe_op op_mod (pe_op op_add (pe_op op_mul (pv 3) (pv 3)) pe_int) pe_int))
    (pss_one (ps_ret (pe_op op_mod (pe_op op_mul (pv 3) pe_int) pe_int)))))), ?_⟩
    have sm : ∀ x : Int, 0 ≤ x → x < 2 ^ 32 → ∀ y, CMul x y := fun x h0 h1 y => .inl ⟨by omega, by omega⟩
    refine q_asg (v := .int (s * 69069 + 104729 * t * t)) (ev_add (ev_mul (ev_var rfl) ev_c (sm s s0 s1 _)) (ev_mul (ev_mul ev_c (ev_var rfl) (.inl ⟨by decide, by decide⟩)) (ev_var rfl) (.inr ⟨by omega, by omega⟩))) fun H1 e1 => ?_
    refine q_asg (v := .int ((s * 69069 + 104729 * t * t + 7919 * a + t) % 2147483647)) (ev_mod (ev_add (ev_add (ev_var rfl) (ev_mul ev_c (ev_var rfl) (.inl ⟨by decide, by decide⟩))) (ev_var rfl)) ev_c (by decide)) fun H2 e2 => ?_
    have b0 := Int.emod_nonneg (s * 69069 + 104729 * t * t + 7919 * a + t) (show (2147483647 : Int) ≠ 0 by decide)
    have b1 := Int.emod_lt_of_pos (s * 69069 + 104729 * t * t + 7919 * a + t) (show (0 : Int) < 2147483647 by decide)
    generalize (s * 69069 + 104729 * t * t + 7919 * a + t) % 2147483647 = m at b0 b1 ⊢
    refine q_asg (v := .int ((m * m + 40503) % 2147483629)) (ev_mod (ev_add (ev_mul (ev_var rfl) (ev_var rfl) (sm m b0 (by omega) _)) ev_c) ev_c (by decide)) fun H3 e3 => ?_
    have c0 := Int.emod_nonneg (m * m + 40503) (show (2147483629 : Int) ≠ 0 by decide)
    have c1 := Int.emod_lt_of_pos (m * m + 40503) (show (0 : Int) < 2147483629 by decide)
    generalize (m * m + 40503) % 2147483629 = n at c0 c1 ⊢
    refine s_ret (v := .int (n * 48271 % 2147483587)) (ev_mod (ev_mul (ev_var rfl) ev_c (sm n c0 (by omega) _)) ev_c (by decide)) fun H4 e4 => q _ H4 ((e1.trans e2).trans (e3.trans e4)) (Int.emod_nonneg _ (by decide)) (by
      have := Int.emod_lt_of_pos (n * 48271) (show (0 : Int) < 2147483587 by decide)
      omega)
end
end K59
namespace K59
open PySem PySem.Spec PyProof.Rows L2 Evl
section
variable {P : Program} {w : World} {K : PySem.W.Frag} {mg : Str → Option Value} {base : Heap} {CA CL CM : Addr}
/-- a purse: at most b turns so far -/
def PuOk (H : Hp) (pa : Addr) (b : Int) : Prop := ∃ z s t a : Int, H pa = some (.lst [.int z, .int s, .int t, .int a]) ∧ 0 ≤ z ∧ 0 ≤ s ∧ s < 2 ^ 32 ∧ 0 ≤ t ∧ t ≤ b ∧ 0 ≤ a ∧ a < 2 ^ 32
theorem PuOk.mono {H H' : Hp} {pa : Addr} {b c : Int} (h : PuOk H pa b) (e : Ex H H') (hbc : b ≤ c) : PuOk H' pa c := let ⟨z, s, t, a, h1, h2, h3, h4, h5, h6, h7, h8⟩ := h; ⟨z, s, t, a, e _ _ h1, h2, h3, h4, h5, Int.le_trans h6 hbc, h7, h8⟩
/-- some whole number of which P is told -/
def EvI (te : TE) (σ : L2.St) (H : Hp) (P : Int → Prop) : Prop := ∀ H1, Ex H H1 → ∀ Q : VK, (∀ v H2, P v → Ex H1 H2 → Q (.int v) H2) → te σ H1 Q
theorem ei_add {σ : L2.St} {H : Hp} {ta tb : TE} {i : Int} {P : Int → Prop} (ha : Ev ta σ H (.int i)) (hb : EvI tb σ H P) : EvI (tOp (rI0 fun i j => .int (i + j)) ta tb) σ H (fun v => ∃ j, P j ∧ v = i + j) := fun H1 e Q q =>
  ha H1 e _ fun H2 e2 => hb H2 (e.trans e2) _ fun j H3 p e3 => ⟨i, j, rfl, rfl, q (i + j) H3 ⟨j, p, rfl⟩ (e2.trans e3)⟩
theorem s_asgI {σ : L2.St} {H : Hp} {te : TE} {D : Ends} {i : Nat} {P : Int → Prop} (h : EvI te σ H P) (k : ∀ v H1, P v → Ex H H1 → D.nx (σ.set i (some (.int v))) H1) : tAsg te (gName i) D σ H := h H (Ex.refl H) _ fun v H1 p e => k v H1 p e
def spDraw : Sp := fun vs H Q _ => ∃ (pa : Addr) (many b : Int) (H0 : Hp), vs = [.ref pa, .int many] ∧ 1 ≤ many ∧ many ≤ 1000 ∧ PuOk H pa b ∧ b ≤ 2 ^ 31 ∧ H0 pa = none ∧ Ex H0 H ∧ ∀ v H', 0 ≤ v → v < many → Ex H0 H' → PuOk H' pa (b + 3) → Q (.int v) H'
theorem d_L_draw {f : Addr} {fd : FuncData} (F : Fun K "_law_draw" "_law_draw" s_L_draw f fd) (T : Txt K mg CA CL CM) (c_L_mixed : CalK P w K mg base 1 "_law_mixed" spMixed) : FnOk P w K mg base CX0 2 f fd ["_law_purse_here", "_law_many"] spDraw := by
  refine F.ok sc_L_draw (fun vs H Q E h => ?_) (fun cdv A outer sx H vs Q E hr h => ?_)
  · obtain ⟨_, _, _, _, rfl, _⟩ := h
    rfl
  · obtain ⟨pa, many, b, H0, rfl, m1, m2, ⟨z, s, t, a, hp, z0, s0, s1, t0, t1, a0, a1⟩, hb, hn, e0, q⟩ := h
    refine ⟨_, (pss_cons (ps_if (pt_cmpR op_gt (pe_ix (ixLK K rfl) (pv 0) pe_int (fun _ _ => rfl)) pe_int (nomark _)) (pss_cons (ps_set (i := 2) sc_L_draw.nd rfl (Or.inl rfl) (pe_op op_mod (pe_ix (ixLK K rfl) (pv 0) pe_int (fun _ _ => rfl)) (pv 1)))
    (pss_cons (ps_asg (pe_op op_fdiv (pe_ix (ixLK K rfl) (pv 0) pe_int (fun _ _ => rfl)) (pv 1)) (pg_sub (pv 0) pe_int set_list))
    (pss_one (ps_ret (pv 2))))) pss_nil)
    (pss_cons (ps_set (i := 3) sc_L_draw.nd rfl (Or.inl rfl) pe_int)
    (pss_cons (ps_for PassesOwn.never rfl (pi_range1 rfl T.g_range (pa_cons (pe_op op_add pe_int (pe_op op_fdiv (pe_bits (pv 1)) pe_int)) pa_nil)) (pg_name (i := 4) sc_L_draw.nd rfl (by first | exact Or.inl rfl | exact Or.inr rfl))
    (pss_cons (ps_asg (pe_op op_add (pe_ix (ixLK K rfl) (pv 0) pe_int (fun _ _ => rfl)) pe_int) (pg_sub (pv 0) pe_int set_list))
    (pss_one (ps_set (i := 3) sc_L_draw.nd rfl (Or.inl rfl) (pe_op op_add (pe_op op_mul (pv 3) pe_int) (ec c_L_mixed hr (by decide) rfl (pa_cons (pe_ix (ixLK K rfl) (pv 0) pe_int (fun _ _ => rfl)) (pa_cons (pe_ix (ixLK K rfl) (pv 0) pe_int (fun _ _ => rfl)) (pa_cons (pe_ix (ixLK K rfl) (pv 0) pe_int (fun _ _ => rfl)) pa_nil)))))))))
    (pss_one (ps_ret (pe_op op_mod (pv 3) (pv 1))))))), ?_⟩
    refine q_when (b := decide (0 < z)) (et_test (ev_gt (ev_ixL (ev_var rfl) ev_c (sq_get hp) (atI_get (i := 0) rfl)) ev_c)) (fun hz H1 e1 => ?_) (fun hz H1 e1 => ?_)
    · refine q_asg (v := .int (z % many)) (ev_mod (ev_ixL (ev_var rfl) ev_c (sq_get (e1 _ _ hp)) (atI_get (i := 0) rfl)) (ev_var rfl) (by omega)) fun H2 e2 => ?_
      refine q_setL (l := pa) (j := 0) (v := .int (z / many)) (e2 _ _ (e1 _ _ hp)) (ev_op (ev_ixL (ev_var rfl) ev_c (sq_get (e2 _ _ (e1 _ _ hp))) (atI_get (i := 0) rfl)) (ev_var rfl) (rv_I (show CDiv z many from ⟨by omega, by omega⟩))) (ev_var rfl) ev_c (by simp) fun H3 e3 => ?_
      refine s_ret (ev_var rfl) fun H4 e4 => q (z % many) H4 (Int.emod_nonneg _ (by omega)) (Int.emod_lt_of_pos _ (by omega)) ((Ex.mut (e0.trans (e1.trans (e2.trans e3))) hn).trans e4) ⟨z / many, s, t, a, e4 _ _ upd_same, Int.ediv_nonneg z0 (by omega), s0, s1, t0, by omega, a0, a1⟩
    · refine q_asg (v := .int 0) ev_c fun H2 e2 => ?_
      have hbits := intBits_le_64 (k := many) (by omega) (by omega)
      refine q_forR1 (n := 1 + (Builtin.Int.intBits many : Int) / 28) (ea1 (ev_add ev_c (ev_op (fun H3 e3 Q qq => ⟨_, rfl, many, rfl, qq H3 (Ex.refl _)⟩) ev_c (rv_I (show CDiv _ 28 from ⟨by decide, by decide⟩))))) ⟨by omega, by omega⟩ (fun n σ' H' => ∃ (fnd t' : Int) (x2 x4 : Option V), σ' = [some (.ref pa), some (.int many), x2, some (.int fnd), x4] ∧ Ex H0 H' ∧ H' pa = some (.lst [.int z, .int s, .int t', .int a]) ∧ 0 ≤ t' ∧ t' ≤ t + n)
        (fun H3 e3 => ⟨0, t, none, none, rfl, e0.trans (e1.trans (e2.trans e3)), e3 _ _ (e2 _ _ (e1 _ _ hp)), t0, by simp⟩) (fun n σ' H' hlt h => ?_) (fun σ' H' h => ?_)
      · obtain ⟨fnd, t', x2, x4, rfl, ex, hp', u0, u1⟩ := h
        refine q_setL (l := pa) (j := 2) (v := .int (t' + 1)) hp' (ev_add (ev_ixL (ev_var rfl) ev_c (sq_get hp') (atI_get (i := 2) rfl)) ev_c) (ev_var rfl) ev_c (by simp) fun H3 e3 => ?_
        have hp3 : (upd H3 pa (.lst [.int z, .int s, .int (t' + 1), .int a])) pa = some (.lst [.int z, .int s, .int (t' + 1), .int a]) := upd_same
        have ex3 : Ex H0 (upd H3 pa (.lst [.int z, .int s, .int (t' + 1), .int a])) := Ex.mut (ex.trans e3) hn
        show tAsg _ _ _ _ (upd H3 pa (.lst [.int z, .int s, .int (t' + 1), .int a]))
        generalize (upd H3 pa (.lst [.int z, .int s, .int (t' + 1), .int a])) = H4 at hp3 ex3 ⊢
        refine s_asgI (P := fun _ => True) (fun H5 e5 Q qq => ?_) fun v H5 _ e5 => ⟨v, t' + 1, _, _, rfl, ex3.trans e5, e5 _ _ hp3, by omega, by omega⟩
        exact ei_add (P := fun _ => True) (ev_mul (ev_var rfl) ev_c (.inr ⟨by decide, by decide⟩)) (fun H6 e6 Q' q' => (ea3 (ev_ixL (ev_var rfl) ev_c (sq_get ((e5.trans e6) _ _ hp3)) (atI_get (i := 1) rfl)) (ev_ixL (ev_var rfl) ev_c (sq_get ((e5.trans e6) _ _ hp3)) (atI_get (i := 2) rfl)) (ev_ixL (ev_var rfl) ev_c (sq_get ((e5.trans e6) _ _ hp3)) (atI_get (i := 3) rfl))) H6 (Ex.refl _) _ fun H7 e7 => ⟨s, t' + 1, a, rfl, s0, s1, by omega, by omega, a0, a1, fun v H8 e8 _ _ => q' v H8 True.intro (e7.trans e8)⟩) H5 (Ex.refl _) Q fun v H6 _ e6 => qq v H6 True.intro e6
      · obtain ⟨fnd, t', x2, x4, rfl, ex, hp', u0, u1⟩ := h
        refine s_ret (v := .int (fnd % many)) (ev_mod (ev_var rfl) (ev_var rfl) (by omega)) fun H3 e3 => q (fnd % many) H3 (Int.emod_nonneg _ (by omega)) (Int.emod_lt_of_pos _ (by omega)) (ex.trans e3) ⟨z, s, t', a, e3 _ _ hp', z0, s0, s1, u0, by omega, a0, a1⟩
end
end K59
namespace K59
open PySem PySem.Spec PyProof.Rows L2 Evl
section
variable {P : Program} {w : World} {K : PySem.W.Frag} {mg : Str → Option Value} {base : Heap} {CA CL CM : Addr}
def spOneOf : Sp := fun vs H Q _ => ∃ (pa l : Addr) (xs : List V) (b : Int) (H0 : Hp), vs = [.ref pa, .ref l] ∧ H0 l = some (.lst xs) ∧ xs ≠ [] ∧ xs.length ≤ 1000 ∧ PuOk H pa b ∧ b ≤ 2 ^ 31 ∧ H0 pa = none ∧ Ex H0 H ∧ ∀ x H', x ∈ xs → Ex H0 H' → PuOk H' pa (b + 3) → Q x H'
theorem d_L_one_of {f : Addr} {fd : FuncData} (F : Fun K "_law_one_of" "_law_one_of" s_L_one_of f fd) (T : Txt K mg CA CL CM) (c_L_draw : CalK P w K mg base 2 "_law_draw" spDraw) : FnOk P w K mg base CX0 3 f fd ["_law_purse_here", "_law_some"] spOneOf := by
  refine F.ok sc_L_one_of (fun vs H Q E h => ?_) (fun cdv A outer sx H vs Q E hr h => ?_)
  · obtain ⟨_, _, _, _, _, rfl, _⟩ := h
    rfl
  · obtain ⟨pa, l, xs, b, H0, rfl, hl, hne, hlen, pu, hb, hn, e0, q⟩ := h
    refine ⟨_, (pss_one (ps_ret (pe_ix (ixLK K rfl) (pv 1) (ec c_L_draw hr (by decide) rfl (pa_cons (pv 0) (pa_cons (pe_callB (lenK K rfl) (by rfl) T.g_len boot_len (pa_cons (pv 1) pa_nil)) pa_nil))) (fun _ _ => rfl)))), ?_⟩
    have hpos := List.length_pos_iff.mpr hne
    have hlv : Ev (tCB (rLenS K) (tCons (tVar 1) tNil)) ([some (.ref pa), some (.ref l)] : L2.St) H (.int xs.length) := ev_len (ev_var rfl) (sq_get (e0 _ _ hl))
    refine ⟨_, rfl, _, rfl, ?_⟩
    exact hlv H (Ex.refl _) _ fun H1 e1 => ⟨pa, xs.length, b, H0, rfl, by omega, by omega, pu.mono e1 (Int.le_refl _), hb, hn, e0.trans e1, fun v H' v0 v1 e' pu' => by
      have hv : v.toNat < xs.length := by omega
      exact ⟨l, xs, v, xs[v.toNat], rfl, rfl, sq_get (e' _ _ hl), by
        have := atI_get (List.getElem?_eq_getElem hv)
        rwa [show ((v.toNat : Nat) : Int) = v by omega] at this, q _ H' (List.getElem_mem hv) e' pu'⟩⟩
def spShuffled : Sp := fun vs H Q _ => ∃ (pa l : Addr) (xs : List V) (b : Int) (H0 : Hp), vs = [.ref pa, .ref l] ∧ H0 l = some (.lst xs) ∧ xs.length ≤ 50 ∧ PuOk H pa b ∧ b ≤ 2 ^ 30 ∧ H0 pa = none ∧ Ex H0 H ∧ ∀ p ys H', H p = none → ys.Perm xs → H' p = some (.lst ys) → Ex H0 H' → PuOk H' pa (b + 150) → Q (.ref p) H'
theorem perm_ins {α : Type} (xs : List α) (y : α) (n : Nat) : (xs.take n ++ [y] ++ xs.drop n).Perm (xs ++ [y]) := by
  have h : xs = xs.take n ++ xs.drop n := (List.take_append_drop n xs).symm
  refine List.Perm.trans ?_ (List.perm_append_singleton y xs).symm
  rw [List.append_assoc]
  refine List.Perm.trans List.perm_middle ?_
  show (y :: (xs.take n ++ xs.drop n)).Perm (y :: xs)
  rw [List.take_append_drop]
theorem d_L_shuffled {f : Addr} {fd : FuncData} (F : Fun K "_law_shuffled" "_law_shuffled" s_L_shuffled f fd) (T : Txt K mg CA CL CM) (c_L_draw : CalK P w K mg base 2 "_law_draw" spDraw) : FnOk P w K mg base CX0 3 f fd ["_law_purse_here", "_law_some"] spShuffled := by
  refine F.ok sc_L_shuffled (fun vs H Q E h => ?_) (fun cdv A outer sx H vs Q E hr h => ?_)
  · obtain ⟨_, _, _, _, _, rfl, _⟩ := h
    rfl
  · obtain ⟨pa, l, xs, b, H0, rfl, hl, hlen, pu, hb, hn, e0, q⟩ := h
    refine ⟨_, (pss_cons (ps_set (i := 2) sc_L_shuffled.nd rfl (Or.inl rfl) (pe_lst pa_nil))
    (pss_cons (ps_for PassesOwn.never rfl (listK K rfl (pv 1)) (pg_name (i := 3) sc_L_shuffled.nd rfl (by first | exact Or.inl rfl | exact Or.inr rfl))
    (pss_one (ps_expr (pe_bmK K rfl PySem.F.plainAttrs_list PySem.F.slot_list_insert PySem.F.type_list_insert mt_insert (pv 2) (pa_cons (ec c_L_draw hr (by decide) rfl (pa_cons (pv 0) (pa_cons (pe_op op_add (pe_callB (lenK K rfl) (by rfl) T.g_len boot_len (pa_cons (pv 2) pa_nil)) pe_int) pa_nil))) (pa_cons (pv 3) pa_nil))))))
    (pss_one (ps_ret (pv 2))))), ?_⟩
    refine q_asgL (xs := []) (el_lst ea_nil (by simp)) fun fl H1 hfl e1 h1 => ?_
    have hpf : pa ≠ fl := by
      obtain ⟨_, _, _, _, hp, _⟩ := pu
      exact ne_of_none hp hfl
    have hfl0 : H0 fl = none := fresh_back e0 hfl
    refine q_forLn (a := l) (xs := xs) (ev_var rfl) (sq_get (e1 _ _ (e0 _ _ hl))) (fun n σ' H' => ∃ (ys : List V) (x3 : Option V), σ' = [some (.ref pa), some (.ref l), some (.ref fl), x3] ∧ Ex H0 H' ∧ H' fl = some (.lst ys) ∧ ys.Perm (xs.take n) ∧ PuOk H' pa (b + 3 * n))
      (fun H2 e2 => ⟨[], none, rfl, e0.trans (e1.trans e2), e2 _ _ h1, by simp, pu.mono (e1.trans e2) (by omega)⟩) (fun n σ' H' _ h => by obtain ⟨_, _, _, ex, _⟩ := h; exact sq_get (ex _ _ hl)) (fun n x σ' H' hx h => ?_) (fun σ' H' h => ?_)
    · obtain ⟨ys, x3, rfl, ex, hf, hp, pu'⟩ := h
      have hn' : n < xs.length := (List.getElem?_eq_some_iff.mp hx).1
      have hyl : ys.length = n := by rw [hp.length_eq, List.length_take]; omega
      refine ⟨_, rfl, .inl ⟨rfl, _, sq_get hf⟩, _, rfl, ?_⟩
      have hlv : Ev (tOp (rI0 fun i j => .int (i + j)) (tCB (rLenS K) (tCons (tVar 2) tNil)) (tC (.int 1))) ([some (.ref pa), some (.ref l), some (.ref fl), some x] : L2.St) H' (.int ((ys.length : Int) + 1)) := ev_add (ev_len (ev_var rfl) (sq_get hf)) ev_c
      refine hlv H' (Ex.refl _) _ fun H3 e3 => ⟨pa, (ys.length : Int) + 1, b + 3 * n, del H3 pa, rfl, by omega, by omega, pu'.mono e3 (Int.le_refl _), by omega, del_self _ _, del_ex _ _, fun v H4 v0 v1 e4 pu4 => ?_⟩
      have hf4 : H4 fl = some (.lst ys) := e4 _ _ (by rw [del_ne hpf.symm]; exact e3 _ _ hf)
      have ex4 : Ex H0 H4 := (ex_del (ex.trans e3) hn).trans e4
      refine ⟨_, rfl, fl, ys, v, x, rfl, rfl, hf4, sz_lt (by omega), v0, by omega, ?_⟩
      refine ⟨_, _, rfl, Ex.mut ex4 hfl0, upd_same, ?_, ?_⟩
      · rw [List.take_add_one, hx]
        exact (perm_ins ys x v.toNat).trans (hp.append_right _)
      · obtain ⟨z, s, t, a, g1, g2⟩ := pu4
        exact ⟨z, s, t, a, by rw [upd_ne hpf]; exact g1, g2.1, g2.2.1, g2.2.2.1, g2.2.2.2.1, by have := g2.2.2.2.2.1; push_cast; omega, g2.2.2.2.2.2⟩
    · obtain ⟨ys, x3, rfl, ex, hf, hp, pu'⟩ := h
      rw [List.take_length] at hp
      exact s_ret (ev_var rfl) fun H2 e2 => q fl ys H2 hfl hp (e2 _ _ hf) (ex.trans e2) (pu'.mono e2 (by omega))
end
end K59
namespace K59
open PySem PySem.Spec PyProof.Rows L2 Evl
section
variable {P : Program} {w : World} {K : PySem.W.Frag} {mg : Str → Option Value} {base : Heap} {CA CL CM : Addr}
theorem run_draw {σ : L2.St} {H H0 : Hp} {tp tm : TE} {E : XK} {pa : Addr} {many b : Int} {Q : VK} (hp : Ev tp σ H (.ref pa)) (hm : Ev tm σ H (.int many)) (m1 : 1 ≤ many) (m2 : many ≤ 1000) (pu : PuOk H pa b) (hb : b ≤ 2 ^ 31) (hn : H0 pa = none) (e0 : Ex H0 H)
    (q : ∀ v H', 0 ≤ v → v < many → Ex H0 H' → PuOk H' pa (b + 3) → Q (.int v) H') : tCall spDraw [] E (tCons tp (tCons tm tNil)) σ H Q :=
  hp H (Ex.refl H) _ fun H1 e1 => hm H1 e1 _ fun H2 e2 => ⟨pa, many, b, H0, rfl, m1, m2, pu.mono (e1.trans e2) (Int.le_refl _), hb, hn, e0.trans (e1.trans e2), q⟩
theorem q_forRP {σ : L2.St} {H : Hp} {ta : TA} {tu tz : TS} {D : Ends} {j : Nat} {PP : Int → Hp → Prop} (h : ∀ Q : List V → Hp → Prop, (∀ n H1, PP n H1 → Q [.int n] H1) → ta σ H Q) (k : ∀ n H1, PP n H1 → 0 ≤ n ∧ n ≤ 100000 ∧ ∃ Pv : Nat → L2.St → Hp → Prop, Pv 0 σ H1 ∧ (∀ (i : Nat) σ' H', (i : Int) < n → Pv i σ' H' → tu { D with nx := Pv (i + 1), ct := Pv (i + 1), bk := tz D } (σ'.set j (some (.int (i : Int)))) H') ∧ ∀ σ' H', Pv n.toNat σ' H' → tz D σ' H') :
    tSeq (tFor (iRng1 ta) (gName j) tu) tz D σ H := h _ fun n H1 pp => by
  obtain ⟨h0, h1, Pv, a, b, c⟩ := k n H1 pp
  exact ⟨n, rfl, by omega, by omega, for_range (lo := 0) (n := n.toNat) Pv a (fun i σ' H' hi p => by
    have e0 : (0 : Int) + (i : Int) = (i : Int) := Int.zero_add _
    show tu { D with nx := Pv (i + 1), ct := Pv (i + 1), bk := tz D } (σ'.set j (some (.int ((0 : Int) + (i : Int))))) H'
    rw [e0]
    exact b i σ' H' (by omega) p) c⟩
theorem str_app (a b : Str) : (a ++ b).cps = a.cps ++ b.cps := rfl
def spWord : Sp := fun vs H Q _ => ∃ (pa : Addr) (b : Int) (H0 : Hp), vs = [.ref pa] ∧ PuOk H pa b ∧ b ≤ 2 ^ 30 ∧ H0 pa = none ∧ Ex H0 H ∧ ∀ z H', NameOk z → Ex H0 H' → PuOk H' pa (b + 50) → Q (.str z) H'
theorem d_L_word {f : Addr} {fd : FuncData} (F : Fun K "_law_word" "_law_word" s_L_word f fd) (T : Txt K mg CA CL CM) (c_L_draw : CalK P w K mg base 2 "_law_draw" spDraw) : FnOk P w K mg base CX0 3 f fd ["_law_purse_here"] spWord := by
  refine F.ok sc_L_word (fun vs H Q E h => ?_) (fun cdv A outer sx H vs Q E hr h => ?_)
  · obtain ⟨_, _, _, rfl, _⟩ := h
    rfl
  · obtain ⟨pa, b, H0, rfl, pu, hb, hn, e0, q⟩ := h
    refine ⟨_, (pss_cons (ps_set (i := 1) sc_L_word.nd rfl (Or.inl rfl) pe_str)
    (pss_cons (ps_for PassesOwn.never rfl (pi_range1 rfl T.g_range (pa_cons (pe_op op_add pe_int (ec c_L_draw hr (by decide) rfl (pa_cons (pv 0) (pa_cons pe_int pa_nil)))) pa_nil)) (pg_name (i := 2) sc_L_word.nd rfl (by first | exact Or.inl rfl | exact Or.inr rfl))
    (pss_one (ps_set (i := 1) sc_L_word.nd rfl (Or.inl rfl) (pe_op op_add_str (pv 1) (pe_ix ix_str pe_str (ec c_L_draw hr (by decide) rfl (pa_cons (pv 0) (pa_cons pe_int pa_nil))) (fun _ _ => rfl))))))
    (pss_one (ps_ret (pv 1))))), ?_⟩
    refine q_asg (v := .str "") ev_c fun H1 e1 => ?_
    have e01 := e0.trans e1
    refine q_forRP (PP := fun n H2 => 1 ≤ n ∧ n ≤ 10 ∧ Ex H0 H2 ∧ PuOk H2 pa (b + 3)) (fun Q qq => run_draw (ev_var rfl) ev_c (by decide) (by decide) (pu.mono e1 (Int.le_refl _)) (by omega) hn e01 fun v H2 v0 v1 e2 p2 => ⟨1, v, rfl, rfl, qq (1 + v) H2 ⟨by omega, by omega, e2, p2⟩⟩) fun n H2 ⟨n1, n2, e2, p2⟩ => ⟨by omega, by omega, fun i σ' H' => ∃ (z : Str) (x2 : Option V), σ' = [some (.ref pa), some (.str z), x2] ∧ z.length = i ∧ (∀ c ∈ z.cps.toList, c ∈ ("abcdefghijklmnopqrstuvwxyz" : Str).cps.toList) ∧ Ex H0 H' ∧ PuOk H' pa (b + 3 + 3 * i), ⟨"", none, rfl, rfl, fun c hc => by rw [show ("" : Str).cps.toList = [] by decide +kernel] at hc; simp at hc, e2, by simpa using p2⟩, fun i σ' H' hi h => ?_, fun σ' H' h => ?_⟩
    · obtain ⟨z, x2, rfl, hl, hc, ex, p⟩ := h
      have hd : ∀ Q : VK, (∀ v H3, 0 ≤ v → v < 26 → Ex H0 H3 → PuOk H3 pa (b + 3 + 3 * i + 3) → Q (.int v) H3) → tCall spDraw [] E0 (tCons (tVar 0) (tCons (tC (.int 26)) tNil)) ([some (.ref pa), some (.str z), some (.int (i : Int))] : L2.St) H' Q := fun Q qq => run_draw (ev_var rfl) ev_c (by decide) (by decide) p (by omega) hn ex qq
      have hlen26 : ("abcdefghijklmnopqrstuvwxyz" : Str).cps.toList.length = 26 := by decide +kernel
      refine ⟨_, rfl, hd _ fun v H3 v0 v1 e3 p3 => ?_⟩
      have hv : v.toNat < ("abcdefghijklmnopqrstuvwxyz" : Str).cps.toList.length := by omega
      have hat := atI_nat (List.getElem?_eq_getElem hv)
      rw [show ((v.toNat : Nat) : Int) = v by omega] at hat
      refine ⟨_, v, _, rfl, rfl, sz_of (by decide +kernel), hat, z, _, rfl, rfl, sz_of (by rw [hl]; show i + 1 ≤ 100000; omega), z ++ ⟨#[_]⟩, _, rfl, ?_, fun c hc' => ?_, e3, ?_⟩
      · show (z.cps ++ #[_]).size = i + 1
        rw [Array.size_append]
        show z.length + 1 = i + 1
        omega
      · rw [str_app, Array.toList_append, List.mem_append] at hc'
        rcases hc' with h | h
        · exact hc c h
        · have : c = ("abcdefghijklmnopqrstuvwxyz" : Str).cps.toList[v.toNat] := by simpa using h
          rw [this]
          exact List.getElem_mem hv
      · have : b + 3 + 3 * ((i + 1 : Nat) : Int) = b + 3 + 3 * i + 3 := by omega
        rw [this]; exact p3
    · obtain ⟨z, x2, rfl, hl, hc, ex, p⟩ := h
      exact s_ret (ev_var rfl) fun H3 e3 => q z H3 ⟨by omega, by omega, hc⟩ (ex.trans e3) (p.mono e3 (by omega))
end
end K59
namespace K59
open PySem PySem.Spec PyProof.Rows L2 Evl
section
variable {P : Program} {w : World} {K : PySem.W.Frag} {mg : Str → Option Value} {base : Heap} {CA CL CM : Addr}
def baseN : List Str := ["ann", "a", "ab", "b", "none", "nobody", "end", "zzzzzzzzzz"]
def baseK : List Str := ["a", "ab", "b", "o", "none", "ann", "aaaaaaaaaa"]
instance (z : Str) : Decidable (NameOk z) := inferInstanceAs (Decidable (_ ∧ _ ∧ _))
theorem baseN_ok : baseN.Nodup ∧ ∀ z ∈ baseN, NameOk z := by decide +kernel
theorem baseK_ok : baseK.Nodup ∧ ∀ z ∈ baseK, NameOk z := by decide +kernel
/-- some different names drawn -/
def spPick : Sp := fun vs H Q _ => ∃ (pa : Addr) (many b : Int) (H0 : Hp), vs = [.ref pa, .int many] ∧ 1 ≤ many ∧ many ≤ 7 ∧ PuOk H pa b ∧ b ≤ 2 ^ 29 ∧ H0 pa = none ∧ Ex H0 H ∧ ∀ p (zs : List Str) H', H p = none → H' p = some (.lst (zs.map V.str)) → zs.Nodup → (∀ z ∈ zs, NameOk z) → (zs.length : Int) = many → Ex H0 H' → PuOk H' pa (b + 200) → Q (.ref p) H'
/-- base, and a word if it is new -/
def plus (l : List Str) (z : Str) : List Str := l ++ [z].filter fun x => !decide (x ∈ l)
theorem plus_ok {l : List Str} {z : Str} (h : l.Nodup ∧ ∀ z ∈ l, NameOk z) (hz : NameOk z) : (plus l z).Nodup ∧ (∀ y ∈ plus l z, NameOk y) ∧ l.length ≤ (plus l z).length ∧ (plus l z).length ≤ l.length + 1 := by
  unfold plus
  by_cases m : z ∈ l
  · simp [m, h.1]
    exact h.2
  · simp [m]
    exact ⟨List.nodup_append.mpr ⟨h.1, by simp, fun a ha b hb e => m (by rw [List.mem_singleton] at hb; rw [← hb, ← e]; exact ha)⟩, fun y hy => by
      rcases hy with hy | hy
      · exact h.2 y hy
      · rw [hy]; exact hz⟩
theorem pick_end {σ : L2.St} {H H0 : Hp} {pa so : Addr} {many b : Int} {l : List Str} {z : Str} {E : XK} {D : Ends} (hs : σ = [some (.ref pa), some (.int many), some (.ref so), some (.str z), none]) (hso : H so = some (.lst (l.map V.str))) (ok : l.Nodup ∧ ∀ z ∈ l, NameOk z) (hl : 7 ≤ l.length ∧ l.length ≤ 20) (hz : NameOk z) (m1 : 1 ≤ many) (m7 : many ≤ 7) (pu : PuOk H pa b) (hb : b ≤ 2 ^ 30) (hn : H0 pa = none) (e0 : Ex H0 H)
    (q : ∀ p (zs : List Str) H', H p = none → H' p = some (.lst (zs.map V.str)) → zs.Nodup → (∀ z ∈ zs, NameOk z) → (zs.length : Int) = many → Ex H0 H' → PuOk H' pa (b + 150) → D.rt (.ref p) H') :
    tRet (tSl (rSlL K) (tCall spShuffled [] E (tCons (tVar 0) (tCons (tOp rCat (tVar 2) (tLc (iList K (tLst (tCons (tVar 3) tNil))) (gName 4) (tTest (tOp (rIn K true) (tVar 4) (tVar 2))) (tVar 4) [4])) tNil))) tNoPart (tPart (tVar 1))) D σ H := by
  subst hs
  have hel : EvL (tOp rCat (tVar 2) (tLc (iList K (tLst (tCons (tVar 3) tNil))) (gName 4) (tTest (tOp (rIn K true) (tVar 4) (tVar 2))) (tVar 4) [4])) ([some (.ref pa), some (.int many), some (.ref so), some (.str z), none] : L2.St) H ((plus l z).map V.str) := by
    unfold plus
    rw [List.map_append]
    have hfl := List.length_filter_le (fun x => !decide (x ∈ l)) [z]
    simp only [List.length_singleton] at hfl
    refine el_catO (ev_var rfl) hso ?_ (by rw [List.length_map, List.length_map]; omega)
    have e := given_map [z] (fun x => !decide (x ∈ l)) V.str (f := fun _ => !decide (z ∈ l)) (v := fun _ => .str z) fun j k hk => by
      have := List.mem_of_getElem? hk
      rw [List.mem_singleton] at this
      subst this
      exact ⟨rfl, rfl⟩
    rw [← e, show [z].length = [V.str z].length from rfl]
    refine el_lcNLg (xs := [V.str z]) _ _ (el_lst (ea1 (ev_var rfl)) (by simp)) (by simp) fun j x H3 e3 hx => ?_
    have := List.mem_of_getElem? hx
    rw [List.mem_singleton] at this
    subst this
    exact turnN rfl (et_test (ev_is (ev_op (ev_var rfl) (ev_var rfl) (rv_niL (sq_get (e3 _ _ hso)) rfl (by rw [List.all_map]; exact List.all_eq_true.mpr fun _ _ => rfl))) (by rw [inV_strs]))) fun _ => ev_var rfl
  obtain ⟨p1, p2, p3, p4⟩ := plus_ok ok hz
  refine ⟨_, rfl, ?_⟩
  refine hel H (Ex.refl _) _ fun sl H1 hsl e1 h1 => ?_
  have hsp : sl ≠ pa := by
    obtain ⟨_, _, _, _, hp, _⟩ := pu
    exact (ne_of_none hp hsl).symm
  refine ⟨pa, sl, (plus l z).map V.str, b, del H1 pa, rfl, by rw [del_ne hsp]; exact h1, by rw [List.length_map]; omega, pu.mono e1 (Int.le_refl _), hb, del_self _ _, del_ex _ _, fun p ys H2 hp hperm hys e2 pu2 => ?_⟩
  have ex2 : Ex H0 H2 := (ex_del (e0.trans e1) hn).trans e2
  have hyl : ys.length = (plus l z).length := by rw [hperm.length_eq, List.length_map]
  obtain ⟨zs, rfl, hzp⟩ : ∃ zs : List Str, ys = zs.map V.str ∧ zs.Perm (plus l z) := by
    have hall : ∀ y ∈ ys, ∃ s, y = V.str s := fun y hy => by
      obtain ⟨s, _, e⟩ := List.mem_map.mp (hperm.mem_iff.mp hy)
      exact ⟨s, e.symm⟩
    have h1 : ys = (ys.map fun y => match y with | .str s => s | _ => default).map V.str := by
      rw [List.map_map]
      refine (List.map_id _).symm.trans (List.map_congr_left fun y hy => ?_)
      obtain ⟨s, rfl⟩ := hall y hy
      rfl
    refine ⟨_, h1, ?_⟩
    have h2 := hperm.map fun y => match y with | .str s => s | _ => default
    rw [List.map_map] at h2
    have h3 : (plus l z).map ((fun y => match y with | .str s => s | _ => default) ∘ V.str) = plus l z := (List.map_congr_left fun _ _ => rfl).trans (List.map_id _)
    rw [h3] at h2
    exact h2
  refine ⟨_, rfl, many, rfl, p, zs.map V.str, rfl, sq_get hys, fun r hr => ?_⟩
  have hm : (many.toNat : Int) = many := by omega
  have hzl : many.toNat ≤ zs.length := by rw [hzp.length_eq]; omega
  have hcut : cutV (zs.map V.str) none (some many) = (zs.take many.toNat).map V.str := by
    have := cut_take (xs := zs.map V.str) (p := many.toNat) (by rw [List.length_map]; omega)
    rw [hm] at this
    rw [this, List.map_take]
  rw [hcut]
  refine q r (zs.take many.toNat) _ ?_ upd_same ((hzp.nodup_iff.mpr p1).sublist (List.take_sublist _ _)) (fun y hy => p2 y (hzp.mem_iff.mp ((List.take_sublist _ _).mem hy))) (by rw [List.length_take]; omega) (ex2.trans (Ex.new hr)) (pu2.mono (Ex.new hr) (Int.le_refl _))
  by_cases e : r = pa
  · obtain ⟨_, _, _, _, hpp, _⟩ := pu2
    rw [e, hpp] at hr; cases hr
  · have := fresh_back e2 hr
    rw [del_ne e] at this
    exact fresh_back e1 this
/-- some, fresh = [..], word(purse) -/
theorem q_pick {σ : L2.St} {H H0 : Hp} {pa : Addr} {b : Int} {l : List Str} {tl tp : TE} {E : XK} {D : Ends} {tz : TS} {i j : Nat} (h : EvL tl σ H (l.map V.str)) (hp : Ev tp σ H (.ref pa)) (pu : PuOk H pa b) (hb : b ≤ 2 ^ 30) (hn : H0 pa = none) (e0 : Ex H0 H)
    (k : ∀ so z H1, H1 so = some (.lst (l.map V.str)) → NameOk z → (Ex (del H pa) H1) → PuOk H1 pa (b + 50) → tz D ((σ.set i (some (.ref so))).set j (some (.str z))) H1) : tSeq (tAsg (tTup (tCons tl (tCons (tCall spWord [] E (tCons tp tNil)) tNil))) (gTup K 2 (gCons (gName i) (gCons (gName j) gNil)))) tz D σ H :=
  h H (Ex.refl H) _ fun so H1 hso e1 h1 => hp H1 e1 _ fun H2 e2 => ⟨pa, b, del H2 pa, rfl, pu.mono (e1.trans e2) (Int.le_refl _), hb, del_self _ _, del_ex _ _, fun z H3 hz e3 pu3 => ⟨by show 2 ≤ sizeLine; decide, fun t ht => ⟨t, _, rfl, st_get upd_same, rfl, _, _, rfl, _, _, rfl, rfl, by
    have e4 := Ex.new (o := .tup [.ref so, .str z]) ht
    have hne : so ≠ pa := by
      obtain ⟨_, _, _, _, hpp, _⟩ := pu
      exact (ne_of_none hpp hso).symm
    have ex3 : Ex (del H pa) H3 := (ex_del ((del_ex _ _).trans (e1.trans e2)) (del_self _ _)).trans e3
    exact k so z _ (e4 _ _ (e3 _ _ (by rw [del_ne hne]; exact e2 _ _ h1))) hz (ex3.trans e4) (pu3.mono e4 (Int.le_refl _))⟩⟩⟩
theorem d_L_names {f : Addr} {fd : FuncData} (F : Fun K "_law_names" "_law_names" s_L_names f fd) (T : Txt K mg CA CL CM) (c_L_word : CalK P w K mg base 3 "_law_word" spWord) (c_L_shuffled : CalK P w K mg base 3 "_law_shuffled" spShuffled) : FnOk P w K mg base CX0 4 f fd ["_law_purse_here", "_law_many"] spPick := by
  refine F.ok sc_L_names (fun vs H Q E h => ?_) (fun cdv A outer sx H vs Q E hr h => ?_)
  · obtain ⟨_, _, _, _, rfl, _⟩ := h
    rfl
  · obtain ⟨pa, many, b, H0, rfl, m1, m7, pu, hb, hn, e0, q⟩ := h
    refine ⟨_, (pss_cons (ps_asg (pe_tup (pa_cons (pe_lst (pa_cons pe_str (pa_cons pe_str (pa_cons pe_str (pa_cons pe_str (pa_cons pe_str (pa_cons pe_str (pa_cons pe_str (pa_cons pe_str pa_nil))))))))) (pa_cons (ec c_L_word hr (by decide) rfl (pa_cons (pv 0) pa_nil)) pa_nil))) (tupTK K rfl rfl (pgs_cons (pg_name (i := 2) sc_L_names.nd rfl (by first | exact Or.inl rfl | exact Or.inr rfl)) (pgs_cons (pg_name (i := 3) sc_L_names.nd rfl (by first | exact Or.inl rfl | exact Or.inr rfl)) pgs_nil))))
    (pss_one (ps_ret (pe_slice (slLK K rfl) (ec c_L_shuffled hr (by decide) rfl (pa_cons (pv 0) (pa_cons (pe_op op_cat (pv 2) (pe_lc (own := [("_law_word_here", 4)]) (g := (gName 4)) rfl sc_L_names.nd (listK K rfl (pe_lst (pa_cons (pv 3) pa_nil))) (blkOk_by (own := [("_law_word_here", 4)]) (N := ["_law_purse_here", "_law_many", "_law_some", "_law_fresh", "_law_word_here"]) (sc := defScope s_L_names) (by decide +kernel)) (fun _ _ _ _ _ => (pg_name (i := 4) sc_L_names.nd rfl (by first | exact Or.inl rfl | exact Or.inr rfl))) (fun _ _ _ _ _ => (pts_one (pt_cmpR (notInK K rfl) (pv 4) (pv 2) (by rfl)))) (fun _ _ _ _ _ => (pv 4)))) pa_nil))) po_none (po_some (pv 1)))))), ?_⟩
    refine q_pick (l := baseN) (fun H1 e Q q => ⟨by show 8 ≤ sizeLine; decide, fun p hp => q p _ hp (Ex.new hp) upd_same⟩) (ev_var rfl) pu (by omega) hn e0 fun so z H1 hso hz ex1 pu1 => ?_
    have e01 : Ex H0 H1 := (ex_del e0 hn).trans ex1
    exact pick_end (l := baseN) rfl hso baseN_ok ⟨by decide, by decide⟩ hz m1 m7 pu1 (by omega) hn e01 fun p zs H2 hp hzs nd nm hl ex2 pu2 => q p zs H2 (by
      by_cases e : p = pa
      · obtain ⟨_, _, _, _, hpp, _⟩ := pu1
        rw [e, hpp] at hp; cases hp
      · have := fresh_back ex1 hp
        rwa [del_ne e] at this) hzs nd nm hl ex2 (pu2.mono (Ex.refl _) (by omega))
theorem d_L_kinds {f : Addr} {fd : FuncData} (F : Fun K "_law_kinds" "_law_kinds" s_L_kinds f fd) (T : Txt K mg CA CL CM) (c_L_word : CalK P w K mg base 3 "_law_word" spWord) (c_L_shuffled : CalK P w K mg base 3 "_law_shuffled" spShuffled) : FnOk P w K mg base CX0 4 f fd ["_law_purse_here", "_law_many"] spPick := by
  refine F.ok sc_L_kinds (fun vs H Q E h => ?_) (fun cdv A outer sx H vs Q E hr h => ?_)
  · obtain ⟨_, _, _, _, rfl, _⟩ := h
    rfl
  · obtain ⟨pa, many, b, H0, rfl, m1, m7, pu, hb, hn, e0, q⟩ := h
    refine ⟨_, (pss_cons (ps_asg (pe_tup (pa_cons (pe_lst (pa_cons pe_str (pa_cons pe_str (pa_cons pe_str (pa_cons pe_str (pa_cons pe_str (pa_cons pe_str (pa_cons pe_str pa_nil)))))))) (pa_cons (ec c_L_word hr (by decide) rfl (pa_cons (pv 0) pa_nil)) pa_nil))) (tupTK K rfl rfl (pgs_cons (pg_name (i := 2) sc_L_kinds.nd rfl (by first | exact Or.inl rfl | exact Or.inr rfl)) (pgs_cons (pg_name (i := 3) sc_L_kinds.nd rfl (by first | exact Or.inl rfl | exact Or.inr rfl)) pgs_nil))))
    (pss_one (ps_ret (pe_slice (slLK K rfl) (ec c_L_shuffled hr (by decide) rfl (pa_cons (pv 0) (pa_cons (pe_op op_cat (pv 2) (pe_lc (own := [("_law_word_here", 4)]) (g := (gName 4)) rfl sc_L_kinds.nd (listK K rfl (pe_lst (pa_cons (pv 3) pa_nil))) (blkOk_by (own := [("_law_word_here", 4)]) (N := ["_law_purse_here", "_law_many", "_law_some", "_law_fresh", "_law_word_here"]) (sc := defScope s_L_kinds) (by decide +kernel)) (fun _ _ _ _ _ => (pg_name (i := 4) sc_L_kinds.nd rfl (by first | exact Or.inl rfl | exact Or.inr rfl))) (fun _ _ _ _ _ => (pts_one (pt_cmpR (notInK K rfl) (pv 4) (pv 2) (by rfl)))) (fun _ _ _ _ _ => (pv 4)))) pa_nil))) po_none (po_some (pv 1)))))), ?_⟩
    refine q_pick (l := baseK) (fun H1 e Q q => ⟨by show 7 ≤ sizeLine; decide, fun p hp => q p _ hp (Ex.new hp) upd_same⟩) (ev_var rfl) pu (by omega) hn e0 fun so z H1 hso hz ex1 pu1 => ?_
    have e01 : Ex H0 H1 := (ex_del e0 hn).trans ex1
    exact pick_end (l := baseK) rfl hso baseK_ok ⟨by decide, by decide⟩ hz m1 m7 pu1 (by omega) hn e01 fun p zs H2 hp hzs nd nm hl ex2 pu2 => q p zs H2 (by
      by_cases e : p = pa
      · obtain ⟨_, _, _, _, hpp, _⟩ := pu1
        rw [e, hpp] at hp; cases hp
      · have := fresh_back ex1 hp
        rwa [del_ne e] at this) hzs nd nm hl ex2 (pu2.mono (Ex.refl _) (by omega))
end
end K59
namespace K59
open PySem PySem.Spec PyProof.Rows L2 Evl
section
variable {P : Program} {w : World} {K : PySem.W.Frag} {mg : Str → Option Value} {base : Heap} {CA CL CM : Addr}
theorem PuOk.upd {H : Hp} {pa q : Addr} {b : Int} {o : HO} (h : PuOk H pa b) (n : pa ≠ q) : PuOk (upd H q o) pa b := let ⟨z, s, t, a, h1, r⟩ := h; ⟨z, s, t, a, by rw [upd_ne n]; exact h1, r⟩
theorem PuOk.ne {H : Hp} {pa q : Addr} {b : Int} (h : PuOk H pa b) (hq : H q = none) : pa ≠ q := let ⟨_, _, _, _, h1, _⟩ := h; ne_of_none h1 hq
theorem PuOk.le {H : Hp} {pa : Addr} {b c : Int} (h : PuOk H pa b) (hbc : b ≤ c) : PuOk H pa c := h.mono (Ex.refl _) hbc
theorem perm_strs {ys : List V} {l : List Str} (h : ys.Perm (l.map V.str)) : ∃ zs : List Str, ys = zs.map V.str ∧ zs.Perm l := by
  have hall : ∀ y ∈ ys, ∃ s, y = V.str s := fun y hy => by
    obtain ⟨s, _, e⟩ := List.mem_map.mp (h.mem_iff.mp hy)
    exact ⟨s, e.symm⟩
  have h1 : ys = (ys.map fun y => match y with | .str s => s | _ => default).map V.str := by
    rw [List.map_map]
    refine (List.map_id _).symm.trans (List.map_congr_left fun y hy => ?_)
    obtain ⟨s, rfl⟩ := hall y hy
    rfl
  refine ⟨_, h1, ?_⟩
  have h2 := h.map fun y => match y with | .str s => s | _ => default
  rw [List.map_map] at h2
  have h3 : l.map ((fun y => match y with | .str s => s | _ => default) ∘ V.str) = l := (List.map_congr_left fun _ _ => rfl).trans (List.map_id _)
  rw [h3] at h2
  exact h2
/-- a loop over a list that a call makes -/
theorem q_forPP {σ : L2.St} {H : Hp} {tl : TE} {g : TG} {tu tz : TS} {D : Ends} {PP : Addr → List V → Hp → Prop} (h : ∀ Q : VK, (∀ p ws H1, H1 p = some (.lst ws) → PP p ws H1 → Q (.ref p) H1) → tl σ H Q) (k : ∀ p ws H1, H1 p = some (.lst ws) → PP p ws H1 → ∃ Pv : Nat → L2.St → Hp → Prop, Pv 0 σ H1 ∧ (∀ i σ' H', i ≤ ws.length → Pv i σ' H' → SqL K H' p ws) ∧
    (∀ i x σ' H', ws[i]? = some x → Pv i σ' H' → g x σ' H' fun σ2 H2 => tu { D with nx := Pv (i + 1), ct := Pv (i + 1), bk := tz D } σ2 H2) ∧ ∀ σ' H', Pv ws.length σ' H' → tz D σ' H') : tSeq (tFor (iList K tl) g tu) tz D σ H :=
  h _ fun p ws H1 h1 pp => by
    obtain ⟨Pv, a, b, c, d⟩ := k p ws H1 h1 pp
    exact ⟨p, rfl, ⟨ws, sq_get h1⟩, for_list (D := { D with nx := tz D }) Pv a b c d⟩
theorem Rel.snoc {R : V → K59.Row → Prop} {vs : List V} {rs : List K59.Row} {v : V} {r : K59.Row} (h : Rel R vs rs) (hv : R v r) : Rel R (vs ++ [v]) (rs ++ [r]) := by
  refine ⟨by rw [List.length_append, List.length_append, h.len]; rfl, fun i x y a b => ?_⟩
  by_cases hi : i < vs.length
  · rw [List.getElem?_append_left hi] at a
    rw [List.getElem?_append_left (by rw [← h.len]; exact hi)] at b
    exact h.get i x y a b
  · rw [List.getElem?_append_right (by omega)] at a
    rw [List.getElem?_append_right (by rw [← h.len]; omega), ← h.len] at b
    have e0 : i - vs.length = 0 := by
      have := (List.getElem?_eq_some_iff.mp a).1
      simp only [List.length_singleton] at this
      omega
    rw [e0] at a b
    cases a; cases b
    exact hv
theorem cut_strs {l : List Str} {m : Int} (h0 : 0 ≤ m) (h1 : m ≤ l.length) : cutV (l.map V.str) none (some m) = (l.take m.toNat).map V.str := by
  have := cut_take (xs := l.map V.str) (p := m.toNat) (by rw [List.length_map]; omega)
  rw [show ((m.toNat : Nat) : Int) = m by omega] at this
  rw [this, List.map_take]
def spRows : Sp := fun vs H Q _ => ∃ (pa kl : Addr) (ks : List Str) (b : Int) (H0 : Hp), vs = [.ref pa, .ref kl, .int 3] ∧ H0 kl = some (.lst (ks.map V.str)) ∧ ks.Nodup ∧ (∀ z ∈ ks, NameOk z) ∧ 1 ≤ ks.length ∧ ks.length ≤ 6 ∧ PuOk H pa b ∧ b ≤ 2 ^ 28 ∧ H0 pa = none ∧ Ex H0 H ∧
  ∀ p rs H', H p = none → LRowsL H' p rs → RowsOk rs → (∀ r ∈ rs, ∀ k ∈ r.fits, k ∈ ks) → Ex H0 H' → PuOk H' pa (b + 1500) → Q (.ref p) H'
theorem d_L_rows {f : Addr} {fd : FuncData} (F : Fun K "_law_rows" "_law_rows" s_L_rows f fd) (T : Txt K mg CA CL CM) (c_L_draw : CalK P w K mg base 2 "_law_draw" spDraw) (c_L_shuffled : CalK P w K mg base 3 "_law_shuffled" spShuffled) (c_L_names : CalK P w K mg base 4 "_law_names" spPick) : FnOk P w K mg base CX0 5 f fd ["_law_purse_here", "_law_kinds_here", "_law_most"] spRows := by
  refine F.ok sc_L_rows (fun vs H Q E h => ?_) (fun cdv A outer sx H vs Q E hr h => ?_)
  · obtain ⟨_, _, _, _, _, rfl, _⟩ := h
    rfl
  · obtain ⟨pa, kl, ks, b, H0, rfl, hkl, kn, kok, kp, k6, pu, hb, hn, e0, q⟩ := h
    refine ⟨_, (pss_cons (ps_set (i := 3) sc_L_rows.nd rfl (Or.inl rfl) (pe_lst pa_nil))
    (pss_cons (ps_for PassesOwn.never rfl (listK K rfl (ec c_L_names hr (by decide) rfl (pa_cons (pv 0) (pa_cons (pe_op op_add pe_int (ec c_L_draw hr (by decide) rfl (pa_cons (pv 0) (pa_cons (pv 2) pa_nil)))) pa_nil)))) (pg_name (i := 4) sc_L_rows.nd rfl (by first | exact Or.inl rfl | exact Or.inr rfl))
    (pss_cons (ps_set (i := 5) sc_L_rows.nd rfl (Or.inl rfl) (pe_slice (slLK K rfl) (ec c_L_shuffled hr (by decide) rfl (pa_cons (pv 0) (pa_cons (pv 1) pa_nil))) po_none (po_some (pe_op op_add pe_int (ec c_L_draw hr (by decide) rfl (pa_cons (pv 0) (pa_cons (pe_callB (lenK K rfl) (by rfl) T.g_len boot_len (pa_cons (pv 1) pa_nil)) pa_nil)))))))
    (pss_one (ps_expr (pe_bmK K rfl PySem.F.plainAttrs_list PySem.F.slot_list_append PySem.F.type_list_append mt_append (pv 3) (pa_cons (pe_tup (pa_cons (pv 4) (pa_cons (pe_callB (sortSK K rfl) (by rfl) T.g_sorted boot_sorted (pa_cons (pv 5) pa_nil)) (pa_cons (pe_op op_add pe_int (ec c_L_draw hr (by decide) rfl (pa_cons (pv 0) (pa_cons pe_int pa_nil)))) pa_nil)))) pa_nil))))))
    (pss_one (ps_ret (pv 3))))), ?_⟩
    have hklp : kl ≠ pa := fun z => by rw [z, hn] at hkl; cases hkl
    refine q_asgL (xs := []) (el_lst ea_nil (by simp)) fun fl H1 hfl e1 h1 => ?_
    have hpf : pa ≠ fl := pu.ne hfl
    have hfl0 : H0 fl = none := fresh_back e0 hfl
    have pu1 := pu.mono e1 (Int.le_refl b)
    have e01 := e0.trans e1
    refine q_forPP (PP := fun p ws H2 => ∃ zs : List Str, ws = zs.map V.str ∧ zs.Nodup ∧ (∀ z ∈ zs, NameOk z) ∧ 1 ≤ zs.length ∧ zs.length ≤ 3 ∧ pa ≠ p ∧ fl ≠ p ∧ Ex (del H1 pa) H2 ∧ PuOk H2 pa (b + 203)) (fun Q qq => ?_) fun p ws H2 hpw ⟨zs, ews, zn, zok, z1, z3, pp, fp, e2, pu2⟩ => ?_
    · have hd : ∀ Q : VK, (∀ v H3, 0 ≤ v → v < 3 → Ex (del H1 pa) H3 → PuOk H3 pa (b + 3) → Q (.int v) H3) → tCall spDraw [] E0 (tCons (tVar 0) (tCons (tVar 2) tNil)) ([some (.ref pa), some (.ref kl), some (.int 3), some (.ref fl), none, none] : L2.St) H1 Q := fun Q qq => run_draw (ev_var rfl) (ev_var rfl) (by decide) (by decide) pu1 (by omega) (del_self _ _) (del_ex _ _) qq
      refine ⟨_, rfl, hd _ fun v H2 v0 v1 e2 p2 => ⟨1, v, rfl, rfl, pa, 1 + v, _, del H2 pa, rfl, by omega, by omega, p2, by omega, del_self _ _, del_ex _ _, fun p zs H3 hp hzs nd nm hl e3 p3 => qq p _ H3 hzs ⟨zs, rfl, nd, nm, by omega, by omega, p2.ne hp, ?_, (ex_del e2 (del_self _ _)).trans e3, p3.le (by omega)⟩⟩⟩
      exact ne_of_none (e2 _ _ (by rw [del_ne hpf.symm]; exact h1)) hp
    · subst ews
      refine ⟨fun n σ' H' => ∃ (vs : List V) (rs : List K59.Row) (x4 x5 : Option V), σ' = [some (.ref pa), some (.ref kl), some (.int 3), some (.ref fl), x4, x5] ∧ Ex H0 H' ∧ H' fl = some (.lst vs) ∧ H' p = some (.lst (zs.map V.str)) ∧ Rel (LRow (del (del H' pa) fl)) vs rs ∧ rs.map (·.name) = zs.take n ∧ (∀ r ∈ rs, RowOk r ∧ ∀ k ∈ r.fits, k ∈ ks) ∧ PuOk H' pa (b + 203 + 200 * n),
        ⟨[], [], none, none, rfl, (ex_del e01 hn).trans e2, e2 _ _ (by rw [del_ne hpf.symm]; exact h1), hpw, ⟨rfl, fun i v r a => by cases a⟩, by simp, fun r hr => by simp at hr, by simpa using pu2⟩, fun n σ' H' _ h => by obtain ⟨_, _, _, _, _, _, _, hh, _⟩ := h; exact sq_get hh, fun n x σ' H' hx h => ?_, fun σ' H' h => ?_⟩
      · obtain ⟨vs, rs, x4, x5, rfl, ex, hf, hp, rel, hnm, hrs, pun⟩ := h
        obtain ⟨z, hz, rfl⟩ := get_map hx
        have hn3 : n < 3 := by have := (List.getElem?_eq_some_iff.mp hz).1; omega
        have hvl : vs.length = n := by
          have := congrArg List.length hnm
          rw [List.length_map, List.length_take] at this
          have := (List.getElem?_eq_some_iff.mp hz).1
          rw [rel.len]; omega
        refine ⟨_, rfl, _, rfl, pa, kl, ks.map V.str, _, del H' pa, rfl, by rw [del_ne hklp]; exact ex _ _ hkl, by rw [List.length_map]; omega, pun, by omega, del_self _ _, del_ex _ _, fun p1 ys H2' hp1 hperm hys e2' pu2' => ?_⟩
        obtain ⟨zs', rfl, hzp⟩ := perm_strs hperm
        have hzl := hzp.length_eq
        have eA : Ex (del H' pa) (del H2' pa) := ex_del e2' (del_self _ _)
        have hp1n : p1 ≠ pa := (pun.ne hp1).symm
        have hd : ∀ Q : VK, (∀ (v : Int) H3, 0 ≤ v → v < (ks.length : Int) → Ex (del H2' pa) H3 → PuOk H3 pa (b + 203 + 200 * n + 150 + 3) → Q (.int v) H3) → tCall spDraw [] E0 (tCons (tVar 0) (tCons (tCB (rLenS K) (tCons (tVar 1) tNil)) tNil)) ([some (.ref pa), some (.ref kl), some (.int 3), some (.ref fl), some (.str z), x5] : L2.St) H2' Q := fun Q qq => run_draw (ev_var rfl) (ev_is (ev_len (ev_var rfl) (sq_get (e2' _ _ (by rw [del_ne hklp]; exact ex _ _ hkl)))) (by rw [List.length_map])) (by omega) (by omega) pu2' (by omega) (del_self _ _) (del_ex _ _) qq
        refine hd _ fun v H3 v0 v1 e3 pu3 => ?_
        refine ⟨1, v, rfl, rfl, 1 + v, rfl, p1, zs'.map V.str, rfl, sq_get (e3 _ _ (by rw [del_ne hp1n]; exact hys)), fun r hr => ?_⟩
        rw [cut_strs (by omega) (by omega)]
        have e4 := Ex.new (o := .lst ((zs'.take (1 + v).toNat).map V.str)) hr
        have pu4 := pu3.mono e4 (Int.le_refl _)
        have h4r : (upd H3 r (.lst ((zs'.take (1 + v).toNat).map V.str))) r = some (.lst ((zs'.take (1 + v).toNat).map V.str)) := upd_same
        have eB : Ex (del H' pa) (upd H3 r (.lst ((zs'.take (1 + v).toNat).map V.str))) := (eA.trans e3).trans e4
        generalize (upd H3 r (.lst ((zs'.take (1 + v).toNat).map V.str))) = H4 at e4 pu4 h4r eB ⊢
        have hf4 : H4 fl = some (.lst vs) := eB _ _ (by rw [del_ne hpf.symm]; exact hf)
        refine ⟨_, rfl, .inl ⟨rfl, _, sq_get hf4⟩, _, rfl, _, rfl, r, zs'.take (1 + v).toNat, rfl, sq_get h4r, by rw [List.length_take]; omega, fun ss q5 hsp hss hq5 => ?_⟩
        have e5 := Ex.new (o := .lst (ss.map V.str)) hq5
        have pu5 := pu4.mono e5 (Int.le_refl _)
        have h5q : (upd H4 q5 (.lst (ss.map V.str))) q5 = some (.lst (ss.map V.str)) := upd_same
        have q5p : pa ≠ q5 := pu4.ne hq5
        have q5f : q5 ≠ fl := (ne_of_none hf4 hq5).symm
        generalize (upd H4 q5 (.lst (ss.map V.str))) = H5 at e5 pu5 h5q ⊢
        have hd2 : ∀ Q : VK, (∀ v H6, 0 ≤ v → v < 2 → Ex (del H5 pa) H6 → PuOk H6 pa (b + 203 + 200 * n + 150 + 3 + 3) → Q (.int v) H6) → tCall spDraw [] E0 (tCons (tVar 0) (tCons (tC (.int 2)) tNil)) ([some (.ref pa), some (.ref kl), some (.int 3), some (.ref fl), some (.str z), some (.ref r)] : L2.St) H5 Q := fun Q qq => run_draw (ev_var rfl) ev_c (by decide) (by decide) pu5 (by omega) (del_self _ _) (del_ex _ _) qq
        refine hd2 _ fun v2 H6 w0 w1 e6 pu6 => ?_
        have eC : Ex (del H' pa) H6 := (ex_del (eB.trans e5) (del_self _ _)).trans e6
        have hf6 : H6 fl = some (.lst vs) := eC _ _ (by rw [del_ne hpf.symm]; exact hf)
        refine ⟨1, v2, rfl, rfl, by show 3 ≤ sizeLine; decide, fun t ht => ?_⟩
        have e7 := Ex.new (o := .tup [.str z, .ref q5, .int (1 + v2)]) ht
        have tf : t ≠ fl := (ne_of_none hf6 ht).symm
        have tp : pa ≠ t := pu6.ne ht
        have h6q : H6 q5 = some (.lst (ss.map V.str)) := e6 _ _ (by rw [del_ne q5p.symm]; exact h5q)
        have eD := eC.trans e7
        have h7t : (upd H6 t (.tup [.str z, .ref q5, .int (1 + v2)])) t = some (.tup [.str z, .ref q5, .int (1 + v2)]) := upd_same
        have pu7 := pu6.mono e7 (Int.le_refl _)
        have h7q := e7 _ _ h6q
        generalize (upd H6 t (.tup [.str z, .ref q5, .int (1 + v2)])) = H7 at e7 eD h7t pu7 h7q ⊢
        have hf7 : H7 fl = some (.lst vs) := eD _ _ (by rw [del_ne hpf.symm]; exact hf)
        have hss' : ∀ k ∈ ss, k ∈ ks := fun k hk => hzp.mem_iff.mp ((List.take_sublist _ _).mem (hsp.mem_iff.mp hk))
        have hsl : ss.length = (1 + v).toNat := by rw [hsp.length_eq, List.length_take]; omega
        refine ⟨fl, vs, .ref t, rfl, rfl, hf7, sz_lt (by omega), vs ++ [.ref t], rs ++ [⟨z, ss, 1 + v2⟩], _, _, rfl, Ex.mut ((ex_del ex hn).trans eD) hfl0, upd_same, by rw [upd_ne fp.symm]; exact eD _ _ (by rw [del_ne pp.symm]; exact hp), ?_, ?_, fun r' hr' => ?_, (pu7.upd hpf).le (by push_cast; omega)⟩
        · have eE : Ex (del (del H' pa) fl) (del (del (upd H7 fl (.lst (vs ++ [.ref t]))) pa) fl) := ex_del (ex_del (Ex.mut ((del_ex _ _).trans eD) (del_self _ _)) (by rw [del_ne hpf]; exact del_self _ _)) (del_self _ _)
          refine (rel.imp fun _ _ h => h.mono eE).snoc ⟨t, q5, rfl, ?_, ?_⟩
          · rw [del_ne tf, del_ne tp.symm, upd_ne tf]; exact h7t
          · rw [del_ne q5f, del_ne q5p.symm, upd_ne q5f]; exact h7q
        · rw [List.map_append, hnm, List.take_add_one, hz]; rfl
        · rcases List.mem_append.mp hr' with h | h
          · exact hrs r' h
          · rw [List.mem_singleton] at h
            subst h
            have hnd : ss.Nodup := hsp.nodup_iff.mpr ((hzp.nodup_iff.mpr kn).sublist (List.take_sublist _ _))
            exact ⟨⟨zok z (List.mem_of_getElem? hz), fun e => by rw [show ss = [] from e, List.length_nil] at hsl; omega, hnd, hss, fun k hk => kok k (hss' k hk), by show ss.length ≤ 6; omega, by show 1 ≤ 1 + v2; omega, by show 1 + v2 ≤ 2; omega⟩, hss'⟩
      · obtain ⟨vs, rs, x4, x5, rfl, ex, hf, hp, rel, hnm, hrs, pun⟩ := h
        rw [List.length_map, List.take_length] at hnm
        have hl : rs.length = zs.length := by rw [← hnm, List.length_map]
        refine s_ret (ev_var rfl) fun H3 e3 => q fl rs H3 hfl ⟨vs, e3 _ _ hf, rel.imp fun _ _ h => h.mono ((del_ex _ _).trans ((del_ex _ _).trans e3))⟩ ⟨fun r hr => (hrs r hr).1, by rw [hnm]; exact zn, fun e => by rw [e] at hl; simp at hl; omega, by omega⟩ (fun r hr => (hrs r hr).2) (ex.trans e3) (pun.mono e3 (by rw [List.length_map]; omega))
end
end K59
namespace K59
open PySem PySem.Spec PyProof.Rows L2 Evl
section
variable {P : Program} {w : World} {K : PySem.W.Frag} {mg : Str → Option Value} {base : Heap} {CA CL CM : Addr}
theorem ifT {c : Bool} {a b : Prop} (h : c = true) (x : a) : if c = true then a else b := by rw [if_pos h]; exact x
theorem ifF {c : Bool} {a b : Prop} (h : c = false) (x : b) : if c = true then a else b := by rw [h]; exact x
theorem run_oneN {σ : L2.St} {H H0 : Hp} {tp tl : TE} {E : XK} {pa : Addr} {xs : List V} {b : Int} {Q : VK} (hp : Ev tp σ H (.ref pa)) (hl : EvL tl σ H xs) (hne : xs ≠ []) (hlen : xs.length ≤ 1000) (pu : PuOk H pa b) (hb : b ≤ 2 ^ 31) (hn : H0 pa = none) (e0 : Ex H0 H)
    (q : ∀ x H', x ∈ xs → Ex H0 H' → PuOk H' pa (b + 3) → Q x H') : tCall spOneOf [] E (tCons tp (tCons tl tNil)) σ H Q :=
  hp H (Ex.refl H) _ fun H1 e1 => hl H1 e1 _ fun l H2 hl e2 h2 => ⟨pa, l, xs, b, del H2 pa, rfl, by rw [del_ne ((pu.mono e1 (Int.le_refl _)).ne hl).symm]; exact h2, hne, hlen, pu.mono (e1.trans e2) (Int.le_refl _), hb, del_self _ _, del_ex _ _, fun x H' hx e' pu' => q x H' hx ((ex_del (e0.trans (e1.trans e2)) hn).trans e') pu'⟩
theorem run_one {σ : L2.St} {H H0 : Hp} {tp tl : TE} {E : XK} {pa l : Addr} {xs : List V} {b : Int} {Q : VK} (hp : Ev tp σ H (.ref pa)) (hl : Ev tl σ H (.ref l)) (h0 : H0 l = some (.lst xs)) (hne : xs ≠ []) (hlen : xs.length ≤ 1000) (pu : PuOk H pa b) (hb : b ≤ 2 ^ 31) (hn : H0 pa = none) (e0 : Ex H0 H)
    (q : ∀ x H', x ∈ xs → Ex H0 H' → PuOk H' pa (b + 3) → Q x H') : tCall spOneOf [] E (tCons tp (tCons tl tNil)) σ H Q :=
  hp H (Ex.refl H) _ fun H1 e1 => hl H1 e1 _ fun H2 e2 => ⟨pa, l, xs, b, H0, rfl, h0, hne, hlen, pu.mono (e1.trans e2) (Int.le_refl _), hb, hn, e0.trans (e1.trans e2), q⟩
theorem run_shuf {σ : L2.St} {H H0 : Hp} {tp tl : TE} {E : XK} {pa l : Addr} {xs : List V} {b : Int} {Q : VK} (hp : Ev tp σ H (.ref pa)) (hl : Ev tl σ H (.ref l)) (h0 : H0 l = some (.lst xs)) (hlen : xs.length ≤ 50) (pu : PuOk H pa b) (hb : b ≤ 2 ^ 30) (hn : H0 pa = none) (e0 : Ex H0 H)
    (q : ∀ p ys H', H p = none → ys.Perm xs → H' p = some (.lst ys) → Ex H0 H' → PuOk H' pa (b + 150) → Q (.ref p) H') : tCall spShuffled [] E (tCons tp (tCons tl tNil)) σ H Q :=
  hp H (Ex.refl H) _ fun H1 e1 => hl H1 e1 _ fun H2 e2 => ⟨pa, l, xs, b, H0, rfl, h0, hlen, pu.mono (e1.trans e2) (Int.le_refl _), hb, hn, e0.trans (e1.trans e2), fun p ys H' hp => q p ys H' (fresh_back (e1.trans e2) hp)⟩
/-- tables whose keys are among S, with small values -/
structure HIn (S : List Key) (m : Int) (st : List (Key × Int)) : Prop where
  nd : (st.map (·.1)).Nodup
  ks : ∀ x ∈ st.map (·.1), x ∈ S
  v : ∀ x ∈ st, 0 ≤ x.2 ∧ x.2 ≤ m
theorem val_put {κ : Type} [DecidableEq κ] {p : Int → Prop} {l : List (κ × Int)} {k : κ} {v : Int} (h : ∀ x ∈ l, p x.2) (hv : p v) : ∀ x ∈ putI l k v, p x.2 := fun x hx => by
  unfold putI at hx
  split at hx
  · obtain ⟨y, hy, rfl⟩ := List.mem_map.mp hx
    split
    · exact hv
    · exact h y hy
  · rcases List.mem_append.mp hx with z | z
    · exact h x z
    · rw [List.mem_singleton] at z
      rw [z]; exact hv
theorem HIn.nil (S : List Key) (m : Int) : HIn S m [] := ⟨by simp, fun x hx => by simp at hx, fun x hx => by simp at hx⟩
theorem HIn.put {S : List Key} {m : Int} {st : List (Key × Int)} (h : HIn S m st) {k : Key} {v : Int} (hk : k ∈ S) (h0 : 0 ≤ v) (h1 : v ≤ m) : HIn S m (putI st k v) := by
  refine ⟨nodup_put h.nd _ _, fun x hx => ?_, val_put (p := fun v => 0 ≤ v ∧ v ≤ m) h.v ⟨h0, h1⟩⟩
  rcases (keys_put st k v x).mp hx with e | e
  · rw [e]; exact hk
  · exact h.ks x e
theorem HIn.len {S : List Key} {m : Int} {st : List (Key × Int)} (h : HIn S m st) : st.length ≤ S.length := len_keys h.nd h.ks
theorem HIn.ok {S : List Key} {m : Int} {st : List (Key × Int)} (h : HIn S m st) (hs : ∀ x ∈ S, ∃ k, x = .inr k ∧ NameOk k) (hl : S.length ≤ 6) : StOk st := ⟨fun x hx => hs _ (h.ks _ (List.mem_map.mpr ⟨x, hx, rfl⟩)), fun x hx => (h.v x hx).1, h.nd, by have := h.len; omega⟩
def hKeys (ks : List Str) : List Key := ks.map Sum.inr ++ [.inr "nofit"]
def spHere : Sp := fun vs H Q _ => ∃ (pa kl : Addr) (ks : List Str) (b : Int) (H0 : Hp), vs = [.ref pa, .ref kl] ∧ H0 kl = some (.lst (ks.map V.str)) ∧ ks.length ≤ 5 ∧ PuOk H pa b ∧ b ≤ 2 ^ 28 ∧ H0 pa = none ∧ Ex H0 H ∧
  ∀ p st H', H p = none → H' p = some (.dK (mI st)) → HIn (hKeys ks) 3 st → Ex H0 H' → PuOk H' pa (b + 300) → Q (.ref p) H'
theorem d_L_here {f : Addr} {fd : FuncData} (F : Fun K "_law_here" "_law_here" s_L_here f fd) (T : Txt K mg CA CL CM) (c_L_draw : CalK P w K mg base 2 "_law_draw" spDraw) (c_L_shuffled : CalK P w K mg base 3 "_law_shuffled" spShuffled) (c_L_one_of : CalK P w K mg base 3 "_law_one_of" spOneOf) : FnOk P w K mg base CX0 4 f fd ["_law_purse_here", "_law_kinds_here"] spHere := by
  refine F.ok sc_L_here (fun vs H Q E h => ?_) (fun cdv A outer sx H vs Q E hr h => ?_)
  · obtain ⟨_, _, _, _, _, rfl, _⟩ := h
    rfl
  · obtain ⟨pa, kl, ks, b, H0, rfl, hkl, k5, pu, hb, hn, e0, q⟩ := h
    refine ⟨_, (pss_cons (ps_set (i := 2) sc_L_here.nd rfl (Or.inl rfl) pe_dnewK)
    (pss_cons (ps_for PassesOwn.never rfl (listK K rfl (ec c_L_shuffled hr (by decide) rfl (pa_cons (pv 0) (pa_cons (pv 1) pa_nil)))) (pg_name (i := 3) sc_L_here.nd rfl (by first | exact Or.inl rfl | exact Or.inr rfl))
    (pss_one (ps_if (pt_cmpR op_gt (ec c_L_draw hr (by decide) rfl (pa_cons (pv 0) (pa_cons pe_int pa_nil))) pe_int (nomark _)) (pss_one (ps_dput (hu_of hr) (pv 2) (pv 3) (ec c_L_one_of hr (by decide) rfl (pa_cons (pv 0) (pa_cons (pe_lst (pa_cons pe_int (pa_cons pe_int (pa_cons pe_int (pa_cons pe_int pa_nil))))) pa_nil))) rfl)) pss_nil)))
    (pss_cons (ps_if (pt_cmpR op_eq (ec c_L_draw hr (by decide) rfl (pa_cons (pv 0) (pa_cons pe_int pa_nil))) pe_int (nomark _)) (pss_one (ps_dput (hu_of hr) (pv 2) pe_str (ec c_L_draw hr (by decide) rfl (pa_cons (pv 0) (pa_cons pe_int pa_nil))) rfl)) pss_nil)
    (pss_one (ps_ret (pv 2)))))), ?_⟩
    refine q_newK fun d H1 hd e1 h1 => ?_
    have hpd : pa ≠ d := pu.ne hd
    have hd0 : H0 d = none := fresh_back e0 hd
    have e01 := e0.trans e1
    have pu1 := pu.mono e1 (Int.le_refl b)
    refine q_forPP (PP := fun p ws H2 => ∃ zs : List Str, ws = zs.map V.str ∧ zs.Perm ks ∧ pa ≠ p ∧ d ≠ p ∧ Ex (del H1 pa) H2 ∧ PuOk H2 pa (b + 150)) (fun Q qq => run_shuf (H0 := del H1 pa) (ev_var rfl) (ev_var rfl) (by rw [del_ne (fun z => by rw [z, hn] at hkl; cases hkl)]; exact e01 _ _ hkl) (by rw [List.length_map]; omega) pu1 (by omega) (del_self _ _) (del_ex _ _) fun p ys H2 hp hperm hys e2 p2 => ?_) fun p ws H2 hpw ⟨zs, ews, hzp, pp, dp, e2, pu2⟩ => ?_
    · obtain ⟨zs, rfl, hzp⟩ := perm_strs hperm
      exact qq p _ H2 hys ⟨zs, rfl, hzp, pu1.ne hp, ne_of_none h1 hp, e2, p2⟩
    · subst ews
      have hzl := hzp.length_eq
      refine ⟨fun n σ' H' => ∃ (st : List (Key × Int)) (x3 : Option V), σ' = [some (.ref pa), some (.ref kl), some (.ref d), x3] ∧ Ex H0 H' ∧ H' d = some (.dK (mI st)) ∧ H' p = some (.lst (zs.map V.str)) ∧ HIn (hKeys ks) 3 st ∧ PuOk H' pa (b + 150 + 6 * n),
        ⟨[], none, rfl, (ex_del e01 hn).trans e2, e2 _ _ (by rw [del_ne hpd.symm]; exact h1), hpw, HIn.nil _ _, by simpa using pu2⟩, fun n σ' H' _ h => by obtain ⟨_, _, _, _, _, hh, _⟩ := h; exact sq_get hh, fun n x σ' H' hx h => ?_, fun σ' H' h => ?_⟩
      · obtain ⟨st, x3, rfl, ex, hst, hp, hin, pun⟩ := h
        obtain ⟨z, hz, rfl⟩ := get_map hx
        have hn5 : n < 5 := by have := (List.getElem?_eq_some_iff.mp hz).1; omega
        have hzk : z ∈ ks := hzp.mem_iff.mp (List.mem_of_getElem? hz)
        have hsl : st.length ≤ 6 := by have := hin.len; unfold hKeys at this; rw [List.length_append, List.length_map] at this; simp only [List.length_singleton] at this; omega
        have hd' : ∀ Q : VK, (∀ v H3, 0 ≤ v → v < 4 → Ex (del H' pa) H3 → PuOk H3 pa (b + 150 + 6 * n + 3) → Q (.int v) H3) → tCall spDraw [] E0 (tCons (tVar 0) (tCons (tC (.int 4)) tNil)) ([some (.ref pa), some (.ref kl), some (.ref d), some (.str z)] : L2.St) H' Q := fun Q qq => run_draw (ev_var rfl) ev_c (by decide) (by decide) pun (by omega) (del_self _ _) (del_ex _ _) qq
        refine hd' _ fun v H3 v0 v1 e3 pu3 => ⟨v, 0, rfl, rfl, _, rfl, ?_⟩
        have ex3 : Ex H0 H3 := (ex_del ex hn).trans e3
        have hst3 : H3 d = some (.dK (mI st)) := e3 _ _ (by rw [del_ne hpd.symm]; exact hst)
        have hp3 : H3 p = some (.lst (zs.map V.str)) := e3 _ _ (by rw [del_ne pp.symm]; exact hp)
        by_cases hv : 0 < v
        · refine ifT (decide_eq_true hv) ?_
          have ho : ∀ Q : VK, (∀ x H4, x ∈ [V.int 0, V.int 1, V.int 1, V.int 2] → Ex (del H3 pa) H4 → PuOk H4 pa (b + 150 + 6 * n + 3 + 3) → Q x H4) → tCall spOneOf [] E0 (tCons (tVar 0) (tCons (tLst (tCons (tC (.int 0)) (tCons (tC (.int 1)) (tCons (tC (.int 1)) (tCons (tC (.int 2)) tNil))))) tNil)) ([some (.ref pa), some (.ref kl), some (.ref d), some (.str z)] : L2.St) H3 Q :=
            fun Q qq => run_oneN (ev_var rfl) (el_lst (ea_cons ev_c (ea_cons ev_c (ea_cons ev_c (ea_cons ev_c ea_nil)))) (by simp)) (by simp) (by simp) pu3 (by omega) (del_self _ _) (del_ex _ _) qq
          refine ho _ fun x H4 hx4 e4 pu4 => ?_
          obtain ⟨i, rfl, i0, i2⟩ : ∃ i, x = V.int i ∧ 0 ≤ i ∧ i ≤ 3 := by
            simp only [List.mem_cons, List.not_mem_nil, or_false] at hx4
            rcases hx4 with h | h | h | h <;> exact ⟨_, h, by decide, by decide⟩
          have hst4 : H4 d = some (.dK (mI st)) := e4 _ _ (by rw [del_ne hpd.symm]; exact hst3)
          refine ⟨_, rfl, _, rfl, d, _, rfl, .inl ⟨mI st, .inr z, hst4, rfl, by rw [len_mI]; exact sz_lt (by omega), rfl⟩, putI st (.inr z) i, _, rfl, Ex.mut ((ex_del ex3 hn).trans e4) hd0, by rw [upd_same, putK_mI], by rw [upd_ne dp.symm]; exact e4 _ _ (by rw [del_ne pp.symm]; exact hp3), hin.put (List.mem_append.mpr (.inl (List.mem_map.mpr ⟨z, hzk, rfl⟩))) i0 i2, (pu4.upd hpd).le (by push_cast; omega)⟩
        · refine ifF (decide_eq_false hv) ?_
          exact ⟨st, _, rfl, ex3, hst3, hp3, hin, pu3.le (by push_cast; omega)⟩
      · obtain ⟨st, x3, rfl, ex, hst, hp, hin, pun⟩ := h
        have hsl : st.length ≤ 6 := by have := hin.len; unfold hKeys at this; rw [List.length_append, List.length_map] at this; simp only [List.length_singleton] at this; omega
        have pun := pun.le (c := b + 180) (by rw [List.length_map]; omega)
        have hd' : ∀ Q : VK, (∀ v H3, 0 ≤ v → v < 3 → Ex (del H' pa) H3 → PuOk H3 pa (b + 180 + 3) → Q (.int v) H3) → tCall spDraw [] E0 (tCons (tVar 0) (tCons (tC (.int 3)) tNil)) ([some (.ref pa), some (.ref kl), some (.ref d), x3] : L2.St) H' Q := fun Q qq => run_draw (ev_var rfl) ev_c (by decide) (by decide) pun (by omega) (del_self _ _) (del_ex _ _) qq
        refine hd' _ fun v H3 v0 v1 e3 pu3 => ⟨rfl, _, rfl, ?_⟩
        have ex3 : Ex H0 H3 := (ex_del ex hn).trans e3
        have hst3 : H3 d = some (.dK (mI st)) := e3 _ _ (by rw [del_ne hpd.symm]; exact hst)
        by_cases hv : V.int v = V.int 0
        · refine ifT (decide_eq_true hv) ?_
          have hd2 : ∀ Q : VK, (∀ v H4, 0 ≤ v → v < 4 → Ex (del H3 pa) H4 → PuOk H4 pa (b + 180 + 3 + 3) → Q (.int v) H4) → tCall spDraw [] E0 (tCons (tVar 0) (tCons (tC (.int 4)) tNil)) ([some (.ref pa), some (.ref kl), some (.ref d), x3] : L2.St) H3 Q := fun Q qq => run_draw (ev_var rfl) ev_c (by decide) (by decide) pu3 (by omega) (del_self _ _) (del_ex _ _) qq
          refine hd2 _ fun i H4 i0 i4 e4 pu4 => ?_
          have hst4 : H4 d = some (.dK (mI st)) := e4 _ _ (by rw [del_ne hpd.symm]; exact hst3)
          refine ⟨_, rfl, d, _, rfl, .inl ⟨mI st, .inr "nofit", hst4, rfl, by rw [len_mI]; exact sz_lt (by omega), rfl⟩, ?_⟩
          refine s_ret (v := .ref d) (ev_var rfl) fun H5 e5 => q d (putI st (.inr "nofit") i) H5 hd (e5 _ _ (by rw [upd_same, putK_mI])) (hin.put (List.mem_append.mpr (.inr (by simp))) i0 (by omega)) ((Ex.mut ((ex_del ex3 hn).trans e4) hd0).trans e5) ((pu4.upd hpd).mono e5 (by omega))
        · refine ifF (decide_eq_false hv) ?_
          refine s_ret (v := .ref d) (ev_var rfl) fun H5 e5 => q d st H5 hd (e5 _ _ hst3) hin (ex3.trans e5) (pu3.mono e5 (by omega))
end
end K59
namespace K59
open PySem PySem.Spec PyProof.Rows L2 Evl
section
variable {P : Program} {w : World} {K : PySem.W.Frag} {mg : Str → Option Value} {base : Heap} {CA CL CM : Addr}
theorem sKey_inj {x y : Str × Str} (h : sKey x = sKey y) : x = y := by
  unfold sKey at h
  injection h with h1 h2
  injection h2 with h2 _
  exact Prod.ext (Sum.inr.inj h1) (Sum.inr.inj h2)
theorem places_nodup {rs : List K59.Row} (ro : RowsOk rs) : (places rs).Nodup := by
  unfold places
  refine List.pairwise_flatMap.mpr ⟨fun r hr => List.pairwise_map.mpr ((ro.ok r hr).nd.imp fun {a b} h e => h (Prod.mk.inj e).2), ?_⟩
  have := List.pairwise_map.mp ro.nd
  exact this.imp fun {a b} h x hx y hy e => by
    obtain ⟨j, _, rfl⟩ := List.mem_map.mp hx
    obtain ⟨k, _, rfl⟩ := List.mem_map.mp hy
    exact h (Prod.mk.inj e).1
/-- the table of worths under way: n rows, m kinds of the next one (from the back) -/
structure WIn (rs : List K59.Row) (n m : Nat) (ws : List (List Key × Int)) : Prop where
  nd : (ws.map (·.1)).Nodup
  ks : ∀ key, key ∈ ws.map (·.1) ↔ key ∈ (places (rs.take n)).map sKey ∨ ∃ r k, rs[n]? = some r ∧ k ∈ r.fits.reverse.take m ∧ key = sKey (r.name, k)
  v : ∀ x ∈ ws, -10 ^ 10 ≤ x.2 ∧ x.2 ≤ 10 ^ 10
theorem WIn.nil (rs : List K59.Row) : WIn rs 0 0 [] := ⟨by simp, fun key => by simp [places], fun x hx => by simp at hx⟩
theorem WIn.put {rs : List K59.Row} {n m : Nat} {ws : List (List Key × Int)} (h : WIn rs n m ws) {r : K59.Row} {k : Str} (hr : rs[n]? = some r) (hk : r.fits.reverse[m]? = some k) {v : Int} (v0 : -10 ^ 10 ≤ v) (v1 : v ≤ 10 ^ 10) : WIn rs n (m + 1) (putI ws (sKey (r.name, k)) v) := by
  refine ⟨nodup_put h.nd _ _, fun key => ?_, val_put (p := fun v => -10 ^ 10 ≤ v ∧ v ≤ 10 ^ 10) h.v ⟨v0, v1⟩⟩
  rw [keys_put, h.ks]
  constructor
  · rintro (e | e | ⟨r', k', h1, h2, h3⟩)
    · exact .inr ⟨r, k, hr, by rw [List.take_add_one, hk]; simp, e⟩
    · exact .inl e
    · exact .inr ⟨r', k', h1, (List.take_subset_take_left _ (Nat.le_succ m)) h2, h3⟩
  · rintro (e | ⟨r', k', h1, h2, h3⟩)
    · exact .inr (.inl e)
    · rw [hr] at h1
      cases h1
      rw [List.take_add_one, hk, List.mem_append] at h2
      rcases h2 with h2 | h2
      · exact .inr (.inr ⟨r, k', hr, h2, h3⟩)
      · have : k' = k := by simpa using h2
        rw [this] at h3
        exact .inl h3
theorem WIn.next {rs : List K59.Row} {n : Nat} {ws : List (List Key × Int)} {r : K59.Row} (hr : rs[n]? = some r) (h : WIn rs n r.fits.length ws) : WIn rs (n + 1) 0 ws := by
  refine ⟨h.nd, fun key => ?_, h.v⟩
  rw [h.ks, List.take_add_one, hr]
  have e : places (rs.take n ++ (some r).toList) = places (rs.take n) ++ r.fits.map fun k => (r.name, k) := by
    unfold places
    rw [List.flatMap_append]
    simp
  rw [e, List.map_append, List.mem_append]
  constructor
  · rintro (z | ⟨r', k', h1, h2, h3⟩)
    · exact .inl (.inl z)
    · cases h1
      refine .inl (.inr (List.mem_map.mpr ⟨(r.name, k'), List.mem_map.mpr ⟨k', ?_, rfl⟩, h3.symm⟩))
      have := (List.take_sublist _ _).mem h2
      exact List.mem_reverse.mp this
  · rintro ((z | z) | ⟨r', k', h1, h2, h3⟩)
    · exact .inl z
    · obtain ⟨x, hx, e⟩ := List.mem_map.mp z
      obtain ⟨k, hk, rfl⟩ := List.mem_map.mp hx
      refine .inr ⟨r, k, rfl, ?_, e.symm⟩
      rw [List.take_of_length_le (by rw [List.length_reverse]; exact Nat.le_refl _)]
      exact List.mem_reverse.mpr hk
    · simp at h2
theorem WIn.fin {rs : List K59.Row} {ws : List (List Key × Int)} (ro : RowsOk rs) (h : WIn rs rs.length 0 ws) : WsOk ws rs ∧ WsK ws := by
  have hk : ∀ key, key ∈ ws.map (·.1) ↔ key ∈ (places rs).map sKey := fun key => by
    rw [h.ks, List.take_length]
    constructor
    · rintro (z | ⟨r, k, _, h2, _⟩)
      · exact z
      · simp at h2
    · exact .inl
  have hn : ((places rs).map sKey).Nodup := List.pairwise_map.mpr ((places_nodup ro).imp fun {a b} h e => h (sKey_inj e))
  have hp := ((List.perm_ext_iff_of_nodup h.nd hn).mpr hk).length_eq
  rw [List.length_map, List.length_map] at hp
  refine ⟨⟨hp, fun x hx => lkI_isSome.mpr ((hk _).mpr (List.mem_map.mpr ⟨x, hx, rfl⟩))⟩, h.nd, fun x hx => ?_⟩
  obtain ⟨y, hy, e⟩ := List.mem_map.mp ((hk _).mp (List.mem_map.mpr ⟨x, hx, rfl⟩))
  obtain ⟨r, hr, hy⟩ := List.mem_flatMap.mp hy
  obtain ⟨k, hk', rfl⟩ := List.mem_map.mp hy
  exact ⟨r.name, k, e.symm, (ro.ok r hr).nm, (ro.ok r hr).nms k hk'⟩
theorem WIn.len {rs : List K59.Row} {n m : Nat} {ws : List (List Key × Int)} (ro : RowsOk rs) (h : WIn rs n m ws) : ws.length ≤ 36 := by
  have h1 := len_keys h.nd (S := (places rs).map sKey) fun key hk => by
    rcases (h.ks key).mp hk with z | ⟨r, k, h1, h2, h3⟩
    · obtain ⟨x, hx, e⟩ := List.mem_map.mp z
      obtain ⟨r, hr, hx⟩ := List.mem_flatMap.mp hx
      exact List.mem_map.mpr ⟨x, List.mem_flatMap.mpr ⟨r, (List.take_sublist _ _).mem hr, hx⟩, e⟩
    · exact List.mem_map.mpr ⟨_, List.mem_flatMap.mpr ⟨r, List.mem_of_getElem? h1, List.mem_map.mpr ⟨k, List.mem_reverse.mp ((List.take_sublist _ _).mem h2), rfl⟩⟩, h3.symm⟩
  rw [List.length_map] at h1
  have := places_len ro.small
  omega
def spWorths : Sp := fun vs H Q _ => ∃ (pa ra : Addr) (rs : List K59.Row) (b : Int) (H0 : Hp), vs = [.ref pa, .ref ra] ∧ LRowsL H0 ra rs ∧ RowsOk rs ∧ PuOk H pa b ∧ b ≤ 2 ^ 28 ∧ H0 pa = none ∧ Ex H0 H ∧
  ∀ p ws H', H p = none → H' p = some (.dT (mI ws)) → WsOk ws rs → WsK ws → (∀ x ∈ ws, -10 ^ 10 ≤ x.2 ∧ x.2 ≤ 10 ^ 10) → Ex H0 H' → PuOk H' pa (b + 500) → Q (.ref p) H'
theorem d_L_worths {f : Addr} {fd : FuncData} (F : Fun K "_law_worths" "_law_worths" s_L_worths f fd) (T : Txt K mg CA CL CM) (c_L_draw : CalK P w K mg base 2 "_law_draw" spDraw) (c_L_one_of : CalK P w K mg base 3 "_law_one_of" spOneOf) : FnOk P w K mg base CX0 4 f fd ["_law_purse_here", "_law_rows_here"] spWorths := by
  refine F.ok sc_L_worths (fun vs H Q E h => ?_) (fun cdv A outer sx H vs Q E hr h => ?_)
  · obtain ⟨_, _, _, _, _, rfl, _⟩ := h
    rfl
  · obtain ⟨pa, ra, rs, b, H0, rfl, ⟨vs, hra, rel⟩, ro, pu, hb, hn, e0, q⟩ := h
    refine ⟨_, (pss_cons (ps_par (i := 2) (j := 3) (by rfl) sc_L_worths.nd rfl rfl (by decide) rfl rfl (pa_cons pe_dnewT (pa_cons (ec c_L_one_of hr (by decide) rfl (pa_cons (pv 0) (pa_cons (pe_lst (pa_cons pe_int (pa_cons pe_int (pa_cons (pe_op op_powS pe_int pe_int) pa_nil)))) pa_nil))) pa_nil)) (by rfl))
    (pss_cons (ps_for PassesOwn.never rfl (listK K rfl (pv 1)) (tupTK K rfl rfl (pgs_cons (pg_name (i := 4) sc_L_worths.nd rfl (by first | exact Or.inl rfl | exact Or.inr rfl)) (pgs_cons (pg_name (i := 5) sc_L_worths.nd rfl (by first | exact Or.inl rfl | exact Or.inr rfl)) (pgs_cons (pg_name (i := 6) sc_L_worths.nd rfl (by first | exact Or.inl rfl | exact Or.inr rfl)) pgs_nil))))
    (pss_one (ps_for PassesOwn.never rfl (listK K rfl (revK K rfl (pv 5))) (pg_name (i := 7) sc_L_worths.nd rfl (by first | exact Or.inl rfl | exact Or.inr rfl))
    (pss_cons (ps_set (i := 8) sc_L_worths.nd rfl (Or.inl rfl) (ec c_L_one_of hr (by decide) rfl (pa_cons (pv 0) (pa_cons (pe_lst (pa_cons (pe_un un_neg pe_int) (pa_cons pe_int (pa_cons pe_int (pa_cons pe_int (pa_cons pe_int (pa_cons pe_int (pa_cons pe_int (pa_cons (ec c_L_draw hr (by decide) rfl (pa_cons (pv 0) (pa_cons pe_int pa_nil))) pa_nil))))))))) pa_nil))))
    (pss_one (ps_dput (hu_of hr) (pv 2) (pe_tup (pa_cons (pv 4) (pa_cons (pv 7) pa_nil))) (pe_op op_add (pe_op op_mul (pv 8) (pv 3)) (pe_op op_mul (ec c_L_draw hr (by decide) rfl (pa_cons (pv 0) (pa_cons pe_int pa_nil))) (pe_callTy call_int1 (by rfl) T.g_int boot_int (pa_cons (pe_cmpR op_gt (pv 3) pe_int (nomark _)) pa_nil)))) rfl))))))
    (pss_one (ps_ret (pv 2))))), ?_⟩
    refine fun d hd => ?_
    have hpd : pa ≠ d := pu.ne hd
    have hd0 : H0 d = none := fresh_back e0 hd
    have e1 := Ex.new (o := .dT []) hd
    have h1 : (upd H d (.dT [])) d = some (.dT (mI ([] : List (List Key × Int)))) := upd_same
    have pu1 := pu.mono e1 (Int.le_refl b)
    have e01 := e0.trans e1
    generalize (upd H d (.dT [])) = H1 at e1 h1 pu1 e01 ⊢
    have ho : ∀ Q : VK, (∀ x H2, x ∈ [V.int 1, V.int 1, V.int (10 ^ (8 : Int).toNat)] → Ex (del H1 pa) H2 → PuOk H2 pa (b + 3) → Q x H2) → tCall spOneOf [] E0 (tCons (tVar 0) (tCons (tLst (tCons (tC (.int 1)) (tCons (tC (.int 1)) (tCons (tOp (rI CPowS fun i j => .int (i ^ j.toNat)) (tC (.int 10)) (tC (.int 8))) tNil)))) tNil)) ([some (.ref pa), some (.ref ra), none, none, none, none, none, none, none] : L2.St) H1 Q :=
      fun Q qq => run_oneN (ev_var rfl) (el_lst (ea_cons ev_c (ea_cons ev_c (ea_cons (ev_op ev_c ev_c (rv_I (show CPowS 10 8 from ⟨by decide, by decide +kernel⟩))) ea_nil))) (by simp)) (by simp) (by simp) pu1 (by omega) (del_self _ _) (del_ex _ _) qq
    refine ho _ fun x H2 hx2 e2 pu2 => ⟨.ref d, x, rfl, ?_⟩
    obtain ⟨tm, rfl, htm⟩ : ∃ tm : Int, x = V.int tm ∧ (tm = 1 ∨ tm = 100000000) := by
      simp only [List.mem_cons, List.not_mem_nil, or_false] at hx2
      rcases hx2 with h | h | h
      · exact ⟨_, h, .inl rfl⟩
      · exact ⟨_, h, .inl rfl⟩
      · exact ⟨_, h, .inr rfl⟩
    have e02 : Ex H0 H2 := (ex_del e01 hn).trans e2
    have h2 : H2 d = some (.dT (mI ([] : List (List Key × Int)))) := e2 _ _ (by rw [del_ne hpd.symm]; exact h1)
    refine q_forL (a := ra) (xs := vs) (ev_var rfl) (sq_get (e02 _ _ hra)) (fun n σ' H' => ∃ (ws : List (List Key × Int)) (x4 x5 x6 x7 x8 : Option V), σ' = [some (.ref pa), some (.ref ra), some (.ref d), some (.int tm), x4, x5, x6, x7, x8] ∧ Ex H0 H' ∧ H' d = some (.dT (mI ws)) ∧ WIn rs n 0 ws ∧ PuOk H' pa (b + 3 + 60 * n))
      (fun H3 e3 => ⟨[], none, none, none, none, none, rfl, e02.trans e3, e3 _ _ h2, WIn.nil rs, pu2.mono e3 (by omega)⟩) (fun n σ' H' _ h => by obtain ⟨_, _, _, _, _, _, _, ex, _⟩ := h; exact sq_get (ex _ _ hra)) (fun n x σ' H' hx h => ?_) (fun σ' H' h => ?_)
    · obtain ⟨ws, x4, x5, x6, x7, x8, rfl, ex, hws, win, pun⟩ := h
      have hi : n < rs.length := by rw [← rel.len]; exact (List.getElem?_eq_some_iff.mp hx).1
      have hr : rs[n]? = some rs[n] := List.getElem?_eq_getElem hi
      obtain ⟨t, fa, rfl, ht, hfa⟩ := rel.get n x _ hx hr
      have hro := ro.ok _ (List.getElem_mem hi)
      have hn6 : n < 6 := by have := ro.few; omega
      generalize rs[n] = r at hr ht hfa hro
      refine ⟨t, _, rfl, st_get (ex _ _ ht), rfl, _, _, rfl, _, _, rfl, _, _, rfl, rfl, ?_⟩
      have hrl : r.fits.reverse.length = r.fits.length := List.length_reverse
      have hf6 := hro.few
      refine s_forNL (xs := r.fits.reverse.map V.str) (fun H3 e3 Q qq => ⟨_, rfl, fa, r.fits.map V.str, rfl, sq_get ((ex.trans e3) _ _ hfa), fun p hp => qq p _ hp (Ex.new hp) (by rw [upd_same, ← List.map_reverse])⟩)
        (fun p m σ' H' => ∃ (ws : List (List Key × Int)) (x7 x8 : Option V), σ' = [some (.ref pa), some (.ref ra), some (.ref d), some (.int tm), some (.str r.name), some (.ref fa), some (.int r.most), x7, x8] ∧ Ex H0 H' ∧ H' d = some (.dT (mI ws)) ∧ pa ≠ p ∧ d ≠ p ∧ H' p = some (.lst (r.fits.reverse.map V.str)) ∧ WIn rs n m ws ∧ PuOk H' pa (b + 3 + 60 * n + 9 * m))
        (fun p H3 hp e3 hp3 => ⟨ws, x7, x8, rfl, ex.trans e3, e3 _ _ hws, pun.ne hp, ne_of_none hws hp, hp3, win, pun.mono e3 (by omega)⟩) (fun p m σ' H' _ h => by obtain ⟨_, _, _, _, _, _, _, _, hh, _⟩ := h; exact sq_get hh) (fun p m x σ' H' hx h => ?_) (fun p σ' H' h => ?_)
      · obtain ⟨ws, x7, x8, rfl, ex, hws, pp, dp, hp, win, pun⟩ := h
        obtain ⟨k, hk, rfl⟩ := get_map hx
        have hm6 : m < 6 := by have := (List.getElem?_eq_some_iff.mp hk).1; omega
        have hwl := win.len ro
        have hd' : ∀ Q : VK, (∀ v H3, 0 ≤ v → v < 7 → Ex (del H' pa) H3 → PuOk H3 pa (b + 3 + 60 * n + 9 * m + 3) → Q (.int v) H3) → tCall spDraw [] E0 (tCons (tVar 0) (tCons (tC (.int 7)) tNil)) ([some (.ref pa), some (.ref ra), some (.ref d), some (.int tm), some (.str r.name), some (.ref fa), some (.int r.most), some (.str k), x8] : L2.St) H' Q := fun Q qq => run_draw (ev_var rfl) ev_c (by decide) (by decide) pun (by omega) (del_self _ _) (del_ex _ _) qq
        refine ⟨_, rfl, 2, rfl, hd' _ fun v H3 v0 v1 e3 pu3 => ⟨by show 8 ≤ sizeLine; decide, fun l hl => ?_⟩⟩
        have lp := pu3.ne hl
        have e4 := Ex.new (o := .lst [V.int (-2), .int 0, .int 1, .int 1, .int 2, .int 3, .int 5, .int v]) hl
        have h4 : (upd H3 l (.lst [V.int (-2), .int 0, .int 1, .int 1, .int 2, .int 3, .int 5, .int v])) l = some (.lst [V.int (-2), .int 0, .int 1, .int 1, .int 2, .int 3, .int 5, .int v]) := upd_same
        have pu4 := pu3.mono e4 (Int.le_refl _)
        have eB : Ex (del H' pa) (upd H3 l (.lst [V.int (-2), .int 0, .int 1, .int 1, .int 2, .int 3, .int 5, .int v])) := e3.trans e4
        refine ⟨pa, l, [V.int (-2), .int 0, .int 1, .int 1, .int 2, .int 3, .int 5, .int v], _, del (upd H3 l (.lst [V.int (-2), .int 0, .int 1, .int 1, .int 2, .int 3, .int 5, .int v])) pa, rfl, by rw [del_ne lp.symm]; exact h4, by simp, by show 8 ≤ 1000; decide, pu4, by omega, del_self _ _, del_ex _ _, fun x H5 hx5 e5 pu5 => ?_⟩
        obtain ⟨i, rfl, i0, i1⟩ : ∃ i : Int, x = V.int i ∧ -2 ≤ i ∧ i ≤ 6 := by
          simp only [List.mem_cons, List.not_mem_nil, or_false] at hx5
          rcases hx5 with h | h | h | h | h | h | h | h
          all_goals exact ⟨_, h, by omega, by omega⟩
        have eC : Ex (del H' pa) H5 := (ex_del eB (del_self _ _)).trans e5
        have hd2 : ∀ Q : VK, (∀ v H6, 0 ≤ v → v < 7 → Ex (del H5 pa) H6 → PuOk H6 pa (b + 3 + 60 * n + 9 * m + 3 + 3 + 3) → Q (.int v) H6) → tCall spDraw [] E0 (tCons (tVar 0) (tCons (tC (.int 7)) tNil)) ([some (.ref pa), some (.ref ra), some (.ref d), some (.int tm), some (.str r.name), some (.ref fa), some (.int r.most), some (.str k), some (.int i)] : L2.St) H5 Q := fun Q qq => run_draw (ev_var rfl) ev_c (by decide) (by decide) pu5 (by omega) (del_self _ _) (del_ex _ _) qq
        have htb : -100000000 ≤ tm ∧ tm ≤ 100000000 := by rcases htm with h | h <;> omega
        refine ⟨_, rfl, _, rfl, i, tm, rfl, rfl, .inl ⟨by omega, by omega⟩, hd2 _ fun v2 H6 w0 w1 e6 pu6 => ⟨_, rfl, tm, 1, rfl, rfl, .inr ⟨_, rfl, v2, _, rfl, rfl, .inl ⟨by omega, by omega⟩, _, _, rfl, rfl, _, rfl, _, rfl, _, rfl, by show 2 ≤ sizeLine; decide, fun q7 hq7 => ?_⟩⟩⟩
        have eD : Ex (del H' pa) H6 := (ex_del eC (del_self _ _)).trans e6
        have e7 := Ex.new (o := .tup [V.str r.name, .str k]) hq7
        have hws6 : H6 d = some (.dT (mI ws)) := eD _ _ (by rw [del_ne hpd.symm]; exact hws)
        have hval : ∀ c : Int, c = 0 ∨ c = 1 → -10 ^ 10 ≤ i * tm + v2 * c ∧ i * tm + v2 * c ≤ 10 ^ 10 := fun c hc => by
          rcases htm with h | h <;> rcases hc with h' | h' <;> subst h <;> subst h' <;> constructor <;> omega
        refine ⟨d, _, rfl, .inr ⟨mI ws, sKey (r.name, k), q7, e7 _ _ hws6, rfl, upd_same, by rw [len_mI]; exact sz_lt (by omega), rfl⟩, putI ws (sKey (r.name, k)) (i * tm + v2 * (if decide (1 < tm) = true then 1 else 0)), _, _, rfl, Ex.mut ((ex_del ex hn).trans (eD.trans e7)) hd0, by rw [upd_same, putK_mI], pp, dp, by rw [upd_ne dp.symm]; exact (eD.trans e7) _ _ (by rw [del_ne pp.symm]; exact hp), win.put hr hk (hval _ (by split <;> simp)).1 (hval _ (by split <;> simp)).2, ((pu6.mono e7 (Int.le_refl _)).upd hpd).le (by push_cast; omega)⟩
      · obtain ⟨ws, x7, x8, rfl, ex, hws, pp, dp, hp, win, pun⟩ := h
        rw [List.length_map, hrl] at win pun
        exact ⟨ws, _, _, _, _, _, rfl, ex, hws, win.next hr, pun.le (by push_cast; omega)⟩
    · obtain ⟨ws, x4, x5, x6, x7, x8, rfl, ex, hws, win, pun⟩ := h
      rw [rel.len] at win pun
      obtain ⟨wo, wk⟩ := win.fin ro
      have := ro.few
      exact s_ret (ev_var rfl) fun H3 e3 => q d ws H3 hd (e3 _ _ hws) wo wk win.v (ex.trans e3) (pun.mono e3 (by omega))
end
end K59
namespace K59
open PySem PySem.Spec PyProof.Rows L2 Evl
section
variable {P : Program} {w : World} {K : PySem.W.Frag} {mg : Str → Option Value} {base : Heap} {CA CL CM : Addr}
theorem perm_map' {α : Type} (f : α → V) (g : V → α) (hg : ∀ a, g (f a) = a) {ys : List V} {l : List α} (h : ys.Perm (l.map f)) : ∃ zs : List α, ys = zs.map f ∧ zs.Perm l := by
  have hall : ∀ y ∈ ys, ∃ s, y = f s := fun y hy => by
    obtain ⟨s, _, e⟩ := List.mem_map.mp (h.mem_iff.mp hy)
    exact ⟨s, e.symm⟩
  refine ⟨ys.map g, ?_, ?_⟩
  · rw [List.map_map]
    refine (List.map_id _).symm.trans (List.map_congr_left fun y hy => ?_)
    obtain ⟨s, rfl⟩ := hall y hy
    show f s = f (g (f s))
    rw [hg]
  · have h2 := h.map g
    rw [List.map_map] at h2
    have h3 : l.map (g ∘ f) = l := (List.map_congr_left fun a _ => hg a).trans (List.map_id _)
    rw [h3] at h2
    exact h2
theorem PuOk.neT {H : Hp} {pa t : Addr} {b : Int} {xs : List V} (h : PuOk H pa b) (ht : H t = some (.tup xs)) : t ≠ pa := fun z => by
  obtain ⟨_, _, _, _, h1, _⟩ := h
  rw [z, h1] at ht; cases ht
theorem LRow.delPu {H : Hp} {pa : Addr} {b : Int} {v : V} {r : K59.Row} (pu : PuOk H pa b) (h : LRow H v r) : LRow (del H pa) v r := by
  obtain ⟨t, f, rfl, h1, h2⟩ := h
  refine ⟨t, f, rfl, by rw [del_ne (pu.neT h1)]; exact h1, ?_⟩
  rw [del_ne]
  · exact h2
  · intro z
    obtain ⟨_, _, _, _, h3, _⟩ := pu
    rw [z, h3] at h2
    have h2 := HO.lst.inj (Option.some.inj h2)
    cases hf : r.fits with
    | nil => rw [hf] at h2; cases h2
    | cons k ks => rw [hf] at h2; cases h2
theorem LRowsL.delPu {H : Hp} {pa ra : Addr} {b : Int} {rs : List K59.Row} (pu : PuOk H pa b) (h : LRowsL H ra rs) : LRowsL (del H pa) ra rs := by
  obtain ⟨vs, h1, rel⟩ := h
  refine ⟨vs, ?_, rel.imp fun v r h => h.delPu pu⟩
  rw [del_ne]
  · exact h1
  · intro z
    obtain ⟨_, _, _, _, h3, _⟩ := pu
    rw [z, h3] at h1
    have h1 := HO.lst.inj (Option.some.inj h1)
    subst h1
    have hl := rel.len
    cases rs with
    | nil => cases hl
    | cons r rs =>
      obtain ⟨t, _, e, _⟩ := rel.get 0 _ _ rfl rfl
      cases e
theorem LRowsL.del {H : Hp} {x ra : Addr} {rs : List K59.Row} {u : HO} (hx : H x = some u) (h1 : ∀ xs, u ≠ .lst xs) (h2 : ∀ xs, u ≠ .tup xs) (h : LRowsL H ra rs) : LRowsL (del H x) ra rs := by
  obtain ⟨vs, a, rel⟩ := h
  exact ⟨vs, del_of a hx (fun z => h1 _ z.symm), rel.imp fun v r ⟨t, f, b, c, d⟩ => ⟨t, f, b, del_of c hx (fun z => h2 _ z.symm), del_of d hx fun z => h1 _ z.symm⟩⟩
/-- a comprehension of new objects over a list that a call makes -/
theorem q_lcPN {σ : L2.St} {H : Hp} {tl te : TE} {g : TG} {t : TT} {vs : List Nat} {i : Nat} {tz : TS} {D : Ends} {PP : Addr → List V → Hp → Prop} (h : ∀ Q : VK, (∀ p ws H1, H1 p = some (.lst ws) → PP p ws H1 → Q (.ref p) H1) → tl σ H Q)
    (k : ∀ p ws H1, H1 p = some (.lst ws) → PP p ws H1 → ∃ (f : Nat → Bool) (R : Nat → RN), ws.length ≤ 40000 ∧ (∀ (j : Nat) (x : V) H2, Ex H1 H2 → ws[j]? = some x → TurnN σ vs g t te x H1 H2 (f j) (R j)) ∧ ∀ r H2, H1 r = none → Ex H1 H2 → NewL (gvN ws.length f R) r H2 → tz D (σ.set i (some (.ref r))) H2) :
    tSeq (tAsg (tLc (iList K tl) g t te vs) (gName i)) tz D σ H := h _ fun p ws H1 h1 pp => by
  obtain ⟨f, R, hz, ht, q⟩ := k p ws H1 h1 pp
  exact ⟨p, rfl, ⟨ws, sq_get h1⟩, lcGN (J := Itl K p) (Q := fun x H2 => tz D (σ.set i (some x)) H2) f R hz (Ex.refl _) (fun i H' e2 hi => ⟨ws, ws[i], ex_l e2 (sq_get h1), List.getElem?_eq_getElem hi⟩) (fun H' e2 => ⟨ws, ex_l e2 (sq_get h1), Nat.le_refl _⟩)
    (fun i x H' H'' e2 hi y => by
      obtain ⟨rfl, y⟩ := y
      exact ⟨Ex.refl _, ht i x H'' e2 (y ws (ex_l e2 (sq_get h1)))⟩) fun p H2 hp e2 _ nw => q p H2 hp e2 (nw.now (Ex.refl _) e2)⟩
/-- x, y = [..], [..] -/
theorem q_lists2 {σ : L2.St} {H : Hp} {ta tb : TE} {xs ys : List V} {i j : Nat} {D : Ends} {tz : TS} (h1 : EvL ta σ H xs) (h2 : EvL tb σ H ys) (k : ∀ l1 l2 H1, H l1 = none → H l2 = none → Ex H H1 → H1 l1 = some (.lst xs) → H1 l2 = some (.lst ys) → tz D ((σ.set i (some (.ref l1))).set j (some (.ref l2))) H1) :
    tSeq (tAsg (tTup (tCons ta (tCons tb tNil))) (gTup K 2 (gCons (gName i) (gCons (gName j) gNil)))) tz D σ H :=
  h1 H (Ex.refl H) _ fun l1 H1 hl1 e1 g1 => h2 H1 e1 _ fun l2 H2 hl2 e2 g2 => ⟨by show 2 ≤ sizeLine; decide, fun t ht => ⟨t, _, rfl, st_get upd_same, rfl, _, _, rfl, _, _, rfl, rfl, by
    have e3 := Ex.new (o := .tup [.ref l1, .ref l2]) ht
    exact k l1 l2 _ hl1 (fresh_back e1 hl2) ((e1.trans e2).trans e3) ((e2.trans e3) _ _ g1) (e3 _ _ g2)⟩⟩
def names6 : List Str := ["ann", "bob", "cy", "dan", "eve", "fay"]
def kinds6 : List Str := ["ka", "kb", "kc", "kd", "ke", "kf"]
def chRow (a : Nat) : K59.Row := ⟨names6.getD a default, (kinds6.drop a).take 2, 1⟩
theorem chRow_ok : ∀ a, a < 6 → NameOk (chRow a).name ∧ (chRow a).fits ≠ [] ∧ (chRow a).fits.Nodup ∧ sortedS (chRow a).fits = true ∧ (∀ k ∈ (chRow a).fits, NameOk k ∧ k ∈ kinds6) ∧ (chRow a).fits.length ≤ 6 := by decide +kernel
theorem chNames : ((List.range 6).map fun a => (chRow a).name).Nodup := by decide +kernel
theorem kinds6_ok : kinds6.Nodup ∧ ∀ k ∈ kinds6, NameOk k := by decide +kernel
theorem chCut : ∀ a : Nat, a < 6 → cutV (kinds6.map V.str) (some (a : Int)) (some ((a : Int) + 2)) = (chRow a).fits.map V.str
  | 0, _ => rfl
  | 1, _ => rfl
  | 2, _ => rfl
  | 3, _ => rfl
  | 4, _ => rfl
  | 5, _ => rfl
  | n + 6, h => absurd h (by omega)
theorem chRows_ok {as : List Nat} (h : as.Perm (List.range 6)) : RowsOk (as.map chRow) ∧ ∀ r ∈ as.map chRow, ∀ k ∈ r.fits, k ∈ kinds6 := by
  have ha : ∀ a ∈ as, a < 6 := fun a m => List.mem_range.mp (h.mem_iff.mp m)
  have hl := h.length_eq
  rw [List.length_range] at hl
  refine ⟨⟨fun r hr => ?_, ?_, fun e => ?_, by rw [List.length_map, hl]; decide⟩, fun r hr => ?_⟩
  · obtain ⟨a, m, rfl⟩ := List.mem_map.mp hr
    obtain ⟨h1, h2, h3, h4, h5, h6⟩ := chRow_ok a (ha a m)
    exact ⟨h1, h2, h3, h4, fun k hk => (h5 k hk).1, h6, by show (1:Int) ≤ 1; decide, by show (1:Int) ≤ 2; decide⟩
  · rw [List.map_map]
    exact (h.map _).nodup_iff.mpr chNames
  · have := congrArg List.length e
    rw [List.length_map, hl] at this
    cases this
  · obtain ⟨a, m, rfl⟩ := List.mem_map.mp hr
    exact fun k hk => ((chRow_ok a (ha a m)).2.2.2.2.1 k hk).2
def intNat : V → Nat
  | .int i => i.toNat
  | _ => 0
def spChain : Sp := fun vs H Q _ => ∃ (pa : Addr) (b : Int) (H0 : Hp), vs = [.ref pa] ∧ PuOk H pa b ∧ b ≤ 2 ^ 28 ∧ H0 pa = none ∧ Ex H0 H ∧
  ∀ t ra sd rs st H', H' t = some (.tup [.ref ra, .ref sd]) → H ra = none → H sd = none → LRowsL H' ra rs → RowsOk rs → (∀ r ∈ rs, ∀ k ∈ r.fits, k ∈ kinds6) → H' sd = some (.dK (mI st)) → HIn (kinds6.map Sum.inr) 3 st → Ex H0 H' → PuOk H' pa (b + 300) → Q (.ref t) H'
theorem d_L_chain {f : Addr} {fd : FuncData} (F : Fun K "_law_chain" "_law_chain" s_L_chain f fd) (T : Txt K mg CA CL CM) (c_L_draw : CalK P w K mg base 2 "_law_draw" spDraw) (c_L_shuffled : CalK P w K mg base 3 "_law_shuffled" spShuffled) : FnOk P w K mg base CX0 4 f fd ["_law_purse_here"] spChain := by
  refine F.ok sc_L_chain (fun vs H Q E h => ?_) (fun cdv A outer sx H vs Q E hr h => ?_)
  · obtain ⟨_, _, _, rfl, _⟩ := h
    rfl
  · obtain ⟨pa, b, H0, rfl, pu, hb, hn, e0, q⟩ := h
    refine ⟨_, (pss_cons (ps_asg (pe_tup (pa_cons (pe_lst (pa_cons pe_str (pa_cons pe_str (pa_cons pe_str (pa_cons pe_str (pa_cons pe_str (pa_cons pe_str pa_nil))))))) (pa_cons (pe_lst (pa_cons pe_str (pa_cons pe_str (pa_cons pe_str (pa_cons pe_str (pa_cons pe_str (pa_cons pe_str pa_nil))))))) pa_nil))) (tupTK K rfl rfl (pgs_cons (pg_name (i := 1) sc_L_chain.nd rfl (by first | exact Or.inl rfl | exact Or.inr rfl)) (pgs_cons (pg_name (i := 2) sc_L_chain.nd rfl (by first | exact Or.inl rfl | exact Or.inr rfl)) pgs_nil))))
    (pss_cons (ps_setLc (i := 3) (own := [("_law_at", 6)]) (g := (gName 6)) (tt := tYes) rfl sc_L_chain.nd rfl rfl (sw_true rfl rfl rfl (by decide +kernel)) (listK K rfl (ec c_L_shuffled hr (by decide) rfl (pa_cons (pv 0) (pa_cons (pe_listRg rfl (by rfl) T.g_list (prg_1 (by rfl) T.g_range pe_int)) pa_nil)))) (blkOk_by (own := [("_law_at", 6)]) (N := ["_law_purse_here", "_law_names_here", "_law_kinds_here", "_law_rows_here", "_law_stock", "_law_kind", "_law_at"]) (sc := defScope s_L_chain) (by decide +kernel)) (fun _ _ _ _ _ => (pg_name (i := 6) sc_L_chain.nd rfl (by first | exact Or.inl rfl | exact Or.inr rfl))) (fun _ _ _ _ _ => pts_nil) (fun _ _ _ _ _ => (pe_tup (pa_cons (pe_ix (ixLK K rfl) (pv 1) (pv 6) (fun _ _ => rfl)) (pa_cons (pe_slice (slLK K rfl) (pv 2) (po_some (pv 6)) (po_some (pe_op op_add (pv 6) pe_int))) (pa_cons pe_int pa_nil))))))
    (pss_cons (ps_set (i := 4) sc_L_chain.nd rfl (Or.inl rfl) pe_dnewK)
    (pss_cons (ps_for PassesOwn.never rfl (listK K rfl (pv 2)) (pg_name (i := 5) sc_L_chain.nd rfl (by first | exact Or.inl rfl | exact Or.inr rfl))
    (pss_one (ps_dput (hu_of hr) (pv 4) (pv 5) (pe_callTy call_int1 (by rfl) T.g_int boot_int (pa_cons (pe_cmpR op_gt (ec c_L_draw hr (by decide) rfl (pa_cons (pv 0) (pa_cons pe_int pa_nil))) pe_int (nomark _)) pa_nil)) rfl)))
    (pss_one (ps_ret (pe_tup (pa_cons (pv 3) (pa_cons (pv 4) pa_nil))))))))), ?_⟩
    refine q_lists2 (xs := names6.map V.str) (ys := kinds6.map V.str) (fun H1 e Q q => ⟨by show 6 ≤ sizeLine; decide, fun p hp => q p _ hp (Ex.new hp) upd_same⟩) (fun H1 e Q q => ⟨by show 6 ≤ sizeLine; decide, fun p hp => q p _ hp (Ex.new hp) upd_same⟩) fun l1 l2 H3 hl1 hl2 ex3 h1' h2' => ?_
    have p1 : l1 ≠ pa := (pu.ne hl1).symm
    have p2 : l2 ≠ pa := (pu.ne hl2).symm
    have pu3 := pu.mono ex3 (Int.le_refl b)
    have e03 := e0.trans ex3
    refine q_lcPN (PP := fun p ws H4 => ∃ as : List Nat, ws = as.map (fun a : Nat => V.int (a : Int)) ∧ as.Perm (List.range 6) ∧ Ex (del H3 pa) H4 ∧ PuOk H4 pa (b + 150)) (fun Q qq => ?_) fun p ws H4 hpw ⟨as, ews, hperm, e4, pu4⟩ => ?_
    · refine ⟨_, rfl, 6, rfl, RgOk.of_le (by decide) (by decide) (by decide) (by decide), fun r hr => ?_⟩
      have e4 := Ex.new (o := .lst (rgV 0 6)) hr
      have rp : r ≠ pa := (pu3.ne hr).symm
      refine ⟨pa, r, rgV 0 6, b, del (upd H3 r (.lst (rgV 0 6))) pa, rfl, by rw [del_ne rp]; exact upd_same, by decide, pu3.mono e4 (Int.le_refl _), by omega, del_self _ _, del_ex _ _, fun p ys H4 hp hperm hys e5 pu5 => ?_⟩
      have er : rgV 0 6 = (List.range 6).map (fun a : Nat => V.int (a : Int)) := by decide +kernel
      rw [er] at hperm
      obtain ⟨as, rfl, hp'⟩ := perm_map' (fun a : Nat => V.int (a : Int)) intNat (fun a => rfl) hperm
      exact qq p _ H4 hys ⟨as, rfl, hp', (ex_del ((del_ex _ _).trans e4) (del_self _ _)).trans e5, pu5⟩
    · subst ews
      have h14 : H4 l1 = some (.lst (names6.map V.str)) := e4 _ _ (by rw [del_ne p1]; exact h1')
      have h24 : H4 l2 = some (.lst (kinds6.map V.str)) := e4 _ _ (by rw [del_ne p2]; exact h2')
      have hal := hperm.length_eq
      rw [List.length_range] at hal
      refine ⟨fun _ => true, fun j => fun p H => LRow H (.ref p) (chRow (as.getD j 0)), by rw [List.length_map]; omega, fun j x H5 e5 hx => ?_, fun ra H5 hra e5 nl => ?_⟩
      · obtain ⟨a, ha, rfl⟩ := get_map hx
        show TurnN _ _ _ _ _ _ _ _ true (fun p H => LRow H (.ref p) (chRow (as.getD j 0)))
        rw [List.getD_eq_getElem?_getD, ha, Option.getD_some]
        have a6 : a < 6 := List.mem_range.mp (hperm.mem_iff.mp (List.mem_of_getElem? ha))
        have hna : (names6.map V.str)[a]? = some (.str (chRow a).name) := by
          rw [List.getElem?_map]
          show ((names6[a]?).map V.str) = some (.str (names6.getD a default))
          rw [List.getD_eq_getElem?_getD, List.getElem?_eq_getElem (show a < names6.length from a6)]
          rfl
        refine ⟨_, fun _ q => q, rfl, et_yes, fun _ => fun H6 e6 Q qq => ⟨_, rfl, _, rfl, l1, _, (a : Int), _, rfl, rfl, sq_get ((e5.trans e6) _ _ h14), atI_get hna, _, rfl, _, rfl, (a : Int), rfl, _, rfl, (a : Int), 2, rfl, rfl, (a : Int) + 2, rfl, l2, _, rfl, sq_get ((e5.trans e6) _ _ h24), fun p6 hp6 => ⟨by show 3 ≤ sizeLine; decide, fun t ht => ?_⟩⟩⟩
        rw [chCut a a6] at ht ⊢
        have e7 := Ex.new (o := .lst ((chRow a).fits.map V.str)) hp6
        have e8 := Ex.new (o := .tup [.str (chRow a).name, .ref p6, .int 1]) ht
        exact qq t _ (fresh_back e7 ht) (e7.trans e8) ⟨_, upd_same⟩ fun Hx eb kk => ⟨t, p6, rfl, kk _ _ (fresh_back e7 ht) upd_same, kk _ _ hp6 (e8 _ _ upd_same)⟩
      · obtain ⟨ps, hps, rl, rg⟩ := nl
        have hgl : gvN (as.map fun a : Nat => V.int (a : Int)).length (fun _ => true) (fun j => fun p H => LRow H (.ref p) (chRow (as.getD j 0))) = as.map fun a => fun p H => LRow H (.ref p) (chRow a) := by
          unfold gvN
          rw [List.filter_eq_self.mpr fun _ _ => rfl, List.length_map]
          refine List.ext_getElem (by simp) fun i h1 h2 => ?_
          simp only [List.getElem_map, List.getElem_range]
          rw [List.length_map] at h2
          rw [List.getD_eq_getElem?_getD, List.getElem?_eq_getElem h2]; rfl
        rw [hgl] at rl rg
        rw [List.length_map] at rl
        have hrows : LRowsL H5 ra (as.map chRow) := ⟨ps.map V.ref, hps, by rw [List.length_map, List.length_map, rl], fun i v r a c => by
          obtain ⟨p, hp, rfl⟩ := get_map a
          obtain ⟨a', ha', rfl⟩ := get_map c
          exact rg i p _ hp (by rw [List.getElem?_map, ha']; rfl)⟩
        obtain ⟨rok, rks⟩ := chRows_ok hperm
        generalize as.map chRow = rs at hrows rok rks
        have pu5 := pu4.mono e5 (Int.le_refl _)
        have hrp : ra ≠ pa := (pu4.ne hra).symm
        have hra0 : H ra = none := by
          have := fresh_back e4 hra
          rw [del_ne hrp] at this
          exact fresh_back ex3 this
        have h25 := e5 _ _ h24
        have e05 : Ex H0 H5 := ((ex_del e03 hn).trans e4).trans e5
        have exH5 : Ex (del H pa) H5 := ((ex_del ((del_ex _ _).trans ex3) (del_self _ _)).trans e4).trans e5
        refine q_newK fun d H6 hd e6 h6 => ?_
        have hpd : pa ≠ d := pu5.ne hd
        have hd0 : H0 d = none := fresh_back e05 hd
        have hdH : H d = none := by
          have := fresh_back exH5 hd
          rwa [del_ne hpd.symm] at this
        have l2d : l2 ≠ d := ne_of_none h25 hd
        have pu6 := pu5.mono e6 (Int.le_refl _)
        refine q_forLn (a := l2) (xs := kinds6.map V.str) (ev_var rfl) (sq_get (e6 _ _ h25)) (fun n σ' H' => ∃ (st : List (Key × Int)) (x5 x6 : Option V), σ' = [some (.ref pa), some (.ref l1), some (.ref l2), some (.ref ra), some (.ref d), x5, x6] ∧ Ex H0 H' ∧ H' d = some (.dK (mI st)) ∧ H' l2 = some (.lst (kinds6.map V.str)) ∧ LRowsL (del (del H' pa) d) ra rs ∧ HIn (kinds6.map Sum.inr) 3 st ∧ PuOk H' pa (b + 150 + 3 * n))
          (fun H7 e7 => ⟨[], none, none, rfl, e05.trans (e6.trans e7), e7 _ _ h6, (e6.trans e7) _ _ h25, ((hrows.mono (e6.trans e7)).delPu (pu6.mono e7 (Int.le_refl _))).del (x := d) (u := .dK (mI [])) (by rw [del_ne hpd.symm]; exact e7 _ _ h6) (fun _ z => nomatch z) (fun _ z => nomatch z), HIn.nil _ _, pu6.mono e7 (by omega)⟩) (fun n σ' H' _ h => by obtain ⟨_, _, _, _, _, _, hh, _⟩ := h; exact sq_get hh) (fun n x σ' H' hx h => ?_) (fun σ' H' h => ?_)
        · obtain ⟨st, x5, x6, rfl, ex, hst, hl2, hrw, hin, pun⟩ := h
          obtain ⟨k, hk, rfl⟩ := get_map hx
          have hn6 : n < 6 := (List.getElem?_eq_some_iff.mp hk).1
          have hsl : st.length ≤ 6 := hin.len
          have hd' : ∀ Q : VK, (∀ v H8, 0 ≤ v → v < 4 → Ex (del H' pa) H8 → PuOk H8 pa (b + 150 + 3 * n + 3) → Q (.int v) H8) → tCall spDraw [] E0 (tCons (tVar 0) (tCons (tC (.int 4)) tNil)) ([some (.ref pa), some (.ref l1), some (.ref l2), some (.ref ra), some (.ref d), some (.str k), x6] : L2.St) H' Q := fun Q qq => run_draw (ev_var rfl) ev_c (by decide) (by decide) pun (by omega) (del_self _ _) (del_ex _ _) qq
          refine hd' _ fun v H8 v0 v1 e8 pu8 => ⟨v, 0, rfl, rfl, .inr ⟨_, rfl, _, rfl, _, rfl, d, _, rfl, .inl ⟨mI st, .inr k, e8 _ _ (by rw [del_ne hpd.symm]; exact hst), rfl, by rw [len_mI]; exact sz_lt (by omega), rfl⟩, putI st (.inr k) (if decide (0 < v) = true then 1 else 0), _, _, rfl, Ex.mut ((ex_del ex hn).trans e8) hd0, by rw [upd_same, putK_mI], ?_, ?_, hin.put (List.mem_map.mpr ⟨k, List.mem_of_getElem? hk, rfl⟩) (by split <;> decide) (by split <;> decide), (pu8.upd hpd).le (by push_cast; omega)⟩⟩
          · rw [upd_ne l2d]
            exact e8 _ _ (by rw [del_ne p2]; exact hl2)
          · refine hrw.mono (ex_del (ex_del (Ex.mut ((del_ex _ _).trans e8) (del_self _ _)) (by rw [del_ne hpd]; exact del_self _ _)) (del_self _ _))
        · obtain ⟨st, x5, x6, rfl, ex, hst, hl2, hrw, hin, pun⟩ := h
          refine ⟨_, rfl, _, rfl, by show 2 ≤ sizeLine; decide, fun t ht => ?_⟩
          have e9 := Ex.new (o := .tup [.ref ra, .ref d]) ht
          exact q t ra d rs st _ upd_same hra0 hdH (hrw.mono ((del_ex _ _).trans ((del_ex _ _).trans e9))) rok rks (e9 _ _ hst) hin (ex.trans e9) (pun.mono e9 (by rw [List.length_map]; show b + 150 + 3 * ((kinds6.length : Nat) : Int) ≤ b + 300; rw [show kinds6.length = 6 from rfl]; omega))
end
end K59
namespace K59
open PySem PySem.Spec PyProof.Rows L2 Evl
section
variable {P : Program} {w : World} {K : PySem.W.Frag} {mg : Str → Option Value} {base : Heap} {CA CL CM : Addr}
theorem PuOk.neK {H : Hp} {pa t : Addr} {b : Int} {u : HO} (h : PuOk H pa b) (ht : H t = some u) (hu : ∀ xs, u ≠ .lst xs) : t ≠ pa := fun z => by
  obtain ⟨_, _, _, _, h1, _⟩ := h
  rw [z, h1] at ht
  exact hu _ (Option.some.inj ht).symm
def spAltered : Sp := fun vs H Q _ => ∃ (pa ra sd wd : Addr) (rs : List K59.Row) (st : List (Key × Int)) (ws : List (List Key × Int)) (b : Int) (H0 : Hp), vs = [.ref pa, .ref ra, .ref sd, .ref wd] ∧ LRowsL H0 ra rs ∧ RowsOk rs ∧ H sd = some (.dK (mI st)) ∧ st.length ≤ 60 ∧ H wd = some (.dT (mI ws)) ∧ WsK ws ∧ ws ≠ [] ∧ ws.length ≤ 36 ∧ PuOk H pa b ∧ b ≤ 2 ^ 30 ∧
  H0 pa = none ∧ H0 sd = none ∧ H0 wd = none ∧ Ex H0 H ∧ ∀ (k : Str) (key : List Key) (H' : Hp), (∃ r ∈ rs, k ∈ r.fits) → key ∈ ws.map (·.1) → Ex H0 H' → H' sd = some (.dK (mI (withT st k 1))) → H' wd = some (.dT (mI (putI ws key (6 - gtI ws key)))) → PuOk H' pa (b + 6) → Q .non H'
theorem d_L_altered {f : Addr} {fd : FuncData} (F : Fun K "_law_altered" "_law_altered" s_L_altered f fd) (T : Txt K mg CA CL CM) (c_L_one_of : CalK P w K mg base 3 "_law_one_of" spOneOf) : FnOk P w K mg base CX0 4 f fd ["_law_purse_here", "_law_rows_here", "_law_stock", "_law_worths_here"] spAltered := by
  refine F.ok sc_L_altered (fun vs H Q E h => ?_) (fun cdv A outer sx H vs Q E hr h => ?_)
  · obtain ⟨_, _, _, _, _, _, _, _, _, rfl, _⟩ := h
    rfl
  · obtain ⟨pa, ra, sd, wd, rs, st, ws, b, H0, rfl, ⟨vs, hra, rel⟩, ro, hst, sl, hws, wk, wne, wl, pu, hb, n1, n2, n3, e0, q⟩ := h
    refine ⟨_, (pss_cons (ps_par (i := 4) (j := 5) (by rfl) sc_L_altered.nd rfl rfl (by decide) rfl rfl (pa_cons (ec c_L_one_of hr (by decide) rfl (pa_cons (pv 0) (pa_cons (pe_ix (ixTK K rfl) (pe_ix (ixLK K rfl) (pv 1) (pe_un un_neg pe_int) (fun _ _ => rfl)) pe_int (fun _ _ => rfl)) pa_nil))) (pa_cons (ec c_L_one_of hr (by decide) rfl (pa_cons (pv 0) (pa_cons (pe_callB (cr_sortedDT rfl hr.units) (by rfl) T.g_sorted boot_sorted (pa_cons (pv 3) pa_nil)) pa_nil))) pa_nil)) (by rfl))
    (pss_cons (ps_dput (hu_of hr) (pv 2) (pv 4) (pe_op op_add (pe_dget2 (hu_of hr) (pv 2) (pv 4) pe_int (.mk rfl rfl rfl rfl)) pe_int) rfl)
    (pss_one (ps_dput (hu_of hr) (pv 3) (pv 5) (pe_op op_sub pe_int (pe_dget (hu_of hr) (pv 3) (pv 5) (fun _ _ => rfl))) rfl)))), ?_⟩
    have hsp : sd ≠ pa := pu.neK hst (fun _ z => nomatch z)
    have hwp : wd ≠ pa := pu.neK hws (fun _ z => nomatch z)
    have hsw : sd ≠ wd := fun z => by rw [z, hws] at hst; cases hst
    have hpos : 0 < rs.length := List.length_pos_iff.mpr ro.ne
    have hvl := rel.len
    have hr1 : rs[vs.length - 1]? = some rs[vs.length - 1] := List.getElem?_eq_getElem (by omega)
    have hv1 : vs[vs.length - 1]? = some vs[vs.length - 1] := List.getElem?_eq_getElem (by omega)
    obtain ⟨t, fa, et, ht, hf⟩ := rel.get _ _ _ hv1 hr1
    rw [et] at hv1
    have hrm : rs[vs.length - 1] ∈ rs := List.getElem_mem _
    have hro := ro.ok _ hrm
    generalize rs[vs.length - 1] = r at ht hf hrm hro
    have hA : ∀ Q : VK, (∀ x H1, x ∈ r.fits.map V.str → Ex (del H pa) H1 → PuOk H1 pa (b + 3) → Q x H1) → tCall spOneOf [] E0 (tCons (tVar 0) (tCons (tOp (rIxT K) (tOp (rIxL K) (tVar 1) (tUn (rU fun i => .int (-i)) (tC (.int 1)))) (tC (.int 1))) tNil)) ([some (.ref pa), some (.ref ra), some (.ref sd), some (.ref wd), none, none] : L2.St) H Q := fun Q qq =>
      run_one (ev_var rfl) (ev_ixT (ev_ixL (ev_var rfl) (ev_un ev_c ru_neg) (sq_get (e0 _ _ hra)) (atI_neg1 hv1)) ev_c (st_get (e0 _ _ ht)) (atI_get (i := 1) rfl)) (xs := r.fits.map V.str) (by
        rw [del_ne]
        · exact e0 _ _ hf
        · intro z
          rw [z, n1] at hf; cases hf) (by simpa using hro.ne) (by rw [List.length_map]; have := hro.few; omega) pu (by omega) (del_self _ _) (del_ex _ _) qq
    refine hA _ fun x H1 hx e1 pu1 => ?_
    obtain ⟨k, hk, rfl⟩ := List.mem_map.mp hx
    have hst1 : H1 sd = some (.dK (mI st)) := e1 _ _ (by rw [del_ne hsp]; exact hst)
    have hws1 : H1 wd = some (.dT (mI ws)) := e1 _ _ (by rw [del_ne hwp]; exact hws)
    refine ⟨_, rfl, _, rfl, wd, mI ws, rfl, hws1, by rw [len_mI]; omega, fun z hz => ?_, fun p bs hp hbl hbs => ?_⟩
    · obtain ⟨y, hy, rfl⟩ := List.mem_map.mp hz
      obtain ⟨a, c, e, _⟩ := wk.2 y hy
      exact ⟨a, c, e⟩
    have e2 := Ex.new (o := .lst (bs.map V.ref)) hp
    have pp : p ≠ pa := (pu1.ne hp).symm
    rw [len_mI] at hbl
    refine ⟨pa, p, bs.map V.ref, b + 3, del (upd H1 p (.lst (bs.map V.ref))) pa, rfl, by rw [del_ne pp]; exact upd_same, fun e => ?_, by rw [List.length_map]; omega, pu1.mono e2 (Int.le_refl _), by omega, del_self _ _, del_ex _ _, fun y H2 hy e3 pu2 => ⟨.str k, y, rfl, ?_⟩⟩
    · have := congrArg List.length e
      rw [List.length_map, List.length_nil, hbl] at this
      exact wne (List.eq_nil_of_length_eq_zero this)
    obtain ⟨bb, hbb, rfl⟩ := List.mem_map.mp hy
    obtain ⟨z, hz, hzb⟩ := hbs bb hbb
    obtain ⟨y, hym, rfl⟩ := List.mem_map.mp hz
    obtain ⟨key, i⟩ := y
    have hkey : key ∈ ws.map (·.1) := List.mem_map.mpr ⟨_, hym, rfl⟩
    have hzb : H1 bb = some (.tup (key.map kV)) := hzb
    have hbp : bb ≠ pa := pu1.neT hzb
    have eB : Ex (del H1 pa) H2 := (ex_del ((del_ex _ _).trans e2) (del_self _ _)).trans e3
    have hb2 : H2 bb = some (.tup (key.map kV)) := eB _ _ (by rw [del_ne hbp]; exact hzb)
    have hst2 : H2 sd = some (.dK (mI st)) := eB _ _ (by rw [del_ne hsp]; exact hst1)
    have hws2 : H2 wd = some (.dT (mI ws)) := eB _ _ (by rw [del_ne hwp]; exact hws1)
    have e02 : Ex H0 H2 := (ex_del ((ex_del e0 n1).trans e1) n1).trans eB
    refine q_putS (k := k) (l := st) (v := (lkS st k).getD 0 + 1) (ev_add (ev_get2S (ev_var rfl) (ev_var rfl) ev_c hst2) ev_c) (ev_var rfl) (ev_var rfl) hst2 (by omega) fun H3 e4 => ?_
    have hbs' : bb ≠ sd := fun z => by rw [z, hst2] at hb2; cases hb2
    have hbw : bb ≠ wd := fun z => by rw [z, hws2] at hb2; cases hb2
    have hb4 : (upd H3 sd (.dK (mI (withT st k 1)))) bb = some (.tup (key.map kV)) := by rw [upd_ne hbs']; exact e4 _ _ hb2
    have hs4 : (upd H3 sd (.dK (mI (withT st k 1)))) sd = some (.dK (mI (withT st k 1))) := upd_same
    have hw4 : (upd H3 sd (.dK (mI (withT st k 1)))) wd = some (.dT (mI ws)) := by rw [upd_ne hsw.symm]; exact e4 _ _ hws2
    have e04 : Ex H0 (upd H3 sd (.dK (mI (withT st k 1)))) := Ex.mut (e02.trans e4) n2
    have pu4 : PuOk (upd H3 sd (.dK (mI (withT st k 1)))) pa (b + 3 + 3) := (pu2.mono e4 (Int.le_refl _)).upd hsp.symm
    show sDPut _ _ _ _ _ (upd H3 sd (.dK (mI (withT st k 1))))
    generalize (upd H3 sd (.dK (mI (withT st k 1)))) = H4 at hb4 hs4 hw4 e04 pu4 ⊢
    obtain ⟨v, hv⟩ := Option.isSome_iff_exists.mp (lkI_isSome.mpr hkey)
    refine s_putT (b := bb) (k := key) (l := ws) (v := 6 - gtI ws key) (ev_sub ev_c (ev_dget (ev_var rfl) (ev_var rfl) fun H5 e5 => ?_)) (ev_var rfl) (ev_var rfl) hb4 hw4 (by omega) fun H5 e5 => q k key _ ⟨r, hrm, hk⟩ hkey (Ex.mut (e04.trans e5) n3) (by rw [upd_ne hsw]; exact e5 _ _ hs4) upd_same (((pu4.mono e5 (Int.le_refl _)).upd hwp.symm).le (by omega))
    have := dget_tup hw4 hb4 H5 e5
    rw [valV_mI, hv] at this
    unfold gtI
    rw [hv]
    exact this
theorem HIn.up {S : List Key} {m m' : Int} {st : List (Key × Int)} (h : HIn S m st) (hm : m ≤ m') : HIn S m' st := ⟨h.nd, h.ks, fun x hx => ⟨(h.v x hx).1, Int.le_trans (h.v x hx).2 hm⟩⟩
theorem HIn.withT {S : List Key} {m : Int} {st : List (Key × Int)} (h : HIn S m st) (m0 : 0 ≤ m) {k : Str} (hk : .inr k ∈ S) : HIn S (m + 1) (withT st k 1) := by
  have hv : 0 ≤ (lkS st k).getD 0 ∧ (lkS st k).getD 0 ≤ m := by
    cases e : lkS st k with
    | none => exact ⟨Int.le_refl 0, m0⟩
    | some v => exact h.v _ (mem_of_lkI e)
  exact (h.up (by omega)).put hk (by omega) (by omega)
theorem tame_of {rs : List K59.Row} {st : List (Key × Int)} {ws : List (List Key × Int)} {S : List Key} {m : Int} (h : HIn S m st) (m0 : 0 ≤ m) (m4 : m ≤ 4) (hS : S.length ≤ 6) (hk : ∀ r ∈ rs, ∀ k ∈ r.fits, .inr k ∈ S) (hw : ∀ x ∈ ws, x.2 ≤ 10 ^ 12) : Tame rs st ws := ⟨fun k hks => by
  obtain ⟨r, hr, hkr⟩ := ((sortsOf_is rs).mem k).mp hks
  have := (h.withT m0 (hk r hr k hkr)).len
  omega, fun x hx => Int.le_trans (h.v x hx).2 m4, hw⟩
theorem lin_of {H : Hp} {ra sd wd : Addr} {rs : List K59.Row} {st : List (Key × Int)} {ws : List (List Key × Int)} {S : List Key} {m : Int} (hr : LRowsL H ra rs) (ro : RowsOk rs) (hs : H sd = some (.dK (mI st))) (hw : H wd = some (.dT (mI ws))) (wo : WsOk ws rs) (h : HIn S m st) (m4 : m ≤ 5) (hS : S.length ≤ 6) (hn : ∀ x ∈ S, ∃ k, x = .inr k ∧ NameOk k) : LIn H ra sd wd rs st ws :=
  ⟨hr, ro, hs, h.ok hn hS, hw, wo, fun x hx => Int.le_trans (h.v x hx).2 m4, Nat.le_trans h.len hS⟩
theorem LineAt.delPu {H : Hp} {pa l : Addr} {b : Int} {rs : List K59.Row} (pu : PuOk H pa b) (h : LineAt CL H l rs) : LineAt CL (del H pa) l rs := by
  obtain ⟨dx, a, e, h1, vs, h2, rel⟩ := h
  exact ⟨dx, a, e, by rw [del_ne (pu.neK h1 fun _ z => nomatch z)]; exact h1, vs, by rw [del_ne (pu.neT h2)]; exact h2, rel.imp fun v r ⟨t, f, a, c, d⟩ => ⟨t, f, a, by rw [del_ne (pu.neT c)]; exact c, by rw [del_ne (pu.neT d)]; exact d⟩⟩
theorem LineAt.del {H : Hp} {x l : Addr} {rs : List K59.Row} {u : HO} (hx : H x = some u) (h0 : ∀ C dx fs, u ≠ .ins C dx fs) (h2 : ∀ xs, u ≠ .tup xs) (h : LineAt CL H l rs) : LineAt CL (del H x) l rs := by
  obtain ⟨dx, a, e, h1, vs, g2, rel⟩ := h
  exact ⟨dx, a, e, del_of h1 hx fun z => h0 _ _ _ z.symm, vs, del_of g2 hx fun z => h2 _ z.symm, rel.imp fun v r ⟨t, f, a, c, d⟩ => ⟨t, f, a, del_of c hx fun z => h2 _ z.symm, del_of d hx fun z => h2 _ z.symm⟩⟩
def spAgain : Sp := fun vs H Q _ => ∃ (pa ra sd wd : Addr) (rs : List K59.Row) (st : List (Key × Int)) (ws : List (List Key × Int)) (S : List Key) (b : Int) (H0 : Hp), vs = [.ref pa, .ref ra, .ref sd, .ref wd] ∧ LRowsL H0 ra rs ∧ RowsOk rs ∧ H sd = some (.dK (mI st)) ∧ H wd = some (.dT (mI ws)) ∧ HIn S 3 st ∧ S.length ≤ 6 ∧ (∀ x ∈ S, ∃ k, x = .inr k ∧ NameOk k) ∧ (∀ r ∈ rs, ∀ k ∈ r.fits, .inr k ∈ S) ∧
  WsOk ws rs ∧ WsK ws ∧ (∀ x ∈ ws, -10 ^ 10 ≤ x.2 ∧ x.2 ≤ 10 ^ 10) ∧ PuOk H pa b ∧ b ≤ 2 ^ 28 ∧ H0 pa = none ∧ H0 sd = none ∧ H0 wd = none ∧ Ex H0 H ∧ ∀ H', Ex H0 H' → PuOk H' pa (b + 6) → Q (.bl true) H'
theorem d_L_again_right {f : Addr} {fd : FuncData} (F : Fun K "_law_again_right" "_law_again_right" s_L_again_right f fd) (T : Txt K mg CA CL CM) (c_L_line_of : CalK P w K mg base 5 "_law_line_of" (spLineOf CL)) (c_L_any : CalK P w K mg base 3 "_law_any" spLAny) (c_least_prices : CalK P w K mg base 6 "least_prices" (spLeastP CL)) (c_greatest_prices : CalK P w K mg base 6 "greatest_prices" (spGreatP CL))
    (c_L_altered : CalK P w K mg base 4 "_law_altered" spAltered) (c_L_ends_right : CalK P w K mg base 4 "_law_ends_right" spLEnds) : FnOk P w K mg base CX0 7 f fd ["_law_purse_here", "_law_rows_here", "_law_stock", "_law_worths_here"] spAgain := by
  refine F.ok sc_L_again_right (fun vs H Q E h => ?_) (fun cdv A outer sx H vs Q E hr h => ?_)
  · obtain ⟨_, _, _, _, _, _, _, _, _, _, rfl, _⟩ := h
    rfl
  · obtain ⟨pa, ra, sd, wd, rs, st, ws, S, b, H0, rfl, hra, ro, hst, hws, hin, hS, hSn, hSk, wo, wk, wv, pu, hb, n1, n2, n3, e0, q⟩ := h
    refine ⟨_, (pss_cons (ps_set (i := 4) sc_L_again_right.nd rfl (Or.inl rfl) (ec c_L_line_of hr (by decide) rfl (pa_cons (pv 1) pa_nil)))
    (pss_cons (ps_expr (ec c_least_prices hr (by decide) rfl (pa_cons (pv 4) (pa_cons (pv 2) (pa_cons (pv 3) pa_nil)))))
    (pss_cons (ps_expr (ec c_greatest_prices hr (by decide) rfl (pa_cons (pv 4) (pa_cons (pv 2) (pa_cons (pv 3) pa_nil)))))
    (pss_cons (ps_expr (ec c_L_altered hr (by decide) rfl (pa_cons (pv 0) (pa_cons (pv 1) (pa_cons (pv 2) (pa_cons (pv 3) pa_nil))))))
    (pss_cons (ps_set (i := 5) sc_L_again_right.nd rfl (Or.inl rfl) (ec c_L_any hr (by decide) rfl (pa_cons (pv 1) (pa_cons (pv 2) (pa_cons (pv 3) pa_nil)))))
    (pss_cons (ps_par (i := 6) (j := 7) (by rfl) sc_L_again_right.nd rfl rfl (by decide) rfl rfl (pa_cons (pe_ix (ixTK K rfl) (ec c_least_prices hr (by decide) rfl (pa_cons (pv 4) (pa_cons (pv 2) (pa_cons (pv 3) pa_nil)))) pe_int (fun _ _ => rfl)) (pa_cons (pe_ix (ixTK K rfl) (ec c_greatest_prices hr (by decide) rfl (pa_cons (pv 4) (pa_cons (pv 2) (pa_cons (pv 3) pa_nil)))) pe_int (fun _ _ => rfl)) pa_nil)) (by rfl))
    (pss_one (ps_ret (ec c_L_ends_right hr (by decide) rfl (pa_cons (pv 1) (pa_cons (pv 2) (pa_cons (pv 3) (pa_cons (pv 5) (pa_cons (pv 6) (pa_cons (pv 7) pa_nil))))))))))))))), ?_⟩
    have hsp : sd ≠ pa := pu.neK hst (fun _ z => nomatch z)
    have hwp : wd ≠ pa := pu.neK hws (fun _ z => nomatch z)
    have hsw : sd ≠ wd := fun z => by rw [z, hws] at hst; cases hst
    have so := hin.ok hSn hS
    refine ⟨_, rfl, ra, rs, rfl, hra.mono e0, ro, fun lo H1 hlo e1 la => ?_⟩
    have I1 : In3 CL H1 lo sd wd rs st ws := ⟨la, ro, e1 _ _ hst, so, e1 _ _ hws, wo⟩
    refine ⟨_, rfl, _, rfl, _, rfl, lo, sd, wd, rs, st, ws, rfl, I1, fun pl ld le lf H2 hpl hld hle e2 _ _ _ _ _ _ => ?_⟩
    have I2 := I1.mono e2
    refine ⟨_, rfl, _, rfl, _, rfl, lo, sd, wd, rs, st, ws, rfl, I2, fun ph hd he gr H3 hph hhd hhe e3 _ _ _ _ _ => ?_⟩
    have I3 := I2.mono e3
    have e13 := (e1.trans e2).trans e3
    have pu3 := pu.mono e13 (Int.le_refl _)
    have hs3 : del H3 pa sd = some (.dK (mI st)) := by rw [del_ne hsp]; exact I3.sd
    have hw3 : del (del H3 pa) sd wd = some (.dT (mI ws)) := by rw [del_ne hsw.symm, del_ne hwp]; exact I3.wd
    have hra3 : LRowsL (del (del (del H3 pa) sd) wd) ra rs := (((hra.mono (e0.trans e13)).delPu pu3).del hs3 (fun _ z => nomatch z) (fun _ z => nomatch z)).del hw3 (fun _ z => nomatch z) (fun _ z => nomatch z)
    have hla3 : LineAt CL (del (del (del H3 pa) sd) wd) lo rs := ((I3.line.delPu pu3).del hs3 (fun _ _ _ z => nomatch z) (fun _ z => nomatch z)).del hw3 (fun _ _ _ z => nomatch z) (fun _ z => nomatch z)
    have hwl : ws.length ≤ 36 := by have := places_len ro.small; have := wo.len; omega
    have hwne : ws ≠ [] := fun e => by
      have h1 : 0 < rs.length := List.length_pos_iff.mpr ro.ne
      have hm : rs[0] ∈ rs := List.getElem_mem h1
      obtain ⟨k, hk⟩ := List.exists_mem_of_ne_nil _ (ro.ok _ hm).ne
      have := wo.has (rs[0].name, k) (List.mem_flatMap.mpr ⟨_, hm, List.mem_map.mpr ⟨k, hk, rfl⟩⟩)
      rw [e] at this
      cases this
    refine ⟨_, rfl, _, rfl, _, rfl, _, rfl, pa, ra, sd, wd, rs, st, ws, b, del (del (del H3 pa) sd) wd, rfl, hra3, ro, I3.sd, so.few, I3.wd, wk, hwne, hwl, pu3, by omega, ?_, ?_, del_self _ _, (del_ex _ _).trans ((del_ex _ _).trans (del_ex _ _)), fun k key H4 hk hkey e4 hs4 hw4 pu4 => ?_⟩
    · rw [del_ne hwp.symm, del_ne hsp.symm]; exact del_self _ _
    · rw [del_ne hsw]; exact del_self _ _
    have e04 : Ex H0 H4 := (ex_del (ex_del (ex_del (e0.trans e13) n1) n2) n3).trans e4
    obtain ⟨r, hrm, hkr⟩ := hk
    have hin4 : HIn S 4 (withT st k 1) := hin.withT (by decide) (hSk r hrm k hkr)
    have hgv : -10 ^ 10 ≤ gtI ws key ∧ gtI ws key ≤ 10 ^ 10 := by
      obtain ⟨v, hv⟩ := Option.isSome_iff_exists.mp (lkI_isSome.mpr hkey)
      unfold gtI
      rw [hv]
      exact wv _ (mem_of_lkI hv)
    have wo4 : WsOk (putI ws key (6 - gtI ws key)) rs := ⟨by rw [length_put_has (lkI_isSome.mpr hkey)]; exact wo.len, fun x hx => by
      rw [lkI_put]
      split
      · rfl
      · exact wo.has x hx⟩
    have L4 : LIn H4 ra sd wd rs (withT st k 1) (putI ws key (6 - gtI ws key)) := lin_of (hra3.mono e4) ro hs4 hw4 wo4 hin4 (by decide) hS hSn
    have tm : Tame rs (withT st k 1) (putI ws key (6 - gtI ws key)) := tame_of hin4 (by decide) (by decide) hS hSk (val_put (p := fun v => v ≤ 10 ^ 12) (fun x hx => by have := (wv x hx).2; omega) (by omega))
    have I4 : In3 CL H4 lo sd wd rs (withT st k 1) (putI ws key (6 - gtI ws key)) := ⟨hla3.mono e4, ro, hs4, hin4.ok hSn hS, hw4, wo4⟩
    generalize withT st k 1 = st' at *
    generalize putI ws key (6 - gtI ws key) = ws' at *
    refine ⟨_, rfl, _, rfl, _, rfl, ra, sd, wd, rs, st', ws', rfl, L4, fun due H5 e5 hdue => ?_⟩
    refine ⟨_, rfl, _, rfl, _, rfl, lo, sd, wd, rs, st', ws', rfl, I4.mono e5, fun pl2 ld2 le2 lf2 H6 hpl2 hld2 hle2 e6 p1 p2 p3 kl ol ll => ⟨pl2, _, 0, _, rfl, rfl, st_get p1, rfl, ?_⟩⟩
    refine ⟨_, rfl, _, rfl, _, rfl, lo, sd, wd, rs, st', ws', rfl, (I4.mono e5).mono e6, fun ph2 hd2 he2 gr2 H7 hph2 hhd2 hhe2 e7 g1 g2 g3 kg gg => ⟨ph2, _, 0, _, rfl, rfl, st_get g1, rfl, _, _, rfl, ?_⟩⟩
    have L7 := ((L4.mono e5).mono e6).mono e7
    have nsl : sd ≠ ld2 := ne_of_none (e5 _ _ hs4) hld2
    have ngl : hd2 ≠ ld2 := fun z => by rw [z, p2] at hhd2; cases hhd2
    refine ⟨_, rfl, _, rfl, _, rfl, _, rfl, _, rfl, _, rfl, ra, sd, wd, ld2, hd2, due, rs, st', ws', lf2, gr2, rfl, L7, tm, hdue, nsl, ngl, e7 _ _ p2, g2, kl, ol, ll, kg, gg, fun H8 e8 => q H8 (e04.trans ((e5.trans e6).trans (e7.trans e8))) (pu4.mono ((e5.trans e6).trans (e7.trans e8)) (Int.le_refl _))⟩
end
end K59
namespace K59
open PySem PySem.Spec PyProof.Rows L2 Evl
section
variable {P : Program} {w : World} {K : PySem.W.Frag} {mg : Str → Option Value} {base : Heap} {CA CL CM : Addr}
def PuAt (i : Int) : RN := fun p H => ∃ z s : Int, H p = some (.lst [.int z, .int s, .int 0, .int i]) ∧ 0 ≤ z ∧ 0 ≤ s ∧ s < 2 ^ 32
def spPurse (K : PySem.W.Frag) : Sp := fun vs H Q _ => ∃ (sc : Addr) (ns : List Int) (i : Nat), vs = [.ref sc, .int (i : Int)] ∧ SqL K H sc (ns.map V.int) ∧ i ≤ 63 ∧ ∀ p z s H', H p = none → Ex H H' → H' p = some (.lst [.int z, .int s, .int 0, .int (i : Int)]) → 0 ≤ z → 0 ≤ s → s < 2 ^ 32 → Q (.ref p) H'
theorem ev_powS {σ : L2.St} {H : Hp} {ta tb : TE} {i j : Int} (ha : Ev ta σ H (.int i)) (hb : Ev tb σ H (.int j)) (h : CPowS i j) : Ev (tOp (rI CPowS fun i j => .int (i ^ j.toNat)) ta tb) σ H (.int (i ^ j.toNat)) := ev_op ha hb (rv_I h)
theorem cutV_map {α : Type} (f : α → V) (l : List α) (lo hi : Option Int) : ∃ l' : List α, cutV (l.map f) lo hi = l'.map f := by
  unfold cutV
  rw [← List.map_drop, ← List.map_take]
  exact ⟨_, rfl⟩
theorem d_L_purse {f : Addr} {fd : FuncData} (F : Fun K "_law_purse" "_law_purse" s_L_purse f fd) (T : Txt K mg CA CL CM) : FnOk P w K mg base CX0 1 f fd ["_law_script", "_law_at"] (spPurse K) := by
  refine F.ok sc_L_purse (fun vs H Q E h => ?_) (fun cdv A outer sx H vs Q E hr h => ?_)
  · obtain ⟨_, _, _, rfl, _⟩ := h
    rfl
  · obtain ⟨sc, ns, i, rfl, hs, hi, q⟩ := h
    refine ⟨_, (pss_cons (ps_set (i := 2) sc_L_purse.nd rfl (Or.inl rfl) (pe_callB (sumK K rfl rfl) (by rfl) T.g_sum boot_sum (pa_cons (pe_slice (slLK K rfl) (pv 0) (po_some (pv 1)) (po_some (pe_op op_add (pv 1) pe_int))) pa_nil)))
    (pss_one (ps_ret (pe_lst (pa_cons (pe_op op_mod (pe_callB (call_max2 rfl) (by rfl) T.g_max boot_max (pa_cons (pe_op op_sub (pv 2) (pe_op op_powS pe_int pe_int)) (pa_cons pe_int pa_nil))) (pe_op op_powS (pe_op op_powS pe_int pe_int) pe_int)) (pa_cons (pe_op op_mod (pv 2) pe_int) (pa_cons pe_int (pa_cons (pv 1) pa_nil)))))))), ?_⟩
    obtain ⟨l', hl'⟩ := cutV_map V.int ns (some (i : Int)) (some ((i : Int) + 1))
    refine q_asg (v := .int l'.sum) (ev_sumL (ns := l') fun H1 e Q q => ⟨_, rfl, _, rfl, (i : Int), rfl, _, rfl, (i : Int), 1, rfl, rfl, (i : Int) + 1, rfl, sc, _, rfl, ex_l e hs, fun p hp => q p _ hp (Ex.new hp) (by rw [upd_same, hl'])⟩) fun H1 e1 => ?_
    have hp : (0 : Int) < (10 ^ (60 : Int).toNat) ^ (8 : Int).toNat := by decide +kernel
    have c0 := Int.emod_nonneg l'.sum (show (2147483629 : Int) ≠ 0 by decide)
    have c1 := Int.emod_lt_of_pos l'.sum (show (0 : Int) < 2147483629 by decide)
    refine s_retL (xs := [.int ((if 0 > l'.sum - 10 ^ (18 : Int).toNat then 0 else l'.sum - 10 ^ (18 : Int).toNat) % (10 ^ (60 : Int).toNat) ^ (8 : Int).toNat), .int (l'.sum % 2147483629), .int 0, .int (i : Int)]) (el_lst (ea_cons (ev_mod (ev_max2 (ev_sub (ev_var rfl) (ev_powS ev_c ev_c ⟨by decide, by decide +kernel⟩)) ev_c) (ev_powS (ev_powS ev_c ev_c ⟨by decide, by decide +kernel⟩) ev_c ⟨by decide, by decide +kernel⟩) hp) (ea_cons (ev_mod (ev_var rfl) ev_c (by decide)) (ea_cons ev_c (ea_cons (ev_var rfl) ea_nil)))) (by simp)) fun p H2 hp2 e2 h2 => ?_
    exact q p _ _ H2 (fresh_back e1 hp2) (e1.trans e2) h2 (Int.emod_nonneg _ (by omega)) c0 (by omega)
def spPurses (K : PySem.W.Frag) : Sp := fun vs H Q _ => ∃ (sc : Addr) (ns : List Int), vs = [.ref sc, .int 2] ∧ SqL K H sc (ns.map V.int) ∧ ns.length ≤ 63 ∧ ∀ p (ps : List Addr) H', H p = none → Ex H H' → H' p = some (.lst (ps.map V.ref)) → ps.Nodup → 1 ≤ ps.length → ps.length ≤ 2 → (∀ q ∈ ps, PuOk H' q 0) → Q (.ref p) H'
theorem puAt_ok {i : Int} {p : Addr} {H : Hp} (h : PuAt i p H) (h0 : 0 ≤ i) (h1 : i ≤ 63) : PuOk H p 0 := by
  obtain ⟨z, s, a, b, c, d⟩ := h
  exact ⟨z, s, 0, i, a, b, c, d, by decide, by decide, h0, by omega⟩
theorem puAt_ne {i j : Int} {p q : Addr} {H : Hp} (h : PuAt i p H) (g : PuAt j q H) (hij : i ≠ j) : p ≠ q := fun e => by
  obtain ⟨z, s, a, _⟩ := h
  obtain ⟨z', s', a', _⟩ := g
  rw [e, a'] at a
  have := HO.lst.inj (Option.some.inj a)
  injection this with _ this
  injection this with _ this
  injection this with _ this
  injection this with this _
  exact hij (V.int.inj this).symm
theorem d_L_purses {f : Addr} {fd : FuncData} (F : Fun K "_law_purses" "_law_purses" s_L_purses f fd) (T : Txt K mg CA CL CM) (c_L_purse : CalK P w K mg base 1 "_law_purse" (spPurse K)) : FnOk P w K mg base CX0 2 f fd ["_law_script", "_law_few"] (spPurses K) := by
  refine F.ok sc_L_purses (fun vs H Q E h => ?_) (fun cdv A outer sx H vs Q E hr h => ?_)
  · obtain ⟨_, _, rfl, _⟩ := h
    rfl
  · obtain ⟨sc, ns, rfl, hs, hl, q⟩ := h
    refine ⟨_, (pss_one (ps_ret (pe_lc (own := [("_law_at", 2)]) (g := (gName 2)) (tt := tYes) rfl sc_L_purses.nd (pi_range1 rfl T.g_range (pa_cons (pe_callB (call_max2 rfl) (by rfl) T.g_max boot_max (pa_cons pe_int (pa_cons (pe_callB (call_min2 rfl) (by rfl) T.g_min boot_min (pa_cons (pv 1) (pa_cons (pe_callB (lenK K rfl) (by rfl) T.g_len boot_len (pa_cons (pv 0) pa_nil)) pa_nil))) pa_nil))) pa_nil)) (blkOk_by (own := [("_law_at", 2)]) (N := ["_law_script", "_law_few", "_law_at"]) (sc := defScope s_L_purses) (by decide +kernel)) (fun _ _ _ _ _ => (pg_name (i := 2) sc_L_purses.nd rfl (by first | exact Or.inl rfl | exact Or.inr rfl))) (fun _ _ _ _ _ => pts_nil) (fun _ _ _ _ _ => (ec c_L_purse hr (by decide) rfl (pa_cons (pv 0) (pa_cons (pv 2) pa_nil))))))), ?_⟩
    obtain ⟨n, hn, hn12⟩ : ∃ n : Nat, (n : Int) = (if (if (ns.length : Int) < 2 then (ns.length : Int) else 2) > 1 then (if (ns.length : Int) < 2 then (ns.length : Int) else 2) else 1) ∧ (n = 1 ∨ n = 2) := by
      by_cases h : 2 ≤ ns.length
      · exact ⟨2, by rw [if_neg (show ¬ (ns.length : Int) < 2 by omega), if_pos (by decide)]; rfl, .inr rfl⟩
      · refine ⟨1, ?_, .inl rfl⟩
        rw [if_pos (show (ns.length : Int) < 2 by omega), if_neg (by omega)]; rfl
    refine s_retN (R := NewL (gvN n (fun _ => true) fun j => PuAt (j : Int))) (en_lcR (fun _ => true) (fun j => PuAt (j : Int)) (Ex.refl H) (ea1 (ev_is (ev_max2 ev_c (ev_min2 (ev_var rfl) (ev_is (ev_len (ev_var rfl) hs) (by rw [List.length_map])))) (by rw [hn]))) (by omega) fun i H1 e1 hi => ⟨_, fun _ q => q, rfl, et_yes, fun _ => fun H2 e2 Q qq => ⟨_, rfl, _, rfl, sc, ns, i, rfl, ex_l (e1.trans e2) hs, by omega, fun p z s H3 hp e3 h3 z0 s0 s1 => qq p H3 hp e3 ⟨_, h3⟩ fun Hx _ k => ⟨z, s, k _ _ hp h3, z0, s0, s1⟩⟩⟩) fun p H1 hp e1 nw => ?_
    obtain ⟨ps, hps, rl, rg⟩ := nw.now (Ex.refl _) e1
    rcases hn12 with h | h
    · subst h
      match ps, rl with
      | [a], _ =>
        have pa := rg 0 a _ rfl rfl
        exact q p [a] H1 hp e1 hps (by simp) (by simp) (by simp) fun y hy => by
          rw [List.mem_singleton] at hy
          subst hy
          exact puAt_ok pa (by decide) (by decide)
    · subst h
      match ps, rl with
      | [a, b], _ =>
        have pa := rg 0 a _ rfl rfl
        have pb := rg 1 b _ rfl rfl
        have ne := puAt_ne pa pb (by decide)
        exact q p [a, b] H1 hp e1 hps (by simpa using ne) (by simp) (by simp) fun y hy => by
          simp only [List.mem_cons, List.not_mem_nil, or_false] at hy
          rcases hy with rfl | rfl
          · exact puAt_ok pa (by decide) (by decide)
          · exact puAt_ok pb (by decide) (by decide)
end
end K59
/-! W15: the written example: two askers, two kinds. -/
namespace K59
open PySem PySem.Spec PyProof.Rows L2 Evl
def rsX : List K59.Row := [⟨"ann", ["o"], 1⟩, ⟨"bob", ["a", "o"], 2⟩]
def wsX (w1 w2 w3 : Int) : List (List Key × Int) := [([.inr "ann", .inr "o"], w1), ([.inr "bob", .inr "o"], w2), ([.inr "bob", .inr "a"], w3)]
def stX : List (Key × Int) := [(.inr "a", 1), (.inr "o", 1)]
theorem rowOk_X : ∀ r ∈ rsX, NameOk r.name ∧ r.fits ≠ [] ∧ r.fits.Nodup ∧ sortedS r.fits = true ∧ (∀ k ∈ r.fits, NameOk k) ∧ r.fits.length ≤ 6 ∧ 1 ≤ r.most ∧ r.most ≤ 2 := by
  intro r hr
  simp only [rsX, List.mem_cons, List.not_mem_nil, or_false] at hr
  rcases hr with rfl | rfl <;> decide +kernel
theorem rsX_ok : RowsOk rsX := ⟨fun r hr => let ⟨a, b, c, d, e, f, g, h⟩ := rowOk_X r hr; ⟨a, b, c, d, e, f, g, h⟩, by decide +kernel, by simp [rsX], by decide⟩
theorem sorts_X : sortsOf rsX = (["a", "o"] : List Str) := (sortsOf_is rsX).one ⟨by decide +kernel, fun z => by
  constructor
  · intro h
    simp only [List.mem_cons, List.not_mem_nil, or_false] at h
    rcases h with rfl | rfl
    · exact ⟨⟨"bob", ["a", "o"], 2⟩, by simp [rsX], by simp⟩
    · exact ⟨⟨"bob", ["a", "o"], 2⟩, by simp [rsX], by simp⟩
  · rintro ⟨r, hr, hz⟩
    simp only [rsX, List.mem_cons, List.not_mem_nil, or_false] at hr
    rcases hr with rfl | rfl
    · simp only [List.mem_cons, List.not_mem_nil, or_false] at hz ⊢
      exact .inr hz
    · exact hz, by decide +kernel⟩
theorem wsX_ok (w1 w2 w3 : Int) : WsOk (wsX w1 w2 w3) rsX := by
  refine ⟨rfl, fun x hx => ?_⟩
  have : x ∈ [(("ann" : Str), ("o" : Str)), ("bob", "a"), ("bob", "o")] := hx
  simp only [List.mem_cons, List.not_mem_nil, or_false] at this
  rcases this with rfl | rfl | rfl <;> rfl
theorem stX_ok : StOk stX := ⟨fun x hx => by
  simp only [stX, List.mem_cons, List.not_mem_nil, or_false] at hx
  rcases hx with rfl | rfl
  · exact ⟨"a", rfl, by decide +kernel⟩
  · exact ⟨"o", rfl, by decide +kernel⟩, fun x hx => by
  simp only [stX, List.mem_cons, List.not_mem_nil, or_false] at hx
  rcases hx with rfl | rfl <;> decide, by decide +kernel, by decide⟩
theorem stN_ok : StOk [] := ⟨fun x hx => by simp at hx, fun x hx => by simp at hx, by simp, by decide⟩
section
variable {w1 w2 w3 : Int}
theorem w_X1 : (theI rsX (wsX w1 w2 w3)).w 0 "o" = w1 := rfl
theorem w_X2 : (theI rsX (wsX w1 w2 w3)).w 1 "o" = w2 := rfl
theorem w_X3 : (theI rsX (wsX w1 w2 w3)).w 1 "a" = w3 := rfl
theorem ao : ¬ (("a" : Str) = "o") := by decide +kernel
theorem oa : ¬ (("o" : Str) = "a") := by decide +kernel
def yX (a b c : Int) : Nat → Str → Int := fun i k => if i = 0 then (if k = "o" then a else 0) else if i = 1 then (if k = "a" then b else if k = "o" then c else 0) else 0
def pX (pa po : Int) : Str → Int := fun k => if k = "a" then pa else po
def qX (q0 q1 : Int) : Nat → Int := fun i => if i = 0 then q0 else q1
theorem okX : (theI rsX (wsX w1 w2 w3)).Ok := (mok rsX_ok (wsX_ok w1 w2 w3)).ok
theorem opt_X {s : Str → Int} {sa so a b c pa po q0 q1 M : Int} (hsa : s "a" = sa) (hso : s "o" = so) (a0 : 0 ≤ a) (b0 : 0 ≤ b) (c0 : 0 ≤ c) (a1 : a ≤ 1) (bc : b + c ≤ 2) (ba : b ≤ sa) (ac : a + c ≤ so)
    (pa0 : 0 ≤ pa) (po0 : 0 ≤ po) (q00 : 0 ≤ q0) (q10 : 0 ≤ q1) (h1 : w1 ≤ po + q0) (h2 : w2 ≤ po + q1) (h3 : w3 ≤ pa + q1) (hM : a * w1 + (b * w3 + c * w2) = M) (hD : sa * pa + so * po + (q0 + 2 * q1) = M) : IsOpt (theI rsX (wsX w1 w2 w3)) s M := by
  have hK : (theI rsX (wsX w1 w2 w3)).K = (["a", "o"] : List Str) := sorts_X
  have f : Feas (theI rsX (wsX w1 w2 w3)) s (yX a b c) := by
    refine ⟨fun i k => ?_, fun i k h => ?_, fun i hi => ?_, fun k hk => ?_⟩
    · unfold yX
      repeat' split
      all_goals omega
    · unfold yX at h
      by_cases i0 : i = 0
      · rw [if_pos i0] at h
        by_cases ko : k = "o"
        · subst i0; subst ko
          exact ⟨by show 0 < 2; decide, by show ("o" : Str) ∈ (["o"] : List Str); simp⟩
        · rw [if_neg ko] at h; exact absurd rfl h
      · rw [if_neg i0] at h
        by_cases i1 : i = 1
        · rw [if_pos i1] at h
          subst i1
          refine ⟨by show 1 < 2; decide, ?_⟩
          show k ∈ (["a", "o"] : List Str)
          by_cases ka : k = "a"
          · rw [ka]; simp
          · rw [if_neg ka] at h
            by_cases ko : k = "o"
            · rw [ko]; simp
            · rw [if_neg ko] at h; exact absurd rfl h
        · rw [if_neg i1] at h; exact absurd rfl h
    · have hi : i < 2 := hi
      match i, hi with
      | 0, _ =>
        show sm (["o"] : List Str) (yX a b c 0) ≤ 1
        show a + 0 ≤ 1
        omega
      | 1, _ =>
        show sm (["a", "o"] : List Str) (yX a b c 1) ≤ 2
        show b + (c + 0) ≤ 2
        omega
    · rw [hK] at hk
      simp only [List.mem_cons, List.not_mem_nil, or_false] at hk
      rcases hk with rfl | rfl
      · show (0 + (b + 0)) ≤ s "a"
        omega
      · show (a + (c + 0)) ≤ s "o"
        omega
  have hw : (theI rsX (wsX w1 w2 w3)).worth (yX a b c) = M := by
    show (a * w1 + 0) + ((b * w3 + (c * w2 + 0)) + 0) = M
    omega
  have hd : (theI rsX (wsX w1 w2 w3)).dobj s (pX pa po) (qX q0 q1) = M := by
    unfold Inst.dobj
    rw [hK]
    show s "a" * pa + (s "o" * po + 0) + (1 * q0 + (2 * q1 + 0)) = M
    rw [hsa, hso]
    omega
  have hh : Holds (theI rsX (wsX w1 w2 w3)) (pX pa po) (qX q0 q1) := by
    refine ⟨fun k _ => by unfold pX; split <;> assumption, fun i _ => by unfold qX; split <;> assumption, fun i hi k hk => ?_⟩
    have hi : i < 2 := hi
    match i, hi with
    | 0, _ =>
      have hk : k ∈ (["o"] : List Str) := hk
      rw [List.mem_singleton] at hk
      subst hk
      exact h1
    | 1, _ =>
      have hk : k ∈ (["a", "o"] : List Str) := hk
      simp only [List.mem_cons, List.not_mem_nil, or_false] at hk
      rcases hk with rfl | rfl
      · exact h3
      · exact h2
  exact ⟨fun y hy => by have := weak okX hy hh; omega, _, f, hw⟩
theorem stk_Xa : stk stX "a" = 1 := by decide +kernel
theorem stk_Xo : stk stX "o" = 1 := by decide +kernel
theorem stk_X0 (k : Str) : 0 ≤ stk stX k := stk_nn stX_ok k
theorem mem_a : ("a" : Str) ∈ sortsOf rsX := by rw [sorts_X]; simp
theorem mem_o : ("o" : Str) ∈ sortsOf rsX := by rw [sorts_X]; simp
theorem incXa : inc (stk stX) "a" "a" = 2 ∧ inc (stk stX) "a" "o" = 1 := by
  unfold inc
  rw [if_pos rfl, if_neg oa, stk_Xa, stk_Xo]
  exact ⟨rfl, rfl⟩
theorem incXo : inc (stk stX) "o" "a" = 1 ∧ inc (stk stX) "o" "o" = 2 := by
  unfold inc
  rw [if_pos rfl, if_neg ao, stk_Xa, stk_Xo]
  exact ⟨rfl, rfl⟩
/-- the least prices of the example -/
theorem least_X {fd : List (Key × Int)} {M Ma Mo : Int} (o : Opt (theI rsX (wsX w1 w2 w3)) (stk stX) (gf fd)) (l : ∀ p, Opt (theI rsX (wsX w1 w2 w3)) (stk stX) p → ∀ k ∈ sortsOf rsX, gf fd k ≤ p k)
    (m : IsOpt (theI rsX (wsX w1 w2 w3)) (stk stX) M) (ma : IsOpt (theI rsX (wsX w1 w2 w3)) (inc (stk stX) "a") Ma) (mo : IsOpt (theI rsX (wsX w1 w2 w3)) (inc (stk stX) "o") Mo) : gf fd "a" = Ma - M ∧ gf fd "o" = Mo - M :=
  ⟨least_is okX (small_800 rsX_ok) (fun j _ => stk_X0 j) mem_a m ma o fun p op => l p op _ mem_a, least_is okX (small_800 rsX_ok) (fun j _ => stk_X0 j) mem_o m mo o fun p op => l p op _ mem_o⟩
def decS (k : Str) : Str → Int := fun j => if j = k then stk stX j - 1 else stk stX j
theorem dec_inc (k : Str) : inc (decS k) k = stk stX := funext fun j => by
  unfold inc decS
  by_cases e : j = k
  · rw [if_pos e, if_pos e]; omega
  · rw [if_neg e, if_neg e]
theorem dec_nn {k : Str} (h : 1 ≤ stk stX k) (j : Str) : 0 ≤ decS k j := by
  unfold decS
  split
  · rename_i e; rw [e]; omega
  · exact stk_X0 j
theorem decXa : decS "a" "a" = 0 ∧ decS "a" "o" = 1 := by
  unfold decS
  rw [if_pos rfl, if_neg oa, stk_Xa, stk_Xo]
  exact ⟨rfl, rfl⟩
theorem decXo : decS "o" "a" = 1 ∧ decS "o" "o" = 0 := by
  unfold decS
  rw [if_pos rfl, if_neg ao, stk_Xa, stk_Xo]
  exact ⟨rfl, rfl⟩
theorem great_X {fd : List (Key × Int)} {M Ma Mo : Int} (g : Great rsX stX (wsX w1 w2 w3) fd) (m : IsOpt (theI rsX (wsX w1 w2 w3)) (stk stX) M) (ma : IsOpt (theI rsX (wsX w1 w2 w3)) (decS "a") Ma) (mo : IsOpt (theI rsX (wsX w1 w2 w3)) (decS "o") Mo) :
    gf fd "a" = M - Ma ∧ gf fd "o" = M - Mo := by
  constructor
  · exact greatest_is (s := decS "a") okX (small_800 rsX_ok) (fun j _ => dec_nn (by rw [stk_Xa]; decide) j) mem_a ma (by rw [dec_inc]; exact m) (by rw [dec_inc]; exact g.opt) fun p op => g.top p (by rw [dec_inc] at op; exact op) _ mem_a (by rw [stk_Xa]; decide)
  · exact greatest_is (s := decS "o") okX (small_800 rsX_ok) (fun j _ => dec_nn (by rw [stk_Xo]; decide) j) mem_o mo (by rw [dec_inc]; exact m) (by rw [dec_inc]; exact g.opt) fun p op => g.top p (by rw [dec_inc] at op; exact op) _ mem_o (by rw [stk_Xo]; decide)
theorem great_N {fd : List (Key × Int)} (g : Great rsX [] (wsX 5 4 1) fd) : gf fd "a" = 1 ∧ gf fd "o" = 5 := by
  have hz : ∀ j : Str, ¬ 0 < stk [] j := fun j => by
    unfold stk lkS
    rw [lkI_nil]
    decide
  have hf : (fun j => if j ∈ sortsOf rsX ∧ 0 < stk [] j then some (gf fd j) else none : Str → Option Int) = fun _ => none := funext fun j => if_neg fun h => hz j h.2
  have ha := g.rest "a" mem_a (hz _)
  have ho := g.rest "o" mem_o (hz _)
  rw [hf] at ha ho
  rw [ha, ho]
  constructor
  · unfold Inst.rest
    show mx0 (((List.range 2).filter fun i => decide (("a" : Str) ∈ (rsX.getD i default).fits)).map fun i => (theI rsX (wsX 5 4 1)).w i "a" - (theI rsX (wsX 5 4 1)).overP (fun _ => none) i) = 1
    have : (List.range 2).filter (fun i => decide (("a" : Str) ∈ (rsX.getD i default).fits)) = [1] := by decide +kernel
    rw [this]
    rfl
  · unfold Inst.rest
    show mx0 (((List.range 2).filter fun i => decide (("o" : Str) ∈ (rsX.getD i default).fits)).map fun i => (theI rsX (wsX 5 4 1)).w i "o" - (theI rsX (wsX 5 4 1)).overP (fun _ => none) i) = 5
    have : (List.range 2).filter (fun i => decide (("o" : Str) ∈ (rsX.getD i default).fits)) = [0, 1] := by decide +kernel
    rw [this]
    rfl
theorem want_11 : IsOpt (theI rsX (wsX 5 4 1)) (stk stX) 6 := opt_X (a := 1) (b := 1) (c := 0) (pa := 1) (po := 5) (q0 := 0) (q1 := 0) stk_Xa stk_Xo (by decide) (by decide) (by decide) (by decide) (by decide) (by decide) (by decide) (by decide) (by decide) (by decide) (by decide) (by decide) (by decide) (by decide) (by decide) (by decide)
theorem want_21 : IsOpt (theI rsX (wsX 5 4 1)) (inc (stk stX) "a") 7 := opt_X (a := 1) (b := 2) (c := 0) (pa := 1) (po := 5) (q0 := 0) (q1 := 0) incXa.1 incXa.2 (by decide) (by decide) (by decide) (by decide) (by decide) (by decide) (by decide) (by decide) (by decide) (by decide) (by decide) (by decide) (by decide) (by decide) (by decide) (by decide)
theorem want_12 : IsOpt (theI rsX (wsX 5 4 1)) (inc (stk stX) "o") 10 := opt_X (a := 1) (b := 1) (c := 1) (pa := 1) (po := 4) (q0 := 1) (q1 := 0) incXo.1 incXo.2 (by decide) (by decide) (by decide) (by decide) (by decide) (by decide) (by decide) (by decide) (by decide) (by decide) (by decide) (by decide) (by decide) (by decide) (by decide) (by decide)
theorem want_01 : IsOpt (theI rsX (wsX 5 4 1)) (decS "a") 5 := opt_X (a := 1) (b := 0) (c := 0) (pa := 1) (po := 5) (q0 := 0) (q1 := 0) decXa.1 decXa.2 (by decide) (by decide) (by decide) (by decide) (by decide) (by decide) (by decide) (by decide) (by decide) (by decide) (by decide) (by decide) (by decide) (by decide) (by decide) (by decide)
theorem want_10 : IsOpt (theI rsX (wsX 5 4 1)) (decS "o") 1 := opt_X (a := 0) (b := 1) (c := 0) (pa := 1) (po := 5) (q0 := 0) (q1 := 0) decXo.1 decXo.2 (by decide) (by decide) (by decide) (by decide) (by decide) (by decide) (by decide) (by decide) (by decide) (by decide) (by decide) (by decide) (by decide) (by decide) (by decide) (by decide)
theorem dear_11 : IsOpt (theI rsX (wsX 999999999 999999998 1)) (stk stX) 1000000000 := opt_X (a := 1) (b := 1) (c := 0) (pa := 1) (po := 999999999) (q0 := 0) (q1 := 0) stk_Xa stk_Xo (by decide) (by decide) (by decide) (by decide) (by decide) (by decide) (by decide) (by decide) (by decide) (by decide) (by decide) (by decide) (by decide) (by decide) (by decide) (by decide)
theorem dear_21 : IsOpt (theI rsX (wsX 999999999 999999998 1)) (inc (stk stX) "a") 1000000001 := opt_X (a := 1) (b := 2) (c := 0) (pa := 1) (po := 999999999) (q0 := 0) (q1 := 0) incXa.1 incXa.2 (by decide) (by decide) (by decide) (by decide) (by decide) (by decide) (by decide) (by decide) (by decide) (by decide) (by decide) (by decide) (by decide) (by decide) (by decide) (by decide)
theorem dear_12 : IsOpt (theI rsX (wsX 999999999 999999998 1)) (inc (stk stX) "o") 1999999998 := opt_X (a := 1) (b := 1) (c := 1) (pa := 1) (po := 999999998) (q0 := 1) (q1 := 0) incXo.1 incXo.2 (by decide) (by decide) (by decide) (by decide) (by decide) (by decide) (by decide) (by decide) (by decide) (by decide) (by decide) (by decide) (by decide) (by decide) (by decide) (by decide)
theorem dear_01 : IsOpt (theI rsX (wsX 999999999 999999998 1)) (decS "a") 999999999 := opt_X (a := 1) (b := 0) (c := 0) (pa := 1) (po := 999999999) (q0 := 0) (q1 := 0) decXa.1 decXa.2 (by decide) (by decide) (by decide) (by decide) (by decide) (by decide) (by decide) (by decide) (by decide) (by decide) (by decide) (by decide) (by decide) (by decide) (by decide) (by decide)
theorem dear_10 : IsOpt (theI rsX (wsX 999999999 999999998 1)) (decS "o") 1 := opt_X (a := 0) (b := 1) (c := 0) (pa := 1) (po := 999999999) (q0 := 0) (q1 := 0) decXo.1 decXo.2 (by decide) (by decide) (by decide) (by decide) (by decide) (by decide) (by decide) (by decide) (by decide) (by decide) (by decide) (by decide) (by decide) (by decide) (by decide) (by decide)
theorem least_W {fd : List (Key × Int)} (o : Opt (theI rsX (wsX 5 4 1)) (stk stX) (gf fd)) (l : ∀ p, Opt (theI rsX (wsX 5 4 1)) (stk stX) p → ∀ k ∈ sortsOf rsX, gf fd k ≤ p k) : gf fd "a" = 1 ∧ gf fd "o" = 4 := least_X o l want_11 want_21 want_12
theorem great_W {fd : List (Key × Int)} (g : Great rsX stX (wsX 5 4 1) fd) : gf fd "a" = 1 ∧ gf fd "o" = 5 := great_X g want_11 want_01 want_10
theorem least_D {fd : List (Key × Int)} (o : Opt (theI rsX (wsX 999999999 999999998 1)) (stk stX) (gf fd)) (l : ∀ p, Opt (theI rsX (wsX 999999999 999999998 1)) (stk stX) p → ∀ k ∈ sortsOf rsX, gf fd k ≤ p k) : gf fd "a" = 1 ∧ gf fd "o" = 999999998 := least_X o l dear_11 dear_21 dear_12
theorem great_D {fd : List (Key × Int)} (g : Great rsX stX (wsX 999999999 999999998 1) fd) : gf fd "a" = 1 ∧ gf fd "o" = 999999999 := great_X g dear_11 dear_01 dear_10
/-- the askers' prices of the example -/
theorem ak_X {fd : List (Key × Int)} {pa po : Int} (ha : gf fd "a" = pa) (ho : gf fd "o" = po) : akOf rsX (wsX w1 w2 w3) fd = [(.inr "ann", mx0 [w1 - po]), (.inr "bob", mx0 [w3 - pa, w2 - po])] := by
  subst ha; subst ho
  rfl
end
end K59
namespace K59
open PySem PySem.Spec PyProof.Rows L2 Evl
section
variable {P : Program} {w : World} {K : PySem.W.Frag} {mg : Str → Option Value} {base : Heap} {CA CL CM : Addr}
/-- not fits(..) or not again_right(..): neither -/
theorem both_right {σ : L2.St} {H B : Hp} {tr ts tw tp : TE} {E1 E2 : XK} {pa ra sd wd : Addr} {rs : List K59.Row} {st : List (Key × Int)} {ws : List (List Key × Int)} {S : List Key} {b : Int} {D : Ends} {tu : TS} (hp : Ev tp σ H (.ref pa)) (hr : Ev tr σ H (.ref ra)) (hs : Ev ts σ H (.ref sd)) (hw : Ev tw σ H (.ref wd))
    (rows : LRowsL H ra rs) (ro : RowsOk rs) (hst : H sd = some (.dK (mI st))) (hws : H wd = some (.dT (mI ws))) (hin : HIn S 3 st) (hS : S.length ≤ 6) (hSn : ∀ x ∈ S, ∃ k, x = .inr k ∧ NameOk k) (hSk : ∀ r ∈ rs, ∀ k ∈ r.fits, .inr k ∈ S) (wo : WsOk ws rs) (wk : WsK ws) (wv : ∀ x ∈ ws, -10 ^ 10 ≤ x.2 ∧ x.2 ≤ 10 ^ 10)
    (pu : PuOk H pa b) (hb : b ≤ 2 ^ 28) (eB : Ex B H) (n1 : B pa = none) (n2 : B sd = none) (n3 : B wd = none) (k : ∀ H', Ex B H' → PuOk H' pa (b + 6) → D.nx σ H') :
    tIfS (tOr (tNot (tB (tCall spLFits [] E1 (tCons tr (tCons ts (tCons tw tNil)))))) (tNot (tB (tCall spAgain [] E2 (tCons tp (tCons tr (tCons ts (tCons tw tNil)))))))) tu tNext D σ H := by
  have L := lin_of rows ro hst hws wo hin (by decide) hS hSn
  have tm : Tame rs st ws := tame_of hin (by decide) (by decide) hS hSk fun x hx => by have := (wv x hx).2; omega
  refine hr H (Ex.refl _) _ fun H1 e1 => hs H1 e1 _ fun H2 e2 => hw H2 (e1.trans e2) _ fun H3 e3 => ⟨ra, sd, wd, rs, st, ws, rfl, L.mono ((e1.trans e2).trans e3), tm, wk, fun H4 e4 => ⟨true, rfl, ?_⟩⟩
  refine ifF rfl ?_
  have e04 := ((e1.trans e2).trans e3).trans e4
  refine hp H4 e04 _ fun H5 e5 => hr H5 (e04.trans e5) _ fun H6 e6 => hs H6 ((e04.trans e5).trans e6) _ fun H7 e7 => hw H7 (((e04.trans e5).trans e6).trans e7) _ fun H8 e8 => ?_
  have ex := (((e04.trans e5).trans e6).trans e7).trans e8
  have pu8 := pu.mono ex (Int.le_refl b)
  have hsp : sd ≠ pa := pu.neK hst (fun _ z => nomatch z)
  have hwp : wd ≠ pa := pu.neK hws (fun _ z => nomatch z)
  have hsw : sd ≠ wd := fun z => by rw [z, hws] at hst; cases hst
  have hs8 : del H8 pa sd = some (.dK (mI st)) := by rw [del_ne hsp]; exact ex _ _ hst
  have hw8 : del (del H8 pa) sd wd = some (.dT (mI ws)) := by rw [del_ne hsw.symm, del_ne hwp]; exact ex _ _ hws
  have hra8 : LRowsL (del (del (del H8 pa) sd) wd) ra rs := (((rows.mono ex).delPu pu8).del hs8 (fun _ z => nomatch z) (fun _ z => nomatch z)).del hw8 (fun _ z => nomatch z) (fun _ z => nomatch z)
  refine ⟨pa, ra, sd, wd, rs, st, ws, S, b, del (del (del H8 pa) sd) wd, rfl, hra8, ro, ex _ _ hst, ex _ _ hws, hin, hS, hSn, hSk, wo, wk, wv, pu8, hb, ?_, ?_, del_self _ _, (del_ex _ _).trans ((del_ex _ _).trans (del_ex _ _)), fun H9 e9 pu9 => ⟨true, rfl, ?_⟩⟩
  · rw [del_ne hwp.symm, del_ne hsp.symm]; exact del_self _ _
  · rw [del_ne hsw]; exact del_self _ _
  · exact k H9 ((ex_del (ex_del (ex_del (eB.trans ex) n1) n2) n3).trans e9) pu9
/-! ### the written example -/
def SameT (fd l : List (Key × Int)) : Prop := fd.length = l.length ∧ ∀ x ∈ fd, lkI l x.1 = some x.2
theorem sameD_of {H : Hp} {a b : Addr} {fd l : List (Key × Int)} (ha : H a = some (.dK (mI fd))) (hb : H b = some (.dK (mI l))) (h : SameT fd l) : SameD H (.ref a) (.ref b) := ⟨a, b, mI fd, mI l, rfl, rfl, ha, hb, by rw [len_mI, len_mI]; exact h.1, fun z hz => by
  obtain ⟨x, hx, rfl⟩ := List.mem_map.mp hz
  exact ⟨by rw [valV_mI, h.2 x hx]; rfl, rfl⟩⟩
theorem same_X {fd : List (Key × Int)} (ki : KeysI fd (sortsOf rsX)) {pa po : Int} (ha : gf fd "a" = pa) (ho : gf fd "o" = po) : SameT fd [(.inr "a", pa), (.inr "o", po)] := by
  have hl := keysI_len ki (sortsOf_is rsX).nd
  rw [sorts_X] at hl
  refine ⟨hl, fun x hx => ?_⟩
  obtain ⟨k, hk, e⟩ := ki.ks x.1 (List.mem_map.mpr ⟨x, hx, rfl⟩)
  have hv : lkI fd (.inr k) = some x.2 := lkI_of_mem ki.nd (by rw [← e]; exact hx)
  have hg : gf fd k = x.2 := by unfold gf gtI; rw [hv]; rfl
  rw [sorts_X] at hk
  simp only [List.mem_cons, List.not_mem_nil, or_false] at hk
  rw [e]
  rcases hk with rfl | rfl
  · rw [lkI_cons, if_pos rfl, ← hg, ha]
  · rw [lkI_cons, if_neg fun z => ao (Sum.inr.inj z), lkI_cons, if_pos rfl, ← hg, ho]
theorem same_self {l : List (Key × Int)} (hn : (l.map (·.1)).Nodup) : SameT l l := ⟨rfl, fun _ hx => lkI_of_mem hn hx⟩
theorem ed_disp2 {σ : L2.St} {H : Hp} {k1 k2 : Str} {v1 v2 : Int} (hm : mergeK [] [(.inr k1, .int v1), (.inr k2, .int v2)] = mI [(.inr k1, v1), (.inr k2, v2)]) : EvD (tDisp [(tC (.str k1), tC (.int v1)), (tC (.str k2), tC (.int v2))]) σ H [(.inr k1, v1), (.inr k2, v2)] := fun H1 e Q q => fun p hp =>
  ⟨upd_same, [(.inr k1, .int v1), (.inr k2, .int v2)], rfl, by show 2 ≤ 15; decide, by rw [hm]; exact q p _ hp (Ex.mut (Ex.new hp) hp) upd_same⟩
/-- what a call for prices gives -/
def EvPr (te : TE) (σ : L2.St) (H : Hp) (PD : List (Key × Int) → List (Key × Int) → Prop) : Prop := ∀ H1, Ex H H1 → ∀ Q : VK, (∀ p d e fd ak H2, H1 d = none → H1 e = none → Ex H1 H2 → H2 p = some (.tup [.ref d, .ref e]) → H2 d = some (.dK (mI fd)) → H2 e = some (.dK (mI ak)) → PD fd ak → Q (.ref p) H2) → te σ H1 Q
theorem ev_pd {σ : L2.St} {H : Hp} {te td1 td2 : TE} {l1 l2 : List (Key × Int)} {ans : Bool} {PD : List (Key × Int) → List (Key × Int) → Prop} (h : EvPr te σ H PD) (h1 : EvD td1 σ H l1) (h2 : EvD td2 σ H l2) (hs : ∀ fd ak, PD fd ak → SameT fd l1 ∧ SameT ak l2) : Ev (tOp (rPD K ans) te (tTup (tCons td1 (tCons td2 tNil)))) σ H (.bl ans) := fun H1 e Q q =>
  h H1 e _ fun p d d' fd ak H2 _ _ e2 p1 p2 p3 pd => h1 H2 (e.trans e2) _ fun a H3 ha e3 ha3 => h2 H3 ((e.trans e2).trans e3) _ fun b H4 hb e4 hb4 => ⟨by show 2 ≤ sizeLine; decide, fun t ht => by
    have e5 := Ex.new (o := .tup [.ref a, .ref b]) ht
    have e25 := (e3.trans e4).trans e5
    obtain ⟨s1, s2⟩ := hs fd ak pd
    exact ⟨p, t, .ref d, .ref d', .ref a, .ref b, rfl, rfl, st_get (e25 _ _ p1), st_get upd_same, sameD_of (e25 _ _ p2) ((e4.trans e5) _ _ ha3) s1, sameD_of (e25 _ _ p3) (e5 _ _ hb4) s2, q _ (e2.trans e25)⟩⟩
theorem pr_least {σ : L2.St} {H : Hp} {t1 t2 t3 : TE} {E : XK} {lo sd wd : Addr} {rs : List K59.Row} {st : List (Key × Int)} {ws : List (List Key × Int)} (h1 : Ev t1 σ H (.ref lo)) (h2 : Ev t2 σ H (.ref sd)) (h3 : Ev t3 σ H (.ref wd)) (I : In3 CL H lo sd wd rs st ws) :
    EvPr (tCall (spLeastP CL) [] E (tCons t1 (tCons t2 (tCons t3 tNil)))) σ H fun fd ak => ak = akOf rs ws fd ∧ KeysI fd (sortsOf rs) ∧ Opt (theI rs ws) (stk st) (gf fd) ∧ ∀ p, Opt (theI rs ws) (stk st) p → ∀ k ∈ sortsOf rs, gf fd k ≤ p k := fun H1 e Q q =>
  h1 H1 e _ fun H2 e2 => h2 H2 (e.trans e2) _ fun H3 e3 => h3 H3 ((e.trans e2).trans e3) _ fun H4 e4 => ⟨lo, sd, wd, rs, st, ws, rfl, I.mono (((e.trans e2).trans e3).trans e4), fun p d d' fd H5 hp hd hd' e5 p1 p2 p3 ki op ll => q p d d' fd _ H5 (fresh_back ((e2.trans e3).trans e4) hd) (fresh_back ((e2.trans e3).trans e4) hd') (((e2.trans e3).trans e4).trans e5) p1 p2 p3 ⟨rfl, ki, op, ll⟩⟩
theorem pr_great {σ : L2.St} {H : Hp} {t1 t2 t3 : TE} {E : XK} {lo wd : Addr} {rs : List K59.Row} {st : List (Key × Int)} {ws : List (List Key × Int)} (h1 : Ev t1 σ H (.ref lo)) (h2 : ∀ H1, Ex H H1 → ∀ Q : VK, (∀ sd H2, Ex H1 H2 → H2 sd = some (.dK (mI st)) → Q (.ref sd) H2) → t2 σ H1 Q) (h3 : Ev t3 σ H (.ref wd)) (la : LineAt CL H lo rs) (ro : RowsOk rs) (so : StOk st) (hw : H wd = some (.dT (mI ws))) (wo : WsOk ws rs) :
    EvPr (tCall (spGreatP CL) [] E (tCons t1 (tCons t2 (tCons t3 tNil)))) σ H fun fd ak => ak = akOf rs ws fd ∧ KeysI fd (sortsOf rs) ∧ Great rs st ws fd := fun H1 e Q q =>
  h1 H1 e _ fun H2 e2 => h2 H2 (e.trans e2) _ fun sd H3 e3 hsd => h3 H3 ((e.trans e2).trans e3) _ fun H4 e4 => ⟨_, _, _, rs, st, ws, rfl, ⟨la.mono (((e.trans e2).trans e3).trans e4), ro, e4 _ _ hsd, so, (((e.trans e2).trans e3).trans e4) _ _ hw, wo⟩, fun p d d' fd H5 hp hd hd' e5 p1 p2 p3 ki gg => q p d d' fd _ H5 (fresh_back ((e2.trans e3).trans e4) hd) (fresh_back ((e2.trans e3).trans e4) hd') (((e2.trans e3).trans e4).trans e5) p1 p2 p3 ⟨rfl, ki, gg⟩⟩
theorem en_wsX {σ : L2.St} {B H : Hp} {w1 w2 w3 : Int} : EvN (tDispT [(tTup (tCons (tC (.str "ann")) (tCons (tC (.str "o")) tNil)), tC (.int w1)), (tTup (tCons (tC (.str "bob")) (tCons (tC (.str "o")) tNil)), tC (.int w2)), (tTup (tCons (tC (.str "bob")) (tCons (tC (.str "a")) tNil)), tC (.int w3))]) σ B H (fun p H => H p = some (.dT (mI (wsX w1 w2 w3)))) := fun H1 e Q q => by
  intro p hp
  refine ⟨by show 2 ≤ sizeLine; decide, fun k1 h1 => ⟨by show 2 ≤ sizeLine; decide, fun k2 h2 => ⟨by show 2 ≤ sizeLine; decide, fun k3 h3 => ?_⟩⟩⟩
  have e0 := Ex.new (o := .dT []) hp
  have e1 := Ex.new (o := .tup [.str "ann", .str "o"]) h1
  have e2 := Ex.new (o := .tup [.str "bob", .str "o"]) h2
  have e3 := Ex.new (o := .tup [.str "bob", .str "a"]) h3
  refine ⟨(e1.trans (e2.trans e3)) _ _ upd_same, [([.inr "ann", .inr "o"], k1, .int w1), ([.inr "bob", .inr "o"], k2, .int w2), ([.inr "bob", .inr "a"], k3, .int w3)], rfl, fun x hx => ?_, by show 3 ≤ 15; decide, ?_⟩
  · simp only [List.mem_cons, List.not_mem_nil, or_false] at hx
    rcases hx with rfl | rfl | rfl
    · exact (e2.trans e3) _ _ upd_same
    · exact e3 _ _ upd_same
    · exact upd_same
  · have hm : mergeT [] [(([.inr "ann", .inr "o"] : List Key), V.int w1), ([.inr "bob", .inr "o"], .int w2), ([.inr "bob", .inr "a"], .int w3)] = mI (wsX w1 w2 w3) := rfl
    refine q p _ hp (Ex.mut (((e0.trans e1).trans e2).trans e3) hp) ⟨_, upd_same⟩ fun Hx _ kk => (kk p _ hp upd_same).trans (congrArg (fun z => some (HO.dT z)) hm)
theorem en_rsX {σ : L2.St} {B H : Hp} : EvN (tLst (tCons (tTup (tCons (tC (.str "ann")) (tCons (tLst (tCons (tC (.str "o")) tNil)) (tCons (tC (.int 1)) tNil)))) (tCons (tTup (tCons (tC (.str "bob")) (tCons (tLst (tCons (tC (.str "a")) (tCons (tC (.str "o")) tNil))) (tCons (tC (.int 2)) tNil)))) tNil))) σ B H (fun p H => LRowsL H p rsX) := fun H1 e Q q => by
  refine ⟨by show 1 ≤ sizeLine; decide, fun f1 h1 => ⟨by show 3 ≤ sizeLine; decide, fun t1 g1 => ⟨by show 2 ≤ sizeLine; decide, fun f2 h2 => ⟨by show 3 ≤ sizeLine; decide, fun t2 g2 => ⟨by show 2 ≤ sizeLine; decide, fun l hl => ?_⟩⟩⟩⟩⟩
  have e1 := Ex.new (o := .lst [.str "o"]) h1
  have e2 := Ex.new (o := .tup [.str "ann", .ref f1, .int 1]) g1
  have e3 := Ex.new (o := .lst [.str "a", .str "o"]) h2
  have e4 := Ex.new (o := .tup [.str "bob", .ref f2, .int 2]) g2
  have e5 := Ex.new (o := .lst [.ref t1, .ref t2]) hl
  refine q l _ (fresh_back (((e1.trans e2).trans e3).trans e4) hl) ((((e1.trans e2).trans e3).trans e4).trans e5) ⟨_, upd_same⟩ fun Hx _ kk => ⟨[.ref t1, .ref t2], kk _ _ (fresh_back (((e1.trans e2).trans e3).trans e4) hl) upd_same, rfl, fun i v r a b => ?_⟩
  match i, a, b with
  | 0, a, b =>
    cases a; cases b
    exact ⟨t1, f1, rfl, kk _ _ (fresh_back e1 g1) ((e3.trans (e4.trans e5)) _ _ upd_same), kk _ _ h1 ((e2.trans (e3.trans (e4.trans e5))) _ _ upd_same)⟩
  | 1, a, b =>
    cases a; cases b
    exact ⟨t2, f2, rfl, kk _ _ (fresh_back ((e1.trans e2).trans e3) g2) (e5 _ _ upd_same), kk _ _ (fresh_back (e1.trans e2) h2) ((e4.trans e5) _ _ upd_same)⟩
  | i + 2, a, b => cases a
end
end K59
namespace K59
open PySem PySem.Spec PyProof.Rows L2 Evl
section
variable {P : Program} {w : World} {K : PySem.W.Frag} {mg : Str → Option Value} {base : Heap} {CA CL CM : Addr}
theorem hKeys_ok {ks : List Str} (h : ∀ z ∈ ks, NameOk z) : ∀ x ∈ hKeys ks, ∃ k, x = .inr k ∧ NameOk k := fun x hx => by
  rcases List.mem_append.mp hx with h' | h'
  · obtain ⟨k, hk, rfl⟩ := List.mem_map.mp h'
    exact ⟨k, rfl, h k hk⟩
  · rw [List.mem_singleton] at h'
    exact ⟨"nofit", h', by decide +kernel⟩
theorem kinds6_keys : ∀ x ∈ kinds6.map (Sum.inr : Str → Key), ∃ k, x = .inr k ∧ NameOk k := fun x hx => by
  obtain ⟨k, hk, rfl⟩ := List.mem_map.mp hx
  exact ⟨k, rfl, kinds6_ok.2 k hk⟩
def spLaw (K : PySem.W.Frag) : Sp := fun vs H Q _ => ∃ (sc : Addr) (ns : List Int), vs = [.ref sc] ∧ SqL K H sc (ns.map V.int) ∧ ns.length ≤ 63 ∧ ∀ H', Q (.bl true) H'
theorem d_law {f : Addr} {fd : FuncData} (F : Fun K "law" "law" s_law f fd) (T : Txt K mg CA CL CM) (c_L_purses : CalK P w K mg base 2 "_law_purses" (spPurses K)) (c_L_kinds : CalK P w K mg base 4 "_law_kinds" spPick) (c_L_rows : CalK P w K mg base 5 "_law_rows" spRows) (c_L_here : CalK P w K mg base 4 "_law_here" spHere)
    (c_L_worths : CalK P w K mg base 4 "_law_worths" spWorths) (c_L_fits : CalK P w K mg base 8 "_law_fits" spLFits) (c_L_again_right : CalK P w K mg base 7 "_law_again_right" spAgain) (c_L_chain : CalK P w K mg base 4 "_law_chain" spChain) (c_L_line_of : CalK P w K mg base 5 "_law_line_of" (spLineOf CL))
    (c_least_prices : CalK P w K mg base 6 "least_prices" (spLeastP CL)) (c_greatest_prices : CalK P w K mg base 6 "greatest_prices" (spGreatP CL)) : FnOk P w K mg base CX0 9 f fd ["_law_script"] (spLaw K) := by
  refine F.ok sc_law (fun vs H Q E h => ?_) (fun cdv A outer sx H vs Q E hr h => ?_)
  · obtain ⟨_, _, rfl, _⟩ := h
    rfl
  · obtain ⟨sc, ns, rfl, hs, hl, q⟩ := h
    refine ⟨_, (pss_cons (ps_for PassesOwn.never rfl (listK K rfl (ec c_L_purses hr (by decide) rfl (pa_cons (pv 0) (pa_cons pe_int pa_nil)))) (pg_name (i := 1) sc_law.nd rfl (by first | exact Or.inl rfl | exact Or.inr rfl))
    (pss_cons (ps_set (i := 2) sc_law.nd rfl (Or.inl rfl) (ec c_L_kinds hr (by decide) rfl (pa_cons (pv 1) (pa_cons pe_int pa_nil))))
    (pss_cons (ps_par (i := 3) (j := 4) (by rfl) sc_law.nd rfl rfl (by decide) rfl rfl (pa_cons (ec c_L_rows hr (by decide) rfl (pa_cons (pv 1) (pa_cons (pv 2) (pa_cons pe_int pa_nil)))) (pa_cons (ec c_L_here hr (by decide) rfl (pa_cons (pv 1) (pa_cons (pv 2) pa_nil))) pa_nil)) (by rfl))
    (pss_cons (ps_set (i := 5) sc_law.nd rfl (Or.inl rfl) (ec c_L_worths hr (by decide) rfl (pa_cons (pv 1) (pa_cons (pv 3) pa_nil))))
    (pss_cons (ps_if (PW.pt (pw_or (pt_not (pt_val (ec c_L_fits hr (by decide) rfl (pa_cons (pv 3) (pa_cons (pv 4) (pa_cons (pv 5) pa_nil)))))) (pw_or1 (pt_not (pt_val (ec c_L_again_right hr (by decide) rfl (pa_cons (pv 1) (pa_cons (pv 3) (pa_cons (pv 4) (pa_cons (pv 5) pa_nil)))))))))) (pss_one (ps_ret pe_bl)) pss_nil)
    (pss_cons (ps_asg (ec c_L_chain hr (by decide) rfl (pa_cons (pv 1) pa_nil)) (tupTK K rfl rfl (pgs_cons (pg_name (i := 3) sc_law.nd rfl (by first | exact Or.inl rfl | exact Or.inr rfl)) (pgs_cons (pg_name (i := 4) sc_law.nd rfl (by first | exact Or.inl rfl | exact Or.inr rfl)) pgs_nil))))
    (pss_cons (ps_set (i := 5) sc_law.nd rfl (Or.inl rfl) (ec c_L_worths hr (by decide) rfl (pa_cons (pv 1) (pa_cons (pv 3) pa_nil))))
    (pss_one (ps_if (PW.pt (pw_or (pt_not (pt_val (ec c_L_fits hr (by decide) rfl (pa_cons (pv 3) (pa_cons (pv 4) (pa_cons (pv 5) pa_nil)))))) (pw_or1 (pt_not (pt_val (ec c_L_again_right hr (by decide) rfl (pa_cons (pv 1) (pa_cons (pv 3) (pa_cons (pv 4) (pa_cons (pv 5) pa_nil)))))))))) (pss_one (ps_ret pe_bl)) pss_nil)))))))))
    (pss_cons (ps_par (i := 3) (j := 6) (by rfl) sc_law.nd rfl rfl (by decide) rfl rfl (pa_cons (pe_lst (pa_cons (pe_tup (pa_cons pe_str (pa_cons (pe_lst (pa_cons pe_str pa_nil)) (pa_cons pe_int pa_nil)))) (pa_cons (pe_tup (pa_cons pe_str (pa_cons (pe_lst (pa_cons pe_str (pa_cons pe_str pa_nil))) (pa_cons pe_int pa_nil)))) pa_nil))) (pa_cons (pe_dispT (hu_of hr) (pps_cons (pe_tup (pa_cons pe_str (pa_cons pe_str pa_nil))) pe_int (pps_cons (pe_tup (pa_cons pe_str (pa_cons pe_str pa_nil))) pe_int (pps_cons (pe_tup (pa_cons pe_str (pa_cons pe_str pa_nil))) pe_int pps_nil))) (by rfl) (by rfl) (fun z => by cases z) (by decide)) pa_nil)) (by rfl))
    (pss_cons (ps_par (i := 7) (j := 8) (by rfl) sc_law.nd rfl rfl (by decide) rfl rfl (pa_cons (ec c_L_line_of hr (by decide) rfl (pa_cons (pv 3) pa_nil)) (pa_cons (pe_disp (pps_cons pe_str pe_int (pps_cons pe_str pe_int pps_nil)) (by rfl) (by rfl) (fun z => by cases z) (by decide)) pa_nil)) (by rfl))
    (pss_cons (ps_if (pt_cmpR (nePDK K rfl hr.units) (ec c_least_prices hr (by decide) rfl (pa_cons (pv 7) (pa_cons (pv 8) (pa_cons (pv 6) pa_nil)))) (pe_tup (pa_cons (pe_disp (pps_cons pe_str pe_int (pps_cons pe_str pe_int pps_nil)) (by rfl) (by rfl) (fun z => by cases z) (by decide)) (pa_cons (pe_disp (pps_cons pe_str pe_int (pps_cons pe_str pe_int pps_nil)) (by rfl) (by rfl) (fun z => by cases z) (by decide)) pa_nil))) (nomark _)) (pss_one (ps_ret pe_bl)) pss_nil)
    (pss_cons (ps_if (pt_cmpR (nePDK K rfl hr.units) (ec c_greatest_prices hr (by decide) rfl (pa_cons (pv 7) (pa_cons (pv 8) (pa_cons (pv 6) pa_nil)))) (pe_tup (pa_cons (pe_disp (pps_cons pe_str pe_int (pps_cons pe_str pe_int pps_nil)) (by rfl) (by rfl) (fun z => by cases z) (by decide)) (pa_cons (pe_disp (pps_cons pe_str pe_int (pps_cons pe_str pe_int pps_nil)) (by rfl) (by rfl) (fun z => by cases z) (by decide)) pa_nil))) (nomark _)) (pss_one (ps_ret pe_bl)) pss_nil)
    (pss_cons (ps_if (pt_cmpR (nePDK K rfl hr.units) (ec c_greatest_prices hr (by decide) rfl (pa_cons (pv 7) (pa_cons pe_dnewK (pa_cons (pv 6) pa_nil)))) (pe_tup (pa_cons (pe_disp (pps_cons pe_str pe_int (pps_cons pe_str pe_int pps_nil)) (by rfl) (by rfl) (fun z => by cases z) (by decide)) (pa_cons (pe_disp (pps_cons pe_str pe_int (pps_cons pe_str pe_int pps_nil)) (by rfl) (by rfl) (fun z => by cases z) (by decide)) pa_nil))) (nomark _)) (pss_one (ps_ret pe_bl)) pss_nil)
    (pss_cons (ps_set (i := 9) sc_law.nd rfl (Or.inl rfl) (pe_dispT (hu_of hr) (pps_cons (pe_tup (pa_cons pe_str (pa_cons pe_str pa_nil))) pe_int (pps_cons (pe_tup (pa_cons pe_str (pa_cons pe_str pa_nil))) pe_int (pps_cons (pe_tup (pa_cons pe_str (pa_cons pe_str pa_nil))) pe_int pps_nil))) (by rfl) (by rfl) (fun z => by cases z) (by decide)))
    (pss_cons (ps_if (pt_cmpR (nePDK K rfl hr.units) (ec c_least_prices hr (by decide) rfl (pa_cons (pv 7) (pa_cons (pv 8) (pa_cons (pv 9) pa_nil)))) (pe_tup (pa_cons (pe_disp (pps_cons pe_str pe_int (pps_cons pe_str pe_int pps_nil)) (by rfl) (by rfl) (fun z => by cases z) (by decide)) (pa_cons (pe_disp (pps_cons pe_str pe_int (pps_cons pe_str pe_int pps_nil)) (by rfl) (by rfl) (fun z => by cases z) (by decide)) pa_nil))) (nomark _)) (pss_one (ps_ret pe_bl)) pss_nil)
    (pss_cons (ps_if (pt_cmpR (nePDK K rfl hr.units) (ec c_greatest_prices hr (by decide) rfl (pa_cons (pv 7) (pa_cons (pv 8) (pa_cons (pv 9) pa_nil)))) (pe_tup (pa_cons (pe_disp (pps_cons pe_str pe_int (pps_cons pe_str pe_int pps_nil)) (by rfl) (by rfl) (fun z => by cases z) (by decide)) (pa_cons (pe_disp (pps_cons pe_str pe_int (pps_cons pe_str pe_int pps_nil)) (by rfl) (by rfl) (fun z => by cases z) (by decide)) pa_nil))) (nomark _)) (pss_one (ps_ret pe_bl)) pss_nil)
    (pss_cons (ps_set (i := 10) sc_law.nd rfl (Or.inl rfl) (ec c_least_prices hr (by decide) rfl (pa_cons (pv 7) (pa_cons (pv 8) (pa_cons (pv 6) pa_nil)))))
    (pss_cons (ps_dput (hu_of hr) (pe_ix (ixTK K rfl) (pv 10) pe_int (fun _ _ => rfl)) pe_str pe_int rfl)
    (pss_cons (ps_expr (pe_dclear (pe_ix (ixTK K rfl) (pv 10) pe_int (fun _ _ => rfl))))
    (pss_one (ps_ret (pe_cmpR (eqPDK K rfl hr.units) (ec c_least_prices hr (by decide) rfl (pa_cons (pv 7) (pa_cons (pv 8) (pa_cons (pv 6) pa_nil)))) (pe_tup (pa_cons (pe_disp (pps_cons pe_str pe_int (pps_cons pe_str pe_int pps_nil)) (by rfl) (by rfl) (fun z => by cases z) (by decide)) (pa_cons (pe_disp (pps_cons pe_str pe_int (pps_cons pe_str pe_int pps_nil)) (by rfl) (by rfl) (fun z => by cases z) (by decide)) pa_nil))) (nomark _)))))))))))))))), ?_⟩
    refine q_forPP (PP := fun p ws H1 => ∃ ps : List Addr, ws = ps.map V.ref ∧ ps.Nodup ∧ ps.length ≤ 2 ∧ ∀ q ∈ ps, PuOk H1 q 0) (fun Q qq => ⟨_, rfl, sc, ns, rfl, hs, hl, fun p ps H1 hp e1 h1 nd l1 l2 pu => qq p _ H1 h1 ⟨ps, rfl, nd, l2, pu⟩⟩) fun p ws H1 hp1 ⟨ps, ews, nd, l2, pu⟩ => ?_
    subst ews
    refine ⟨fun n σ' H' => (∃ x1 x2 x3 x4 x5 x6 x7 x8 x9 x10 : Option V, σ' = [some (.ref sc), x1, x2, x3, x4, x5, x6, x7, x8, x9, x10]) ∧ H' p = some (.lst (ps.map V.ref)) ∧ ∀ (j : Nat) q, n ≤ j → ps[j]? = some q → PuOk H' q 0,
      ⟨⟨none, none, none, none, none, none, none, none, none, none, rfl⟩, hp1, fun j q _ hq => pu q (List.mem_of_getElem? hq)⟩, fun n σ' H' _ h => sq_get h.2.1, fun n x σ' H' hx h => ?_, fun σ' H' h => ?_⟩
    · obtain ⟨⟨x1, x2, x3, x4, x5, x6, x7, x8, x9, x10, rfl⟩, hp, hpu⟩ := h
      obtain ⟨pa, hpa, rfl⟩ := get_map hx
      have pu0 := hpu n pa (Nat.le_refl _) hpa
      have hppa : p ≠ pa := fun z => by
        obtain ⟨_, _, _, _, h1, _⟩ := pu0
        rw [z, h1] at hp
        have := HO.lst.inj (Option.some.inj hp)
        cases hps : ps with
        | nil => rw [hps] at this; cases this
        | cons a as => rw [hps] at this; cases this
      -- what is kept behind a turn
      have keep : ∀ H2, Ex (del H' pa) H2 → H2 p = some (.lst (ps.map V.ref)) ∧ ∀ (j : Nat) q, n + 1 ≤ j → ps[j]? = some q → PuOk H2 q 0 := fun H2 e => ⟨e _ _ (by rw [del_ne hppa]; exact hp), fun j q hj hq => by
        have hne : q ≠ pa := fun z => by
          subst z
          have := nodup_inj nd hq hpa
          omega
        obtain ⟨a, b, c, d, g1, g2⟩ := hpu j q (by omega) hq
        exact ⟨a, b, c, d, e _ _ (by rw [del_ne hne]; exact g1), g2⟩⟩
      have hB : (del H' pa) pa = none := del_self _ _
      have eB : Ex (del H' pa) H' := del_ex _ _
      generalize del H' pa = B at keep hB eB
      refine ⟨_, rfl, pa, 3, 0, B, rfl, by decide, by decide, pu0, by decide, hB, eB, fun kl zs H2 hkl hzs znd znm zl e2 pu2 => ?_⟩
      have hklp : kl ≠ pa := (pu0.ne hkl).symm
      refine ⟨_, rfl, _, rfl, pa, kl, zs, 0 + 200, del H2 pa, rfl, by rw [del_ne hklp]; exact hzs, znd, znm, by omega, by omega, pu2, by omega, del_self _ _, del_ex _ _, fun ra rs H3 hra hrows ro hks e3 pu3 => ?_⟩
      have eB3 : Ex B H3 := (ex_del e2 hB).trans e3
      have hzs3 : H3 kl = some (.lst (zs.map V.str)) := e3 _ _ (by rw [del_ne hklp]; exact hzs)
      refine ⟨_, rfl, _, rfl, pa, kl, zs, 0 + 200 + 1500, del H3 pa, rfl, by rw [del_ne hklp]; exact hzs3, by omega, pu3, by omega, del_self _ _, del_ex _ _, fun sd st H4 hsd hst hin e4 pu4 => ⟨.ref ra, .ref sd, rfl, ?_⟩⟩
      have eB4 : Ex B H4 := (ex_del eB3 hB).trans e4
      have hrows4 : LRowsL H4 ra rs := (hrows.delPu pu3).mono e4
      have hsB : B sd = none := fresh_back eB3 hsd
      refine ⟨_, rfl, _, rfl, pa, ra, rs, 0 + 200 + 1500 + 300, del H4 pa, rfl, hrows4.delPu pu4, ro, pu4, by omega, del_self _ _, del_ex _ _, fun wd ws H5 hwd hws wo wk wv e5 pu5 => ?_⟩
      have eB5 : Ex B H5 := (ex_del eB4 hB).trans e5
      have hwB : B wd = none := fresh_back eB4 hwd
      have hst5 : H5 sd = some (.dK (mI st)) := e5 _ _ (by rw [del_ne (pu4.neK hst fun _ z => nomatch z)]; exact hst)
      refine both_right (S := hKeys zs) (B := B) (ev_var rfl) (ev_var rfl) (ev_var rfl) (ev_var rfl) ((hrows4.delPu pu4).mono e5) ro hst5 hws hin (by unfold hKeys; rw [List.length_append, List.length_map]; simp only [List.length_singleton]; omega) (hKeys_ok znm) (fun r hr k hk => List.mem_append.mpr (.inl (List.mem_map.mpr ⟨k, hks r hr k hk, rfl⟩))) wo wk wv pu5 (by omega) eB5 hB hsB hwB fun H6 e6 pu6 => ?_
      refine ⟨_, rfl, pa, _, del H6 pa, rfl, pu6, by omega, del_self _ _, del_ex _ _, fun t ra2 sd2 rs2 st2 H7 ht hra2 hsd2 hrows2 ro2 hks2 hst2 hin2 e7 pu7 => ⟨t, _, rfl, st_get ht, rfl, _, _, rfl, _, _, rfl, rfl, ?_⟩⟩
      have eB7 : Ex B H7 := (ex_del e6 hB).trans e7
      have hsB2 : B sd2 = none := fresh_back e6 hsd2
      refine ⟨_, rfl, _, rfl, pa, ra2, rs2, _, del H7 pa, rfl, hrows2.delPu pu7, ro2, pu7, by omega, del_self _ _, del_ex _ _, fun wd2 ws2 H8 hwd2 hws2 wo2 wk2 wv2 e8 pu8 => ?_⟩
      have eB8 : Ex B H8 := (ex_del eB7 hB).trans e8
      have hwB2 : B wd2 = none := fresh_back eB7 hwd2
      have hst8 : H8 sd2 = some (.dK (mI st2)) := e8 _ _ (by rw [del_ne (pu7.neK hst2 fun _ z => nomatch z)]; exact hst2)
      refine both_right (S := kinds6.map Sum.inr) (B := B) (ev_var rfl) (ev_var rfl) (ev_var rfl) (ev_var rfl) ((hrows2.delPu pu7).mono e8) ro2 hst8 hws2 hin2 (by decide) kinds6_keys (fun r hr k hk => List.mem_map.mpr ⟨k, hks2 r hr k hk, rfl⟩) wo2 wk2 wv2 pu8 (by omega) eB8 hB hsB2 hwB2 fun H9 e9 pu9 => ⟨⟨_, _, _, _, _, _, _, _, _, _, rfl⟩, keep H9 e9⟩
    · obtain ⟨⟨x1, x2, x3, x4, x5, x6, x7, x8, x9, x10, rfl⟩, _, _⟩ := h
      refine q_parN en_rsX en_wsX fun ra wd H2 _ _ _ e2 hrows hwd => ?_
      refine ⟨_, rfl, ra, rsX, rfl, hrows, rsX_ok, fun lo H3 hlo e3 la => ?_⟩
      refine ed_disp2 (σ := _) (k1 := "a") (k2 := "o") rfl H3 (Ex.refl _) _ fun sd H4 hsd e4 hst => ⟨.ref lo, .ref sd, rfl, ?_⟩
      have hst : H4 sd = some (.dK (mI stX)) := hst
      have hwd4 : H4 wd = some (.dT (mI (wsX 5 4 1))) := (e3.trans e4) _ _ hwd
      have la4 := la.mono e4
      clear hrows hwd la hlo e2 e3 e4 hsd
      have I4 : In3 CL H4 lo sd wd rsX stX (wsX 5 4 1) := ⟨la4, rsX_ok, hst, stX_ok, hwd4, wsX_ok _ _ _⟩
      have leastW : ∀ {H5 : Hp} {σ : L2.St} {ans : Bool} {E : XK}, In3 CL H5 lo sd wd rsX stX (wsX 5 4 1) → σ[7]? = some (some (.ref lo)) → σ[8]? = some (some (.ref sd)) → σ[6]? = some (some (.ref wd)) →
          Ev (tOp (rPD K ans) (tCall (spLeastP CL) [] E (tCons (tVar 7) (tCons (tVar 8) (tCons (tVar 6) tNil)))) (tTup (tCons (tDisp [(tC (.str "a"), tC (.int 1)), (tC (.str "o"), tC (.int 4))]) (tCons (tDisp [(tC (.str "ann"), tC (.int 1)), (tC (.str "bob"), tC (.int 0))]) tNil)))) σ H5 (.bl ans) := fun I h7 h8 h6 =>
        ev_pd (pr_least (ev_var h7) (ev_var h8) (ev_var h6) I) (ed_disp2 rfl) (ed_disp2 rfl) fun fd ak ⟨ea, ki, op, ll⟩ => by
          obtain ⟨ha, ho⟩ := least_W op ll
          subst ea
          rw [ak_X ha ho]
          exact ⟨same_X ki ha ho, same_self (by decide +kernel)⟩
      refine q_when (b := false) (et_test (leastW I4 rfl rfl rfl)) (fun z => nomatch z) fun _ H5 e5 => ?_
      have I5 := I4.mono e5
      refine q_when (b := false) (et_test (ev_pd (pr_great (ev_var rfl) (fun H6 e6 Q qq => ⟨_, rfl, qq sd H6 (Ex.refl _) ((e6) _ _ I5.sd)⟩) (ev_var rfl) I5.line rsX_ok stX_ok I5.wd I5.wo) (ed_disp2 rfl) (ed_disp2 rfl) fun fd ak ⟨ea, ki, gg⟩ => by
          obtain ⟨ha, ho⟩ := great_W gg
          subst ea
          rw [ak_X ha ho]
          exact ⟨same_X ki ha ho, same_self (by decide +kernel)⟩)) (fun z => nomatch z) fun _ H6 e6 => ?_
      have I6 := I5.mono e6
      refine q_when (b := false) (et_test (ev_pd (pr_great (ev_var rfl) (fun H7 e7 Q qq => fun d hd => qq d _ (Ex.new hd) upd_same) (ev_var rfl) I6.line rsX_ok stN_ok I6.wd I6.wo) (ed_disp2 rfl) (ed_disp2 rfl) fun fd ak ⟨ea, ki, gg⟩ => by
          obtain ⟨ha, ho⟩ := great_N gg
          subst ea
          rw [ak_X ha ho]
          exact ⟨same_X ki ha ho, same_self (by decide +kernel)⟩)) (fun z => nomatch z) fun _ H7 e7 => ?_
      have I7 := I6.mono e7
      refine q_asgN en_wsX fun dd H8 hdd e8 _ nw => ?_
      have hdd8 := nw.now (Ex.refl _) e8
      have I8 := I7.mono e8
      have J8 : In3 CL H8 lo sd dd rsX stX (wsX 999999999 999999998 1) := ⟨I8.line, rsX_ok, I8.sd, stX_ok, hdd8, wsX_ok _ _ _⟩
      refine q_when (b := false) (et_test (ev_pd (pr_least (ev_var rfl) (ev_var rfl) (ev_var rfl) J8) (ed_disp2 rfl) (ed_disp2 rfl) fun fd ak ⟨ea, ki, op, ll⟩ => by
          obtain ⟨ha, ho⟩ := least_D op ll
          subst ea
          rw [ak_X ha ho]
          exact ⟨same_X ki ha ho, same_self (by decide +kernel)⟩)) (fun z => nomatch z) fun _ H9 e9 => ?_
      have J9 := J8.mono e9
      refine q_when (b := false) (et_test (ev_pd (pr_great (ev_var rfl) (fun H10 e10 Q qq => ⟨_, rfl, qq sd H10 (Ex.refl _) (e10 _ _ J9.sd)⟩) (ev_var rfl) J9.line rsX_ok stX_ok J9.wd J9.wo) (ed_disp2 rfl) (ed_disp2 rfl) fun fd ak ⟨ea, ki, gg⟩ => by
          obtain ⟨ha, ho⟩ := great_D gg
          subst ea
          rw [ak_X ha ho]
          exact ⟨same_X ki ha ho, same_self (by decide +kernel)⟩)) (fun z => nomatch z) fun _ H10 e10 => ?_
      have I10 := (I8.mono e9).mono e10
      refine pr_least (ev_var rfl) (ev_var rfl) (ev_var rfl) I10 H10 (Ex.refl _) _ fun p d e fd ak H11 hd he e11 p1 p2 p3 ⟨_, ki, _, _⟩ => ?_
      have hfl : fd.length < 100000 := by have := ki.len; rw [sorts_X] at this; simp at this; omega
      have hpd : p ≠ d := fun z => by rw [z, p2] at p1; cases p1
      refine q_putS (k := "o") (l := fd) (v := 0) ev_c (ev_ixT (ev_var rfl) ev_c (st_get p1) (atI_get (i := 0) rfl)) ev_c p2 hfl fun H12 e12 => ?_
      obtain ⟨kvs, hk⟩ : ∃ kvs, (upd H12 d (.dK (mI (putI fd (.inr "o") 0)))) e = some (.dK kvs) := by
        by_cases z : e = d
        · exact ⟨_, by rw [z]; exact upd_same⟩
        · exact ⟨_, by rw [upd_ne z]; exact e12 _ _ p3⟩
      have p1' : (upd H12 d (.dK (mI (putI fd (.inr "o") 0)))) p = some (.tup [.ref d, .ref e]) := by rw [upd_ne hpd]; exact e12 _ _ p1
      have ex : Ex H10 (upd H12 d (.dK (mI (putI fd (.inr "o") 0)))) := Ex.mut (e11.trans e12) hd
      refine ⟨_, rfl, p, _, 1, _, rfl, rfl, st_get p1', rfl, .inr (.inr (.inl ⟨rfl, .inl ⟨_, hk⟩⟩)), e, kvs, rfl, rfl, hk, ?_⟩
      exact s_ret (leastW (I10.mono (Ex.mut ex he)) rfl rfl rfl) fun H13 _ => q H13
end
end K59
namespace K59
open PySem L2
/-! L1: what the top has written, all defs at once. -/
def DefK (K : PySem.W.Frag) (x q : Str) (st : Stmt) (f : Addr) : Prop := ∃ fd, Fun K x q st f fd ∧ PySem.W.keepIn K (.ref f) = true
theorem def_at {K : PySem.W.Frag} {x q : Str} {st : Stmt} {f : Addr} {od an : Option Addr} {sl : Array (Option Value)} {oc kV dc pm cd ct : Value} (l : K.lookup f = some ⟨oc, od, .func (PySem.W.fnOf x q (defArgs st) (defBody st) (defScope st) .none kV dc pm an cd ct), sl⟩)
    (c : PySem.W.codeIn K cd q = true) (k : PySem.W.keepIn K (.ref f) = true) : DefK K x q st f := ⟨_, fun_mk l c k, k⟩
theorem law_binds {K : PySem.W.Frag} {f : Addr} {fd : FuncData} (F : Fun K "law" "law" s_law f fd) (s : Shared) (v : Value) : BindsTo s fd ⟨[v], []⟩ [("_law_script", v)] := by
  obtain ⟨oc, od, kV, doc, pm, an, cdv, ct, osl, rfl, lk, hcd⟩ := F.ex
  exact .of_eq rfl
theorem kit_self {K : PySem.W.Frag} (C : Addr) : PySem.W.kitOne K (.ref C) (.ref C) = some true := by
  unfold PySem.W.kitOne
  rw [if_pos (by simp)]
theorem all_mk {l : PySem.W.OpenLaw} {w : World} {K : PySem.W.Frag} {h : Heap} {mg : Str → Option Value} {fa CA CL CM : Addr} {tS tL : Tok} {f_c_is_whole f_c_is_count f_c_check_line f_c_Market_worth f_c_Market_has_room f_c_Market_held_by f_c_Market_over f_c_Market_hand_back f_c_Market_priced f_c_Market_ways f_c_Market_hand_on f_c_Market_improve f_c_Market_fill f_c_Market_least f_c_Market_greatest f_c_is_name f_c_are_names f_c_is_stock f_c_check_stock f_c_places_of f_c_check_worths f_k_Asker f_k_Line f_k_Market f_c_market_of f_c_least_prices f_c_greatest_prices f_c_prices f_c_L_brought f_c_L_kinds_in f_c_L_over f_c_L_with f_c_L_without f_c_L_sum f_c_L_all_prices f_c_L_line_of f_c_L_ways f_c_L_best f_c_L_any f_c_L_ends_right f_c_L_fits f_c_L_mixed f_c_L_draw f_c_L_one_of f_c_L_shuffled f_c_L_word f_c_L_names f_c_L_kinds f_c_L_rows f_c_L_here f_c_L_worths f_c_L_chain f_c_L_altered f_c_L_again_right f_c_L_purse f_c_L_purses f_c_law : Addr} (X : K.In h) (G : h.Ns mainGlobals mg) (hfa : mg "law" = some (.ref fa))
    (aCA : PySem.W.nsIn K mainGlobals "Asker" = some (some (.ref CA)))
    (aCL : PySem.W.nsIn K mainGlobals "Line" = some (some (.ref CL)))
    (aCM : PySem.W.nsIn K mainGlobals "Market" = some (some (.ref CM)))
    (z_len : PySem.W.nsIn K mainGlobals "len" = some none)
    (z_isinstance : PySem.W.nsIn K mainGlobals "isinstance" = some none)
    (z_sum : PySem.W.nsIn K mainGlobals "sum" = some none)
    (z_max : PySem.W.nsIn K mainGlobals "max" = some none)
    (z_min : PySem.W.nsIn K mainGlobals "min" = some none)
    (z_sorted : PySem.W.nsIn K mainGlobals "sorted" = some none)
    (z_int : PySem.W.nsIn K mainGlobals "int" = some none)
    (z_str : PySem.W.nsIn K mainGlobals "str" = some none)
    (z_bool : PySem.W.nsIn K mainGlobals "bool" = some none)
    (z_list : PySem.W.nsIn K mainGlobals "list" = some none)
    (z_dict : PySem.W.nsIn K mainGlobals "dict" = some none)
    (z_tuple : PySem.W.nsIn K mainGlobals "tuple" = some none)
    (z_set : PySem.W.nsIn K mainGlobals "set" = some none)
    (z_range : PySem.W.nsIn K mainGlobals "range" = some none)
    (z_enumerate : PySem.W.nsIn K mainGlobals "enumerate" = some none)
    (z_zip : PySem.W.nsIn K mainGlobals "zip" = some none)
    (aStep : PySem.W.nsIn K mainGlobals "STEP" = some (some (.int 1000 tS)))
    (aLower : PySem.W.nsIn K mainGlobals "LOWER" = some (some (.str "abcdefghijklmnopqrstuvwxyz" tL)))
    (pgCA : PySem.W.plainGet K CA Str.empty = true)
    (hdCA : PySem.W.hasDictIn K CA = true)
    (poCA : PySem.W.plainOver K CA = true)
    (saCA : PySem.W.findIn K (.ref CA) "__setattr__" = some (some (.builtin "object.__setattr__")))
    (mkCA : PySem.W.makesIn K CA = true)
    (kcCA : PySem.W.keepIn K (.ref CA) = true)
    (pgCL : PySem.W.plainGet K CL Str.empty = true)
    (hdCL : PySem.W.hasDictIn K CL = true)
    (poCL : PySem.W.plainOver K CL = true)
    (saCL : PySem.W.findIn K (.ref CL) "__setattr__" = some (some (.builtin "object.__setattr__")))
    (mkCL : PySem.W.makesIn K CL = true)
    (kcCL : PySem.W.keepIn K (.ref CL) = true)
    (pgCM : PySem.W.plainGet K CM Str.empty = true)
    (hdCM : PySem.W.hasDictIn K CM = true)
    (poCM : PySem.W.plainOver K CM = true)
    (saCM : PySem.W.findIn K (.ref CM) "__setattr__" = some (some (.builtin "object.__setattr__")))
    (mkCM : PySem.W.makesIn K CM = true)
    (kcCM : PySem.W.keepIn K (.ref CM) = true)
    (ccget : PySem.W.specialIn K (.builtin "object.__class__") "__get__" = some (some (.builtin "getset_descriptor.__get__")))
    (cctk : PySem.W.takesIn K (.builtin "object.__class__") = some true)
    (ccCA : PySem.W.findIn K (.ref CA) "__class__" = some (some (.builtin "object.__class__")))
    (moCA : PySem.W.mroIn K CA (.type "object") = some true)
    (ccCL : PySem.W.findIn K (.ref CL) "__class__" = some (some (.builtin "object.__class__")))
    (moCL : PySem.W.mroIn K CL (.type "object") = some true)
    (noCA_row : PySem.W.findIn K (.ref CA) "row" = some none)
    (noCL_all : PySem.W.findIn K (.ref CL) "all" = some none)
    (noCL_every : PySem.W.findIn K (.ref CL) "every" = some none)
    (noCM_rows : PySem.W.findIn K (.ref CM) "rows" = some none)
    (noCM_wants : PySem.W.findIn K (.ref CM) "wants" = some none)
    (noCM_worths : PySem.W.findIn K (.ref CM) "worths" = some none)
    (noCM_sorts : PySem.W.findIn K (.ref CM) "sorts" = some none)
    (noCM_free : PySem.W.findIn K (.ref CM) "free" = some none)
    (noCM_holds : PySem.W.findIn K (.ref CM) "holds" = some none)
    (noCM_got : PySem.W.findIn K (.ref CM) "got" = some none)
    (a_c_is_whole : PySem.W.nsIn K mainGlobals "is_whole" = some (some (.ref f_c_is_whole)))
    (d_c_is_whole : DefK K "is_whole" "is_whole" s_is_whole f_c_is_whole)
    (a_c_is_count : PySem.W.nsIn K mainGlobals "is_count" = some (some (.ref f_c_is_count)))
    (d_c_is_count : DefK K "is_count" "is_count" s_is_count f_c_is_count)
    (a_c_check_line : PySem.W.nsIn K mainGlobals "check_line" = some (some (.ref f_c_check_line)))
    (d_c_check_line : DefK K "check_line" "check_line" s_check_line f_c_check_line)
    (a_c_Market_worth : PySem.W.findIn K (.ref CM) "worth" = some (some (.ref f_c_Market_worth)))
    (i_c_Market_worth : PySem.W.isFn K (.ref f_c_Market_worth) = true)
    (d_c_Market_worth : DefK K "worth" "Market.worth" s_Market_worth f_c_Market_worth)
    (a_c_Market_has_room : PySem.W.findIn K (.ref CM) "has_room" = some (some (.ref f_c_Market_has_room)))
    (i_c_Market_has_room : PySem.W.isFn K (.ref f_c_Market_has_room) = true)
    (d_c_Market_has_room : DefK K "has_room" "Market.has_room" s_Market_has_room f_c_Market_has_room)
    (a_c_Market_held_by : PySem.W.findIn K (.ref CM) "held_by" = some (some (.ref f_c_Market_held_by)))
    (i_c_Market_held_by : PySem.W.isFn K (.ref f_c_Market_held_by) = true)
    (d_c_Market_held_by : DefK K "held_by" "Market.held_by" s_Market_held_by f_c_Market_held_by)
    (a_c_Market_over : PySem.W.findIn K (.ref CM) "over" = some (some (.ref f_c_Market_over)))
    (i_c_Market_over : PySem.W.isFn K (.ref f_c_Market_over) = true)
    (d_c_Market_over : DefK K "over" "Market.over" s_Market_over f_c_Market_over)
    (a_c_Market_hand_back : PySem.W.findIn K (.ref CM) "hand_back" = some (some (.ref f_c_Market_hand_back)))
    (i_c_Market_hand_back : PySem.W.isFn K (.ref f_c_Market_hand_back) = true)
    (d_c_Market_hand_back : DefK K "hand_back" "Market.hand_back" s_Market_hand_back f_c_Market_hand_back)
    (a_c_Market_priced : PySem.W.findIn K (.ref CM) "priced" = some (some (.ref f_c_Market_priced)))
    (i_c_Market_priced : PySem.W.isFn K (.ref f_c_Market_priced) = true)
    (d_c_Market_priced : DefK K "priced" "Market.priced" s_Market_priced f_c_Market_priced)
    (a_c_Market_ways : PySem.W.findIn K (.ref CM) "ways" = some (some (.ref f_c_Market_ways)))
    (i_c_Market_ways : PySem.W.isFn K (.ref f_c_Market_ways) = true)
    (d_c_Market_ways : DefK K "ways" "Market.ways" s_Market_ways f_c_Market_ways)
    (a_c_Market_hand_on : PySem.W.findIn K (.ref CM) "hand_on" = some (some (.ref f_c_Market_hand_on)))
    (i_c_Market_hand_on : PySem.W.isFn K (.ref f_c_Market_hand_on) = true)
    (d_c_Market_hand_on : DefK K "hand_on" "Market.hand_on" s_Market_hand_on f_c_Market_hand_on)
    (a_c_Market_improve : PySem.W.findIn K (.ref CM) "improve" = some (some (.ref f_c_Market_improve)))
    (i_c_Market_improve : PySem.W.isFn K (.ref f_c_Market_improve) = true)
    (d_c_Market_improve : DefK K "improve" "Market.improve" s_Market_improve f_c_Market_improve)
    (a_c_Market_fill : PySem.W.findIn K (.ref CM) "fill" = some (some (.ref f_c_Market_fill)))
    (i_c_Market_fill : PySem.W.isFn K (.ref f_c_Market_fill) = true)
    (d_c_Market_fill : DefK K "fill" "Market.fill" s_Market_fill f_c_Market_fill)
    (a_c_Market_least : PySem.W.findIn K (.ref CM) "least" = some (some (.ref f_c_Market_least)))
    (i_c_Market_least : PySem.W.isFn K (.ref f_c_Market_least) = true)
    (d_c_Market_least : DefK K "least" "Market.least" s_Market_least f_c_Market_least)
    (a_c_Market_greatest : PySem.W.findIn K (.ref CM) "greatest" = some (some (.ref f_c_Market_greatest)))
    (i_c_Market_greatest : PySem.W.isFn K (.ref f_c_Market_greatest) = true)
    (d_c_Market_greatest : DefK K "greatest" "Market.greatest" s_Market_greatest f_c_Market_greatest)
    (a_c_is_name : PySem.W.nsIn K mainGlobals "is_name" = some (some (.ref f_c_is_name)))
    (d_c_is_name : DefK K "is_name" "is_name" s_is_name f_c_is_name)
    (a_c_are_names : PySem.W.nsIn K mainGlobals "are_names" = some (some (.ref f_c_are_names)))
    (d_c_are_names : DefK K "are_names" "are_names" s_are_names f_c_are_names)
    (a_c_is_stock : PySem.W.nsIn K mainGlobals "is_stock" = some (some (.ref f_c_is_stock)))
    (d_c_is_stock : DefK K "is_stock" "is_stock" s_is_stock f_c_is_stock)
    (a_c_check_stock : PySem.W.nsIn K mainGlobals "check_stock" = some (some (.ref f_c_check_stock)))
    (d_c_check_stock : DefK K "check_stock" "check_stock" s_check_stock f_c_check_stock)
    (a_c_places_of : PySem.W.nsIn K mainGlobals "places_of" = some (some (.ref f_c_places_of)))
    (d_c_places_of : DefK K "places_of" "places_of" s_places_of f_c_places_of)
    (a_c_check_worths : PySem.W.nsIn K mainGlobals "check_worths" = some (some (.ref f_c_check_worths)))
    (d_c_check_worths : DefK K "check_worths" "check_worths" s_check_worths f_c_check_worths)
    (a_k_Asker : PySem.W.findIn K (.ref CA) "__init__" = some (some (.ref f_k_Asker)))
    (i_k_Asker : PySem.W.isFn K (.ref f_k_Asker) = true)
    (d_k_Asker : DefK K "__init__" "Asker.__init__" s_Asker_init f_k_Asker)
    (a_k_Line : PySem.W.findIn K (.ref CL) "__init__" = some (some (.ref f_k_Line)))
    (i_k_Line : PySem.W.isFn K (.ref f_k_Line) = true)
    (d_k_Line : DefK K "__init__" "Line.__init__" s_Line_init f_k_Line)
    (a_k_Market : PySem.W.findIn K (.ref CM) "__init__" = some (some (.ref f_k_Market)))
    (i_k_Market : PySem.W.isFn K (.ref f_k_Market) = true)
    (d_k_Market : DefK K "__init__" "Market.__init__" s_Market_init f_k_Market)
    (a_c_market_of : PySem.W.nsIn K mainGlobals "market_of" = some (some (.ref f_c_market_of)))
    (d_c_market_of : DefK K "market_of" "market_of" s_market_of f_c_market_of)
    (a_c_least_prices : PySem.W.nsIn K mainGlobals "least_prices" = some (some (.ref f_c_least_prices)))
    (d_c_least_prices : DefK K "least_prices" "least_prices" s_least_prices f_c_least_prices)
    (a_c_greatest_prices : PySem.W.nsIn K mainGlobals "greatest_prices" = some (some (.ref f_c_greatest_prices)))
    (d_c_greatest_prices : DefK K "greatest_prices" "greatest_prices" s_greatest_prices f_c_greatest_prices)
    (a_c_prices : PySem.W.nsIn K mainGlobals "prices" = some (some (.ref f_c_prices)))
    (d_c_prices : DefK K "prices" "prices" s_prices f_c_prices)
    (a_c_L_brought : PySem.W.nsIn K mainGlobals "_law_brought" = some (some (.ref f_c_L_brought)))
    (d_c_L_brought : DefK K "_law_brought" "_law_brought" s_L_brought f_c_L_brought)
    (a_c_L_kinds_in : PySem.W.nsIn K mainGlobals "_law_kinds_in" = some (some (.ref f_c_L_kinds_in)))
    (d_c_L_kinds_in : DefK K "_law_kinds_in" "_law_kinds_in" s_L_kinds_in f_c_L_kinds_in)
    (a_c_L_over : PySem.W.nsIn K mainGlobals "_law_over" = some (some (.ref f_c_L_over)))
    (d_c_L_over : DefK K "_law_over" "_law_over" s_L_over f_c_L_over)
    (a_c_L_with : PySem.W.nsIn K mainGlobals "_law_with" = some (some (.ref f_c_L_with)))
    (d_c_L_with : DefK K "_law_with" "_law_with" s_L_with f_c_L_with)
    (a_c_L_without : PySem.W.nsIn K mainGlobals "_law_without" = some (some (.ref f_c_L_without)))
    (d_c_L_without : DefK K "_law_without" "_law_without" s_L_without f_c_L_without)
    (a_c_L_sum : PySem.W.nsIn K mainGlobals "_law_sum" = some (some (.ref f_c_L_sum)))
    (d_c_L_sum : DefK K "_law_sum" "_law_sum" s_L_sum f_c_L_sum)
    (a_c_L_all_prices : PySem.W.nsIn K mainGlobals "_law_all_prices" = some (some (.ref f_c_L_all_prices)))
    (d_c_L_all_prices : DefK K "_law_all_prices" "_law_all_prices" s_L_all_prices f_c_L_all_prices)
    (a_c_L_line_of : PySem.W.nsIn K mainGlobals "_law_line_of" = some (some (.ref f_c_L_line_of)))
    (d_c_L_line_of : DefK K "_law_line_of" "_law_line_of" s_L_line_of f_c_L_line_of)
    (a_c_L_ways : PySem.W.nsIn K mainGlobals "_law_ways" = some (some (.ref f_c_L_ways)))
    (d_c_L_ways : DefK K "_law_ways" "_law_ways" s_L_ways f_c_L_ways)
    (a_c_L_best : PySem.W.nsIn K mainGlobals "_law_best" = some (some (.ref f_c_L_best)))
    (d_c_L_best : DefK K "_law_best" "_law_best" s_L_best f_c_L_best)
    (a_c_L_any : PySem.W.nsIn K mainGlobals "_law_any" = some (some (.ref f_c_L_any)))
    (d_c_L_any : DefK K "_law_any" "_law_any" s_L_any f_c_L_any)
    (a_c_L_ends_right : PySem.W.nsIn K mainGlobals "_law_ends_right" = some (some (.ref f_c_L_ends_right)))
    (d_c_L_ends_right : DefK K "_law_ends_right" "_law_ends_right" s_L_ends_right f_c_L_ends_right)
    (a_c_L_fits : PySem.W.nsIn K mainGlobals "_law_fits" = some (some (.ref f_c_L_fits)))
    (d_c_L_fits : DefK K "_law_fits" "_law_fits" s_L_fits f_c_L_fits)
    (a_c_L_mixed : PySem.W.nsIn K mainGlobals "_law_mixed" = some (some (.ref f_c_L_mixed)))
    (d_c_L_mixed : DefK K "_law_mixed" "_law_mixed" s_L_mixed f_c_L_mixed)
    (a_c_L_draw : PySem.W.nsIn K mainGlobals "_law_draw" = some (some (.ref f_c_L_draw)))
    (d_c_L_draw : DefK K "_law_draw" "_law_draw" s_L_draw f_c_L_draw)
    (a_c_L_one_of : PySem.W.nsIn K mainGlobals "_law_one_of" = some (some (.ref f_c_L_one_of)))
    (d_c_L_one_of : DefK K "_law_one_of" "_law_one_of" s_L_one_of f_c_L_one_of)
    (a_c_L_shuffled : PySem.W.nsIn K mainGlobals "_law_shuffled" = some (some (.ref f_c_L_shuffled)))
    (d_c_L_shuffled : DefK K "_law_shuffled" "_law_shuffled" s_L_shuffled f_c_L_shuffled)
    (a_c_L_word : PySem.W.nsIn K mainGlobals "_law_word" = some (some (.ref f_c_L_word)))
    (d_c_L_word : DefK K "_law_word" "_law_word" s_L_word f_c_L_word)
    (a_c_L_names : PySem.W.nsIn K mainGlobals "_law_names" = some (some (.ref f_c_L_names)))
    (d_c_L_names : DefK K "_law_names" "_law_names" s_L_names f_c_L_names)
    (a_c_L_kinds : PySem.W.nsIn K mainGlobals "_law_kinds" = some (some (.ref f_c_L_kinds)))
    (d_c_L_kinds : DefK K "_law_kinds" "_law_kinds" s_L_kinds f_c_L_kinds)
    (a_c_L_rows : PySem.W.nsIn K mainGlobals "_law_rows" = some (some (.ref f_c_L_rows)))
    (d_c_L_rows : DefK K "_law_rows" "_law_rows" s_L_rows f_c_L_rows)
    (a_c_L_here : PySem.W.nsIn K mainGlobals "_law_here" = some (some (.ref f_c_L_here)))
    (d_c_L_here : DefK K "_law_here" "_law_here" s_L_here f_c_L_here)
    (a_c_L_worths : PySem.W.nsIn K mainGlobals "_law_worths" = some (some (.ref f_c_L_worths)))
    (d_c_L_worths : DefK K "_law_worths" "_law_worths" s_L_worths f_c_L_worths)
    (a_c_L_chain : PySem.W.nsIn K mainGlobals "_law_chain" = some (some (.ref f_c_L_chain)))
    (d_c_L_chain : DefK K "_law_chain" "_law_chain" s_L_chain f_c_L_chain)
    (a_c_L_altered : PySem.W.nsIn K mainGlobals "_law_altered" = some (some (.ref f_c_L_altered)))
    (d_c_L_altered : DefK K "_law_altered" "_law_altered" s_L_altered f_c_L_altered)
    (a_c_L_again_right : PySem.W.nsIn K mainGlobals "_law_again_right" = some (some (.ref f_c_L_again_right)))
    (d_c_L_again_right : DefK K "_law_again_right" "_law_again_right" s_L_again_right f_c_L_again_right)
    (a_c_L_purse : PySem.W.nsIn K mainGlobals "_law_purse" = some (some (.ref f_c_L_purse)))
    (d_c_L_purse : DefK K "_law_purse" "_law_purse" s_L_purse f_c_L_purse)
    (a_c_L_purses : PySem.W.nsIn K mainGlobals "_law_purses" = some (some (.ref f_c_L_purses)))
    (d_c_L_purses : DefK K "_law_purses" "_law_purses" s_L_purses f_c_L_purses)
    (a_c_law : PySem.W.nsIn K mainGlobals "law" = some (some (.ref f_c_law)))
    (d_c_law : DefK K "law" "law" s_law f_c_law)
    : ∃ fd : FuncData, (∀ (s : Shared) (v : Value), BindsTo s fd ⟨[v], []⟩ [("_law_script", v)]) ∧ ∀ base : Heap, K.In base → base.Ns mainGlobals mg → FnOk l.prog w K mg base CX0 9 fa fd ["_law_script"] (spLaw K) := by
  have e := hfa.symm.trans (PySem.W.mg_of X G a_c_law)
  cases e
  have clsCA : Cls K CA := ⟨pgCA, hdCA, poCA, saCA⟩
  have clsCL : Cls K CL := ⟨pgCL, hdCL, poCL, saCL⟩
  have clsCM : Cls K CM := ⟨pgCM, hdCM, poCM, saCM⟩
  have T : Txt K mg CA CL CM := ⟨PySem.W.mg_none_of X G z_len, PySem.W.mg_none_of X G z_isinstance, PySem.W.mg_none_of X G z_sum, PySem.W.mg_none_of X G z_max, PySem.W.mg_none_of X G z_min, PySem.W.mg_none_of X G z_sorted, PySem.W.mg_none_of X G z_int, PySem.W.mg_none_of X G z_str, PySem.W.mg_none_of X G z_bool, PySem.W.mg_none_of X G z_list, PySem.W.mg_none_of X G z_dict, PySem.W.mg_none_of X G z_tuple, PySem.W.mg_none_of X G z_set, PySem.W.mg_none_of X G z_range, PySem.W.mg_none_of X G z_enumerate, PySem.W.mg_none_of X G z_zip, ⟨_, PySem.W.mg_of X G aStep, ⟨_, rfl⟩⟩, ⟨_, PySem.W.mg_of X G aLower, ⟨_, rfl⟩⟩, PySem.W.mg_of X G aCA, PySem.W.mg_of X G aCL, PySem.W.mg_of X G aCM, ccget, cctk, ccCA, ccCL, moCA, moCL, kit_self CA, kit_self CL, clsCA, clsCL, clsCM, noCA_row, noCL_all, noCL_every, noCM_rows, noCM_wants, noCM_worths, noCM_sorts, noCM_free, noCM_holds, noCM_got⟩
  obtain ⟨fd_c_is_whole, F_c_is_whole, kp_c_is_whole⟩ := d_c_is_whole
  have b_c_is_whole : Binds K fd_c_is_whole ["value"] [] := F_c_is_whole.binds (ps := ["value"]) fun _ _ _ _ _ _ us hl => match us, hl with | [_], _ => rfl
  obtain ⟨fd_c_is_count, F_c_is_count, kp_c_is_count⟩ := d_c_is_count
  have b_c_is_count : Binds K fd_c_is_count ["value"] [] := F_c_is_count.binds (ps := ["value"]) fun _ _ _ _ _ _ us hl => match us, hl with | [_], _ => rfl
  obtain ⟨fd_c_check_line, F_c_check_line, kp_c_check_line⟩ := d_c_check_line
  have b_c_check_line : Binds K fd_c_check_line ["value"] [] := F_c_check_line.binds (ps := ["value"]) fun _ _ _ _ _ _ us hl => match us, hl with | [_], _ => rfl
  obtain ⟨fd_c_Market_worth, F_c_Market_worth, kp_c_Market_worth⟩ := d_c_Market_worth
  have b_c_Market_worth : Binds K fd_c_Market_worth ["self", "at", "kind"] [] := F_c_Market_worth.binds (ps := ["self", "at", "kind"]) fun _ _ _ _ _ _ us hl => match us, hl with | [_, _, _], _ => rfl
  obtain ⟨fd_c_Market_has_room, F_c_Market_has_room, kp_c_Market_has_room⟩ := d_c_Market_has_room
  have b_c_Market_has_room : Binds K fd_c_Market_has_room ["self", "at"] [] := F_c_Market_has_room.binds (ps := ["self", "at"]) fun _ _ _ _ _ _ us hl => match us, hl with | [_, _], _ => rfl
  obtain ⟨fd_c_Market_held_by, F_c_Market_held_by, kp_c_Market_held_by⟩ := d_c_Market_held_by
  have b_c_Market_held_by : Binds K fd_c_Market_held_by ["self", "at"] [] := F_c_Market_held_by.binds (ps := ["self", "at"]) fun _ _ _ _ _ _ us hl => match us, hl with | [_, _], _ => rfl
  obtain ⟨fd_c_Market_over, F_c_Market_over, kp_c_Market_over⟩ := d_c_Market_over
  have b_c_Market_over : Binds K fd_c_Market_over ["self", "at", "found"] [] := F_c_Market_over.binds (ps := ["self", "at", "found"]) fun _ _ _ _ _ _ us hl => match us, hl with | [_, _, _], _ => rfl
  obtain ⟨fd_c_Market_hand_back, F_c_Market_hand_back, kp_c_Market_hand_back⟩ := d_c_Market_hand_back
  have b_c_Market_hand_back : Binds K fd_c_Market_hand_back ["self", "at", "found"] [] := F_c_Market_hand_back.binds (ps := ["self", "at", "found"]) fun _ _ _ _ _ _ us hl => match us, hl with | [_, _, _], _ => rfl
  obtain ⟨fd_c_Market_priced, F_c_Market_priced, kp_c_Market_priced⟩ := d_c_Market_priced
  have b_c_Market_priced : Binds K fd_c_Market_priced ["self", "found"] [] := F_c_Market_priced.binds (ps := ["self", "found"]) fun _ _ _ _ _ _ us hl => match us, hl with | [_, _], _ => rfl
  obtain ⟨fd_c_Market_ways, F_c_Market_ways, kp_c_Market_ways⟩ := d_c_Market_ways
  have b_c_Market_ways : Binds K fd_c_Market_ways ["self"] [] := F_c_Market_ways.binds (ps := ["self"]) fun _ _ _ _ _ _ us hl => match us, hl with | [_], _ => rfl
  obtain ⟨fd_c_Market_hand_on, F_c_Market_hand_on, kp_c_Market_hand_on⟩ := d_c_Market_hand_on
  have b_c_Market_hand_on : Binds K fd_c_Market_hand_on ["self", "takes", "gives"] [] := F_c_Market_hand_on.binds (ps := ["self", "takes", "gives"]) fun _ _ _ _ _ _ us hl => match us, hl with | [_, _, _], _ => rfl
  obtain ⟨fd_c_Market_improve, F_c_Market_improve, kp_c_Market_improve⟩ := d_c_Market_improve
  have b_c_Market_improve : Binds K fd_c_Market_improve ["self", "must"] [] := F_c_Market_improve.binds (ps := ["self", "must"]) fun _ _ _ _ _ _ us hl => match us, hl with | [_, _], _ => rfl
  obtain ⟨fd_c_Market_fill, F_c_Market_fill, kp_c_Market_fill⟩ := d_c_Market_fill
  have b_c_Market_fill : Binds K fd_c_Market_fill ["self", "must"] [] := F_c_Market_fill.binds (ps := ["self", "must"]) fun _ _ _ _ _ _ us hl => match us, hl with | [_, _], _ => rfl
  obtain ⟨fd_c_Market_least, F_c_Market_least, kp_c_Market_least⟩ := d_c_Market_least
  have b_c_Market_least : Binds K fd_c_Market_least ["self"] [] := F_c_Market_least.binds (ps := ["self"]) fun _ _ _ _ _ _ us hl => match us, hl with | [_], _ => rfl
  obtain ⟨fd_c_Market_greatest, F_c_Market_greatest, kp_c_Market_greatest⟩ := d_c_Market_greatest
  have b_c_Market_greatest : Binds K fd_c_Market_greatest ["self"] [] := F_c_Market_greatest.binds (ps := ["self"]) fun _ _ _ _ _ _ us hl => match us, hl with | [_], _ => rfl
  obtain ⟨fd_c_is_name, F_c_is_name, kp_c_is_name⟩ := d_c_is_name
  have b_c_is_name : Binds K fd_c_is_name ["value"] [] := F_c_is_name.binds (ps := ["value"]) fun _ _ _ _ _ _ us hl => match us, hl with | [_], _ => rfl
  obtain ⟨fd_c_are_names, F_c_are_names, kp_c_are_names⟩ := d_c_are_names
  have b_c_are_names : Binds K fd_c_are_names ["value"] [] := F_c_are_names.binds (ps := ["value"]) fun _ _ _ _ _ _ us hl => match us, hl with | [_], _ => rfl
  obtain ⟨fd_c_is_stock, F_c_is_stock, kp_c_is_stock⟩ := d_c_is_stock
  have b_c_is_stock : Binds K fd_c_is_stock ["value"] [] := F_c_is_stock.binds (ps := ["value"]) fun _ _ _ _ _ _ us hl => match us, hl with | [_], _ => rfl
  obtain ⟨fd_c_check_stock, F_c_check_stock, kp_c_check_stock⟩ := d_c_check_stock
  have b_c_check_stock : Binds K fd_c_check_stock ["value"] [] := F_c_check_stock.binds (ps := ["value"]) fun _ _ _ _ _ _ us hl => match us, hl with | [_], _ => rfl
  obtain ⟨fd_c_places_of, F_c_places_of, kp_c_places_of⟩ := d_c_places_of
  have b_c_places_of : Binds K fd_c_places_of ["line"] [] := F_c_places_of.binds (ps := ["line"]) fun _ _ _ _ _ _ us hl => match us, hl with | [_], _ => rfl
  obtain ⟨fd_c_check_worths, F_c_check_worths, kp_c_check_worths⟩ := d_c_check_worths
  have b_c_check_worths : Binds K fd_c_check_worths ["line", "value"] [] := F_c_check_worths.binds (ps := ["line", "value"]) fun _ _ _ _ _ _ us hl => match us, hl with | [_, _], _ => rfl
  obtain ⟨fd_k_Asker, F_k_Asker, kp_k_Asker⟩ := d_k_Asker
  have b_k_Asker : Binds K fd_k_Asker ["self", "name", "fits", "most"] [] := F_k_Asker.binds (ps := ["self", "name", "fits", "most"]) fun _ _ _ _ _ _ us hl => match us, hl with | [_, _, _, _], _ => rfl
  obtain ⟨fd_k_Line, F_k_Line, kp_k_Line⟩ := d_k_Line
  have b_k_Line : Binds K fd_k_Line ["self", "askers"] [] := F_k_Line.binds (ps := ["self", "askers"]) fun _ _ _ _ _ _ us hl => match us, hl with | [_, _], _ => rfl
  obtain ⟨fd_k_Market, F_k_Market, kp_k_Market⟩ := d_k_Market
  have b_k_Market : Binds K fd_k_Market ["self", "rows", "wants", "stock", "worths"] [] := F_k_Market.binds (ps := ["self", "rows", "wants", "stock", "worths"]) fun _ _ _ _ _ _ us hl => match us, hl with | [_, _, _, _, _], _ => rfl
  obtain ⟨fd_c_market_of, F_c_market_of, kp_c_market_of⟩ := d_c_market_of
  have b_c_market_of : Binds K fd_c_market_of ["line", "stock", "worths"] [] := F_c_market_of.binds (ps := ["line", "stock", "worths"]) fun _ _ _ _ _ _ us hl => match us, hl with | [_, _, _], _ => rfl
  obtain ⟨fd_c_least_prices, F_c_least_prices, kp_c_least_prices⟩ := d_c_least_prices
  have b_c_least_prices : Binds K fd_c_least_prices ["line", "stock", "worths"] [] := F_c_least_prices.binds (ps := ["line", "stock", "worths"]) fun _ _ _ _ _ _ us hl => match us, hl with | [_, _, _], _ => rfl
  obtain ⟨fd_c_greatest_prices, F_c_greatest_prices, kp_c_greatest_prices⟩ := d_c_greatest_prices
  have b_c_greatest_prices : Binds K fd_c_greatest_prices ["line", "stock", "worths"] [] := F_c_greatest_prices.binds (ps := ["line", "stock", "worths"]) fun _ _ _ _ _ _ us hl => match us, hl with | [_, _, _], _ => rfl
  obtain ⟨fd_c_prices, F_c_prices, kp_c_prices⟩ := d_c_prices
  have b_c_prices : Binds K fd_c_prices ["line", "stock", "worths"] [] := F_c_prices.binds (ps := ["line", "stock", "worths"]) fun _ _ _ _ _ _ us hl => match us, hl with | [_, _, _], _ => rfl
  obtain ⟨fd_c_L_brought, F_c_L_brought, kp_c_L_brought⟩ := d_c_L_brought
  have b_c_L_brought : Binds K fd_c_L_brought ["_law_numbers", "_law_values"] [] := F_c_L_brought.binds (ps := ["_law_numbers", "_law_values"]) fun _ _ _ _ _ _ us hl => match us, hl with | [_, _], _ => rfl
  obtain ⟨fd_c_L_kinds_in, F_c_L_kinds_in, kp_c_L_kinds_in⟩ := d_c_L_kinds_in
  have b_c_L_kinds_in : Binds K fd_c_L_kinds_in ["_law_rows_here"] [] := F_c_L_kinds_in.binds (ps := ["_law_rows_here"]) fun _ _ _ _ _ _ us hl => match us, hl with | [_], _ => rfl
  obtain ⟨fd_c_L_over, F_c_L_over, kp_c_L_over⟩ := d_c_L_over
  have b_c_L_over : Binds K fd_c_L_over ["_law_row", "_law_worths_here", "_law_kinds_here"] [] := F_c_L_over.binds (ps := ["_law_row", "_law_worths_here", "_law_kinds_here"]) fun _ _ _ _ _ _ us hl => match us, hl with | [_, _, _], _ => rfl
  obtain ⟨fd_c_L_with, F_c_L_with, kp_c_L_with⟩ := d_c_L_with
  have b_c_L_with : Binds K fd_c_L_with ["_law_stock", "_law_kind", "_law_more"] [] := F_c_L_with.binds (ps := ["_law_stock", "_law_kind", "_law_more"]) fun _ _ _ _ _ _ us hl => match us, hl with | [_, _, _], _ => rfl
  obtain ⟨fd_c_L_without, F_c_L_without, kp_c_L_without⟩ := d_c_L_without
  have b_c_L_without : Binds K fd_c_L_without ["_law_greatest", "_law_stock"] [] := F_c_L_without.binds (ps := ["_law_greatest", "_law_stock"]) fun _ _ _ _ _ _ us hl => match us, hl with | [_, _], _ => rfl
  obtain ⟨fd_c_L_sum, F_c_L_sum, kp_c_L_sum⟩ := d_c_L_sum
  have b_c_L_sum : Binds K fd_c_L_sum ["_law_rows_here", "_law_stock", "_law_worths_here", "_law_kinds_here"] [] := F_c_L_sum.binds (ps := ["_law_rows_here", "_law_stock", "_law_worths_here", "_law_kinds_here"]) fun _ _ _ _ _ _ us hl => match us, hl with | [_, _, _, _], _ => rfl
  obtain ⟨fd_c_L_all_prices, F_c_L_all_prices, kp_c_L_all_prices⟩ := d_c_L_all_prices
  have b_c_L_all_prices : Binds K fd_c_L_all_prices ["_law_kinds_here", "_law_most"] [] := F_c_L_all_prices.binds (ps := ["_law_kinds_here", "_law_most"]) fun _ _ _ _ _ _ us hl => match us, hl with | [_, _], _ => rfl
  obtain ⟨fd_c_L_line_of, F_c_L_line_of, kp_c_L_line_of⟩ := d_c_L_line_of
  have b_c_L_line_of : Binds K fd_c_L_line_of ["_law_rows_here"] [] := F_c_L_line_of.binds (ps := ["_law_rows_here"]) fun _ _ _ _ _ _ us hl => match us, hl with | [_], _ => rfl
  obtain ⟨fd_c_L_ways, F_c_L_ways, kp_c_L_ways⟩ := d_c_L_ways
  have b_c_L_ways : Binds K fd_c_L_ways ["_law_left", "_law_places", "_law_room"] [] := F_c_L_ways.binds (ps := ["_law_left", "_law_places", "_law_room"]) fun _ _ _ _ _ _ us hl => match us, hl with | [_, _, _], _ => rfl
  obtain ⟨fd_c_L_best, F_c_L_best, kp_c_L_best⟩ := d_c_L_best
  have b_c_L_best : Binds K fd_c_L_best ["_law_rows_here", "_law_stock", "_law_worths_here", "_law_wants"] [] := F_c_L_best.binds (ps := ["_law_rows_here", "_law_stock", "_law_worths_here", "_law_wants"]) fun _ _ _ _ _ _ us hl => match us, hl with | [_, _, _, _], _ => rfl
  obtain ⟨fd_c_L_any, F_c_L_any, kp_c_L_any⟩ := d_c_L_any
  have b_c_L_any : Binds K fd_c_L_any ["_law_rows_here", "_law_stock", "_law_worths_here"] [] := F_c_L_any.binds (ps := ["_law_rows_here", "_law_stock", "_law_worths_here"]) fun _ _ _ _ _ _ us hl => match us, hl with | [_, _, _], _ => rfl
  obtain ⟨fd_c_L_ends_right, F_c_L_ends_right, kp_c_L_ends_right⟩ := d_c_L_ends_right
  have b_c_L_ends_right : Binds K fd_c_L_ends_right ["_law_rows_here", "_law_stock", "_law_worths_here", "_law_due", "_law_least", "_law_greatest"] [] := F_c_L_ends_right.binds (ps := ["_law_rows_here", "_law_stock", "_law_worths_here", "_law_due", "_law_least", "_law_greatest"]) fun _ _ _ _ _ _ us hl => match us, hl with | [_, _, _, _, _, _], _ => rfl
  obtain ⟨fd_c_L_fits, F_c_L_fits, kp_c_L_fits⟩ := d_c_L_fits
  have b_c_L_fits : Binds K fd_c_L_fits ["_law_rows_here", "_law_stock", "_law_worths_here"] [] := F_c_L_fits.binds (ps := ["_law_rows_here", "_law_stock", "_law_worths_here"]) fun _ _ _ _ _ _ us hl => match us, hl with | [_, _, _], _ => rfl
  obtain ⟨fd_c_L_mixed, F_c_L_mixed, kp_c_L_mixed⟩ := d_c_L_mixed
  have b_c_L_mixed : Binds K fd_c_L_mixed ["_law_seed", "_law_turn", "_law_at"] [] := F_c_L_mixed.binds (ps := ["_law_seed", "_law_turn", "_law_at"]) fun _ _ _ _ _ _ us hl => match us, hl with | [_, _, _], _ => rfl
  obtain ⟨fd_c_L_draw, F_c_L_draw, kp_c_L_draw⟩ := d_c_L_draw
  have b_c_L_draw : Binds K fd_c_L_draw ["_law_purse_here", "_law_many"] [] := F_c_L_draw.binds (ps := ["_law_purse_here", "_law_many"]) fun _ _ _ _ _ _ us hl => match us, hl with | [_, _], _ => rfl
  obtain ⟨fd_c_L_one_of, F_c_L_one_of, kp_c_L_one_of⟩ := d_c_L_one_of
  have b_c_L_one_of : Binds K fd_c_L_one_of ["_law_purse_here", "_law_some"] [] := F_c_L_one_of.binds (ps := ["_law_purse_here", "_law_some"]) fun _ _ _ _ _ _ us hl => match us, hl with | [_, _], _ => rfl
  obtain ⟨fd_c_L_shuffled, F_c_L_shuffled, kp_c_L_shuffled⟩ := d_c_L_shuffled
  have b_c_L_shuffled : Binds K fd_c_L_shuffled ["_law_purse_here", "_law_some"] [] := F_c_L_shuffled.binds (ps := ["_law_purse_here", "_law_some"]) fun _ _ _ _ _ _ us hl => match us, hl with | [_, _], _ => rfl
  obtain ⟨fd_c_L_word, F_c_L_word, kp_c_L_word⟩ := d_c_L_word
  have b_c_L_word : Binds K fd_c_L_word ["_law_purse_here"] [] := F_c_L_word.binds (ps := ["_law_purse_here"]) fun _ _ _ _ _ _ us hl => match us, hl with | [_], _ => rfl
  obtain ⟨fd_c_L_names, F_c_L_names, kp_c_L_names⟩ := d_c_L_names
  have b_c_L_names : Binds K fd_c_L_names ["_law_purse_here", "_law_many"] [] := F_c_L_names.binds (ps := ["_law_purse_here", "_law_many"]) fun _ _ _ _ _ _ us hl => match us, hl with | [_, _], _ => rfl
  obtain ⟨fd_c_L_kinds, F_c_L_kinds, kp_c_L_kinds⟩ := d_c_L_kinds
  have b_c_L_kinds : Binds K fd_c_L_kinds ["_law_purse_here", "_law_many"] [] := F_c_L_kinds.binds (ps := ["_law_purse_here", "_law_many"]) fun _ _ _ _ _ _ us hl => match us, hl with | [_, _], _ => rfl
  obtain ⟨fd_c_L_rows, F_c_L_rows, kp_c_L_rows⟩ := d_c_L_rows
  have b_c_L_rows : Binds K fd_c_L_rows ["_law_purse_here", "_law_kinds_here", "_law_most"] [] := F_c_L_rows.binds (ps := ["_law_purse_here", "_law_kinds_here", "_law_most"]) fun _ _ _ _ _ _ us hl => match us, hl with | [_, _, _], _ => rfl
  obtain ⟨fd_c_L_here, F_c_L_here, kp_c_L_here⟩ := d_c_L_here
  have b_c_L_here : Binds K fd_c_L_here ["_law_purse_here", "_law_kinds_here"] [] := F_c_L_here.binds (ps := ["_law_purse_here", "_law_kinds_here"]) fun _ _ _ _ _ _ us hl => match us, hl with | [_, _], _ => rfl
  obtain ⟨fd_c_L_worths, F_c_L_worths, kp_c_L_worths⟩ := d_c_L_worths
  have b_c_L_worths : Binds K fd_c_L_worths ["_law_purse_here", "_law_rows_here"] [] := F_c_L_worths.binds (ps := ["_law_purse_here", "_law_rows_here"]) fun _ _ _ _ _ _ us hl => match us, hl with | [_, _], _ => rfl
  obtain ⟨fd_c_L_chain, F_c_L_chain, kp_c_L_chain⟩ := d_c_L_chain
  have b_c_L_chain : Binds K fd_c_L_chain ["_law_purse_here"] [] := F_c_L_chain.binds (ps := ["_law_purse_here"]) fun _ _ _ _ _ _ us hl => match us, hl with | [_], _ => rfl
  obtain ⟨fd_c_L_altered, F_c_L_altered, kp_c_L_altered⟩ := d_c_L_altered
  have b_c_L_altered : Binds K fd_c_L_altered ["_law_purse_here", "_law_rows_here", "_law_stock", "_law_worths_here"] [] := F_c_L_altered.binds (ps := ["_law_purse_here", "_law_rows_here", "_law_stock", "_law_worths_here"]) fun _ _ _ _ _ _ us hl => match us, hl with | [_, _, _, _], _ => rfl
  obtain ⟨fd_c_L_again_right, F_c_L_again_right, kp_c_L_again_right⟩ := d_c_L_again_right
  have b_c_L_again_right : Binds K fd_c_L_again_right ["_law_purse_here", "_law_rows_here", "_law_stock", "_law_worths_here"] [] := F_c_L_again_right.binds (ps := ["_law_purse_here", "_law_rows_here", "_law_stock", "_law_worths_here"]) fun _ _ _ _ _ _ us hl => match us, hl with | [_, _, _, _], _ => rfl
  obtain ⟨fd_c_L_purse, F_c_L_purse, kp_c_L_purse⟩ := d_c_L_purse
  have b_c_L_purse : Binds K fd_c_L_purse ["_law_script", "_law_at"] [] := F_c_L_purse.binds (ps := ["_law_script", "_law_at"]) fun _ _ _ _ _ _ us hl => match us, hl with | [_, _], _ => rfl
  obtain ⟨fd_c_L_purses, F_c_L_purses, kp_c_L_purses⟩ := d_c_L_purses
  have b_c_L_purses : Binds K fd_c_L_purses ["_law_script", "_law_few"] [] := F_c_L_purses.binds (ps := ["_law_script", "_law_few"]) fun _ _ _ _ _ _ us hl => match us, hl with | [_, _], _ => rfl
  obtain ⟨fd_c_law, F_c_law, kp_c_law⟩ := d_c_law
  refine ⟨fd_c_law, law_binds F_c_law, fun base _ _ => ?_⟩
  have h_c_is_whole : CalK l.prog w K mg base 1 "is_whole" spWhole := ⟨⟨f_c_is_whole, fd_c_is_whole, _, d_is_whole F_c_is_whole T, PySem.W.mg_of X G a_c_is_whole, kp_c_is_whole, b_c_is_whole⟩⟩
  have h_c_is_count : CalK l.prog w K mg base 1 "is_count" spCount := ⟨⟨f_c_is_count, fd_c_is_count, _, d_is_count F_c_is_count T, PySem.W.mg_of X G a_c_is_count, kp_c_is_count, b_c_is_count⟩⟩
  have h_c_check_line : CalK l.prog w K mg base 1 "check_line" (spCkLine CL) := ⟨⟨f_c_check_line, fd_c_check_line, _, d_check_line F_c_check_line T, PySem.W.mg_of X G a_c_check_line, kp_c_check_line, b_c_check_line⟩⟩
  have h_c_Market_worth : MetK l.prog w K mg base 1 CM "worth" (spWorth CM) := ⟨⟨f_c_Market_worth, fd_c_Market_worth, _, clsCM, ⟨a_c_Market_worth, i_c_Market_worth, kp_c_Market_worth⟩, d_worth F_c_Market_worth T, b_c_Market_worth⟩⟩
  have h_c_Market_has_room : MetK l.prog w K mg base 1 CM "has_room" (spRoom CM) := ⟨⟨f_c_Market_has_room, fd_c_Market_has_room, _, clsCM, ⟨a_c_Market_has_room, i_c_Market_has_room, kp_c_Market_has_room⟩, d_has_room F_c_Market_has_room T, b_c_Market_has_room⟩⟩
  have h_c_Market_held_by : MetK l.prog w K mg base 1 CM "held_by" (spHeld CM) := ⟨⟨f_c_Market_held_by, fd_c_Market_held_by, _, clsCM, ⟨a_c_Market_held_by, i_c_Market_held_by, kp_c_Market_held_by⟩, d_held_by F_c_Market_held_by T, b_c_Market_held_by⟩⟩
  have h_c_Market_over : MetK l.prog w K mg base 2 CM "over" (spOver CM) := ⟨⟨f_c_Market_over, fd_c_Market_over, _, clsCM, ⟨a_c_Market_over, i_c_Market_over, kp_c_Market_over⟩, d_over F_c_Market_over T h_c_Market_worth, b_c_Market_over⟩⟩
  have h_c_Market_hand_back : MetK l.prog w K mg base 2 CM "hand_back" (spBack CM) := ⟨⟨f_c_Market_hand_back, fd_c_Market_hand_back, _, clsCM, ⟨a_c_Market_hand_back, i_c_Market_hand_back, kp_c_Market_hand_back⟩, d_hand_back F_c_Market_hand_back T h_c_Market_worth h_c_Market_has_room h_c_Market_held_by, b_c_Market_hand_back⟩⟩
  have h_c_Market_priced : MetK l.prog w K mg base 3 CM "priced" (spPriced CM) := ⟨⟨f_c_Market_priced, fd_c_Market_priced, _, clsCM, ⟨a_c_Market_priced, i_c_Market_priced, kp_c_Market_priced⟩, d_priced F_c_Market_priced T h_c_Market_over, b_c_Market_priced⟩⟩
  have h_c_Market_ways : MetK l.prog w K mg base 2 CM "ways" (spWays CM) := ⟨⟨f_c_Market_ways, fd_c_Market_ways, _, clsCM, ⟨a_c_Market_ways, i_c_Market_ways, kp_c_Market_ways⟩, d_ways F_c_Market_ways T h_c_Market_worth h_c_Market_held_by, b_c_Market_ways⟩⟩
  have h_c_Market_hand_on : MetK l.prog w K mg base 1 CM "hand_on" (spHandOn CM) := ⟨⟨f_c_Market_hand_on, fd_c_Market_hand_on, _, clsCM, ⟨a_c_Market_hand_on, i_c_Market_hand_on, kp_c_Market_hand_on⟩, d_hand_on F_c_Market_hand_on T, b_c_Market_hand_on⟩⟩
  have h_c_Market_improve : MetK l.prog w K mg base 3 CM "improve" (spImprove CM) := ⟨⟨f_c_Market_improve, fd_c_Market_improve, _, clsCM, ⟨a_c_Market_improve, i_c_Market_improve, kp_c_Market_improve⟩, d_improve F_c_Market_improve T h_c_Market_ways h_c_Market_has_room h_c_Market_hand_on, b_c_Market_improve⟩⟩
  have h_c_Market_fill : MetK l.prog w K mg base 4 CM "fill" (spFill CM) := ⟨⟨f_c_Market_fill, fd_c_Market_fill, _, clsCM, ⟨a_c_Market_fill, i_c_Market_fill, kp_c_Market_fill⟩, d_fill F_c_Market_fill T h_c_Market_improve, b_c_Market_fill⟩⟩
  have h_c_Market_least : MetK l.prog w K mg base 3 CM "least" (spLeast CM) := ⟨⟨f_c_Market_least, fd_c_Market_least, _, clsCM, ⟨a_c_Market_least, i_c_Market_least, kp_c_Market_least⟩, d_least F_c_Market_least T h_c_Market_worth h_c_Market_hand_back, b_c_Market_least⟩⟩
  have h_c_Market_greatest : MetK l.prog w K mg base 3 CM "greatest" (spGreatest CM) := ⟨⟨f_c_Market_greatest, fd_c_Market_greatest, _, clsCM, ⟨a_c_Market_greatest, i_c_Market_greatest, kp_c_Market_greatest⟩, d_greatest F_c_Market_greatest T h_c_Market_worth h_c_Market_held_by h_c_Market_over, b_c_Market_greatest⟩⟩
  have h_c_is_name : CalK l.prog w K mg base 1 "is_name" spIsName := ⟨⟨f_c_is_name, fd_c_is_name, _, d_is_name F_c_is_name T, PySem.W.mg_of X G a_c_is_name, kp_c_is_name, b_c_is_name⟩⟩
  have h_c_are_names : CalK l.prog w K mg base 2 "are_names" spAreNames := ⟨⟨f_c_are_names, fd_c_are_names, _, d_are_names F_c_are_names T h_c_is_name, PySem.W.mg_of X G a_c_are_names, kp_c_are_names, b_c_are_names⟩⟩
  have h_c_is_stock : CalK l.prog w K mg base 2 "is_stock" spIsStock := ⟨⟨f_c_is_stock, fd_c_is_stock, _, d_is_stock F_c_is_stock T h_c_is_name h_c_is_count, PySem.W.mg_of X G a_c_is_stock, kp_c_is_stock, b_c_is_stock⟩⟩
  have h_c_check_stock : CalK l.prog w K mg base 3 "check_stock" spCkStock := ⟨⟨f_c_check_stock, fd_c_check_stock, _, d_check_stock F_c_check_stock T h_c_is_stock, PySem.W.mg_of X G a_c_check_stock, kp_c_check_stock, b_c_check_stock⟩⟩
  have h_c_places_of : CalK l.prog w K mg base 1 "places_of" (spPlaces CL) := ⟨⟨f_c_places_of, fd_c_places_of, _, d_places_of F_c_places_of T, PySem.W.mg_of X G a_c_places_of, kp_c_places_of, b_c_places_of⟩⟩
  have h_c_check_worths : CalK l.prog w K mg base 2 "check_worths" (spCkWorths CL) := ⟨⟨f_c_check_worths, fd_c_check_worths, _, d_check_worths F_c_check_worths T h_c_is_whole h_c_places_of, PySem.W.mg_of X G a_c_check_worths, kp_c_check_worths, b_c_check_worths⟩⟩
  have h_k_Asker : MakK l.prog w K mg base 3 "Asker" CA (spAsker CA) := ⟨⟨f_k_Asker, fd_k_Asker, _, ⟨mkCA, a_k_Asker, i_k_Asker, kcCA⟩, d_Asker_init F_k_Asker T h_c_is_name h_c_are_names h_c_is_count, PySem.W.mg_of X G aCA, b_k_Asker⟩⟩
  have h_k_Line : MakK l.prog w K mg base 1 "Line" CL (spLine CA CL) := ⟨⟨f_k_Line, fd_k_Line, _, ⟨mkCL, a_k_Line, i_k_Line, kcCL⟩, d_Line_init F_k_Line T, PySem.W.mg_of X G aCL, b_k_Line⟩⟩
  have h_k_Market : MakK l.prog w K mg base 1 "Market" CM (spMarket CM) := ⟨⟨f_k_Market, fd_k_Market, _, ⟨mkCM, a_k_Market, i_k_Market, kcCM⟩, d_Market_init F_k_Market T, PySem.W.mg_of X G aCM, b_k_Market⟩⟩
  have h_c_market_of : CalK l.prog w K mg base 5 "market_of" (spMarketOf CL CM) := ⟨⟨f_c_market_of, fd_c_market_of, _, d_market_of F_c_market_of T h_c_check_line h_c_check_stock h_c_check_worths h_k_Market h_c_Market_fill, PySem.W.mg_of X G a_c_market_of, kp_c_market_of, b_c_market_of⟩⟩
  have h_c_least_prices : CalK l.prog w K mg base 6 "least_prices" (spLeastP CL) := ⟨⟨f_c_least_prices, fd_c_least_prices, _, d_least_prices F_c_least_prices T h_c_market_of h_c_Market_least h_c_Market_priced, PySem.W.mg_of X G a_c_least_prices, kp_c_least_prices, b_c_least_prices⟩⟩
  have h_c_greatest_prices : CalK l.prog w K mg base 6 "greatest_prices" (spGreatP CL) := ⟨⟨f_c_greatest_prices, fd_c_greatest_prices, _, d_greatest_prices F_c_greatest_prices T h_c_market_of h_c_Market_greatest h_c_Market_priced, PySem.W.mg_of X G a_c_greatest_prices, kp_c_greatest_prices, b_c_greatest_prices⟩⟩
  have h_c_prices : CalK l.prog w K mg base 7 "prices" (spLeastP CL) := ⟨⟨f_c_prices, fd_c_prices, _, d_prices F_c_prices T h_c_least_prices, PySem.W.mg_of X G a_c_prices, kp_c_prices, b_c_prices⟩⟩
  have h_c_L_brought : CalK l.prog w K mg base 1 "_law_brought" spBrought := ⟨⟨f_c_L_brought, fd_c_L_brought, _, d_L_brought F_c_L_brought T, PySem.W.mg_of X G a_c_L_brought, kp_c_L_brought, b_c_L_brought⟩⟩
  have h_c_L_kinds_in : CalK l.prog w K mg base 1 "_law_kinds_in" spKindsIn := ⟨⟨f_c_L_kinds_in, fd_c_L_kinds_in, _, d_L_kinds_in F_c_L_kinds_in T, PySem.W.mg_of X G a_c_L_kinds_in, kp_c_L_kinds_in, b_c_L_kinds_in⟩⟩
  have h_c_L_over : CalK l.prog w K mg base 1 "_law_over" spLOver := ⟨⟨f_c_L_over, fd_c_L_over, _, d_L_over F_c_L_over T, PySem.W.mg_of X G a_c_L_over, kp_c_L_over, b_c_L_over⟩⟩
  have h_c_L_with : CalK l.prog w K mg base 1 "_law_with" spLWith := ⟨⟨f_c_L_with, fd_c_L_with, _, d_L_with F_c_L_with T, PySem.W.mg_of X G a_c_L_with, kp_c_L_with, b_c_L_with⟩⟩
  have h_c_L_without : CalK l.prog w K mg base 1 "_law_without" spWithout := ⟨⟨f_c_L_without, fd_c_L_without, _, d_L_without F_c_L_without T, PySem.W.mg_of X G a_c_L_without, kp_c_L_without, b_c_L_without⟩⟩
  have h_c_L_sum : CalK l.prog w K mg base 2 "_law_sum" spLSum := ⟨⟨f_c_L_sum, fd_c_L_sum, _, d_L_sum F_c_L_sum T h_c_L_over, PySem.W.mg_of X G a_c_L_sum, kp_c_L_sum, b_c_L_sum⟩⟩
  have h_c_L_all_prices : CalK l.prog w K mg base 2 "_law_all_prices" spAllP := ⟨⟨f_c_L_all_prices, fd_c_L_all_prices, _, d_L_all_prices F_c_L_all_prices T h_c_L_with, PySem.W.mg_of X G a_c_L_all_prices, kp_c_L_all_prices, b_c_L_all_prices⟩⟩
  have h_c_L_line_of : CalK l.prog w K mg base 5 "_law_line_of" (spLineOf CL) := ⟨⟨f_c_L_line_of, fd_c_L_line_of, _, d_L_line_of F_c_L_line_of T h_k_Asker h_k_Line, PySem.W.mg_of X G a_c_L_line_of, kp_c_L_line_of, b_c_L_line_of⟩⟩
  have h_c_L_ways : CalK l.prog w K mg base 1 "_law_ways" spLWays := ⟨⟨f_c_L_ways, fd_c_L_ways, _, d_L_ways F_c_L_ways T, PySem.W.mg_of X G a_c_L_ways, kp_c_L_ways, b_c_L_ways⟩⟩
  have h_c_L_best : CalK l.prog w K mg base 2 "_law_best" spLBest := ⟨⟨f_c_L_best, fd_c_L_best, _, d_L_best F_c_L_best T h_c_L_ways h_c_L_brought, PySem.W.mg_of X G a_c_L_best, kp_c_L_best, b_c_L_best⟩⟩
  have h_c_L_any : CalK l.prog w K mg base 3 "_law_any" spLAny := ⟨⟨f_c_L_any, fd_c_L_any, _, d_L_any F_c_L_any T h_c_L_best, PySem.W.mg_of X G a_c_L_any, kp_c_L_any, b_c_L_any⟩⟩
  have h_c_L_ends_right : CalK l.prog w K mg base 4 "_law_ends_right" spLEnds := ⟨⟨f_c_L_ends_right, fd_c_L_ends_right, _, d_L_ends_right F_c_L_ends_right T h_c_L_any h_c_L_with h_c_L_over h_c_L_without, PySem.W.mg_of X G a_c_L_ends_right, kp_c_L_ends_right, b_c_L_ends_right⟩⟩
  have h_c_L_fits : CalK l.prog w K mg base 8 "_law_fits" spLFits := ⟨⟨f_c_L_fits, fd_c_L_fits, _, d_L_fits F_c_L_fits T h_c_L_line_of h_c_L_any h_c_least_prices h_c_greatest_prices h_c_prices h_c_L_kinds_in h_c_L_ends_right h_c_L_over h_c_L_sum h_c_L_all_prices, PySem.W.mg_of X G a_c_L_fits, kp_c_L_fits, b_c_L_fits⟩⟩
  have h_c_L_mixed : CalK l.prog w K mg base 1 "_law_mixed" spMixed := ⟨⟨f_c_L_mixed, fd_c_L_mixed, _, d_L_mixed F_c_L_mixed T, PySem.W.mg_of X G a_c_L_mixed, kp_c_L_mixed, b_c_L_mixed⟩⟩
  have h_c_L_draw : CalK l.prog w K mg base 2 "_law_draw" spDraw := ⟨⟨f_c_L_draw, fd_c_L_draw, _, d_L_draw F_c_L_draw T h_c_L_mixed, PySem.W.mg_of X G a_c_L_draw, kp_c_L_draw, b_c_L_draw⟩⟩
  have h_c_L_one_of : CalK l.prog w K mg base 3 "_law_one_of" spOneOf := ⟨⟨f_c_L_one_of, fd_c_L_one_of, _, d_L_one_of F_c_L_one_of T h_c_L_draw, PySem.W.mg_of X G a_c_L_one_of, kp_c_L_one_of, b_c_L_one_of⟩⟩
  have h_c_L_shuffled : CalK l.prog w K mg base 3 "_law_shuffled" spShuffled := ⟨⟨f_c_L_shuffled, fd_c_L_shuffled, _, d_L_shuffled F_c_L_shuffled T h_c_L_draw, PySem.W.mg_of X G a_c_L_shuffled, kp_c_L_shuffled, b_c_L_shuffled⟩⟩
  have h_c_L_word : CalK l.prog w K mg base 3 "_law_word" spWord := ⟨⟨f_c_L_word, fd_c_L_word, _, d_L_word F_c_L_word T h_c_L_draw, PySem.W.mg_of X G a_c_L_word, kp_c_L_word, b_c_L_word⟩⟩
  have h_c_L_names : CalK l.prog w K mg base 4 "_law_names" spPick := ⟨⟨f_c_L_names, fd_c_L_names, _, d_L_names F_c_L_names T h_c_L_word h_c_L_shuffled, PySem.W.mg_of X G a_c_L_names, kp_c_L_names, b_c_L_names⟩⟩
  have h_c_L_kinds : CalK l.prog w K mg base 4 "_law_kinds" spPick := ⟨⟨f_c_L_kinds, fd_c_L_kinds, _, d_L_kinds F_c_L_kinds T h_c_L_word h_c_L_shuffled, PySem.W.mg_of X G a_c_L_kinds, kp_c_L_kinds, b_c_L_kinds⟩⟩
  have h_c_L_rows : CalK l.prog w K mg base 5 "_law_rows" spRows := ⟨⟨f_c_L_rows, fd_c_L_rows, _, d_L_rows F_c_L_rows T h_c_L_draw h_c_L_shuffled h_c_L_names, PySem.W.mg_of X G a_c_L_rows, kp_c_L_rows, b_c_L_rows⟩⟩
  have h_c_L_here : CalK l.prog w K mg base 4 "_law_here" spHere := ⟨⟨f_c_L_here, fd_c_L_here, _, d_L_here F_c_L_here T h_c_L_draw h_c_L_shuffled h_c_L_one_of, PySem.W.mg_of X G a_c_L_here, kp_c_L_here, b_c_L_here⟩⟩
  have h_c_L_worths : CalK l.prog w K mg base 4 "_law_worths" spWorths := ⟨⟨f_c_L_worths, fd_c_L_worths, _, d_L_worths F_c_L_worths T h_c_L_draw h_c_L_one_of, PySem.W.mg_of X G a_c_L_worths, kp_c_L_worths, b_c_L_worths⟩⟩
  have h_c_L_chain : CalK l.prog w K mg base 4 "_law_chain" spChain := ⟨⟨f_c_L_chain, fd_c_L_chain, _, d_L_chain F_c_L_chain T h_c_L_draw h_c_L_shuffled, PySem.W.mg_of X G a_c_L_chain, kp_c_L_chain, b_c_L_chain⟩⟩
  have h_c_L_altered : CalK l.prog w K mg base 4 "_law_altered" spAltered := ⟨⟨f_c_L_altered, fd_c_L_altered, _, d_L_altered F_c_L_altered T h_c_L_one_of, PySem.W.mg_of X G a_c_L_altered, kp_c_L_altered, b_c_L_altered⟩⟩
  have h_c_L_again_right : CalK l.prog w K mg base 7 "_law_again_right" spAgain := ⟨⟨f_c_L_again_right, fd_c_L_again_right, _, d_L_again_right F_c_L_again_right T h_c_L_line_of h_c_L_any h_c_least_prices h_c_greatest_prices h_c_L_altered h_c_L_ends_right, PySem.W.mg_of X G a_c_L_again_right, kp_c_L_again_right, b_c_L_again_right⟩⟩
  have h_c_L_purse : CalK l.prog w K mg base 1 "_law_purse" (spPurse K) := ⟨⟨f_c_L_purse, fd_c_L_purse, _, d_L_purse F_c_L_purse T, PySem.W.mg_of X G a_c_L_purse, kp_c_L_purse, b_c_L_purse⟩⟩
  have h_c_L_purses : CalK l.prog w K mg base 2 "_law_purses" (spPurses K) := ⟨⟨f_c_L_purses, fd_c_L_purses, _, d_L_purses F_c_L_purses T h_c_L_purse, PySem.W.mg_of X G a_c_L_purses, kp_c_L_purses, b_c_L_purses⟩⟩
  exact d_law F_c_law T h_c_L_purses h_c_L_kinds h_c_L_rows h_c_L_here h_c_L_worths h_c_L_fits h_c_L_again_right h_c_L_chain h_c_L_line_of h_c_least_prices h_c_greatest_prices
theorem walk {l : PySem.W.OpenLaw} {q : Program} {loose : List Str} {XP : (Str → Option Value) → Heap → Prop} {YP : World → Heap → Prop} {d : DefRec} {K : Params → PySem.W.Frag} (hn : l.most = some 63) (hdf : d.params.defaults = [])
    (hY : ∀ (w : World) (h : Heap), YP w h → (K w.params).In h)
    (F : ∀ (w : World) (mg : Str → Option Value) (fa : Addr) (h : Heap), (K w.params).In h → h.Ns mainGlobals mg → mg d.name = some (.ref fa) →
      ∃ fd : FuncData, (∀ (s : Shared) (u : Value), BindsTo s fd ⟨[u], []⟩ [("_law_script", u)]) ∧ ∀ base : Heap, (K w.params).In base → base.Ns mainGlobals mg → FnOk l.prog w (K w.params) mg base CX0 9 fa fd ["_law_script"] (spLaw (K w.params))) :
    PySem.W.WalkO q loose XP YP l.row.toRowW d [] (fun f vs => PySem.call f vs) :=
  L2.walk_of (n := 63) (k := 9) (x := "_law_script") (CX := fun _ => CX0) (sp := fun w => spLaw (K w.params)) hn (by decide) hdf ⟨rfl, by decide, by decide⟩ hY F (fun _ _ a ns hl _ hS => ⟨a, ns, rfl, hS, hl, fun _ => rfl⟩) fun _ _ _ _ _ z => z
end K59
open PySem PySem.W PyProof.Rows in
set_option maxRecDepth 100000 in
set_option maxHeartbeats 0 in
theorem PySem.Challenge.cw_elderlink_k59_whole_least_and_greatest_p_holds : PySem.Challenge.rw_elderlink_k59_whole_least_and_greatest_p.Holds := by
  w_on; o_law; k_head; (case hw => w_witness2)
  k_fill
  refine K59.walk (l := PySem.Challenge.rw_elderlink_k59_whole_least_and_greatest_p) rfl rfl (fun w h Y => PySem.W.kIn_of Y) ?F
  case F =>
    intro w mg fa h KX G hmg
    refine' K59.all_mk KX G hmg ?aCA ?aCL ?aCM ?z_len ?z_isinstance ?z_sum ?z_max ?z_min ?z_sorted ?z_int ?z_str ?z_bool ?z_list ?z_dict ?z_tuple ?z_set ?z_range ?z_enumerate ?z_zip ?aStep ?aLower ?pgCA ?hdCA ?poCA ?saCA ?mkCA ?kcCA ?pgCL ?hdCL ?poCL ?saCL ?mkCL ?kcCL ?pgCM ?hdCM ?poCM ?saCM ?mkCM ?kcCM ?ccget ?cctk ?ccCA ?moCA ?ccCL ?moCL ?noCA_row ?noCL_all ?noCL_every ?noCM_rows ?noCM_wants ?noCM_worths ?noCM_sorts ?noCM_free ?noCM_holds ?noCM_got ?a_c_is_whole ?d_c_is_whole ?a_c_is_count ?d_c_is_count ?a_c_check_line ?d_c_check_line ?a_c_Market_worth ?i_c_Market_worth ?d_c_Market_worth ?a_c_Market_has_room ?i_c_Market_has_room ?d_c_Market_has_room ?a_c_Market_held_by ?i_c_Market_held_by ?d_c_Market_held_by ?a_c_Market_over ?i_c_Market_over ?d_c_Market_over ?a_c_Market_hand_back ?i_c_Market_hand_back ?d_c_Market_hand_back ?a_c_Market_priced ?i_c_Market_priced ?d_c_Market_priced ?a_c_Market_ways ?i_c_Market_ways ?d_c_Market_ways ?a_c_Market_hand_on ?i_c_Market_hand_on ?d_c_Market_hand_on ?a_c_Market_improve ?i_c_Market_improve ?d_c_Market_improve ?a_c_Market_fill ?i_c_Market_fill ?d_c_Market_fill ?a_c_Market_least ?i_c_Market_least ?d_c_Market_least ?a_c_Market_greatest ?i_c_Market_greatest ?d_c_Market_greatest ?a_c_is_name ?d_c_is_name ?a_c_are_names ?d_c_are_names ?a_c_is_stock ?d_c_is_stock ?a_c_check_stock ?d_c_check_stock ?a_c_places_of ?d_c_places_of ?a_c_check_worths ?d_c_check_worths ?a_k_Asker ?i_k_Asker ?d_k_Asker ?a_k_Line ?i_k_Line ?d_k_Line ?a_k_Market ?i_k_Market ?d_k_Market ?a_c_market_of ?d_c_market_of ?a_c_least_prices ?d_c_least_prices ?a_c_greatest_prices ?d_c_greatest_prices ?a_c_prices ?d_c_prices ?a_c_L_brought ?d_c_L_brought ?a_c_L_kinds_in ?d_c_L_kinds_in ?a_c_L_over ?d_c_L_over ?a_c_L_with ?d_c_L_with ?a_c_L_without ?d_c_L_without ?a_c_L_sum ?d_c_L_sum ?a_c_L_all_prices ?d_c_L_all_prices ?a_c_L_line_of ?d_c_L_line_of ?a_c_L_ways ?d_c_L_ways ?a_c_L_best ?d_c_L_best ?a_c_L_any ?d_c_L_any ?a_c_L_ends_right ?d_c_L_ends_right ?a_c_L_fits ?d_c_L_fits ?a_c_L_mixed ?d_c_L_mixed ?a_c_L_draw ?d_c_L_draw ?a_c_L_one_of ?d_c_L_one_of ?a_c_L_shuffled ?d_c_L_shuffled ?a_c_L_word ?d_c_L_word ?a_c_L_names ?d_c_L_names ?a_c_L_kinds ?d_c_L_kinds ?a_c_L_rows ?d_c_L_rows ?a_c_L_here ?d_c_L_here ?a_c_L_worths ?d_c_L_worths ?a_c_L_chain ?d_c_L_chain ?a_c_L_altered ?d_c_L_altered ?a_c_L_again_right ?d_c_L_again_right ?a_c_L_purse ?d_c_L_purse ?a_c_L_purses ?d_c_L_purses ?a_c_law ?d_c_law
    (case aCA => k_is)
    (case aCL => k_is)
    (case aCM => k_is)
    (case z_len => k_is)
    (case z_isinstance => k_is)
    (case z_sum => k_is)
    (case z_max => k_is)
    (case z_min => k_is)
    (case z_sorted => k_is)
    (case z_int => k_is)
    (case z_str => k_is)
    (case z_bool => k_is)
    (case z_list => k_is)
    (case z_dict => k_is)
    (case z_tuple => k_is)
    (case z_set => k_is)
    (case z_range => k_is)
    (case z_enumerate => k_is)
    (case z_zip => k_is)
    (case aStep => k_is)
    (case aLower => k_is)
    (case pgCA => k_is)
    (case hdCA => k_is)
    (case poCA => k_is)
    (case saCA => k_is)
    (case mkCA => k_is)
    (case kcCA => k_is)
    (case pgCL => k_is)
    (case hdCL => k_is)
    (case poCL => k_is)
    (case saCL => k_is)
    (case mkCL => k_is)
    (case kcCL => k_is)
    (case pgCM => k_is)
    (case hdCM => k_is)
    (case poCM => k_is)
    (case saCM => k_is)
    (case mkCM => k_is)
    (case kcCM => k_is)
    (case ccget => k_is)
    (case cctk => k_is)
    (case ccCA => k_is)
    (case moCA => k_is)
    (case ccCL => k_is)
    (case moCL => k_is)
    (case noCA_row => k_is)
    (case noCL_all => k_is)
    (case noCL_every => k_is)
    (case noCM_rows => k_is)
    (case noCM_wants => k_is)
    (case noCM_worths => k_is)
    (case noCM_sorts => k_is)
    (case noCM_free => k_is)
    (case noCM_holds => k_is)
    (case noCM_got => k_is)
    (case a_c_is_whole => k_is)
    (case d_c_is_whole => refine' K59.def_at ?l ?c ?k; (case l => k_is); (case c => k_is); (case k => k_is))
    (case a_c_is_count => k_is)
    (case d_c_is_count => refine' K59.def_at ?l ?c ?k; (case l => k_is); (case c => k_is); (case k => k_is))
    (case a_c_check_line => k_is)
    (case d_c_check_line => refine' K59.def_at ?l ?c ?k; (case l => k_is); (case c => k_is); (case k => k_is))
    (case a_c_Market_worth => k_is)
    (case i_c_Market_worth => k_is)
    (case d_c_Market_worth => refine' K59.def_at ?l ?c ?k; (case l => k_is); (case c => k_is); (case k => k_is))
    (case a_c_Market_has_room => k_is)
    (case i_c_Market_has_room => k_is)
    (case d_c_Market_has_room => refine' K59.def_at ?l ?c ?k; (case l => k_is); (case c => k_is); (case k => k_is))
    (case a_c_Market_held_by => k_is)
    (case i_c_Market_held_by => k_is)
    (case d_c_Market_held_by => refine' K59.def_at ?l ?c ?k; (case l => k_is); (case c => k_is); (case k => k_is))
    (case a_c_Market_over => k_is)
    (case i_c_Market_over => k_is)
    (case d_c_Market_over => refine' K59.def_at ?l ?c ?k; (case l => k_is); (case c => k_is); (case k => k_is))
    (case a_c_Market_hand_back => k_is)
    (case i_c_Market_hand_back => k_is)
    (case d_c_Market_hand_back => refine' K59.def_at ?l ?c ?k; (case l => k_is); (case c => k_is); (case k => k_is))
    (case a_c_Market_priced => k_is)
    (case i_c_Market_priced => k_is)
    (case d_c_Market_priced => refine' K59.def_at ?l ?c ?k; (case l => k_is); (case c => k_is); (case k => k_is))
    (case a_c_Market_ways => k_is)
    (case i_c_Market_ways => k_is)
    (case d_c_Market_ways => refine' K59.def_at ?l ?c ?k; (case l => k_is); (case c => k_is); (case k => k_is))
    (case a_c_Market_hand_on => k_is)
    (case i_c_Market_hand_on => k_is)
    (case d_c_Market_hand_on => refine' K59.def_at ?l ?c ?k; (case l => k_is); (case c => k_is); (case k => k_is))
    (case a_c_Market_improve => k_is)
    (case i_c_Market_improve => k_is)
    (case d_c_Market_improve => refine' K59.def_at ?l ?c ?k; (case l => k_is); (case c => k_is); (case k => k_is))
    (case a_c_Market_fill => k_is)
    (case i_c_Market_fill => k_is)
    (case d_c_Market_fill => refine' K59.def_at ?l ?c ?k; (case l => k_is); (case c => k_is); (case k => k_is))
    (case a_c_Market_least => k_is)
    (case i_c_Market_least => k_is)
    (case d_c_Market_least => refine' K59.def_at ?l ?c ?k; (case l => k_is); (case c => k_is); (case k => k_is))
    (case a_c_Market_greatest => k_is)
    (case i_c_Market_greatest => k_is)
    (case d_c_Market_greatest => refine' K59.def_at ?l ?c ?k; (case l => k_is); (case c => k_is); (case k => k_is))
    (case a_c_is_name => k_is)
    (case d_c_is_name => refine' K59.def_at ?l ?c ?k; (case l => k_is); (case c => k_is); (case k => k_is))
    (case a_c_are_names => k_is)
    (case d_c_are_names => refine' K59.def_at ?l ?c ?k; (case l => k_is); (case c => k_is); (case k => k_is))
    (case a_c_is_stock => k_is)
    (case d_c_is_stock => refine' K59.def_at ?l ?c ?k; (case l => k_is); (case c => k_is); (case k => k_is))
    (case a_c_check_stock => k_is)
    (case d_c_check_stock => refine' K59.def_at ?l ?c ?k; (case l => k_is); (case c => k_is); (case k => k_is))
    (case a_c_places_of => k_is)
    (case d_c_places_of => refine' K59.def_at ?l ?c ?k; (case l => k_is); (case c => k_is); (case k => k_is))
    (case a_c_check_worths => k_is)
    (case d_c_check_worths => refine' K59.def_at ?l ?c ?k; (case l => k_is); (case c => k_is); (case k => k_is))
    (case a_k_Asker => k_is)
    (case i_k_Asker => k_is)
    (case d_k_Asker => refine' K59.def_at ?l ?c ?k; (case l => k_is); (case c => k_is); (case k => k_is))
    (case a_k_Line => k_is)
    (case i_k_Line => k_is)
    (case d_k_Line => refine' K59.def_at ?l ?c ?k; (case l => k_is); (case c => k_is); (case k => k_is))
    (case a_k_Market => k_is)
    (case i_k_Market => k_is)
    (case d_k_Market => refine' K59.def_at ?l ?c ?k; (case l => k_is); (case c => k_is); (case k => k_is))
    (case a_c_market_of => k_is)
    (case d_c_market_of => refine' K59.def_at ?l ?c ?k; (case l => k_is); (case c => k_is); (case k => k_is))
    (case a_c_least_prices => k_is)
    (case d_c_least_prices => refine' K59.def_at ?l ?c ?k; (case l => k_is); (case c => k_is); (case k => k_is))
    (case a_c_greatest_prices => k_is)
    (case d_c_greatest_prices => refine' K59.def_at ?l ?c ?k; (case l => k_is); (case c => k_is); (case k => k_is))
    (case a_c_prices => k_is)
    (case d_c_prices => refine' K59.def_at ?l ?c ?k; (case l => k_is); (case c => k_is); (case k => k_is))
    (case a_c_L_brought => k_is)
    (case d_c_L_brought => refine' K59.def_at ?l ?c ?k; (case l => k_is); (case c => k_is); (case k => k_is))
    (case a_c_L_kinds_in => k_is)
    (case d_c_L_kinds_in => refine' K59.def_at ?l ?c ?k; (case l => k_is); (case c => k_is); (case k => k_is))
    (case a_c_L_over => k_is)
    (case d_c_L_over => refine' K59.def_at ?l ?c ?k; (case l => k_is); (case c => k_is); (case k => k_is))
    (case a_c_L_with => k_is)
    (case d_c_L_with => refine' K59.def_at ?l ?c ?k; (case l => k_is); (case c => k_is); (case k => k_is))
    (case a_c_L_without => k_is)
    (case d_c_L_without => refine' K59.def_at ?l ?c ?k; (case l => k_is); (case c => k_is); (case k => k_is))
    (case a_c_L_sum => k_is)
    (case d_c_L_sum => refine' K59.def_at ?l ?c ?k; (case l => k_is); (case c => k_is); (case k => k_is))
    (case a_c_L_all_prices => k_is)
    (case d_c_L_all_prices => refine' K59.def_at ?l ?c ?k; (case l => k_is); (case c => k_is); (case k => k_is))
    (case a_c_L_line_of => k_is)
    (case d_c_L_line_of => refine' K59.def_at ?l ?c ?k; (case l => k_is); (case c => k_is); (case k => k_is))
    (case a_c_L_ways => k_is)
    (case d_c_L_ways => refine' K59.def_at ?l ?c ?k; (case l => k_is); (case c => k_is); (case k => k_is))
    (case a_c_L_best => k_is)
    (case d_c_L_best => refine' K59.def_at ?l ?c ?k; (case l => k_is); (case c => k_is); (case k => k_is))
    (case a_c_L_any => k_is)
    (case d_c_L_any => refine' K59.def_at ?l ?c ?k; (case l => k_is); (case c => k_is); (case k => k_is))
    (case a_c_L_ends_right => k_is)
    (case d_c_L_ends_right => refine' K59.def_at ?l ?c ?k; (case l => k_is); (case c => k_is); (case k => k_is))
    (case a_c_L_fits => k_is)
    (case d_c_L_fits => refine' K59.def_at ?l ?c ?k; (case l => k_is); (case c => k_is); (case k => k_is))
    (case a_c_L_mixed => k_is)
    (case d_c_L_mixed => refine' K59.def_at ?l ?c ?k; (case l => k_is); (case c => k_is); (case k => k_is))
    (case a_c_L_draw => k_is)
    (case d_c_L_draw => refine' K59.def_at ?l ?c ?k; (case l => k_is); (case c => k_is); (case k => k_is))
    (case a_c_L_one_of => k_is)
    (case d_c_L_one_of => refine' K59.def_at ?l ?c ?k; (case l => k_is); (case c => k_is); (case k => k_is))
    (case a_c_L_shuffled => k_is)
    (case d_c_L_shuffled => refine' K59.def_at ?l ?c ?k; (case l => k_is); (case c => k_is); (case k => k_is))
    (case a_c_L_word => k_is)
    (case d_c_L_word => refine' K59.def_at ?l ?c ?k; (case l => k_is); (case c => k_is); (case k => k_is))
    (case a_c_L_names => k_is)
    (case d_c_L_names => refine' K59.def_at ?l ?c ?k; (case l => k_is); (case c => k_is); (case k => k_is))
    (case a_c_L_kinds => k_is)
    (case d_c_L_kinds => refine' K59.def_at ?l ?c ?k; (case l => k_is); (case c => k_is); (case k => k_is))
    (case a_c_L_rows => k_is)
    (case d_c_L_rows => refine' K59.def_at ?l ?c ?k; (case l => k_is); (case c => k_is); (case k => k_is))
    (case a_c_L_here => k_is)
    (case d_c_L_here => refine' K59.def_at ?l ?c ?k; (case l => k_is); (case c => k_is); (case k => k_is))
    (case a_c_L_worths => k_is)
    (case d_c_L_worths => refine' K59.def_at ?l ?c ?k; (case l => k_is); (case c => k_is); (case k => k_is))
    (case a_c_L_chain => k_is)
    (case d_c_L_chain => refine' K59.def_at ?l ?c ?k; (case l => k_is); (case c => k_is); (case k => k_is))
    (case a_c_L_altered => k_is)
    (case d_c_L_altered => refine' K59.def_at ?l ?c ?k; (case l => k_is); (case c => k_is); (case k => k_is))
    (case a_c_L_again_right => k_is)
    (case d_c_L_again_right => refine' K59.def_at ?l ?c ?k; (case l => k_is); (case c => k_is); (case k => k_is))
    (case a_c_L_purse => k_is)
    (case d_c_L_purse => refine' K59.def_at ?l ?c ?k; (case l => k_is); (case c => k_is); (case k => k_is))
    (case a_c_L_purses => k_is)
    (case d_c_L_purses => refine' K59.def_at ?l ?c ?k; (case l => k_is); (case c => k_is); (case k => k_is))
    (case a_c_law => k_is)
    (case d_c_law => refine' K59.def_at ?l ?c ?k; (case l => k_is); (case c => k_is); (case k => k_is))
