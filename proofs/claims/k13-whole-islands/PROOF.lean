import PyProof.Rows.All
import Wide.All
import OpenK.AllK
import Wide.FinOn
import KE.KStateDown
import HandS.Head0
import HandS.Head1
import HandS.Head2
import HandS.EndBits
import HandS.ForMost
import HandS.Exc
import HandS.ExcOwn
import HandS.WordsExc
import HandS.ExcInit
import HandS.Star
import HandS.TupAny
import HandS.TupSets
import HandS.IsInst
import HandS.Conv
import HandS.Style
import HandS.Flow
import HandS.Wide
import HandS.DictComp
import HandS.DictTup
import HandS.Deep
import HandS.SetKeys
import HandS.CallLocal
import HandS.Defaults
import HandS.More
import KE.SortData
import KE.KExcSuper
import KE.GoesEnum
import KE.GoesMore
import HandS.Walk
import HandS.SortInts
import KE.KDictKeyed
import HandS.Lambda
import HandS.Codes
import KE.KDictWalk
import HandS.Small
import HandS.ExcSuper
import HandS.FStrTup
import HandS.HeadHook4
import HandS.EndTab
import HandS.HeadWalk
import PySem.Challenge.RW_bothplans_k13_whole_islands_and_whole_lo
/-! K13Txt -/
set_option autoImplicit true
set_option Elab.async false
set_option linter.all false
set_option maxRecDepth 100000
set_option maxHeartbeats 2000000
namespace K13
open PySem L2
/-! ### the text by places -/
def top (i : Nat) : Stmt := PySem.Challenge.pw_bothplans_k13_whole_islands_and_whole_lo.main.body.getD i (.Pass ⟨0, 0, 0, 0⟩)
/-! InvalidStore.__init__: 0 self, 1 at -/
abbrev s_InvalidStoreI : Stmt := inClass (top 2) 0
abbrev N_InvalidStoreI : List Str := ["self", "at"]
/-! InvalidLot.__init__: 0 self, 1 at -/
abbrev s_InvalidLotI : Stmt := inClass (top 3) 0
abbrev N_InvalidLotI : List Str := ["self", "at"]
/-! is_integer: 0 value -/
abbrev s_is_integer : Stmt := top 5
abbrev N_is_integer : List Str := ["value"]
theorem sc_is_integer : FnScope N_is_integer ["value"] (defScope s_is_integer) := ⟨rfl, rfl, rfl, by decide +kernel, rfl, by decide +kernel, by decide +kernel⟩
/-! is_number: 0 value -/
abbrev s_is_number : Stmt := top 6
abbrev N_is_number : List Str := ["value"]
theorem sc_is_number : FnScope N_is_number ["value"] (defScope s_is_number) := ⟨rfl, rfl, rfl, by decide +kernel, rfl, by decide +kernel, by decide +kernel⟩
/-! is_index: 0 value, 1 many -/
abbrev s_is_index : Stmt := top 7
abbrev N_is_index : List Str := ["value", "many"]
theorem sc_is_index : FnScope N_is_index ["value", "many"] (defScope s_is_index) := ⟨rfl, rfl, rfl, by decide +kernel, rfl, by decide +kernel, by decide +kernel⟩
/-! is_sequence: 0 value -/
abbrev s_is_sequence : Stmt := top 8
abbrev N_is_sequence : List Str := ["value"]
theorem sc_is_sequence : FnScope N_is_sequence ["value"] (defScope s_is_sequence) := ⟨rfl, rfl, rfl, by decide +kernel, rfl, by decide +kernel, by decide +kernel⟩
/-! is_state_of: 0 sizes, 1 value, 2 one, 3 size -/
abbrev s_is_state_of : Stmt := top 10
abbrev N_is_state_of : List Str := ["sizes", "value", "one", "size"]
theorem sc_is_state_of : FnScope N_is_state_of ["sizes", "value"] (defScope s_is_state_of) := ⟨rfl, rfl, rfl, by decide +kernel, rfl, by decide +kernel, by decide +kernel⟩
/-! Store.__init__: 0 self, 1 sizes, 2 states, 3 size, 4 at, 5 state -/
abbrev s_StoreI : Stmt := inClass (top 11) 0
abbrev N_StoreI : List Str := ["self", "sizes", "states", "size", "at", "state"]
theorem sc_StoreI : FnScope N_StoreI ["self", "sizes", "states"] (defScope s_StoreI) := ⟨rfl, rfl, rfl, by decide +kernel, rfl, by decide +kernel, by decide +kernel⟩
/-! Store.__eq__: 0 self, 1 other -/
abbrev s_StoreE : Stmt := inClass (top 11) 1
abbrev N_StoreE : List Str := ["self", "other"]
theorem sc_StoreE : FnScope N_StoreE ["self", "other"] (defScope s_StoreE) := ⟨rfl, rfl, rfl, by decide +kernel, rfl, by decide +kernel, by decide +kernel⟩
/-! Store.found: 0 self, 1 word, 2 work -/
abbrev s_Storefound : Stmt := inClass (top 11) 2
abbrev N_Storefound : List Str := ["self", "word", "work"]
theorem sc_Storefound : FnScope N_Storefound ["self", "word", "work"] (defScope s_Storefound) := ⟨rfl, rfl, rfl, by decide +kernel, rfl, by decide +kernel, by decide +kernel⟩
/-! Store.index_of: 0 self, 1 state -/
abbrev s_Storeindex_of : Stmt := inClass (top 11) 3
abbrev N_Storeindex_of : List Str := ["self", "state"]
theorem sc_Storeindex_of : FnScope N_Storeindex_of ["self", "state"] (defScope s_Storeindex_of) := ⟨rfl, rfl, rfl, by decide +kernel, rfl, by decide +kernel, by decide +kernel⟩
/-! checked_lot: 0 store, 1 value, 2 seen, 3 at, 4 key -/
abbrev s_checked_lot : Stmt := top 12
abbrev N_checked_lot : List Str := ["store", "value", "seen", "at", "key"]
theorem sc_checked_lot : FnScope N_checked_lot ["store", "value"] (defScope s_checked_lot) := ⟨rfl, rfl, rfl, by decide +kernel, rfl, by decide +kernel, by decide +kernel⟩
/-! other_keys: 0 store, 1 lot, 2 some, 3 key -/
abbrev s_other_keys : Stmt := top 13
abbrev N_other_keys : List Str := ["store", "lot", "some", "key"]
theorem sc_other_keys : FnScope N_other_keys ["store", "lot"] (defScope s_other_keys) := ⟨rfl, rfl, rfl, by decide +kernel, rfl, by decide +kernel, by decide +kernel⟩
/-! seen_on: 0 state, 1 lot, 2 key -/
abbrev s_seen_on : Stmt := top 14
abbrev N_seen_on : List Str := ["state", "lot", "key"]
theorem sc_seen_on : FnScope N_seen_on ["state", "lot"] (defScope s_seen_on) := ⟨rfl, rfl, rfl, by decide +kernel, rfl, by decide +kernel, by decide +kernel⟩
/-! near: 0 store, 1 state, 2 found, 3 key, 4 value, 5 other -/
abbrev s_near : Stmt := top 15
abbrev N_near : List Str := ["store", "state", "found", "key", "value", "other"]
theorem sc_near : FnScope N_near ["store", "state"] (defScope s_near) := ⟨rfl, rfl, rfl, by decide +kernel, rfl, by decide +kernel, by decide +kernel⟩
/-! changed_key: 0 one, 1 other, 2 key -/
abbrev s_changed_key : Stmt := top 17
abbrev N_changed_key : List Str := ["one", "other", "key"]
theorem sc_changed_key : FnScope N_changed_key ["one", "other"] (defScope s_changed_key) := ⟨rfl, rfl, rfl, by decide +kernel, rfl, by decide +kernel, by decide +kernel⟩
/-! find_near: 0 store, 1 found, 2 state, 3 other -/
abbrev s_find_near : Stmt := top 18
abbrev N_find_near : List Str := ["store", "found", "state", "other"]
theorem sc_find_near : FnScope N_find_near ["store"] (defScope s_find_near) := ⟨rfl, rfl, rfl, by decide +kernel, rfl, by decide +kernel, by decide +kernel⟩
/-! near_by_keys: 0 store -/
abbrev s_near_by_keys : Stmt := top 19
abbrev N_near_by_keys : List Str := ["store"]
theorem sc_near_by_keys : FnScope N_near_by_keys ["store"] (defScope s_near_by_keys) := ⟨rfl, rfl, rfl, by decide +kernel, rfl, by decide +kernel, by decide +kernel⟩
/-! homes_of: 0 store, 1 lot, 2 beside, 3 homes, 4 many, 5 start, 6 fresh, 7 state, 8 key, 9 other -/
abbrev s_homes_of : Stmt := top 20
abbrev N_homes_of : List Str := ["store", "lot", "beside", "homes", "many", "start", "fresh", "state", "key", "other"]
theorem sc_homes_of : FnScope N_homes_of ["store", "lot"] (defScope s_homes_of) := ⟨rfl, rfl, rfl, by decide +kernel, rfl, by decide +kernel, by decide +kernel⟩
/-! homes: 0 store, 1 lot -/
abbrev s_homes : Stmt := top 21
abbrev N_homes : List Str := ["store", "lot"]
theorem sc_homes : FnScope N_homes ["store", "lot"] (defScope s_homes) := ⟨rfl, rfl, rfl, by decide +kernel, rfl, by decide +kernel, by decide +kernel⟩
/-! islands: 0 store, 1 lot, 2 found, 3 state, 4 home, 5 some -/
abbrev s_islands : Stmt := top 22
abbrev N_islands : List Str := ["store", "lot", "found", "state", "home", "some"]
theorem sc_islands : FnScope N_islands ["store", "lot"] (defScope s_islands) := ⟨rfl, rfl, rfl, by decide +kernel, rfl, by decide +kernel, by decide +kernel⟩
/-! island_question: 0 store, 1 lot, 2 led, 3 state -/
abbrev s_island_question : Stmt := top 23
abbrev N_island_question : List Str := ["store", "lot", "led", "state"]
theorem sc_island_question : FnScope N_island_question ["store", "lot"] (defScope s_island_question) := ⟨rfl, rfl, rfl, by decide +kernel, rfl, by decide +kernel, by decide +kernel⟩
/-! whole: 0 store, 1 lot, 2 led, 3 rest, 4 seen, 5 state -/
abbrev s_whole : Stmt := top 24
abbrev N_whole : List Str := ["store", "lot", "led", "rest", "seen", "state"]
theorem sc_whole : FnScope N_whole ["store", "lot"] (defScope s_whole) := ⟨rfl, rfl, rfl, by decide +kernel, rfl, by decide +kernel, by decide +kernel⟩
/-! is_whole: 0 store, 1 lot -/
abbrev s_is_whole : Stmt := top 25
abbrev N_is_whole : List Str := ["store", "lot"]
theorem sc_is_whole : FnScope N_is_whole ["store", "lot"] (defScope s_is_whole) := ⟨rfl, rfl, rfl, by decide +kernel, rfl, by decide +kernel, by decide +kernel⟩
/-! all_lots: 0 store, 1 found, 2 key, 3 lot -/
abbrev s_all_lots : Stmt := top 26
abbrev N_all_lots : List Str := ["store", "found", "key", "lot"]
theorem sc_all_lots : FnScope N_all_lots ["store"] (defScope s_all_lots) := ⟨rfl, rfl, rfl, by decide +kernel, rfl, by decide +kernel, by decide +kernel⟩
/-! unwhole: 0 store, 1 lot -/
abbrev s_unwhole : Stmt := top 27
abbrev N_unwhole : List Str := ["store", "lot"]
theorem sc_unwhole : FnScope N_unwhole ["store"] (defScope s_unwhole) := ⟨rfl, rfl, rfl, by decide +kernel, rfl, by decide +kernel, by decide +kernel⟩
/-! find_joined: 0 store, 1 lot -/
abbrev s_find_joined : Stmt := top 29
abbrev N_find_joined : List Str := ["store", "lot"]
theorem sc_find_joined : FnScope N_find_joined ["store"] (defScope s_find_joined) := ⟨rfl, rfl, rfl, by decide +kernel, rfl, by decide +kernel, by decide +kernel⟩
/-! is_joined: 0 store -/
abbrev s_is_joined : Stmt := top 30
abbrev N_is_joined : List Str := ["store"]
theorem sc_is_joined : FnScope N_is_joined ["store"] (defScope s_is_joined) := ⟨rfl, rfl, rfl, by decide +kernel, rfl, by decide +kernel, by decide +kernel⟩
/-! _law_draw: 0 _law_script, 1 _law_salt, 2 _law_cells, 3 _law_cell, 4 _law_blend -/
abbrev s_l_draw : Stmt := top 32
abbrev N_l_draw : List Str := ["_law_script", "_law_salt", "_law_cells", "_law_cell", "_law_blend"]
theorem sc_l_draw : FnScope N_l_draw ["_law_script", "_law_salt"] (defScope s_l_draw) := ⟨rfl, rfl, rfl, by decide +kernel, rfl, by decide +kernel, by decide +kernel⟩
/-! _law_any: 0 _law_deal, 1 _law_bound, 2 _law_rest -/
abbrev s_l_any : Stmt := top 33
abbrev N_l_any : List Str := ["_law_deal", "_law_bound", "_law_rest"]
theorem sc_l_any : FnScope N_l_any ["_law_deal", "_law_bound"] (defScope s_l_any) := ⟨rfl, rfl, rfl, by decide +kernel, rfl, by decide +kernel, by decide +kernel⟩
/-! _law_of: 0 _law_deal, 1 _law_some -/
abbrev s_l_of : Stmt := top 34
abbrev N_l_of : List Str := ["_law_deal", "_law_some"]
theorem sc_l_of : FnScope N_l_of ["_law_deal", "_law_some"] (defScope s_l_of) := ⟨rfl, rfl, rfl, by decide +kernel, rfl, by decide +kernel, by decide +kernel⟩
/-! _law_mixed: 0 _law_deal, 1 _law_some, 2 _law_left, 3 _law_found -/
abbrev s_l_mixed : Stmt := top 35
abbrev N_l_mixed : List Str := ["_law_deal", "_law_some", "_law_left", "_law_found"]
theorem sc_l_mixed : FnScope N_l_mixed ["_law_deal", "_law_some"] (defScope s_l_mixed) := ⟨rfl, rfl, rfl, by decide +kernel, rfl, by decide +kernel, by decide +kernel⟩
/-! _law_all: 0 _law_sizes_here, 1 _law_found, 2 _law_size, 3 _law_longer, 4 _law_row, 5 _law_value -/
abbrev s_l_all : Stmt := top 36
abbrev N_l_all : List Str := ["_law_sizes_here", "_law_found", "_law_size", "_law_longer", "_law_row", "_law_value"]
theorem sc_l_all : FnScope N_l_all ["_law_sizes_here"] (defScope s_l_all) := ⟨rfl, rfl, rfl, by decide +kernel, rfl, by decide +kernel, by decide +kernel⟩
/-! _law_sizes: 0 _law_deal, 1 _law_most, 2 _law_found, 3 _law_rows, 4 _law_turn, 5 _law_size -/
abbrev s_l_sizes : Stmt := top 37
abbrev N_l_sizes : List Str := ["_law_deal", "_law_most", "_law_found", "_law_rows", "_law_turn", "_law_size"]
theorem sc_l_sizes : FnScope N_l_sizes ["_law_deal", "_law_most"] (defScope s_l_sizes) := ⟨rfl, rfl, rfl, by decide +kernel, rfl, by decide +kernel, by decide +kernel⟩
/-! _law_store: 0 _law_deal, 1 _law_most, 2 _law_sizes_here, 3 _law_rows, 4 _law_form, 5 _law_many, 6 _law_keys, 7 _law_total, 8 _law_states, 9 _law_row, 10 _law_low, 11 _law_high, 12 _law_one, 13 _law_other, 14 _law_p, 15 _law_q, 16 _law_prime, 17 _law_weights, 18 _law_key, 19 _law_w, 20 _law_x, 21 _law_part, 22 _law_kept, 23 _law_at -/
abbrev s_l_store : Stmt := top 38
abbrev N_l_store : List Str := ["_law_deal", "_law_most", "_law_sizes_here", "_law_rows", "_law_form", "_law_many", "_law_keys", "_law_total", "_law_states", "_law_row", "_law_low", "_law_high", "_law_one", "_law_other", "_law_p", "_law_q", "_law_prime", "_law_weights", "_law_key", "_law_w", "_law_x", "_law_part", "_law_kept", "_law_at"]
theorem sc_l_store : FnScope N_l_store ["_law_deal", "_law_most"] (defScope s_l_store) := ⟨rfl, rfl, rfl, by decide +kernel, rfl, by decide +kernel, by decide +kernel⟩
/-! _law_question: 0 _law_deal, 1 _law_states, 2 _law_form, 3 _law_many, 4 _law_state, 5 _law_keys, 6 _law_key, 7 _law_seen, 8 _law_found, 9 _law_view -/
abbrev s_l_question : Stmt := top 39
abbrev N_l_question : List Str := ["_law_deal", "_law_states", "_law_form", "_law_many", "_law_state", "_law_keys", "_law_key", "_law_seen", "_law_found", "_law_view"]
theorem sc_l_question : FnScope N_l_question ["_law_deal", "_law_states"] (defScope s_l_question) := ⟨rfl, rfl, rfl, by decide +kernel, rfl, by decide +kernel, by decide +kernel⟩
/-! _law_lots: 0 _law_keys, 1 _law_found, 2 _law_key, 3 _law_lot -/
abbrev s_l_lots : Stmt := top 40
abbrev N_l_lots : List Str := ["_law_keys", "_law_found", "_law_key", "_law_lot"]
theorem sc_l_lots : FnScope N_l_lots ["_law_keys"] (defScope s_l_lots) := ⟨rfl, rfl, rfl, by decide +kernel, rfl, by decide +kernel, by decide +kernel⟩
/-! _law_tells: 0 _law_states, 1 _law_question_here, 2 _law_lot, 3 _law_seen, 4 _law_state, 5 _law_told, 6 _law_view, 7 _law_key -/
abbrev s_l_tells : Stmt := top 41
abbrev N_l_tells : List Str := ["_law_states", "_law_question_here", "_law_lot", "_law_seen", "_law_state", "_law_told", "_law_view", "_law_key"]
theorem sc_l_tells : FnScope N_l_tells ["_law_states", "_law_question_here", "_law_lot"] (defScope s_l_tells) := ⟨rfl, rfl, rfl, by decide +kernel, rfl, by decide +kernel, by decide +kernel⟩
/-! _law_beside: 0 _law_states, 1 _law_found, 2 _law_at, 3 _law_one, 4 _law_other, 5 _law_apart_here, 6 _law_key -/
abbrev s_l_beside : Stmt := top 42
abbrev N_l_beside : List Str := ["_law_states", "_law_found", "_law_at", "_law_one", "_law_other", "_law_apart_here", "_law_key"]
theorem sc_l_beside : FnScope N_l_beside ["_law_states"] (defScope s_l_beside) := ⟨rfl, rfl, rfl, by decide +kernel, rfl, by decide +kernel, by decide +kernel⟩
/-! _law_homes: 0 _law_states, 1 _law_beside_here, 2 _law_lot, 3 _law_found, 4 _law_many, 5 _law_start, 6 _law_fresh, 7 _law_later, 8 _law_key, 9 _law_other -/
abbrev s_l_homes : Stmt := top 43
abbrev N_l_homes : List Str := ["_law_states", "_law_beside_here", "_law_lot", "_law_found", "_law_many", "_law_start", "_law_fresh", "_law_later", "_law_key", "_law_other"]
theorem sc_l_homes : FnScope N_l_homes ["_law_states", "_law_beside_here", "_law_lot"] (defScope s_l_homes) := ⟨rfl, rfl, rfl, by decide +kernel, rfl, by decide +kernel, by decide +kernel⟩
/-! _law_apart: 0 _law_one, 1 _law_other, 2 _law_key -/
abbrev s_l_apart : Stmt := top 44
abbrev N_l_apart : List Str := ["_law_one", "_law_other", "_law_key"]
theorem sc_l_apart : FnScope N_l_apart ["_law_one", "_law_other"] (defScope s_l_apart) := ⟨rfl, rfl, rfl, by decide +kernel, rfl, by decide +kernel, by decide +kernel⟩
/-! _law_given: 0 _law_deal, 1 _law_rows, 2 _law_found, 3 _law_row -/
abbrev s_l_given : Stmt := top 45
abbrev N_l_given : List Str := ["_law_deal", "_law_rows", "_law_found", "_law_row"]
theorem sc_l_given : FnScope N_l_given ["_law_deal", "_law_rows"] (defScope s_l_given) := ⟨rfl, rfl, rfl, by decide +kernel, rfl, by decide +kernel, by decide +kernel⟩
/-! _law_bad_lot: 0 _law_deal, 1 _law_keys, 2 _law_row, 3 _law_at, 4 _law_odd -/
abbrev s_l_bad_lot : Stmt := top 46
abbrev N_l_bad_lot : List Str := ["_law_deal", "_law_keys", "_law_row", "_law_at", "_law_odd"]
theorem sc_l_bad_lot : FnScope N_l_bad_lot ["_law_deal", "_law_keys"] (defScope s_l_bad_lot) := ⟨rfl, rfl, rfl, by decide +kernel, rfl, by decide +kernel, by decide +kernel⟩
/-! _law_refused: 0 _law_form, 1 _law_store_here, 2 _law_lot, 3 _law_wrong -/
abbrev s_l_refused : Stmt := top 47
abbrev N_l_refused : List Str := ["_law_form", "_law_store_here", "_law_lot", "_law_wrong"]
theorem sc_l_refused : FnScope N_l_refused ["_law_form", "_law_store_here", "_law_lot"] (defScope s_l_refused) := ⟨rfl, rfl, rfl, by decide +kernel, rfl, by decide +kernel, by decide +kernel⟩
/-! _law_is_whole: 0 _law_states, 1 _law_homes_here, 2 _law_lot, 3 _law_seen, 4 _law_state, 5 _law_view, 6 _law_key, 7 _law_value -/
abbrev s_l_is_whole : Stmt := top 48
abbrev N_l_is_whole : List Str := ["_law_states", "_law_homes_here", "_law_lot", "_law_seen", "_law_state", "_law_view", "_law_key", "_law_value"]
theorem sc_l_is_whole : FnScope N_l_is_whole ["_law_states", "_law_homes_here", "_law_lot"] (defScope s_l_is_whole) := ⟨rfl, rfl, rfl, by decide +kernel, rfl, by decide +kernel, by decide +kernel⟩
/-! _law_question_right: 0 _law_states, 1 _law_beside_here, 2 _law_question_here, 3 _law_homes_here, 4 _law_lot, 5 _law_turned, 6 _law_seen, 7 _law_one, 8 _law_state, 9 _law_told, 10 _law_key, 11 _law_other -/
abbrev s_l_question_right : Stmt := top 49
abbrev N_l_question_right : List Str := ["_law_states", "_law_beside_here", "_law_question_here", "_law_homes_here", "_law_lot", "_law_turned", "_law_seen", "_law_one", "_law_state", "_law_told", "_law_key", "_law_other"]
theorem sc_l_question_right : FnScope N_l_question_right ["_law_states", "_law_beside_here", "_law_question_here", "_law_homes_here", "_law_lot"] (defScope s_l_question_right) := ⟨rfl, rfl, rfl, by decide +kernel, rfl, by decide +kernel, by decide +kernel⟩
/-! law: 0 _law_script, 1 _law_deal, 2 _law_sizes_here, 3 _law_states, 4 _law_store_here, 5 _law_beside_here, 6 _law_keys, 7 _law_torn, 8 _law_lots_here, 9 _law_looked, 10 _law_lot, 11 _law_homes_here, 12 _law_whole, 13 _law_given_here, 14 _law_index, 15 _law_state, 16 _law_due, 17 _law_at, 18 _law_rest, 19 _law_key, 20 _law_wrong, 21 _law_form -/
abbrev s_law : Stmt := top 50
abbrev N_law : List Str := ["_law_script", "_law_deal", "_law_sizes_here", "_law_states", "_law_store_here", "_law_beside_here", "_law_keys", "_law_torn", "_law_lots_here", "_law_looked", "_law_lot", "_law_homes_here", "_law_whole", "_law_given_here", "_law_index", "_law_state", "_law_due", "_law_at", "_law_rest", "_law_key", "_law_wrong", "_law_form"]
theorem sc_law : FnScope N_law ["_law_script"] (defScope s_law) := ⟨rfl, rfl, rfl, by decide +kernel, rfl, by decide +kernel, by decide +kernel⟩
end K13
/-! K13Base -/
set_option autoImplicit true
set_option Elab.async false
set_option linter.all false
set_option maxRecDepth 100000
set_option maxHeartbeats 2000000
namespace K13
open PySem PySem.Spec PyProof.Rows L2
/-! ### a def of the module's, by its name -/
structure Cal (P : Program) (w : World) (K : PySem.W.Frag) (mg : Str → Option Value) (base : Heap) (k : Nat) (x : Str) (sp : Sp) : Prop where
  ex : ∃ (f : Addr) (fd : FuncData) (ps : List Str), FnOk P w K mg base (L2.CX P w) k f fd ps sp ∧ mg x = some (.ref f) ∧ PySem.W.keepIn K (.ref f) = true ∧ Binds K fd ps [] ∧ ∃ (oc : Value) (od : Option Addr) (osl : Array (Option Value)), K.lookup f = some ⟨oc, od, .func fd, osl⟩ ∧ fd.params.args.map (·.arg) = ps
theorem Cal.mono {P : Program} {w : World} {K : PySem.W.Frag} {mg : Str → Option Value} {base : Heap} {j k : Nat} {x : Str} {sp : Sp} (c : Cal P w K mg base j x sp) (h : j ≤ k) : Cal P w K mg base k x sp := by
  obtain ⟨f, fd, ps, F, a, b, d⟩ := c.ex
  exact ⟨f, fd, ps, F.mono h, a, b, d⟩
theorem Cal.imp {P : Program} {w : World} {K : PySem.W.Frag} {mg : Str → Option Value} {base : Heap} {k : Nat} {x : Str} {sp sp' : Sp} (c : Cal P w K mg base k x sp) (h : ∀ vs H Q E, sp' vs H Q E → sp vs H Q E) : Cal P w K mg base k x sp' := by
  obtain ⟨f, fd, ps, F, a, b, d⟩ := c.ex
  exact ⟨f, fd, ps, F.imp h, a, b, d⟩
section
variable {X : Cx} {k j : Nat} {x : Str} {sp : Sp} {E : XK} {p pos : Pos} {e : Expr} {es : List Expr} {t : TA}
/-- f(e, ..); what it raises is wished as E -/
theorem pcE (c : Cal X.prog X.w X.K X.mg X.base k x sp) (hr : Room j X.A) (hk : k ≤ j) (hx : Passes (L2.CX X.prog X.w) X E) (hg : Gl X x) (ha : PA X (e :: es) t)
    (hdb : (x == ("__debug__" : Str)) = false := by decide) (he : starEach (e :: es) X.env = (false, eval e X.env) :: starEach es X.env := by rfl) (hpl : (backTo pos (starEach es X.env)).any (·.1) = false := by rfl) :
    PE X (.Call (.Name x p) (e :: es) [] pos) (tCall sp [] E t) := by
  obtain ⟨f, fd, ps, F, hm, kp, b, _⟩ := c.ex
  exact pe_call F (hr.mono hk) hg hm kp b .nil hx ha hdb he hpl
/-- f(e, ..), which raises nothing -/
theorem pc (c : Cal X.prog X.w X.K X.mg X.base k x sp) (hr : Room j X.A) (ha : PA X (e :: es) t) (hk : k ≤ j := by decide) (hg : Gl X x := by rfl)
    (hdb : (x == ("__debug__" : Str)) = false := by decide) (he : starEach (e :: es) X.env = (false, eval e X.env) :: starEach es X.env := by rfl) (hpl : (backTo pos (starEach es X.env)).any (·.1) = false := by rfl) :
    PE X (.Call (.Name x p) (e :: es) [] pos) (tCall sp [] E0 t) := pcE c hr hk passL hg ha hdb he hpl
end
/-- the names of the built-ins that the program uses stand for the built-ins -/
structure Bt (mg : Str → Option Value) : Prop where
  len : mg "len" = none
  isi : mg "isinstance" = none
  int : mg "int" = none
  bool : mg "bool" = none
  list : mg "list" = none
  tuple : mg "tuple" = none
  all : mg "all" = none
  zip : mg "zip" = none
  enum : mg "enumerate" = none
  sorted : mg "sorted" = none
  set : mg "set" = none
  range : mg "range" = none
  max : mg "max" = none
  min : mg "min" = none
  sum : mg "sum" = none
  abs : mg "abs" = none
  repr : mg "repr" = none
  super : mg "super" = none
  valE : mg "ValueError" = none
/-- where a def's object stands, and its parameters -/
theorem lkOf {K : PySem.W.Frag} {x qual : Str} {params : Arguments} {body : List Stmt} {scope : Scope} {dvs : List V} {kws : List (Str × V)} {f : Addr} {fd : FuncData} {ps : List Str} (F : FunD K x qual params body scope dvs kws f fd) (h : params.args.map (·.arg) = ps) :
    ∃ (oc : Value) (od : Option Addr) (osl : Array (Option Value)), K.lookup f = some ⟨oc, od, .func fd, osl⟩ ∧ fd.params.args.map (·.arg) = ps := by
  obtain ⟨oc, od, _, _, _, _, _, _, _, osl, e, lk, _⟩ := F.ex
  exact ⟨oc, od, osl, lk, by rw [e]; exact h⟩
/-- a def of the text -/
abbrev FnP (K : PySem.W.Frag) (x : Str) (st : Stmt) (f : Addr) (fd : FuncData) : Prop := FunD K x x (defArgs st) (defBody st) (defScope st) [] [] f fd
section
variable {P : Program} {w : World} {K : PySem.W.Frag} {mg : Str → Option Value} {base : Heap}
/-- the promise of a def, by its body: nothing is raised -/
theorem cal0 {x : Str} {st : Stmt} {f : Addr} {fd : FuncData} {N ps : List Str} {k : Nat} {sp : Sp} (F : FnP K x st f fd) (hm : mg x = some (.ref f)) (S : FnScope N ps (defScope st))
    (hb : ∀ (kV doc pm : Value) (an : Option Addr) (cdv ct : Value) (us : List Value), us.length = ps.length → bindArgs (PySem.W.fnOf x x (defArgs st) (defBody st) (defScope st) .none kV doc pm an cdv ct) ⟨us, []⟩ = pure (ps.zip us))
    (len : ∀ vs H Q E, sp vs H Q E → vs.length = ps.length)
    (hbody : ∀ (cdv : Value) (A : Around) (outer : List Env) (s : Shared) (H : Hp) (vs : List V) (Q : VK) (E : XK), Room k (A.deeper (envOfC x (defScope st) s.heap.objs.size f cdv)) → sp vs H Q E →
      ∃ t, PSs (cxOf (L2.CX P w) P w K mg base N x (defScope st) f cdv A outer s H E).nox (defBody st) t ∧ t { nx := fun _ H' => Q .non H', rt := Q } (start N vs) H) (hps : (defArgs st).args.map (·.arg) = ps := by rfl) : Cal P w K mg base (k + 1) x sp := by
  refine ⟨f, fd, ps, F.ok S len (fun cdv A outer s H vs Q E hr h => ?_), hm, F.kp, FunD.bindsN F hb, lkOf F hps⟩
  obtain ⟨t, h1, h2⟩ := hbody cdv A outer s H vs Q E hr h
  exact ⟨t, h1.nox, h2⟩
end
/-! ### kinds of values -/
/-- what is known to be no list and no tuple -/
inductive Odd (H : Hp) : V → String → Prop where
  | int (i : Int) : Odd H (.int i) "int"
  | bl (b : Bool) : Odd H (.bl b) "bool"
  | non : Odd H .non "NoneType"
  | str (x : Str) : Odd H (.str x) "str"
  | dct {a : Addr} {kvs : List (Key × V)} (h : H a = some (.dK kvs)) : Odd H (.ref a) "dict"
inductive Seq (H : Hp) : V → List V → Prop where
  | lst {a : Addr} {xs : List V} (h : H a = some (.lst xs)) : Seq H (.ref a) xs
  | tup {a : Addr} {xs : List V} (h : H a = some (.tup xs)) : Seq H (.ref a) xs
theorem Odd.same {H H' : Hp} {x : V} {T : String} (e : Same H H') (h : Odd H x T) : Odd H' x T := by
  cases h with
  | int i => exact .int i
  | bl b => exact .bl b
  | non => exact .non
  | str x => exact .str x
  | dct h => exact .dct (e _ _ h)
theorem Seq.same {H H' : Hp} {x : V} {xs : List V} (e : Same H H') (h : Seq H x xs) : Seq H' x xs := by
  cases h with
  | lst h => exact .lst (e _ _ h)
  | tup h => exact .tup (e _ _ h)
theorem Odd.ty {K : PySem.W.Frag} {H : Hp} {x : V} {T : String} (h : Odd H x T) : TyX K H x (.type T) := by
  cases h with
  | int i => exact .base (.int i)
  | bl b => exact .base (.bl b)
  | non => exact .base .non
  | str x => exact .base (.str x)
  | dct h => exact .base (.dK h)
theorem Seq.ty {K : PySem.W.Frag} {H : Hp} {x : V} {xs : List V} (h : Seq H x xs) : ∃ T, (T = "list" ∨ T = "tuple") ∧ TyX K H x (.type T) := by
  cases h with
  | lst h => exact ⟨_, .inl rfl, .base (.lst h)⟩
  | tup h => exact ⟨_, .inr rfl, .base (.tup h)⟩
/-- a number from 0 on -/
def numB : V → Bool
  | .int i => decide (0 ≤ i)
  | _ => false
def intB : V → Bool
  | .int _ => true
  | _ => false
def ixB (many : Int) : V → Bool
  | .int i => decide (0 ≤ i ∧ i < many)
  | _ => false
theorem same_new {H : Hp} {p : Addr} {o : HO} (h : H p = none) : Same H (upd H p o) := fun b u e => by
  rw [upd_ne (ne_of_none e h)]
  exact e
/-! ### the built-ins in short -/
section
variable {X : Cx} {e a b : Expr} {te ta tb : TE} {p p2 pos pos2 : Pos} {kk : Nat}
theorem bt_int (B : Bt X.mg) (hg : Gl X "int" := by rfl) : PE X (.Name "int" p) (tC (.ty "int")) := pe_bltn hg B.int PyProof.Rows.boot_int rfl
theorem bt_bool (B : Bt X.mg) (hg : Gl X "bool" := by rfl) : PE X (.Name "bool" p) (tC (.ty "bool")) := pe_bltn hg B.bool PyProof.Rows.boot_bool rfl
theorem bt_list (B : Bt X.mg) (hg : Gl X "list" := by rfl) : PE X (.Name "list" p) (tC (.ty "list")) := pe_bltn hg B.list PyProof.Rows.boot_list rfl
theorem bt_tuple (B : Bt X.mg) (hg : Gl X "tuple" := by rfl) : PE X (.Name "tuple" p) (tC (.ty "tuple")) := pe_bltn hg B.tuple PyProof.Rows.boot_tuple rfl
abbrev rLenS (K : PySem.W.Frag) : List V → Hp → VK → Prop := fun xs H Q => ∃ p ys, xs = [.ref p] ∧ (SqL K H p ys ∨ SqT K H p ys) ∧ Q (.int ys.length) H
abbrev rIsiC (K : PySem.W.Frag) : List V → Hp → VK → Prop := rIsi K
theorem b_len (B : Bt X.mg) (ha : PE X e te) (hg : Gl X "len" := by rfl) (hs : starEach [e] X.env = (false, eval e X.env) :: starEach [] X.env := by rfl) : PE X (.Call (.Name "len" p) [e] [] pos) (tCB (rLenS X.K) (tCons te tNil)) :=
  pe_callB call_len_seq hg B.len PySem.boot_len (pa_cons ha pa_nil hs) (he := hs)
theorem b_isi (B : Bt X.mg) (ha : PE X a ta) (hb : PE X b tb) (hg : Gl X "isinstance" := by rfl) (hs : starEach [a, b] X.env = (false, eval a X.env) :: starEach [b] X.env := by rfl) (hs2 : starEach [b] X.env = (false, eval b X.env) :: starEach [] X.env := by rfl) :
    PE X (.Call (.Name "isinstance" p) [a, b] [] pos) (tCB (rIsi X.K) (tCons ta (tCons tb tNil))) :=
  pe_callB call_isi hg B.isi PyProof.Rows.boot_isinstance (pa_cons ha (pa_cons hb pa_nil hs2) hs) (he := hs) (hpl := by rw [hs2]; rfl)
theorem b_isiT (B : Bt X.mg) (ha : PE X a ta) (hb : PE X b tb) (hg : Gl X "isinstance" := by rfl) (hs : starEach [a, b] X.env = (false, eval a X.env) :: starEach [b] X.env := by rfl) (hs2 : starEach [b] X.env = (false, eval b X.env) :: starEach [] X.env := by rfl) :
    PE X (.Call (.Name "isinstance" p) [a, b] [] pos) (tCB (rIsiT X.K) (tCons ta (tCons tb tNil))) :=
  pe_callB call_isiT hg B.isi PyProof.Rows.boot_isinstance (pa_cons ha (pa_cons hb pa_nil hs2) hs) (he := hs) (hpl := by rw [hs2]; rfl)
end
end K13
/-! K13RuleA -/
set_option autoImplicit true
set_option Elab.async false
set_option linter.all false
set_option maxRecDepth 100000
set_option maxHeartbeats 2000000
/-! enumerate and zip over lists and tuples alike. The library's walks that make tuples (WalksT) are read at our trackers by one lemma, turnW. -/
namespace K13
open PySem PySem.Spec PyProof.Rows L2
/-- a list (true), a tuple (false) that H tracks -/
def SqB (k : Bool) (H : Hp) (a : Addr) (xs : List V) : Prop := H a = some (if k = true then .lst xs else .tup xs)
theorem SqB.l {H : Hp} {a : Addr} {xs : List V} (h : H a = some (.lst xs)) : SqB true H a xs := h
theorem SqB.t {H : Hp} {a : Addr} {xs : List V} (h : H a = some (.tup xs)) : SqB false H a xs := h
theorem SqB.same {k : Bool} {H H' : Hp} {a : Addr} {xs : List V} (e : Same H H') (h : SqB k H a xs) : SqB k H' a xs := e _ _ h
def SrcH (k : Bool) (h : Heap) (a : Addr) (items : Array Value) : Prop := if k = true then h.IsList a items else h.IsTuple a items
def ItH (k : Bool) (h : Heap) (it a : Addr) (i : Nat) : Prop := if k = true then h.IsListIter it a i else h.IsTupleIter it a i
theorem drawsB (k : Bool) {prog : Program} {w : World} {A : Around} (hh : A.handled = none) (it a : Addr) (hne : a ≠ it) (items : Array Value) :
    Draws prog w A it [it, a] items.size (fun i v => items[i]? = some v) (fun i h => ItH k h it a i ∧ SrcH k h a items) := by
  cases k with
  | true => exact Draws.list hh it a hne items
  | false => exact Draws.tuple hh it a hne items
theorem ItH.at {k : Bool} {h h' : Heap} {it a : Addr} {i : Nat} (x : ItH k h it a i) (e : ∀ o, h.get? it = some o → h'.get? it = some o) : ItH k h' it a i := by
  cases k with
  | true => exact Heap.IsListIter.at x e
  | false => exact Heap.IsTupleIter.at x e
theorem ItH.obj {k : Bool} {h : Heap} {it a : Addr} {i : Nat} (x : ItH k h it a i) : ∃ o, h.get? it = some o ∧ ∀ v, o.data ≠ .cell v := by
  cases k with
  | true =>
    obtain ⟨o, e, _, d⟩ := (show h.IsListIter it a i from x)
    exact ⟨o, e, fun v q => by rw [d] at q; cases q⟩
  | false =>
    obtain ⟨o, e, _, d⟩ := (show h.IsTupleIter it a i from x)
    exact ⟨o, e, fun v q => by rw [d] at q; cases q⟩
/-- what is drawn at place i is the i-th that H tracks -/
theorem drawn {xs : List V} {its : List Value} {i : Nat} {x : Value} (rv : Vals xs its) (lt : i < xs.length) (q : its.toArray[i]? = some x) : L2.RelV xs[i] x := by
  have ⟨u, at_i, r⟩ := rv.get (List.getElem?_eq_getElem lt)
  rw [List.getElem?_toArray, at_i] at q
  cases q
  exact r
/-- addresses past the heap's end may be an iterator's own -/
theorem pastEnd {X : Cx} {pins : List (Addr × Obj)} {σ : L2.St} {H : Hp} {s : Shared} (I : Inv X pins σ H s) {L : List Addr} (h : ∀ b ∈ L, s.heap.objs.size ≤ b) : ∀ b ∈ L, FpOk X pins H b :=
  fun b m => I.fpOk (h b m) (I.hok.fresh (h b m))
/-- a walk of the library that hands out a new tuple at each turn; ch: the iterator's own records, wr: those of them that are written -/
theorem turnW {P : Program} {w : World} {K : PySem.W.Frag} {elts : List Expr} {kk : Nat} {tpos : Pos} {J : It} {ch wr : List Addr} {e : Addr} {tn : Nat → Heap → Prop} (mem : e ∈ ch) (sub : ∀ b ∈ wr, b ∈ ch)
    (obj : ∀ i h, tn i h → ∀ b ∈ ch, ∃ o, h.get? b = some o ∧ ∀ v, o.data ≠ .cell v)
    (keep : ∀ i h h', tn i h → (∀ b ∈ ch, ∀ o, h.get? b = some o → h'.get? b = some o) → tn i h')
    (self : ∀ (A : Around) (i : Nat) (s : Shared) (Q : Value → Shared → Prop) (E : Value → Shared → Prop), tn i s.heap → Q (.ref e) s → wpAny (model P w) A (pyIter (.ref e)) Q E s)
    (walk : ∀ (X : Cx), X.prog = P → X.w = w → X.calm = true → ∀ (pins : List (Addr × Obj)) (σ : L2.St) (H : Hp) (s : Shared), Inv X pins σ H s → ∀ i, (∀ b ∈ ch, FpOk X pins H b) → (J.go i H ∨ J.stop i H) → tn i s.heap →
      ∃ n fp Y St Mid, WalksT P w X.A e fp wr n Y St Mid ∧ St i s.heap ∧ (∀ h, St (i + 1) h → tn (i + 1) h) ∧ (J.stop i H → i = n) ∧
        (J.go i H → i < n ∧ ∃ xs, xs.length ≤ sizeLine ∧ (∀ vals, Y i vals → Vals xs vals.toList) ∧ ∀ T, H T = none → J.yld i H (.ref T) (upd H T (.tup xs)))) :
    Turn P w K (.Tuple elts kk tpos) J ch e tn := by
  refine ⟨mem, obj, keep, fun X hP hw _ hc i pins s σ H E I own st go => ?_, fun X hP hw _ hc i pins s σ H E I own st stop => ?_, self⟩
  · obtain ⟨n, fp, Y, St, Mid, W, at_i, up, _, g⟩ := walk X hP hw hc pins σ H s I i own (.inl go) st
    obtain ⟨lt, xs, big, vals, yields⟩ := g go
    subst hP hw
    refine W.item i s _ _ lt at_i fun T us h1 tk y past tup m same => ⟨.ref T, rfl, W.go elts kk tpos i T _ _ _ m fun h2 at_n same2 => ?_⟩
    have away : T ∉ wr := W.apart i T h1 m
    have new : H T = none := I.hok.fresh past
    have both : ∀ b o, b ∉ ch → s.heap.get? b = some o → h2.get? b = some o := fun b o n q => same2 b o (fun z => n (sub b z)) (same b o (fun z => n (sub b z)) q)
    have laid := I.turnedNew (t' := tk) (ob := .tup xs) both own past ⟨big, us.toList, vals us y, by rw [Array.toArray_toList]; exact tup.at fun o q => same2 T o away q⟩
    refine ⟨.ref T, _, laid, rfl, yields T new, up h2 at_n, fun b hb => ?_⟩
    obtain ⟨o, q, _⟩ := obj i _ st b hb
    exact (upd_ne (Nat.ne_of_lt (Nat.lt_of_lt_of_le (Heap.lt_size q) past))).trans (own b hb).1
  · obtain ⟨n, fp, Y, St, Mid, W, at_i, _, fin, _⟩ := walk X hP hw hc pins σ H s I i own (.inr stop) st
    obtain rfl := fin stop
    subst hP hw
    exact W.done s _ _ at_i fun h1 tk same => ⟨rfl, I.turnedL (t' := tk) (fun b o n q => same b o (fun z => n (sub b z)) q) own⟩
section
variable {X : Cx} {pins : List (Addr × Obj)} {σ : L2.St} {H : Hp} {s : Shared} {a : Addr} {xs : List V}
theorem invB {k : Bool} (I : Inv X pins σ H s) (h : SqB k H a xs) : ∃ its : List Value, Vals xs its ∧ SrcH k s.heap a its.toArray ∧ xs.length ≤ sizeLine := by
  cases k with
  | true =>
    obtain ⟨its, r, p, z⟩ := I.list (SqL.of h)
    exact ⟨its, r, p.isList, z⟩
  | false =>
    obtain ⟨its, r, p, z⟩ := I.tuple (SqT.of h)
    exact ⟨its, r, p, z⟩
end
/-! ### enumerate -/
def IteB (k : Bool) (a : Addr) (xs : List V) : It :=
  ⟨fun i H => SqB k H a xs ∧ i < xs.length, fun i H v H' => ∃ T x, v = .ref T ∧ H T = none ∧ H' = upd H T (.tup [.int (i : Nat), x]) ∧ xs[i]? = some x, fun i H => SqB k H a xs ∧ i = xs.length⟩
theorem turn_enumB {P : Program} {w : World} {K : PySem.W.Frag} {elts : List Expr} {kk : Nat} {tpos : Pos} (k : Bool) (a e it : Addr) (xs : List V) :
    Turn P w K (.Tuple elts kk tpos) (IteB k a xs) [e, it] e (fun i h => (∃ old, IsEnum h e it ((i : Nat) : Int) old) ∧ ItH k h it a i ∧ e ≠ it) := by
  refine turnW (wr := [e, it]) (.head _) (fun _ h => h) (fun i h st b m => ?_) (fun i h h' st q => ?_) (fun A i s Q E st q => st.1.elim fun _ z => wpAny_pyIter_enum z q) fun X hP hw hc pins σ H s I i own gs st => ?_
  · obtain ⟨⟨_, rc⟩, hit, _⟩ := st
    rcases List.mem_cons.mp m with rfl | m
    · exact ⟨_, rc, nofun⟩
    · cases List.mem_singleton.mp m
      exact hit.obj
  · obtain ⟨⟨old, rc⟩, hit, ne⟩ := st
    exact ⟨⟨old, q e (.head _) _ rc⟩, hit.at (q it (.tail _ (.head _))), ne⟩
  · obtain ⟨⟨old, rc⟩, hit, ne⟩ := st
    have src : SqB k H a xs := gs.elim (·.1) (·.1)
    have out : ∀ b ∈ [e, it], a ≠ b := fun b m => ne_of_none src (own b m).1
    have ae := out e (.head _)
    have ai := out it (.tail _ (.head _))
    obtain ⟨its, rv, held, _⟩ := invB I src
    have len : xs.length = its.toArray.size := rv.length
    subst hP hw
    have D := drawsB k (prog := X.prog) (w := X.w) (A := X.A.in1) (I.ok.hd hc) it a ai its.toArray
    refine ⟨_, _, _, _, _, WalksT.enumFrom 0 D e ne (by simp [ne, ae.symm]) (.head _), ⟨⟨old, ?_⟩, hit, held⟩, fun h st2 => ⟨?_, st2.2.1, ne⟩, fun stop => stop.2.trans len, fun go => ⟨len ▸ go.2, [.int i, xs[i]'go.2], ?_, ?_, ?_⟩⟩
    · rw [Int.zero_add]; exact rc
    · have z := st2.1
      rw [Int.zero_add] at z; exact z
    · show 2 ≤ sizeLine
      decide
    · rintro _ ⟨t, x, q, rfl⟩
      exact .cons ⟨t, by rw [Int.zero_add]⟩ (.cons (drawn rv go.2 q) .nil)
    · exact fun T n => ⟨T, _, rfl, n, rfl, List.getElem?_eq_getElem go.2⟩
theorem beginsB (k : Bool) (a : Addr) (items : Array Value) : ∃ o, Begins (.ref a) o (fun h => SrcH k h a items) ∧ ∀ (h : Heap) (it : Addr), h.get? it = some o → ItH k h it a 0 := by
  cases k with
  | true => exact ⟨_, begins_list a items, fun h it e => ⟨_, e, rfl, rfl⟩⟩
  | false => exact ⟨_, begins_tuple a items, fun h it e => ⟨_, e, rfl, rfl⟩⟩
/-- the record that enumerate(v) makes over the iterator at it -/
def enO (it : Addr) : Obj := { cls := .type "enumerate", data := .fields #[.none, .bool false, .ref it, rawInt 0, .none, .none] }
theorem meets_enum1 {v : Value} {o : Obj} {S : Heap → Prop} (B : Begins v o S) : Meets (Builtin.«enumerate.__new__» ⟨[.type "enumerate", v], []⟩) fun _ R s =>
    S s.heap ∧ R (.ok (.ret (.ref (s.heap.push o).objs.size))) { s with heap := (s.heap.push o).push (enO s.heap.objs.size) } :=
  .of_wp fun prog w A R s ⟨src, q⟩ => by
    have kinds := sub_enumerate
    obtain ⟨hp, g, d, tk, os⟩ := s
    have goes : ∀ {A' : Around} {E Q : Value → Shared → Prop}, Q (.ref hp.objs.size) ⟨hp.push o, g, d, tk, os⟩ → wpAny (model prog w) A' (pyIter v) Q E ⟨hp, g, d, tk, os⟩ := fun q => B.iter prog w _ _ ⟨hp, g, d, tk, os⟩ _ src q
    wp_walk using goes
    refine wpAny_stack_any fun _ => wpAny_pure ?_
    split
    next c _ _ _ _ _ => cases (c == Value.type "enumerate") <;> (wp_walk using goes; exact ⟨_, rfl, q⟩)
    next => wp_walk using goes; exact ⟨_, rfl, q⟩
theorem call_enum1 {prog : Program} {w : World} {A : Around} {E Q : Value → Shared → Prop} {s : Shared} {v : Value} {o : Obj} {S : Heap → Prop} (B : Begins v o S) (src : S s.heap)
    (q : ∀ h', IsEnum h' (s.heap.objs.size + 1) s.heap.objs.size 0 .none → h'.get? s.heap.objs.size = some o → (∀ b u, s.heap.get? b = some u → h'.get? b = some u) → Q (.ref (s.heap.objs.size + 1)) { s with heap := h' }) : wpAny (model prog w) A (call (.type "enumerate") [v]) Q E s := by
  refine callType_new F.called_enumerate (by decide) (F.typeCall_enumerate_1 _) (F.newCall_enumerate_1 _) (fun u => F.args_object_init_2 u _) F.entry_enumerate_new (meets_enum1 B) ⟨src, ?_⟩
  have one : (s.heap.push o).objs.size = s.heap.objs.size + 1 := Heap.size_push ..
  have rc : IsEnum ((s.heap.push o).push (enO s.heap.objs.size)) (s.heap.push o).objs.size s.heap.objs.size 0 .none := Heap.get?_push_size _ rfl
  rw [one] at rc
  show _ ∧ _
  rw [one]
  exact ⟨⟨_, rc, rfl⟩, q _ rc (Heap.get?_push_of_some _ (Heap.get?_push_size _ B.free)) fun b u e => Heap.get?_push_of_some _ (Heap.get?_push_of_some _ e)⟩
def iEnumB (ta : TA) : TI := fun σ H R => ta σ H fun vs H1 => ∃ k a xs, vs = [.ref a] ∧ SqB k H1 a xs ∧ R (IteB k a xs) H1
theorem pi_enumB {X : Cx} {e : Expr} {ta : TE} {p pos tpos : Pos} {elts : List Expr} {kk : Nat} (B : Bt X.mg) (ha : PE X e ta) (hg : Gl X "enumerate" := by rfl) (hs : starEach [e] X.env = (false, eval e X.env) :: starEach [] X.env := by rfl) :
    PI X (.Tuple elts kk tpos) (.Call (.Name "enumerate" p) [e] [] pos) (iEnumB (tCons ta tNil)) := by
  constructor
  intro pins s σ H R I h
  refine Call_ (ld_blt I hg B.enum boot_enumerate (callWith_type1 (thn ((pa_cons ha pa_nil hs).run pos pins s σ H (fun vs H1 => ∃ k a xs, vs = [.ref a] ∧ SqB k H1 a xs ∧ R (IteB k a xs) H1) I h) ?_) hs rfl))
  rintro us s1 ⟨_, H1, I1, r, k, a, xs, rfl, src, q⟩
  obtain ⟨_, rfl, rfl⟩ := r.one
  obtain ⟨its, rv, held, _⟩ := invB I1 src
  obtain ⟨o, Bg, iter⟩ := beginsB k a its.toArray
  exact call_enum1 Bg held fun h' rc gi same => wpAny_pyIter_enum rc ⟨s1.heap.objs.size + 1, _, _, _, H1, rfl, I1.kept (t' := s1.toks) same,
    turn_enumB k a (s1.heap.objs.size + 1) s1.heap.objs.size xs, ⟨⟨.none, rc⟩, iter _ _ gi, Nat.succ_ne_self _⟩, pastEnd I1 (by simp), q⟩
/-! ### zip -/
def ItzB (k k2 : Bool) (a b : Addr) (xs ys : List V) : It :=
  ⟨fun i H => SqB k H a xs ∧ SqB k2 H b ys ∧ i < xs.length ∧ i < ys.length, fun i H v H' => ∃ T x y, v = .ref T ∧ H T = none ∧ H' = upd H T (.tup [x, y]) ∧ xs[i]? = some x ∧ ys[i]? = some y,
    fun i H => SqB k H a xs ∧ SqB k2 H b ys ∧ i ≤ xs.length ∧ i ≤ ys.length ∧ (i = xs.length ∨ i = ys.length)⟩
/-- n: where the heap ended when the zip was made; its five records follow -/
def zipAt (n : Addr) : List Addr := [n + 4, n + 2, n + 3, n, n + 1]
def zipSt (k k2 : Bool) (n a b : Addr) (i : Nat) (h : Heap) : Prop :=
  IsZip h (n + 4) (n + 2) (n + 3) .none ∧ IsTupOf2 h (n + 2) (.ref n) (.ref (n + 1)) ∧ (∃ x y, IsTupOf2 h (n + 3) x y) ∧ ItH k h n a i ∧ ItH k2 h (n + 1) b i
theorem zip_sep {n a b : Addr} (ha : ∀ c ∈ zipAt n, a ≠ c) (hb : ∀ c ∈ zipAt n, b ≠ c) : ZipSep2 (n + 4) (n + 2) (n + 3) n (n + 1) [n, a] [n + 1, b] := by
  simp only [zipAt, List.forall_mem_cons] at ha hb
  obtain ⟨a1, a2, a3, a4, a5, -⟩ := ha
  obtain ⟨b1, b2, b3, b4, b5, -⟩ := hb
  constructor <;> simp [a1.symm, a3.symm, a5.symm, b1.symm, b3.symm, b4.symm]
theorem zipSt.obj {k k2 : Bool} {n a b : Addr} {i : Nat} {h : Heap} (st : zipSt k k2 n a b i h) : ∀ c ∈ zipAt n, ∃ o, h.get? c = some o ∧ ∀ v, o.data ≠ .cell v := by
  obtain ⟨z, pair, ⟨_, _, out⟩, l, r⟩ := st
  simp only [zipAt, List.forall_mem_cons]
  exact ⟨⟨_, z, nofun⟩, ⟨_, pair, nofun⟩, ⟨_, out, nofun⟩, l.obj, r.obj, nofun⟩
theorem zipSt.keep {k k2 : Bool} {n a b : Addr} {i : Nat} {h h' : Heap} (st : zipSt k k2 n a b i h) (q : ∀ c ∈ zipAt n, ∀ o, h.get? c = some o → h'.get? c = some o) : zipSt k k2 n a b i h' := by
  obtain ⟨z, pair, ⟨x, y, out⟩, l, r⟩ := st
  simp only [zipAt, List.forall_mem_cons] at q
  obtain ⟨q1, q2, q3, q4, q5, -⟩ := q
  exact ⟨q1 _ z, q2 _ pair, ⟨x, y, q3 _ out⟩, l.at q4, r.at q5⟩
theorem turn_zipB {P : Program} {w : World} {K : PySem.W.Frag} {elts : List Expr} {kk : Nat} {tpos : Pos} {k k2 : Bool} {n a b : Addr} {xs ys : List V} :
    Turn P w K (.Tuple elts kk tpos) (ItzB k k2 a b xs ys) (zipAt n) (n + 4) (zipSt k k2 n a b) := by
  refine turnW (wr := [n + 4, n + 3, n, n + 1]) (.head _) (by simp [zipAt]) (fun _ _ st => st.obj) (fun _ _ _ st => st.keep) (fun _ _ _ _ _ st q => wpAny_pyIter_zip st.1 q) fun X hP hw hc pins σ H s I i own gs st => ?_
  have sa : SqB k H a xs := gs.elim (·.1) (·.1)
  have sb : SqB k2 H b ys := gs.elim (·.2.1) (·.2.1)
  have oa : ∀ c ∈ zipAt n, a ≠ c := fun c m => ne_of_none sa (own c m).1
  have ob : ∀ c ∈ zipAt n, b ≠ c := fun c m => ne_of_none sb (own c m).1
  obtain ⟨us, ru, hu, _⟩ := invB I sa
  obtain ⟨vs, rv, hv, _⟩ := invB I sb
  have lu : xs.length = us.toArray.size := ru.length
  have lv : ys.length = vs.toArray.size := rv.length
  subst hP hw
  have D1 := drawsB k (prog := X.prog) (w := X.w) (A := X.A.in1) (I.ok.hd hc) n a (oa n (by simp [zipAt])) us.toArray
  have D2 := drawsB k2 (prog := X.prog) (w := X.w) (A := X.A.in1) (I.ok.hd hc) (n + 1) b (ob (n + 1) (by simp [zipAt])) vs.toArray
  refine ⟨_, _, _, _, _, WalksT.zipD2 (zip_sep oa ob) D1 D2, ⟨st.1, st.2.1, st.2.2.1, ⟨st.2.2.2.1, hu⟩, st.2.2.2.2, hv⟩, fun h z => ⟨z.1, z.2.1, z.2.2.1, z.2.2.2.1.1, z.2.2.2.2.1⟩, ?_, ?_⟩
  · rintro ⟨_, _, l1, l2, e⟩
    omega
  · rintro ⟨_, _, l1, l2⟩
    refine ⟨by omega, [xs[i], ys[i]], ?_, ?_, fun T new => ⟨T, _, _, rfl, new, rfl, List.getElem?_eq_getElem l1, List.getElem?_eq_getElem l2⟩⟩
    · show 2 ≤ sizeLine
      decide
    · rintro _ ⟨x, y, p, q, rfl⟩
      exact .cons (drawn ru l1 p) (.cons (drawn rv l2 q) .nil)
def iZipB (ta : TA) : TI := fun σ H R => ta σ H fun vs H2 => ∃ k k2 a b xs ys, vs = [.ref a, .ref b] ∧ SqB k H2 a xs ∧ SqB k2 H2 b ys ∧ R (ItzB k k2 a b xs ys) H2
theorem pi_zipB {X : Cx} {e e2 : Expr} {ta tb : TE} {p pos tpos : Pos} {elts : List Expr} {kk : Nat} (B : Bt X.mg) (ha : PE X e ta) (hb : PE X e2 tb) (hg : Gl X "zip" := by rfl)
    (hs : starEach [e, e2] X.env = (false, eval e X.env) :: starEach [e2] X.env := by rfl) (hs2 : starEach [e2] X.env = (false, eval e2 X.env) :: starEach [] X.env := by rfl) :
    PI X (.Tuple elts kk tpos) (.Call (.Name "zip" p) [e, e2] [] pos) (iZipB (tCons ta (tCons tb tNil))) := by
  constructor
  intro pins s σ H R I h
  refine Call_ (ld_blt I hg B.zip boot_zip (callWith_type1 (thn ((pa_cons ha (pa_cons hb pa_nil hs2) hs).run pos pins s σ H (fun vs H2 => ∃ k k2 a b xs ys, vs = [.ref a, .ref b] ∧ SqB k H2 a xs ∧ SqB k2 H2 b ys ∧ R (ItzB k k2 a b xs ys) H2) I h) ?_) hs (by rw [hs2]; rfl)))
  rintro us s1 ⟨_, H1, I1, r, k, k2, a, b, xs, ys, rfl, sa, sb, q⟩
  obtain ⟨_, _, rfl, rfl, rfl⟩ := r.two
  obtain ⟨us, ru, hu, _⟩ := invB I1 sa
  obtain ⟨vs, rv, hv, _⟩ := invB I1 sb
  obtain ⟨o1, B1, f1⟩ := beginsB k a us.toArray
  obtain ⟨o2, B2, f2⟩ := beginsB k2 b vs.toArray
  exact zip_begins2 B1 B2 hu hv fun h' z pair out g1 g2 _ same => wpAny_pyIter_zip z ⟨s1.heap.objs.size + 4, _, _, _, H1, rfl, I1.kept (t' := s1.toks) same, turn_zipB (n := s1.heap.objs.size),
    ⟨z, pair, ⟨_, _, out⟩, f1 _ _ g1, f2 _ _ g2⟩, pastEnd I1 (by simp [zipAt]), q⟩
end K13
/-! K13RuleC -/
set_option autoImplicit true
set_option Elab.async false
set_option linter.all false
set_option maxRecDepth 100000
set_option maxHeartbeats 4000000
/-! sorted(x), x a list or a tuple of alike data; tuples among which the first is empty too -/
namespace K13
open PySem PySem.Spec PySem.W PySem.Calls PyProof.Rows
/-- what stands in h stands in h' -/
def Keeps (h h' : Heap) : Prop := ∀ b o, h.get? b = some o → h'.get? b = some o
section
variable {prog : Program} {w : World} {M : Model} {A : Around} {E : Value → Shared → Prop} {s : Shared}
theorem SrcH.obj {k : Bool} {h : Heap} {a : Addr} {its : Array Value} (x : SrcH k h a its) : ∃ o T n, h.get? a = some o ∧ o.cls = .type T ∧ o.data = .seq its n ∧ (T = "list" ∨ T = "tuple") := by
  cases k with
  | true =>
    obtain ⟨o, e, c, n, d⟩ := (show h.IsList a its from x)
    exact ⟨o, _, n, e, c, d, .inl rfl⟩
  | false =>
    obtain ⟨o, e, c, n, d⟩ := (show h.IsTuple a its from x)
    exact ⟨o, _, n, e, c, d, .inr rfl⟩
/-- sorted(x), by an order that may speak of the heap in which it compares; h1: x is copied, h2: the copy is being sorted, h3: it is sorted -/
theorem sortedB {k : Bool} {l : Addr} {vs : List Value} {κ : Heap → PyProof.Rows.KeyKind} {Q : Value → Shared → Prop} (src : SrcH k s.heap l vs.toArray) (big : vs.length ≤ sizeLine)
    (S : ∀ h2, Keeps s.heap h2 → SortsAt prog w A.in1.in1 { s with heap := h2 } (κ h2) vs)
    (q : ∀ h1 h2 h3 p n, Keeps s.heap h1 → Keeps h1 h2 → Keeps h1 h3 → h1.objs.size ≤ p → h3.get? p = some (seqObj "list" (sortVals (κ h2) false vs vs).toArray n) → Q (.ref p) { s with heap := h3 }) :
    wpAny (model prog w) A (call (.builtin "sorted") [.ref l]) Q E s := by
  obtain ⟨o, T, n, at_l, cls, data, seq⟩ := src.obj
  refine call_function_entry_kw kind_sorted plain_sorted entry_sorted (args_sorted1 _) ?_
  unfold Builtin.«sorted»
  refine wpAny_bind (m := checkCount "sorted" 1 1 _) (wpAny_pure (wpAny_bind (wpAny_collect_seq l seq at_l cls data (fun h1 k1 => ?_) (by simpa using big))))
  rw [List.toList_toArray]
  refine wpAny_bind (wpAny_newList ?_ big)
  have at_p : (h1.push (seqObj "list" vs.toArray 0)).get? h1.objs.size = some (seqObj "list" vs.toArray 0) := Heap.get?_push_size _ rfl
  have up : Keeps h1 (h1.push (seqObj "list" vs.toArray 0)) := fun b u e => Heap.get?_push_of_some _ e
  have off : ∀ {b u}, h1.get? b = some u → b ≠ h1.objs.size := fun e => Nat.ne_of_lt (Heap.lt_size e)
  have k2 : Keeps h1 (sortingHeap (h1.push (seqObj "list" vs.toArray 0)) h1.objs.size vs) := fun b u e => sortingHeap_old (off e) (up b u e)
  refine wpAny_bind (wpAny_holding (wpAny_call_entry_kw slot_list_sort ⟨_, at_p, rfl⟩ entry_list_sort ?_ (args_list_sort _)))
  refine list_sort_vals (s := { s with heap := h1.push (seqObj "list" vs.toArray 0) }) at_p (S _ fun b u e => k2 b u (k1 b u e)) big ⟨_, rfl, wpAny_pure ⟨_, rfl, ?_⟩⟩
  obtain ⟨c, sorted⟩ := sortedHeap_at (out := (sortVals (κ (sortingHeap (h1.push (seqObj "list" vs.toArray 0)) h1.objs.size vs)) false vs vs).toArray) at_p
  exact q h1 _ _ _ c k1 k2 (fun b u e => (sortedHeap_old (off e) (Heap.lt_size (up b u e))).trans (up b u e)) (Nat.le_refl _) sorted

/-! tuples, the first of them empty -/
theorem tupObj {h : Heap} {l : Addr} {items : Array Value} (x : h.IsTuple l items) : ∃ n dd sl, h.get? l = some { cls := .type "tuple", dict := dd, data := .seq items n, slots := sl } := by
  obtain ⟨⟨c, dd, d, sl⟩, e, k, n, q⟩ := x
  cases (show c = .type "tuple" from k)
  cases (show d = .seq items n from q)
  exact ⟨n, dd, sl, e⟩
theorem call_tuple_lt {Q : Value → Shared → Prop} {l b : Addr} {items items2 : Array Value} {e r : Nat → Bool} (hl : s.heap.IsTuple l items) (hb : s.heap.IsTuple b items2)
    (he : ∀ j (h1 : j < items.size) (h2 : j < items2.size), SeqAt.EqAt A.in1 s items[j] items2[j] (e j)) (hr : ∀ j (h1 : j < items.size) (h2 : j < items2.size), e j = false → SeqAt.RcLt A.in1 s items[j] items2[j] (r j))
    (h : Q (.bool (SeqAt.firstLt e r (decide (items.size < items2.size)) (List.range (min items.size items2.size)))) s) : wpAny (model prog w) A (call (.builtin "tuple.__lt__") [.ref l, .ref b]) Q E s := by
  obtain ⟨n, dd, sl, at_l⟩ := tupObj hl
  obtain ⟨n2, dd2, sl2, at_b⟩ := tupObj hb
  exact call_meets F.slot_tuple_lt ⟨_, at_l, rfl⟩ F.entry_tuple_lt (F.args_tuple_lt_2 _ _) (SeqAt.tuple_ltAt l b items items2 n n2 dd dd2 sl sl2 e r) ⟨at_l, at_b, he, hr, h⟩
theorem oneLt_tuples {xs ys : List PyData} {a b : Value} {as bs : List Addr} {Q : Bool → Shared → Prop} (ra : Reads s.heap a (.tuple xs) as) (rb : Reads s.heap b (.tuple ys) bs) (h : alike (.tuple xs) (.tuple ys) = true)
    (hu : A.units + min (PyData.tuple xs).depth (PyData.tuple ys).depth < cLine) (hq : Q (dataLt (.tuple xs) (.tuple ys)) s) : wpAny (model prog w) A (oneLt' true a b) Q E s := by
  have alike : alikeAll xs ys = true := by rw [← h]; simp [PySem.W.alike]
  cases ra
  cases rb
  rename_i ad o items n ga gc gd es ad2 o2 items2 n2 ga2 gc2 gd2 es2
  have l1 : xs.length = items.size := by simpa using (SeqAt.ReadsAll.length _ _ _ es).symm
  have l2 : ys.length = items2.size := by simpa using (SeqAt.ReadsAll.length _ _ _ es2).symm
  have room := SeqAt.room_in hu
  rw [oneLt'_eq, if_pos rfl]
  refine wpAny_bind (wpAny_cRoomFor (by omega) (wpAny_bind (wpAny_callSpecialIfBound?_slot (T := "tuple") ⟨_, ga, gc⟩ F.slot_tuple_lt ?_)))
  refine call_tuple_lt (e := SeqAt.pairEq xs ys) (r := fun j => dataLt (xs.getD j .none) (ys.getD j .none)) ⟨_, ga, gc, _, gd⟩ ⟨_, ga2, gc2, _, gd2⟩ (fun j j1 j2 => ?_) (fun j j1 j2 differ => ?_) ?_
  · have z := eqAt_alikeAll xs ys A.in1 s items.toList items2.toList _ _ es es2 alike room j (by simpa using j1) (by simpa using j2)
    simpa using z
  · have z := rcLt_alikeAll xs ys A.in1 s items.toList items2.toList _ _ es es2 alike room j (by simpa using j1) (by simpa using j2) differ
    simpa using z
  · rw [← l1, ← l2, firstLt_toks xs ys alike, ← dataLt_tuple]
    exact wpAny_truthy_bool hq
theorem first_tup {a : Addr} {items : Array Value} {Q : Option Value → Shared → Prop} (t : s.heap.IsTuple a items) (q : Q items[0]? s) : wpAny M A (firstOfTuple' (.ref a)) Q E s := by
  obtain ⟨n, dd, sl, at_a⟩ := tupObj t
  rw [kas_first_eq]
  refine wpAny_bind (wpAny_typeOf (T := "tuple") ⟨_, at_a, rfl⟩ ?_)
  rw [if_neg (by decide)]
  exact wpAny_bind (listItems_at at_a rfl (wpAny_pure q))
/-- a look at each, whatever it finds -/
theorem looks {α β : Type} {f : α → Sem β} : ∀ (l : List α) {Q : List β → Shared → Prop}, (∀ v ∈ l, ∃ r, ∀ Q' : β → Shared → Prop, Q' r s → wpAny M A (f v) Q' E s) → (∀ rs, Q rs s) → wpAny M A (l.mapM f) Q E s
  | [], _, _, q => List.mapM_nil (m := Sem) ▸ wpAny_pure (q [])
  | v :: l, Q, each, q => by
    obtain ⟨r, at_v⟩ := each v (.head _)
    rw [List.mapM_cons]
    exact wpAny_bind (at_v _ (wpAny_bind (looks l (fun u m => each u (.tail _ m)) fun rs => wpAny_pure (q (r :: rs)))))
def AreTups (h : Heap) (vs : List Value) : Prop := ∀ v ∈ vs, ∃ a items, v = .ref a ∧ h.IsTuple a items
theorem kind_empty {rest : List Value} {a0 : Addr} {Q : SortKind → Shared → Prop} (e0 : s.heap.IsTuple a0 #[]) (tups : AreTups s.heap rest) (q : Q oneType' s) : wpAny M A (keyKind' (.ref a0 :: rest).toArray) Q E s := by
  have all : AreTups s.heap (.ref a0 :: rest) := fun v m => by
    rcases List.mem_cons.mp m with rfl | m
    · exact ⟨a0, #[], rfl, e0⟩
    · exact tups v m
  rw [keyKind'_eq, List.mapM_toArray, map_eq_pure_bind, List.mapM_cons]
  refine wpAny_bind (wpAny_bind (wpAny_bind (first_tup e0 (wpAny_bind (looks rest (fun v m => ?_) fun fs => wpAny_pure (wpAny_pure ?_))))))
  · obtain ⟨a, items, rfl, t⟩ := tups v m
    exact ⟨_, fun Q' z => first_tup t z⟩
  · rw [if_neg (by simp), if_neg (by simp), oneTypeOnly'_eq, List.mapM_toArray, map_eq_pure_bind]
    refine wpAny_bind (wpAny_bind (wpAny_bind (kas_mapM (r := Value.type "tuple") _ (fun v m Q' z => ?_) (wpAny_pure ?_))))
    · obtain ⟨a, items, rfl, o, e, c, _⟩ := all v m
      exact wpAny_typeOf (T := "tuple") ⟨o, e, c⟩ z
    · have same : ((List.map (fun _ => Value.type "tuple") (Value.ref a0 :: rest)).toArray.all fun x => x == Value.type "tuple") = true := by
        rw [List.all_toArray, List.all_map]
        exact List.all_eq_true.mpr fun _ _ => rfl
      rw [show (List.map (fun _ => Value.type "tuple") (Value.ref a0 :: rest)).toArray[0]? = some (Value.type "tuple") by simp]
      dsimp only
      rw [if_pos same]
      exact wpAny_pure (wpAny_pure q)
/-- all are tuples, the first is the empty one -/
def SortE (ds : List PyData) : Prop := (∀ d ∈ ds, ∃ xs, d = .tuple xs) ∧ ds[0]? = some (.tuple [])
theorem reads_tup {h : Heap} {v : Value} {xs : List PyData} {as : List Addr} (r : Reads h v (.tuple xs) as) : ∃ a items, v = .ref a ∧ h.IsTuple a items ∧ items.size = xs.length := by
  cases r with
  | tuple at_a cls data es => exact ⟨_, _, rfl, ⟨_, at_a, cls, _, data⟩, by simpa using SeqAt.ReadsAll.length _ _ _ es⟩
theorem SortsAt.tupE {vs : List Value} {ds : List PyData} (e : PySem.W.EachIs (fun v d => ∃ as, Reads s.heap v d as) vs ds) (hal : AllAlike ds) (hk : SortE ds) (hu : ∀ d, d ∈ ds → A.units + d.depth < cLine) : SortsAt prog w A s (dataKind s.heap ds) vs := by
  refine ⟨fun v m => (e.left v m).elim fun d z => z.2.elim fun as r => ⟨_, dataKind_some hal z.1 r⟩, oneType', fun E x y a b Q ka kb q => ?_, fun _ E Q q => ?_⟩
  · obtain ⟨d1, as1, m1, r1, rfl⟩ := dataKind_inv ka
    obtain ⟨d2, as2, m2, r2, rfl⟩ := dataKind_inv kb
    have small : A.units + min d1.depth d2.depth < cLine := by have := hu _ m1; omega
    have ali := hal _ m1 _ m2
    obtain ⟨xs, rfl⟩ := hk.1 d1 m1
    obtain ⟨ys, rfl⟩ := hk.1 d2 m2
    exact oneLt_tuples r1 r2 ali small q
  · cases e with
    | nil => cases hk.2
    | @cons v d rest ds' h1 t =>
      cases Option.some.inj (show some d = some (.tuple []) from hk.2)
      obtain ⟨as, r⟩ := h1
      obtain ⟨a, items, rfl, tup, none⟩ := reads_tup r
      cases Array.eq_empty_of_size_eq_zero none
      refine kind_empty tup (fun u m => ?_) q
      obtain ⟨d', m', as', r'⟩ := t.left u m
      obtain ⟨xs, rfl⟩ := hk.1 d' (.tail _ m')
      obtain ⟨b, its, e, tb, _⟩ := reads_tup r'
      exact ⟨b, its, e, tb⟩
end
end K13
/-! over the layer -/
namespace K13
open PySem PySem.Spec PyProof.Rows L2
/-- items with the data that they read as -/
abbrev VD := V × PyData
def ordD (bs : List VD) : List VD := bs.mergeSort (PySem.W.dataLe false fun b => b.2)
def rSortD (K : PySem.W.Frag) : List V → Hp → VK → Prop := fun vs H Q => ∃ (k : Bool) (a : Addr) (bs : List VD), vs = [.ref a] ∧ SqB k H a (bs.map (·.1)) ∧ (∀ b ∈ bs, Dp K H b.1 b.2 ∧ b.2.depth ≤ 16) ∧ PySem.W.AllAlike (bs.map (·.2)) ∧
  (PySem.W.Sortable (bs.map (·.2)) ∨ SortE (bs.map (·.2))) ∧ ∀ p, H p = none → Q (.ref p) (upd H p (.lst ((ordD bs).map (·.1))))
theorem each_of {K : PySem.W.Frag} {X : Cx} {pins : List (Addr × Obj)} {σ : L2.St} {H : Hp} {s : Shared} (I : Inv X pins σ H s) : ∀ {bs : List VD} {its : List Value}, Vals (bs.map (·.1)) its → (∀ b ∈ bs, Dp X.K H b.1 b.2 ∧ b.2.depth ≤ 16) →
    PySem.W.EachIs (fun v b => RelV b.1 v ∧ ∃ as, Reads s.heap v b.2 as) its bs
  | [], _, r, _ => by
    cases r
    exact .nil
  | b :: bs, _, r, h => by
    cases r with
    | cons r1 r2 => exact .cons ⟨r1, Dp.reads I _ _ _ (h b List.mem_cons_self).1 r1⟩ (each_of (K := K) I r2 fun x hx => h x (List.mem_cons_of_mem _ hx))
theorem vals_each : ∀ {bs : List VD} {its : List Value}, PySem.W.EachIs (fun v b => RelV b.1 v) its bs → Vals (bs.map (·.1)) its
  | [], _, h => by
    cases h
    exact .nil
  | b :: bs, _, h => by
    cases h with
    | cons h1 h2 => exact .cons h1 (vals_each h2)
section
variable {X : Cx}
theorem cr_sortD {n : Nat} (hr : Room n X.A) : CallR X (.builtin "sorted") (rSortD X.K) := by
  rintro pins s σ H _ _ Q I r ⟨k, a, bs, rfl, sq, each, alike, kinds, q⟩
  obtain ⟨_, rfl, rfl⟩ := r.one
  obtain ⟨its, rv, src, big⟩ := invB I sq
  have el := each_of (K := X.K) I rv each
  have len : its.length = bs.length := el.length
  rw [List.length_map, ← len] at big
  have room := hr.units
  have reads : ∀ h2, Keeps s.heap h2 → PySem.W.EachIs (fun v (b : VD) => ∃ as, Reads h2 v b.2 as) its bs := fun h2 kp => el.mono fun _ _ z => z.2.elim fun as r => ⟨as, PyProof.Rows.Reads.keeps kp r⟩
  refine sortedB (κ := fun h2 => PySem.W.dataKind h2 (bs.map (·.2))) src big (fun h2 kp => ?_) fun h1 h2 h3 p c k1 k2 k3 past at_p => ?_
  · have em := PySem.W.each_map (R := fun v d => ∃ as, Reads h2 v d as) (fun b : VD => b.2) (reads h2 kp)
    have deep : ∀ d, d ∈ bs.map (·.2) → X.A.in1.in1.units + d.depth < cLine := fun d m => by
      obtain ⟨b, mb, rfl⟩ := List.mem_map.mp m
      have := (each b mb).2
      show X.A.units + 1 + 1 + b.2.depth < cLine
      omega
    exact kinds.elim (fun z => PySem.W.SortsAt.data (s := { s with heap := h2 }) em alike z deep) fun z => SortsAt.tupE (s := { s with heap := h2 }) em alike z deep
  · have out : PySem.W.EachIs (fun v (b : VD) => RelV b.1 v) _ (ordD bs) := PySem.W.sortVals_data false (el.mono fun _ _ z => z.1) (reads h2 fun b o e => k2 b o (k1 b o e)) alike
    have I1 : Inv X pins σ H { s with heap := h1 } := I.kept (t' := s.toks) k1
    exact ⟨.ref p, upd H p (.lst ((ordD bs).map (·.1))), I1.laid (t' := s.toks) k3 past ⟨by rw [List.length_map, ordD, List.length_mergeSort, ← len]; exact big, _, c, vals_each out, at_p⟩, rfl, q p (I1.hok.fresh past)⟩
end
end K13
/-! K13Fr -/
set_option autoImplicit true
set_option Elab.async false
set_option linter.all false
set_option maxRecDepth 100000
set_option maxHeartbeats 2000000
namespace K13
open PySem PySem.Spec PyProof.Rows L2
/-! ### what stays of a heap: all but what lies at ds; the tuples always -/
structure Fr (ds : List Addr) (H H' : Hp) : Prop where
  keep : ∀ b u, b ∉ ds → H b = some u → H' b = some u
  tup : ∀ b xs, H b = some (.tup xs) → H' b = some (.tup xs)
section
variable {ds es : List Addr} {H H1 H2 H' : Hp} {a b p : Addr} {o u : HO} {xs ys : List V}
theorem Fr.refl : Fr ds H H := ⟨fun _ _ _ e => e, fun _ _ e => e⟩
theorem Fr.trans (f : Fr ds H H1) (g : Fr ds H1 H2) : Fr ds H H2 := ⟨fun b u n e => g.keep b u n (f.keep b u n e), fun b xs e => g.tup b xs (f.tup b xs e)⟩
theorem Fr.wider (f : Fr ds H H1) (h : ∀ x, x ∈ ds → x ∈ es) : Fr es H H1 := ⟨fun b u n e => f.keep b u (fun q => n (h b q)) e, f.tup⟩
theorem Fr.of_same (e : Same H H1) : Fr ds H H1 := ⟨fun b u _ q => e b u q, fun b xs q => e b _ q⟩
theorem Fr.same (f : Fr [] H H1) : Same H H1 := fun b u e => f.keep b u (fun q => nomatch q) e
theorem Fr.new (h : H p = none) : Fr ds H (upd H p o) := .of_same (same_new h)
theorem Fr.set (hm : a ∈ ds) (h : H a = some u) (hu : ∀ xs, u ≠ .tup xs) : Fr ds H (upd H a o) := by
  refine ⟨fun b v n e => ?_, fun b xs e => ?_⟩
  · rw [upd_ne (fun q => n (by rw [q]; exact hm))]
    exact e
  · rw [upd_ne (fun q => hu xs (by rw [q, h] at e; cases e; rfl))]
    exact e
/-- what is new may change: it is not of H -/
theorem Fr.own (f : Fr ds H H1) (h : H p = none) : Fr ds H (upd H1 p o) := by
  refine ⟨fun b v n e => ?_, fun b xs e => ?_⟩
  · rw [upd_ne (ne_of_none e h)]
    exact f.keep b v n e
  · rw [upd_ne (ne_of_none e h)]
    exact f.tup b xs e
theorem Fr.lst (f : Fr ds H H1) (h : H a = some o) (n : a ∉ ds) : H1 a = some o := f.keep a o n h
/-- drop what is not of H -/
theorem Fr.drop {d : Addr} (f : Fr (d :: ds) H H1) (h : H d = none) : Fr ds H H1 := ⟨fun b u n e => f.keep b u (fun q => by
  rcases List.mem_cons.mp q with q | q
  · subst q
    rw [h] at e
    cases e
  · exact n q) e, f.tup⟩
end
/-! ### rows that lie in the heap as tuples of ints -/
def iV (r : List Int) : List V := r.map V.int
def RwL (H : Hp) (ps : List (Addr × List Int)) : Prop := ∀ p ∈ ps, H p.1 = some (.tup (iV p.2))
def rV (ps : List (Addr × List Int)) : List V := ps.map fun p => V.ref p.1
def rR (ps : List (Addr × List Int)) : List (List Int) := ps.map (·.2)
section
variable {ds : List Addr} {H H' : Hp} {ps qs : List (Addr × List Int)} {p : Addr × List Int}
theorem RwL.fr (f : Fr ds H H') (h : RwL H ps) : RwL H' ps := fun p hp => f.tup _ _ (h p hp)
theorem RwL.nil : RwL H [] := fun _ h => nomatch h
theorem RwL.snoc (h : RwL H ps) (hp : H p.1 = some (.tup (iV p.2))) : RwL H (ps ++ [p]) := fun q hq => by
  rcases List.mem_append.mp hq with hq | hq
  · exact h q hq
  · obtain rfl : q = p := by simpa using hq
    exact hp
theorem RwL.sub (h : RwL H ps) (s : ∀ p ∈ qs, p ∈ ps) : RwL H qs := fun p hp => h p (s p hp)
theorem rV_snoc : rV (ps ++ [p]) = rV ps ++ [V.ref p.1] := by simp [rV]
theorem rR_snoc : rR (ps ++ [p]) = rR ps ++ [p.2] := by simp [rR]
theorem rV_get {i : Nat} {x : V} (h : (rV ps)[i]? = some x) : ∃ p, ps[i]? = some p ∧ x = .ref p.1 := by
  simp only [rV, List.getElem?_map, Option.map_eq_some_iff] at h
  obtain ⟨p, hp, rfl⟩ := h
  exact ⟨p, hp, rfl⟩
theorem rV_len : (rV ps).length = ps.length := by simp [rV]
theorem rR_len : (rR ps).length = ps.length := by simp [rR]
theorem iV_len {r : List Int} : (iV r).length = r.length := by simp [iV]
theorem iV_get {r : List Int} {i : Nat} {x : V} (h : (iV r)[i]? = some x) : ∃ j, r[i]? = some j ∧ x = .int j := by
  simp only [iV, List.getElem?_map, Option.map_eq_some_iff] at h
  obtain ⟨p, hp, rfl⟩ := h
  exact ⟨p, hp, rfl⟩
theorem take_snoc {α : Type} {l : List α} {i : Nat} {x : α} (h : l[i]? = some x) : l.take (i + 1) = l.take i ++ [x] := by
  rw [List.take_succ, h]
  rfl
end
/-! ### a comprehension over whatever is walked: T by the turn and what is made so far -/
section
variable {J : It} {n : Nat} {G : Hp → Prop} {Y : Nat → Hp → V → Hp → Prop}
def LcP (D : Addr) (ds : List Addr) (H1 : Hp) (T : Nat → List V → Hp → Prop) (i : Nat) (H : Hp) : Prop := ∃ acc, acc.length ≤ i ∧ H D = some (.lst acc) ∧ Fr ds H1 H ∧ T i acc H
def LcY (D : Addr) (ds : List Addr) (H1 : Hp) (T : Nat → List V → Hp → Prop) (i : Nat) (y : V) (H : Hp) : Prop := ∃ acc, H D = some (.lst acc) ∧ acc.length < sizeLine ∧ LcP D ds H1 T (i + 1) (upd H D (.lst (acc ++ [y])))
theorem lcG (w : Walk J n G Y) {g : TG} {tt : TT} {te : TE} {vs : List Nat} {σ : L2.St} {H1 : Hp} {D : Addr} {Qd : Hp → Prop} (ds : List Addr) (T : Nat → List V → Hp → Prop) (hD : H1 D = none) (hn : n < sizeLine)
    (h0 : T 0 [] H1) (hT : ∀ i acc H H', Fr [D] H H' → Fr ds H1 H → T i acc H → T i acc H')
    (hG : ∀ i acc H, i ≤ n → Fr ds H1 H → T i acc H → G H)
    (hs : ∀ i x H H' acc, i < n → H D = some (.lst acc) → Fr ds H1 H → T i acc H → Y i H x H' →
      (∀ y H4, H4 D = some (.lst acc) → Fr ds H1 H4 → T (i + 1) (acc ++ [y]) H4 → LcY D ds H1 T i y H4) → (∀ H3, H3 D = some (.lst acc) → Fr ds H1 H3 → T (i + 1) acc H3 → LcP D ds H1 T (i + 1) H3) →
      g x (wipe σ vs) H' fun σ2 H2 => wipe σ2 vs = wipe σ vs ∧ tt σ2 H2 fun b H3 => if b = true then te σ2 H3 fun y H4 => LcY D ds H1 T i y H4 else LcP D ds H1 T (i + 1) H3)
    (hd : ∀ acc H, H D = some (.lst acc) → acc.length ≤ n → Fr ds H1 H → T n acc H → Qd H) :
    ∃ W : Nat → Nat → Hp → Prop, (∃ m, W 0 m (upd H1 D (.lst []))) ∧ ∀ i m H, W i m H →
      (J.stop i H ∧ Qd H) ∨ (J.go i H ∧ ∃ Nx : Hp → Prop, (∀ H', Nx H' → ∃ m', m' < m ∧ W (i + 1) m' H') ∧ ∀ x H', J.yld i H x H' → g x (wipe σ vs) H' fun σ2 H2 => wipe σ2 vs = wipe σ vs ∧ tt σ2 H2 fun b H3 =>
        if b = true then te σ2 H3 fun y H4 => ∃ acc, H4 D = some (.lst acc) ∧ acc.length < sizeLine ∧ Nx (upd H4 D (.lst (acc ++ [y]))) else Nx H3) := by
  refine ⟨fun i m H => m = n - i ∧ i ≤ n ∧ LcP D ds H1 T i H, ⟨n, by simp, Nat.zero_le _, [], Nat.le_refl _, upd_same, .new hD, hT _ _ _ _ (.new hD) .refl h0⟩, ?_⟩
  rintro i m H ⟨rfl, hi, acc, hl, hL, fr, p⟩
  have q := hG i acc H hi fr p
  by_cases hlt : i < n
  · refine .inr ⟨w.goes i H hlt q, LcP D ds H1 T (i + 1), fun H' p' => ⟨n - (i + 1), by omega, rfl, hlt, p'⟩, fun x H' y => ?_⟩
    refine hs i x H H' acc hlt hL fr p (w.yields i H x H' hlt q y) (fun y H4 a b c => ⟨acc, a, by omega, acc ++ [y], by simp; omega, upd_same, b.own hD, hT _ _ _ _ (.set (by simp) a fun _ z => nomatch z) b c⟩) fun H3 a b c => ⟨acc, by omega, a, b, c⟩
  · have e : i = n := by omega
    subst e
    exact .inl ⟨w.stops H q, hd acc H hL hl fr p⟩
end
/-! ### what enumerate and zip over lists and tuples walk -/
section
variable {k k2 : Bool} {a b : Addr} {xs ys : List V}
theorem walk_enumB : Walk (IteB k a xs) xs.length (fun H => SqB k H a xs) (YPair (fun i => some (.int (i : Nat))) (fun i => xs[i]?)) := by
  refine ⟨fun i _ hi q => ⟨q, hi⟩, fun _ q => ⟨q, rfl⟩, fun i H v H' _ q y => ?_⟩
  obtain ⟨T, x, h1, h2, h3, h4⟩ := y
  exact ⟨T, .int (i : Nat), x, h1, h2, h3, rfl, h4⟩
theorem walk_zipB (hn : xs.length = ys.length) : Walk (ItzB k k2 a b xs ys) xs.length (fun H => SqB k H a xs ∧ SqB k2 H b ys) (YPair (fun i => xs[i]?) (fun i => ys[i]?)) := by
  refine ⟨fun i _ hi q => ⟨q.1, q.2, hi, hn ▸ hi⟩, fun _ q => ⟨q.1, q.2, Nat.le_refl _, Nat.le_of_eq hn, .inl rfl⟩, fun i H v H' _ q y => ?_⟩
  obtain ⟨T, x, z, h1, h2, h3, h4, h5⟩ := y
  exact ⟨T, x, z, h1, h2, h3, h4, h5⟩
theorem SqB.fr {ds : List Addr} {H H' : Hp} (f : Fr ds H H') (h : SqB k H a xs) (n : a ∉ ds) : SqB k H' a xs := f.keep _ _ n h
end
/-! ### short words -/
abbrev g2 (K : PySem.W.Frag) (i j : Nat) : TG := gTup K 2 (gCons (gName i) (gCons (gName j) gNil))
section
variable {X : Cx} {e a b : Expr} {te ta tb : TE} {p p2 pos pos2 : Pos} {kk : Nat}
theorem b_all (B : Bt X.mg) (hc : X.calm = true) (ha : PE X e te) (hg : Gl X "all" := by rfl) (hs : starEach [e] X.env = (false, eval e X.env) :: starEach [] X.env := by rfl) : PE X (.Call (.Name "all" p) [e] [] pos) (tCB (rAll X.K) (tCons te tNil)) :=
  pe_callB (cr_all hc) hg B.all (by decide +kernel) (pa_cons ha pa_nil hs) (he := hs)
theorem b_sum (B : Bt X.mg) (hc : X.calm = true) (ha : PE X e te) (hg : Gl X "sum" := by rfl) (hs : starEach [e] X.env = (false, eval e X.env) :: starEach [] X.env := by rfl) : PE X (.Call (.Name "sum" p) [e] [] pos) (tCB (rSum X.K) (tCons te tNil)) :=
  pe_callB (cr_sum hc) hg B.sum (by decide +kernel) (pa_cons ha pa_nil hs) (he := hs)
abbrev rInt1 : List V → Hp → VK → Prop := fun xs H Q => (∃ i, xs = [.int i] ∧ Q (.int i) H) ∨ ∃ k, xs = [.bl k] ∧ Q (.int (if k then 1 else 0)) H
theorem b_int (B : Bt X.mg) (ha : PE X e te) (hg : Gl X "int" := by rfl) (hs : starEach [e] X.env = (false, eval e X.env) :: starEach [] X.env := by rfl) : PE X (.Call (.Name "int" p) [e] [] pos) (tCB rInt1 (tCons te tNil)) :=
  pe_callTy call_int1 hg B.int PyProof.Rows.boot_int (pa_cons ha pa_nil hs) (he := hs)
abbrev rAbs1 : List V → Hp → VK → Prop := fun xs H Q => ∃ i, xs = [.int i] ∧ Q (.int (if i < 0 then -i else i)) H
theorem b_abs (B : Bt X.mg) (ha : PE X e te) (hg : Gl X "abs" := by rfl) (hs : starEach [e] X.env = (false, eval e X.env) :: starEach [] X.env := by rfl) : PE X (.Call (.Name "abs" p) [e] [] pos) (tCB rAbs1 (tCons te tNil)) :=
  pe_callB call_abs hg B.abs (by decide +kernel) (pa_cons ha pa_nil hs) (he := hs)
abbrev rLstOf (K : PySem.W.Frag) : List V → Hp → VK → Prop := fun xs H Q => ∃ p ys, xs = [.ref p] ∧ (SqL K H p ys ∨ SqT K H p ys) ∧ ∀ l, H l = none → Q (.ref l) (upd H l (.lst ys))
theorem b_listOf (B : Bt X.mg) (ha : PE X e te) (hg : Gl X "list" := by rfl) (hs : starEach [e] X.env = (false, eval e X.env) :: starEach [] X.env := by rfl) : PE X (.Call (.Name "list" p) [e] [] pos) (tCB (rLstOf X.K) (tCons te tNil)) :=
  pe_callTy call_list_of hg B.list PyProof.Rows.boot_list (pa_cons ha pa_nil hs) (he := hs)
theorem b_tupOf (B : Bt X.mg) (ha : PE X e te) (hg : Gl X "tuple" := by rfl) (hs : starEach [e] X.env = (false, eval e X.env) :: starEach [] X.env := by rfl) : PE X (.Call (.Name "tuple" p) [e] [] pos) (tThen te (kTup X.K)) := pe_tupleOf hg B.tuple ha hs
theorem b_sortD {n : Nat} (B : Bt X.mg) (hr : Room n X.A) (ha : PE X e te) (hg : Gl X "sorted" := by rfl) (hs : starEach [e] X.env = (false, eval e X.env) :: starEach [] X.env := by rfl) : PE X (.Call (.Name "sorted" p) [e] [] pos) (tCB (rSortD X.K) (tCons te tNil)) :=
  pe_callB (cr_sortD hr) hg B.sorted (by decide +kernel) (pa_cons ha pa_nil hs) (he := hs)
theorem b_sortI (B : Bt X.mg) (ha : PE X e te) (hg : Gl X "sorted" := by rfl) (hs : starEach [e] X.env = (false, eval e X.env) :: starEach [] X.env := by rfl) : PE X (.Call (.Name "sorted" p) [e] [] pos) (tCB (rSortedI X.K) (tCons te tNil)) :=
  pe_callB cr_sortedI hg B.sorted (by decide +kernel) (pa_cons ha pa_nil hs) (he := hs)
end
end K13
/-! K13Plain -/
set_option autoImplicit true
set_option Elab.async false
set_option linter.all false
set_option maxRecDepth 100000
set_option maxHeartbeats 2000000
namespace K13
open PySem PySem.Spec PyProof.Rows L2
section
variable {P : Program} {w : World} {K : PySem.W.Frag} {mg : Str → Option Value} {base : Heap} {f : Addr} {fd : FuncData}
/-- is_integer, is_number: a value of a known kind -/
def spInt : Sp := fun vs H Q _ => ∃ x T, vs = [x] ∧ Odd H x T ∧ Q (.bl (intB x)) H
def spNum : Sp := fun vs H Q _ => ∃ x T, vs = [x] ∧ Odd H x T ∧ Q (.bl (numB x)) H
def spIx : Sp := fun vs H Q _ => ∃ x T m, vs = [x, .int m] ∧ Odd H x T ∧ Q (.bl (ixB m x)) H
def spSeq : Sp := fun vs H Q _ => ∃ x b, vs = [x] ∧ ((b = false ∧ ∃ T, Odd H x T) ∨ (b = true ∧ ∃ xs, Seq H x xs)) ∧ ∀ H', Same H H' → Q (.bl b) H'
theorem cal_is_integer (B : Bt mg) (F : FnP K "is_integer" s_is_integer f fd) (hm : mg "is_integer" = some (.ref f)) : Cal P w K mg base 1 "is_integer" spInt := by
  refine cal0 F hm sc_is_integer (fun _ _ _ _ _ _ us hl => match us, hl with | [_], _ => rfl) (fun vs H Q E h => ?_) (fun cdv A outer s H vs Q E hr h => ?_)
  · obtain ⟨x, T, rfl, _⟩ := h
    rfl
  · obtain ⟨x, T, rfl, ho, q⟩ := h
    refine ⟨_, pss_one (ps_ret (pe_and (b_isi B (pv 0) (bt_int B)) (pe_one (pe_not (b_isi B (pv 0) (bt_bool B)))))), ?_⟩
    cases ho with
    | int i => exact ⟨_, rfl, _, .ty "int", _, _, true, rfl, .ty _, .base (.int i), kit_ty (by decide +kernel), true, rfl, iteT ⟨_, rfl, _, .ty "bool", _, _, false, rfl, .ty _, .base (.int i), kit_ty (by decide +kernel), _, rfl, q⟩⟩
    | bl b => exact ⟨_, rfl, _, .ty "int", _, _, true, rfl, .ty _, .base (.bl b), kit_ty (by decide +kernel), true, rfl, iteT ⟨_, rfl, _, .ty "bool", _, _, true, rfl, .ty _, .base (.bl b), kit_ty (by decide +kernel), _, rfl, q⟩⟩
    | non => exact ⟨_, rfl, _, .ty "int", _, _, false, rfl, .ty _, .base .non, kit_ty (by decide +kernel), _, rfl, iteF q⟩
    | str x => exact ⟨_, rfl, _, .ty "int", _, _, false, rfl, .ty _, .base (.str x), kit_ty (by decide +kernel), _, rfl, iteF q⟩
    | dct hx => exact ⟨_, rfl, _, .ty "int", _, _, false, rfl, .ty _, .base (.dK hx), kit_ty (by decide +kernel), _, rfl, iteF q⟩
theorem cal_is_number (B : Bt mg) (c1 : Cal P w K mg base 1 "is_integer" spInt) (F : FnP K "is_number" s_is_number f fd) (hm : mg "is_number" = some (.ref f)) : Cal P w K mg base 2 "is_number" spNum := by
  refine cal0 F hm sc_is_number (fun _ _ _ _ _ _ us hl => match us, hl with | [_], _ => rfl) (fun vs H Q E h => ?_) (fun cdv A outer s H vs Q E hr h => ?_)
  · obtain ⟨x, T, rfl, _⟩ := h
    rfl
  · obtain ⟨x, T, rfl, ho, q⟩ := h
    refine ⟨_, pss_one (ps_ret (pe_and (pc c1 hr (pa_cons (pv 0) pa_nil)) (pe_one (pe_cmpR op_ge (pv 0) pe_int (nomark _))))), ?_⟩
    refine ⟨_, rfl, _, _, rfl, ho, ?_⟩
    cases ho with
    | int i => exact ⟨true, rfl, iteT ⟨_, rfl, i, 0, rfl, rfl, q⟩⟩
    | bl b => exact ⟨false, rfl, iteF q⟩
    | non => exact ⟨false, rfl, iteF q⟩
    | str x => exact ⟨false, rfl, iteF q⟩
    | dct hx => exact ⟨false, rfl, iteF q⟩
theorem cal_is_index (B : Bt mg) (c1 : Cal P w K mg base 2 "is_number" spNum) (F : FnP K "is_index" s_is_index f fd) (hm : mg "is_index" = some (.ref f)) : Cal P w K mg base 3 "is_index" spIx := by
  refine cal0 F hm sc_is_index (fun _ _ _ _ _ _ us hl => match us, hl with | [_, _], _ => rfl) (fun vs H Q E h => ?_) (fun cdv A outer s H vs Q E hr h => ?_)
  · obtain ⟨x, T, m, rfl, _⟩ := h
    rfl
  · obtain ⟨x, T, m, rfl, ho, q⟩ := h
    refine ⟨_, pss_one (ps_ret (pe_and (pc c1 hr (pa_cons (pv 0) pa_nil)) (pe_one (pe_cmpR op_lt (pv 0) (pv 1) (nomark _))))), ?_⟩
    refine ⟨_, rfl, _, _, rfl, ho, ?_⟩
    cases ho with
    | int i =>
      refine ⟨_, rfl, ?_⟩
      by_cases hi : 0 ≤ i
      · refine ite2 (fun _ => ⟨_, rfl, _, rfl, i, m, rfl, rfl, ?_⟩) fun h => absurd (decide_eq_true hi) h
        have e : decide (i < m) = ixB m (.int i) := by simp [ixB, hi]
        show Q (.bl (decide (i < m))) H
        rw [e]
        exact q
      · refine ite2 (fun h => absurd (of_decide_eq_true h) hi) fun _ => ?_
        have e : false = ixB m (.int i) := by simp [ixB, hi]
        show Q (.bl false) H
        rw [e]
        exact q
    | bl b => exact ⟨false, rfl, iteF q⟩
    | non => exact ⟨false, rfl, iteF q⟩
    | str x => exact ⟨false, rfl, iteF q⟩
    | dct hx => exact ⟨false, rfl, iteF q⟩
theorem cal_is_sequence (B : Bt mg) (F : FnP K "is_sequence" s_is_sequence f fd) (hm : mg "is_sequence" = some (.ref f)) : Cal P w K mg base 1 "is_sequence" spSeq := by
  refine cal0 F hm sc_is_sequence (fun _ _ _ _ _ _ us hl => match us, hl with | [_], _ => rfl) (fun vs H Q E h => ?_) (fun cdv A outer s H vs Q E hr h => ?_)
  · obtain ⟨x, b, rfl, _⟩ := h
    rfl
  · obtain ⟨x, b, rfl, hx, q⟩ := h
    refine ⟨_, pss_one (ps_ret (b_isiT B (pv 0) (pe_tup (pa_cons (bt_list B) (pa_cons (bt_tuple B) pa_nil))))), ?_⟩
    refine ⟨_, rfl, (by show 2 ≤ sizeLine; decide), fun T hT => ?_⟩
    have e := same_new (o := .tup [.ty "list", .ty "tuple"]) hT
    have fin : ∀ {U : String} (b' : Bool), TyX K (upd H T (.tup [.ty "list", .ty "tuple"])) x (.type U) → PySem.W.kitAny K (.type U) [.type "list", .type "tuple"] = some b' → b' = b →
        rIsiT K [x, .ref T] (upd H T (.tup [.ty "list", .ty "tuple"])) Q := fun b' ty k eb => by
      subst eb
      exact ⟨x, T, _, _, _, _, rfl, upd_same, .cons (.ty _) (.cons (.ty _) .nil), ty, k, q _ e⟩
    rcases hx with ⟨rfl, U, ho⟩ | ⟨rfl, xs, hs⟩
    · have ty := (ho.same e).ty (K := K)
      cases ho with
      | int i => exact fin false ty (by first | rfl | decide +kernel) rfl
      | bl b => exact fin false ty (by first | rfl | decide +kernel) rfl
      | non => exact fin false ty (by first | rfl | decide +kernel) rfl
      | str x => exact fin false ty (by first | rfl | decide +kernel) rfl
      | dct hx => exact fin false ty (by first | rfl | decide +kernel) rfl
    · obtain ⟨U, hU, ty⟩ := (hs.same e).ty (K := K)
      rcases hU with rfl | rfl
      · exact fin true ty (by first | rfl | decide +kernel) rfl
      · exact fin true ty (by first | rfl | decide +kernel) rfl
end
end K13
/-! K13Store1 -/
set_option autoImplicit true
set_option Elab.async false
set_option linter.all false
set_option maxRecDepth 100000
set_option maxHeartbeats 2000000
namespace K13
open PySem PySem.Spec PyProof.Rows L2
section
variable {P : Program} {w : World} {K : PySem.W.Frag} {mg : Str → Option Value} {base : Heap} {f : Addr} {fd : FuncData}
/-- a row of the sizes' product -/
def InBox (sizes row : List Int) : Prop := row.length = sizes.length ∧ ∀ (i : Nat) (s x : Int), sizes[i]? = some s → row[i]? = some x → 0 ≤ x ∧ x < s
def spStateOf : Sp := fun vs H Q _ => ∃ k1 k2 a b sizes row, vs = [.ref a, .ref b] ∧ SqB k1 H a (iV sizes) ∧ SqB k2 H b (iV row) ∧ InBox sizes row ∧ sizes.length ≤ 100 ∧ ∀ H', Fr [] H H' → Q (.bl true) H'
theorem SqB.seq {k : Bool} {H : Hp} {a : Addr} {xs : List V} (h : SqB k H a xs) : Seq H (.ref a) xs := by
  cases k with
  | true => exact .lst h
  | false => exact .tup h
theorem SqB.or {K : PySem.W.Frag} {k : Bool} {H : Hp} {a : Addr} {xs : List V} (h : SqB k H a xs) : SqL K H a xs ∨ SqT K H a xs := by
  cases k with
  | true => exact .inl (SqL.of h)
  | false => exact .inr (SqT.of h)
theorem cal_is_state_of (B : Bt mg) (c1 : Cal P w K mg base 1 "is_sequence" spSeq) (c2 : Cal P w K mg base 3 "is_index" spIx) (F : FnP K "is_state_of" s_is_state_of f fd) (hm : mg "is_state_of" = some (.ref f)) : Cal P w K mg base 4 "is_state_of" spStateOf := by
  refine cal0 F hm sc_is_state_of (fun _ _ _ _ _ _ us hl => match us, hl with | [_, _], _ => rfl) (fun vs H Q E h => ?_) (fun cdv A outer s H vs Q E hr h => ?_)
  · obtain ⟨k1, k2, a, b, sizes, row, rfl, _⟩ := h
    rfl
  · obtain ⟨k1, k2, a, b, sizes, row, rfl, ha, hb, hx, h100, q⟩ := h
    have nd := sc_is_state_of.nd
    refine ⟨_, pss_cons (ps_if (PW.pt (pw_or (pt_not (pt_val (pc c1 hr (pa_cons (pv 1) pa_nil)))) (pw_or1 (pt_cmpR op_ne (b_len B (pv 1)) (b_len B (pv 0)) (nomark _))))) pss_never pss_nil)
      (pss_one (ps_ret (b_all B rfl (pe_lc (own := [("one", 2), ("size", 3)]) (g := g2 K 2 3) rfl nd (pi_zipB B (pv 1) (pv 0)) (blkOk_by (N := N_is_state_of) (sc := defScope s_is_state_of) (by decide +kernel))
        (fun _ _ _ _ _ => pg_tup rfl (pgs_cons (pg_name (i := 2) nd rfl (Or.inl rfl)) (pgs_cons (pg_name (i := 3) nd rfl (Or.inl rfl)) pgs_nil))) (fun _ _ _ _ _ => pts_nil) (fun _ _ _ _ _ => pc c2 hr (pa_cons (pv 2) (pa_cons (pv 3) pa_nil))))))), ?_⟩
    refine ⟨_, rfl, _, true, rfl, .inr ⟨rfl, _, hb.seq⟩, fun H1 e1 => ⟨true, rfl, iteF ?_⟩⟩
    refine ⟨_, rfl, b, _, rfl, (hb.same e1).or, ?_⟩
    refine ⟨_, rfl, a, _, rfl, (ha.same e1).or, rfl, _, rfl, ?_⟩
    have el : (iV row).length = (iV sizes).length := by rw [iV_len, iV_len]; exact hx.1
    rw [el, decide_eq_true rfl]
    refine iteF ?_
    refine ⟨_, rfl, _, rfl, k2, k1, b, a, _, _, rfl, hb.same e1, ha.same e1, fun D hD => lcG (walk_zipB el) [] (fun i acc _ => acc = List.replicate i (.bl true)) hD (by rw [iV_len, hx.1]; exact Nat.lt_of_le_of_lt h100 (by decide)) rfl (fun _ _ _ _ _ _ t => t) (fun i acc H2 _ fr _ => ⟨(hb.same e1).fr fr (fun q => nomatch q), (ha.same e1).fr fr (fun q => nomatch q)⟩) ?_ ?_⟩
    · rintro i x H2 H3 acc hi hD2 fr rfl ⟨T, u, v, rfl, hT, rfl, hu, hv⟩ yes no
      obtain ⟨m, hm', rfl⟩ := iV_get hu
      obtain ⟨n, hn', rfl⟩ := iV_get hv
      refine ⟨T, _, rfl, SqT.of upd_same, rfl, _, _, rfl, _, _, rfl, rfl, rfl, ?_⟩
      refine ⟨_, rfl, _, rfl, .int m, "int", n, rfl, .int m, ?_⟩
      have hb2 := hx.2 i n m hn' hm'
      have e : ixB n (.int m) = true := by simp [ixB, hb2]
      rw [e]
      exact yes _ _ (by rw [upd_ne (ne_of_none hD2 hT)]; exact hD2) (fr.trans (.new hT)) (by rw [List.replicate_succ'])
    · rintro acc H2 hD2 hl fr rfl
      refine ⟨D, List.replicate (iV row).length true, rfl, SqL.of (by rw [List.map_replicate]; exact hD2), ?_⟩
      rw [show (List.replicate (iV row).length true).all id = true by simp]
      exact q _ (.trans (.of_same e1) fr)
end
end K13
/-! K13Sort -/
set_option autoImplicit true
set_option Elab.async false
set_option linter.all false
set_option maxRecDepth 100000
set_option maxHeartbeats 2000000
namespace K13
open PySem PySem.Spec PyProof.Rows L2
/-! ### rows sorted -/
def dI (r : List Int) : PyData := .tuple (r.map .int)
def rowLe (x y : List Int) : Bool := decide (x ≤ y)
theorem dataLe_tups {β : Type} (x : β → List Int) : PySem.W.dataLe false (fun b => dI (x b)) = fun p q => rowLe (x p) (x q) := by
  funext p q
  show (!PySem.W.dataLt (.tuple ((x q).map .int)) (.tuple ((x p).map .int))) = _
  rw [PySem.W.dataLt_tuple]
  show (!PySem.W.rowLt ((x q).map .int) ((x p).map .int)) = _
  rw [PySem.W.dataLt_ints, rowLe]
  by_cases h : x q < x p
  · have h' : ¬ x p ≤ x q := fun r => List.not_lt.mpr r h
    simp [h, h']
  · have h' : x p ≤ x q := List.not_lt.mp h
    simp [h, h']
def dpI {K : PySem.W.Frag} {H : Hp} : ∀ r : List Int, DpAll K H (iV r) (r.map .int)
  | [] => .nil
  | _ :: r => .cons (.int _) (dpI r)
theorem dp_row {K : PySem.W.Frag} {H : Hp} {a : Addr} {r : List Int} (h : H a = some (.tup (iV r))) : Dp K H (.ref a) (dI r) := .tup (SqT.of h) (dpI r)
theorem depth_ints : ∀ r : List Int, PyData.depthAll (r.map .int) ≤ 1
  | [] => by simp [PyData.depthAll]
  | _ :: r => by
    have := depth_ints r
    simp only [List.map_cons, PyData.depthAll, PyData.depth]
    omega
theorem depth_row (r : List Int) : (dI r).depth ≤ 2 := by
  have := depth_ints r
  simp only [dI, PyData.depth]
  omega
theorem alike_row (x y : List Int) : PySem.W.alike (dI x) (dI y) = true := by
  show PySem.W.alike (.tuple (x.map .int)) (.tuple (y.map .int)) = true
  simp only [PySem.W.alike]
  exact PySem.W.alike_ints x y
theorem row_antisymm (a b : List Int) (h : rowLe a b = true) (g : rowLe b a = true) : a = b := List.le_antisymm (of_decide_eq_true h) (of_decide_eq_true g)
/-- the rows in order -/
def srt (rs : List (List Int)) : List (List Int) := rs.mergeSort rowLe
theorem srt_perm (rs : List (List Int)) : (srt rs).Perm rs := List.mergeSort_perm _ _
theorem srt_asc (rs : List (List Int)) : (srt rs).Pairwise fun a b => rowLe a b = true := by
  refine List.pairwise_mergeSort (fun a b c h g => ?_) (fun a b => ?_) rs
  · exact decide_eq_true (List.le_trans (of_decide_eq_true h) (of_decide_eq_true g))
  · rcases List.le_total a b with h | h
    · simp [rowLe, h]
    · simp [rowLe, h]
theorem srt_eq {rs out : List (List Int)} (hp : rs.Perm out) (ho : out.Pairwise fun a b => rowLe a b = true) : srt rs = out :=
  List.Perm.eq_of_pairwise (le := fun a b => rowLe a b = true) (fun a b _ _ h g => row_antisymm a b h g) (srt_asc rs) ho ((srt_perm rs).trans hp)
theorem rSort_rows {K : PySem.W.Frag} {H : Hp} {k : Bool} {a : Addr} {ps : List (Addr × List Int)} {Q : VK} (hq : SqB k H a (rV ps)) (hr : RwL H ps) (hk : (∀ p ∈ ps, p.2 ≠ []) ∨ (rR ps)[0]? = some [])
    (q : ∀ p ps', H p = none → ps'.Perm ps → rR ps' = srt (rR ps) → Q (.ref p) (upd H p (.lst (rV ps')))) : rSortD K [.ref a] H Q := by
  have e1 : (ps.map fun p => ((V.ref p.1, dI p.2) : VD)).map (·.1) = rV ps := by simp [rV]
  have e2 : (ps.map fun p => ((V.ref p.1, dI p.2) : VD)).map (·.2) = (rR ps).map dI := by simp [rR, Function.comp_def]
  refine ⟨k, a, ps.map fun p => (V.ref p.1, dI p.2), rfl, by rw [e1]; exact hq, fun b hb => ?_, ?_, ?_, fun p hp => ?_⟩
  · obtain ⟨p, hp, rfl⟩ := List.mem_map.mp hb
    exact ⟨dp_row (hr p hp), Nat.le_trans (depth_row _) (by decide)⟩
  · rw [e2]
    exact PySem.W.AllAlike.of alike_row
  · rw [e2]
    rcases hk with hk | hk
    · refine .inl (.inl fun d hd => ?_)
      obtain ⟨r, hr', rfl⟩ := List.mem_map.mp hd
      obtain ⟨p, hp, rfl⟩ := List.mem_map.mp hr'
      cases e : p.2 with
      | nil => exact absurd e (hk p hp)
      | cons x xs => exact ⟨_, _, rfl⟩
    · refine .inr ⟨fun d hd => ?_, ?_⟩
      · obtain ⟨r, hr', rfl⟩ := List.mem_map.mp hd
        exact ⟨_, rfl⟩
      · rw [List.getElem?_map, hk]
        rfl
  · have e3 : ordD (ps.map fun p => ((V.ref p.1, dI p.2) : VD)) = (ps.mergeSort fun p q => rowLe p.2 q.2).map fun p => ((V.ref p.1, dI p.2) : VD) := by
      rw [ordD]
      symm
      refine List.map_mergeSort fun a _ b _ => ?_
      exact (congrFun (congrFun (dataLe_tups (fun p : Addr × List Int => p.2)) a) b).symm
    rw [e3]
    have := q p (ps.mergeSort fun p q => rowLe p.2 q.2) hp (List.mergeSort_perm _ _) (List.map_mergeSort fun a _ b _ => rfl)
    simpa [rV, Function.comp_def] using this
end K13
/-! K13RuleB -/
set_option autoImplicit true
set_option Elab.async false
set_option linter.all false
set_option maxRecDepth 100000
set_option maxHeartbeats 4000000
/-! dicts whose keys are texts and nested tuples mixed -/
namespace K13
open PySem PySem.Spec PyProof.Rows
section
variable {prog : Program} {w : World} {A : Around} {E : Value → Shared → Prop} {s : Shared}
abbrev NEnt := NestedKey × Value × Value
def entN (w : World) (x : NEnt) : DictEntry := ⟨x.1.hash w, x.2.1, x.2.2⟩
def KeyN (h : Heap) (k : NestedKey) (v : Value) : Prop := NestedIs h k v ∧ k.depth ≤ 8
theorem quietN {k : NestedKey} {v : Value} {Q : Bool → Shared → Prop} (hk : KeyN s.heap k v) (h : Q true s) : wpAny (model prog w) A (eqIsQuiet 8 v) Q E s := quiet_key k _ 8 s hk.1 hk.2 A E Q h
theorem eqBoolN {x y : NestedKey} {a b : Value} {Q : Bool → Shared → Prop} (hu : A.units + 8 < cLine) (hx : KeyN s.heap x a) (hy : KeyN s.heap y b) (h : Q (decide (x = y)) s) : wpAny (model prog w) A (eqBool a b) Q E s :=
  eqAt_key x y A s _ _ hx.1 hy.1 (by have := hx.2; omega) _ _ _ _ (by rw [← NestedKey.decide_eq]; exact h)
/-- no key of these asks anything when it is compared -/
theorem mayTellN {v : Value} {k : NestedKey} {stored : List Value} {Q : Bool → Shared → Prop} (hkey : KeyN s.heap k v) (hst : ∀ u ∈ stored, ∃ k', KeyN s.heap k' u) (h : Q false s) : wpAny (model prog w) A (tableMayTell v stored) Q E s := by
  unfold tableMayTell
  by_cases e : stored.isEmpty = true
  · rw [if_pos e]
    exact wpAny_pure h
  · rw [if_neg e]
    refine wpAny_bind (quietN hkey (wpAny_bind (wpAny_forIn_list _ (fun rest b t => t = s ∧ b = (none, ()) ∧ ∀ u ∈ rest, u ∈ stored) _ (fun u rest b t I => ?_) (fun b t I => ?_) stored _ ⟨rfl, rfl, fun _ z => z⟩)))
    · obtain ⟨rfl, rfl, hr⟩ := I
      obtain ⟨k', hk'⟩ := hst u (hr u List.mem_cons_self)
      exact wpAny_bind (quietN hk' (wpAny_pure ⟨rfl, rfl, fun z hz => hr z (List.mem_cons_of_mem _ hz)⟩))
    · obtain ⟨rfl, rfl, _⟩ := I
      exact wpAny_pure h
theorem iteW {α : Type} {M : Model} {c : Prop} [Decidable c] {m1 m2 : Sem α} {Q : α → Shared → Prop} (h1 : wpAny M A m1 Q E s) (h2 : wpAny M A m2 Q E s) : wpAny M A (if c then m1 else m2) Q E s := by
  by_cases h : c
  · rw [if_pos h]
    exact h1
  · rw [if_neg h]
    exact h2
/-- a key stands at one place alone -/
theorem idxN {xs : List NEnt} (hn : (xs.map (·.1)).Nodup) {i j : Nat} {k : NestedKey} {p q : Value × Value} (hi : xs[i]? = some (k, p)) (hj : xs[j]? = some (k, q)) : i = j := by
  have a : (xs.map (·.1))[i]? = some k := by simp [hi]
  have b : (xs.map (·.1))[j]? = some k := by simp [hj]
  exact (List.getElem?_inj (List.getElem?_eq_some_iff.mp a).1 hn).mp (a.trans b.symm)
theorem entN_at {es : Array DictEntry} {xs : List NEnt} (he : es.toList = xs.map (entN w)) (j : Nat) : es[j]? = (xs[j]?).map (entN w) := by
  have : es.toList[j]? = (xs.map (entN w))[j]? := congrArg (fun l => l[j]?) he
  simpa using this
/-- the places of a hash: those of the entries with it -/
theorem plN {es : Array DictEntry} {xs : List NEnt} (he : es.toList = xs.map (entN w)) {h : Int} {i : Nat} : i ∈ placesWithHash es.size (fun i => es[i]?.map (·.hash)) h ↔ ∃ x, xs[i]? = some x ∧ x.1.hash w = h := by
  have hs : es.size = xs.length := by have := congrArg List.length he; simpa using this
  unfold placesWithHash
  rw [List.mem_filter, List.mem_range, hs]
  constructor
  · rintro ⟨h1, h2⟩
    refine ⟨xs[i], List.getElem?_eq_getElem h1, ?_⟩
    have h2 : (es[i]?.map (·.hash) == some h) = true := h2
    rw [entN_at he i, List.getElem?_eq_getElem h1] at h2
    simpa [entN] using h2
  · rintro ⟨x, hx, rfl⟩
    refine ⟨(List.getElem?_eq_some_iff.mp hx).1, ?_⟩
    show (es[i]?.map (·.hash) == some (x.1.hash w)) = true
    rw [entN_at he i, hx]
    simp [entN]
theorem plN_nd {n : Nat} {f : Nat → Option Int} {h : Int} : (placesWithHash n f h).Nodup := List.nodup_range.filter _
/-- the look for a key: it stands at one place, or at none -/
theorem findN {d : Addr} {v : Value} {o : Obj} {es : Array DictEntry} {ep : Nat} {xs : List NEnt} {k : NestedKey} {Q : Option Nat → Shared → Prop} (hu : A.units + 8 < cLine) (hkey : KeyN s.heap k v) (hk2 : (∃ x t, v = .str x t) ∨ ∃ a, v = .ref a)
    (ho : s.heap.get? d = some o) (hd : o.data = .dict es ep) (he : es.toList = xs.map (entN w)) (his : ∀ x ∈ xs, KeyN s.heap x.1 x.2.1) (hn : (xs.map (·.1)).Nodup)
    (hnone : (∀ (j : Nat) (p : Value × Value), xs[j]? ≠ some (k, p)) → Q none s) (hsome : ∀ (j : Nat) (p : Value × Value), xs[j]? = some (k, p) → Q (some j) s) :
    wpAny (model prog w) A (dictFind d v (k.hash w)) Q E s := by
  generalize ePl : placesWithHash es.size (fun i => es[i]?.map (·.hash)) (k.hash w) = pl
  have inPl : ∀ {i : Nat}, i ∈ pl ↔ ∃ x, xs[i]? = some x ∧ x.1.hash w = k.hash w := by rw [← ePl]; exact plN he
  have ndPl : pl.Nodup := by rw [← ePl]; exact plN_nd
  have mine : ∀ (j : Nat) (p : Value × Value), xs[j]? = some (k, p) → j ∈ pl := fun j p hj => inPl.mpr ⟨_, hj, rfl⟩
  have keyAt : ∀ {i : Nat} {x : NEnt}, xs[i]? = some x → es[i]? = some (entN w x) ∧ KeyN s.heap x.1 x.2.1 := fun {i x} hx => ⟨by rw [entN_at he i, hx]; rfl, his x (List.mem_of_getElem? hx)⟩
  have stored : ∀ u ∈ pl.filterMap (fun i => es[i]?.map (·.key)), ∃ k', KeyN s.heap k' u := fun u hu' => by
    obtain ⟨i, hi, e⟩ := List.mem_filterMap.mp hu'
    obtain ⟨x, hx, _⟩ := inPl.mp hi
    obtain ⟨h1, h2⟩ := keyAt hx
    rw [h1] at e
    exact ⟨x.1, by rw [← Option.some.inj e]; exact h2⟩
  -- what a place says
  have turn : ∀ {i : Nat} {l : List Nat}, (∀ j ∈ i :: l, j ∈ pl) → ∃ x : NEnt, xs[i]? = some x ∧ es[i]? = some (entN w x) ∧ KeyN s.heap x.1 x.2.1 ∧ (x.1.hash w == k.hash w) = true := fun {i l} h => by
    obtain ⟨x, hx, e⟩ := inPl.mp (h i List.mem_cons_self)
    exact ⟨x, hx, (keyAt hx).1, (keyAt hx).2, by rw [e]; exact beq_self_eq_true _⟩
  have gone : ∀ {i : Nat} {l : List Nat} {x : NEnt}, xs[i]? = some x → ¬ x.1 = k → (∀ (j : Nat) (p : Value × Value), xs[j]? = some (k, p) → j ∈ i :: l) → ∀ (j : Nat) (p : Value × Value), xs[j]? = some (k, p) → j ∈ l := fun {i l x} hx ne h j p hj => by
    rcases List.mem_cons.mp (h j p hj) with e | e
    · rw [e, hx] at hj
      exact absurd (congrArg (·.1) (Option.some.inj hj)) ne
    · exact e
  have hany : ∀ a, v = .ref a → ¬ (es.any fun e => e.key == v && e.hash != k.hash w) = true := fun a ev hc => by
    rw [← Array.any_toList, he, List.any_map, List.any_eq_true] at hc
    obtain ⟨x, hx, hc⟩ := hc
    simp only [Function.comp_apply, entN, Bool.and_eq_true, beq_iff_eq, bne_iff_ne, ne_eq] at hc
    have h1 := (his x hx).1
    rw [hc.1, ev] at h1
    have h2 := hkey.1
    rw [ev] at h2
    exact hc.2 (by rw [NestedIs.inj _ _ _ h1 h2])
  unfold dictFind
  try with_reducible refine wpAny_holding ?_
  refine wpAny_bind (wpAny_dictEntries ho hd ?_)
  rcases hk2 with ⟨x, t, rfl⟩ | ⟨a, rfl⟩
  all_goals dsimp only
  all_goals rw [ePl]
  rotate_left
  rw [if_neg (show ¬ ((Value.ref a :: pl.filterMap fun i => es[i]?.map (·.key)).all carriedByValue) = true from fun z => by simp [carriedByValue] at z), if_neg (hany a rfl)]
  rotate_left
  by_cases hstrs : (es.all fun e => isExactStrKey e.key) = true
  · -- all keys are texts
    rw [if_pos hstrs]
    have ek : k = .text x := by
      have q := hkey.1
      cases q
      rfl
    have isx : ∀ {i : Nat} {y : NEnt}, xs[i]? = some y → y.2.1.isStr x = decide (y.1 = k) := fun {i y} hy => by
      obtain ⟨h1, h2⟩ := keyAt hy
      have h3 : isExactStrKey y.2.1 = true := by
        have := Array.all_eq_true'.mp hstrs _ (Array.mem_of_getElem? h1)
        exact this
      have h4 := h2.1
      obtain ⟨y1, y2, y3⟩ := y
      cases h4 with
      | text z u =>
        rw [ek]
        show (z == x) = _
        by_cases e : z = x
        · rw [e, decide_eq_true rfl]
          exact beq_self_eq_true _
        · rw [decide_eq_false fun q => e (NestedKey.text.inj q)]
          exact beq_eq_false_iff_ne.mpr e
      | none => cases h3
      | bool _ => cases h3
      | int _ _ => cases h3
      | tup _ _ _ _ => cases h3
    unfold foundByValue
    cases hf : es.findIdx? (fun e => e.key.isStr x) with
    | none =>
      refine wpAny_pure (hnone fun j p hj => ?_)
      have h1 := Array.findIdx?_eq_none_iff.mp hf _ (Array.mem_of_getElem? (keyAt hj).1)
      have h2 := isx hj
      rw [decide_eq_true rfl] at h2
      exact absurd (h1.symm.trans h2) Bool.false_ne_true
    | some i =>
      obtain ⟨hlt, hi, _⟩ := Array.findIdx?_eq_some_iff_getElem.mp hf
      have hlx : i < xs.length := by
        have := congrArg List.length he
        simp only [Array.length_toList, List.length_map] at this
        omega
      have hy := List.getElem?_eq_getElem hlx
      obtain ⟨h1, h2⟩ := keyAt hy
      have h3 : es[i] = entN w xs[i] := by
        rw [Array.getElem?_eq_getElem hlt] at h1
        exact Option.some.inj h1
      have h4 : xs[i].1 = k := by
        have q := isx hy
        rw [h3] at hi
        exact of_decide_eq_true (q.symm.trans hi)
      have h5 : xs[i]? = some (k, xs[i].2) := by rw [hy, ← h4]
      simp only [h1]
      refine wpAny_bind (wpAny_dictEpoch ho hd (wpAny_bind (eqBoolN (x := xs[i].1) (y := k) hu h2 hkey (wpAny_bind (wpAny_dictEpoch ho hd ?_)))))
      rw [decide_eq_true h4, bne_self_eq_false]
      exact wpAny_bind (wpAny_rule (wpAny_pure (hsome i _ h5)))
  rw [if_neg hstrs]
  by_cases hcb : ((Value.str x t :: pl.filterMap fun i => es[i]?.map (·.key)).all carriedByValue) = true
  · -- all keys of the hash are plain: one walk
    rw [if_pos hcb]
    refine wpAny_bind (wpAny_forIn_list _ (fun l b u => u = s ∧ b = (none, ()) ∧ (∀ j ∈ l, j ∈ pl) ∧ ∀ (j : Nat) (p : Value × Value), xs[j]? = some (k, p) → j ∈ l) _ (fun i l b u I => ?_) (fun b u I => ?_) pl _ ⟨rfl, rfl, fun _ z => z, mine⟩)
    · obtain ⟨rfl, rfl, sub, has⟩ := I
      obtain ⟨y, hy, hey, hky, hh⟩ := turn sub
      rw [hey]
      show wpAny _ _ (if (y.1.hash w == k.hash w) = true then _ else _) _ E _
      rw [if_pos hh]
      refine wpAny_bind (wpAny_dictEpoch ho hd (wpAny_bind (eqBoolN (x := y.1) (y := k) hu hky hkey (wpAny_bind (wpAny_dictEpoch ho hd ?_)))))
      rw [bne_self_eq_false]
      by_cases e : y.1 = k
      · rw [decide_eq_true e]
        exact wpAny_bind (wpAny_rule (wpAny_pure (wpAny_pure (hsome i y.2 (by rw [hy, ← e])))))
      · rw [decide_eq_false e]
        exact wpAny_bind (wpAny_rule (wpAny_pure ⟨rfl, rfl, fun j hj => sub j (List.mem_cons_of_mem _ hj), gone hy e has⟩))
    · obtain ⟨rfl, rfl, _, has⟩ := I
      exact wpAny_pure (hnone fun j p hj => absurd (has j p hj) List.not_mem_nil)
  rw [if_neg hcb]
  all_goals
    first
      | refine iteW ?_ ?_
      | refine wpAny_bind (iteW ?_ ?_)
    all_goals
      first
        | refine wpAny_bind (wpAny_pure ?_)
        | refine wpAny_bind (mayTellN hkey stored ?_)
        | refine wpAny_pure ?_
        | refine mayTellN hkey stored ?_
      rw [if_neg (by simp)]
      refine wpAny_bind (wpAny_forIn_list _ (fun l b u => u = s ∧ (∀ j ∈ l, j ∈ pl) ∧ l.Nodup ∧ ∃ hit, b = (none, hit) ∧ ((hit = none ∧ ∀ (j : Nat) (p : Value × Value), xs[j]? = some (k, p) → j ∈ l) ∨ ∃ (j : Nat) (p : Value × Value), hit = some j ∧ xs[j]? = some (k, p) ∧ j ∉ l)) _
        (fun i l b u I => ?_) (fun b u I => ?_) pl _ ⟨rfl, fun _ z => z, ndPl, none, rfl, .inl ⟨rfl, mine⟩⟩)
      · obtain ⟨rfl, sub, nd, hit, rfl, H⟩ := I
        obtain ⟨ni, nl⟩ := List.nodup_cons.mp nd
        obtain ⟨y, hy, hey, hky, hh⟩ := turn sub
        have sub2 : ∀ j ∈ l, j ∈ pl := fun j hj => sub j (List.mem_cons_of_mem _ hj)
        rw [hey]
        show wpAny _ _ (if (y.1.hash w == k.hash w) = true then _ else _) _ E _
        rw [if_pos hh]
        refine wpAny_bind (wpAny_dictEpoch ho hd (wpAny_bind (eqBoolN (x := y.1) (y := k) hu hky hkey (wpAny_bind (wpAny_dictEpoch ho hd ?_)))))
        rw [bne_self_eq_false]
        by_cases e : y.1 = k
        · have hik : xs[i]? = some (k, y.2) := by rw [hy, ← e]
          rw [decide_eq_true e]
          rcases H with ⟨rfl, has⟩ | ⟨j, p, rfl, hj, nj⟩
          · refine wpAny_bind (wpAny_rule (iteW (wpAny_pure (wpAny_pure (hsome i _ hik))) (wpAny_pure ?_)))
            exact ⟨rfl, sub2, nl, some i, rfl, .inr ⟨i, _, rfl, hik, ni⟩⟩
          · exact absurd (by rw [idxN hn hj hik]; exact List.mem_cons_self) nj
        · rw [decide_eq_false e]
          refine wpAny_bind (wpAny_rule (wpAny_pure ⟨rfl, sub2, nl, hit, rfl, ?_⟩))
          rcases H with ⟨e0, has⟩ | ⟨j, p, e0, hj, nj⟩
          · exact .inl ⟨e0, gone hy e has⟩
          · exact .inr ⟨j, p, e0, hj, fun q => nj (List.mem_cons_of_mem _ q)⟩
      · obtain ⟨rfl, _, _, hit, rfl, H⟩ := I
        rcases H with ⟨rfl, has⟩ | ⟨j, p, rfl, hj, _⟩
        · exact wpAny_pure (hnone fun j p hj => absurd (has j p hj) List.not_mem_nil)
        · exact wpAny_pure (hsome j p hj)
def atN (xs : List NEnt) (k : NestedKey) : Option (Value × Value) := (xs.find? fun x => decide (x.1 = k)).map (·.2)
theorem atN_get {xs : List NEnt} (hn : (xs.map (·.1)).Nodup) {i : Nat} {k : NestedKey} {p : Value × Value} (hx : xs[i]? = some (k, p)) : atN xs k = some p := by
  unfold atN
  cases e : xs.find? (fun x => decide (x.1 = k)) with
  | none =>
    have := List.find?_eq_none.mp e _ (List.mem_of_getElem? hx)
    simp at this
  | some y =>
    have h1 : y.1 = k := by simpa using List.find?_some e
    obtain ⟨j, hj⟩ := List.getElem?_of_mem (List.mem_of_find?_eq_some e)
    obtain ⟨y1, y2⟩ := y
    subst h1
    obtain rfl := idxN hn hj hx
    rw [hj] at hx
    cases hx
    rfl
theorem atN_none {xs : List NEnt} {k : NestedKey} (h : ∀ (j : Nat) (p : Value × Value), xs[j]? ≠ some (k, p)) : atN xs k = none := by
  unfold atN
  cases e : xs.find? (fun x => decide (x.1 = k)) with
  | none => rfl
  | some y =>
    have h1 : y.1 = k := by simpa using List.find?_some e
    obtain ⟨j, hj⟩ := List.getElem?_of_mem (List.mem_of_find?_eq_some e)
    exact absurd (by rw [hj, ← h1]) (h j y.2)
/-- the dict's own object -/
structure ObN (w : World) (h : Heap) (d : Addr) (xs : List NEnt) : Prop where
  ex : ∃ o es ep, h.get? d = some o ∧ o.ExactDict ∧ o.data = .dict es ep ∧ es.toList = xs.map (entN w)
  nd : (xs.map (·.1)).Nodup
theorem ObN.typeIs {d : Addr} {xs : List NEnt} (m : ObN w s.heap d xs) : s.TypeIs (.ref d) "dict" := let ⟨o, _, _, ho, hc, _⟩ := m.ex; ⟨o, ho, hc.1⟩
variable {d : Addr} {xs : List NEnt} {k : NestedKey} {v : Value}
theorem getN {Q : Option Value → Shared → Prop} (hu : A.units + 9 < cLine) (hkey : KeyN s.heap k v) (hk2 : (∃ x t, v = .str x t) ∨ ∃ a, v = .ref a) (m : ObN w s.heap d xs) (his : ∀ x ∈ xs, KeyN s.heap x.1 x.2.1)
    (h : ∀ tk, Q ((atN xs k).map (·.2)) { s with toks := tk }) : wpAny (model prog w) A (dictGet d v) Q E s := by
  obtain ⟨⟨o, es, ep, ho, _, hd, he⟩, hn⟩ := m
  unfold dictGet
  try with_reducible refine wpAny_holding ?_
  refine wpAny_bind (pyHash_key k v A s _ hkey.1 (by have := hkey.2; omega) (wpAny_bind (findN (s := { s with toks := s.toks + k.draws }) (by omega) hkey hk2 ho hd he his hn ?_ ?_)))
  · intro hno
    have q := h (s.toks + k.draws)
    rw [atN_none hno] at q
    exact wpAny_pure q
  · intro j p hj
    have q := h (s.toks + k.draws)
    rw [atN_get hn hj] at q
    refine wpAny_bind (wpAny_dictEntries (s := { s with toks := s.toks + k.draws }) ho hd ?_)
    rw [entN_at he j, hj]
    exact wpAny_pure q
theorem containsN {Q : Bool → Shared → Prop} (hu : A.units + 10 < cLine) (hkey : KeyN s.heap k v) (hk2 : (∃ x t, v = .str x t) ∨ ∃ a, v = .ref a) (hd : (d == sysModules) = false) (m : ObN w s.heap d xs) (his : ∀ x ∈ xs, KeyN s.heap x.1 x.2.1)
    (h : ∀ tk, Q (atN xs k).isSome { s with toks := tk }) : wpAny (model prog w) A (contains (.ref d) v) Q E s := by
  refine wpAny_contains_slot m.typeIs F.slot_dict_contains ?_
  refine wpAny_call_entry F.slot_dict_contains m.typeIs F.entry_dict_contains ?_ (F.args_dict_contains_2 _ _)
  show wpAny _ _ (dictGet d v >>= _) _ _ _
  refine wpAny_bind (getN (A := A.in1) (by show A.units + 1 + 9 < cLine; omega) hkey hk2 m his fun tk => ?_)
  have q := h tk
  cases hf : atN xs k with
  | some p =>
    rw [hf] at q
    show wpAny _ _ (ret (.bool true)) _ _ _
    exact wpAny_pure ⟨_, rfl, wpAny_truthy_bool q⟩
  | none =>
    rw [hf] at q
    show wpAny _ _ (Builtin.Dict.pendingKey? d v >>= _) _ _ _
    exact wpAny_bind (wpAny_pendingKey_other hd (wpAny_pure ⟨_, rfl, wpAny_truthy_bool q⟩))
theorem notInN {Q : Value → Shared → Prop} (hu : A.units + 10 < cLine) (hkey : KeyN s.heap k v) (hk2 : (∃ x t, v = .str x t) ∨ ∃ a, v = .ref a) (hd : (d == sysModules) = false) (m : ObN w s.heap d xs) (his : ∀ x ∈ xs, KeyN s.heap x.1 x.2.1)
    (h : ∀ tk, Q (.bool (!(atN xs k).isSome)) { s with toks := tk }) : wpAny (model prog w) A (compareOp .NotIn v (.ref d)) Q E s := by
  show wpAny _ _ (do return .bool (!(← contains (.ref d) v))) Q E s
  exact wpAny_bind (containsN hu hkey hk2 hd m his fun tk => wpAny_pure (h tk))
theorem getItemN {p : Value × Value} {Q : Value → Shared → Prop} (hu : A.units + 10 < cLine) (hkey : KeyN s.heap k v) (hk2 : (∃ x t, v = .str x t) ∨ ∃ a, v = .ref a) (m : ObN w s.heap d xs) (his : ∀ x ∈ xs, KeyN s.heap x.1 x.2.1)
    (hp : atN xs k = some p) (h : ∀ tk, Q p.2 { s with toks := tk }) : wpAny (model prog w) A (getItem (.ref d) v) Q E s := by
  unfold getItem
  try with_reducible refine wpAny_holding ?_
  refine wpAny_bind (wpAny_sequenceKey m.typeIs (by decide) ?_)
  refine wpAny_bind (wpAny_callSpecial?_slot (name := Str.ofString "__getitem__") m.typeIs F.slot_dict_getitem
    (wpAny_call_entry F.slot_dict_getitem m.typeIs F.entry_dict_getitem ?_ (F.args_dict_getitem_2 _ _)))
  show wpAny _ _ (dictGet d v >>= _) _ _ s
  refine wpAny_bind (getN (A := A.in1) (by show A.units + 1 + 9 < cLine; omega) hkey hk2 m his fun tk => ?_)
  rw [hp]
  exact wpAny_pure ⟨p.2, rfl, wpAny_pure (h tk)⟩
theorem setItemN {y : Value} {Q : Unit → Shared → Prop} (hu : A.units + 10 < cLine) (hkey : KeyN s.heap k v) (hk2 : (∃ x t, v = .str x t) ∨ ∃ a, v = .ref a) (m : ObN w s.heap d xs) (his : ∀ x ∈ xs, KeyN s.heap x.1 x.2.1)
    (hp : k ∉ xs.map (·.1)) (hz : xs.length ≤ 1000) (h : ∀ h' tk, ObN w h' d (xs ++ [(k, v, y)]) → Heap.SameBut d s.heap h' → Q () { s with heap := h', toks := tk }) : wpAny (model prog w) A (setItem (.ref d) v y) Q E s := by
  unfold setItem
  try with_reducible refine wpAny_holding ?_
  refine wpAny_bind (wpAny_sequenceKey m.typeIs (by decide) ?_)
  refine wpAny_bind (wpAny_callSpecial?_slot (name := Str.ofString "__setitem__") m.typeIs F.slot_dict_setitem
    (wpAny_call_entry F.slot_dict_setitem m.typeIs F.entry_dict_setitem ?_ (F.args_dict_setitem_3 _ _ _)))
  show wpAny _ _ (Builtin.Dict.notOrdered "__setitem__" ⟨[.ref d, v, y], []⟩ >>= _) _ _ s
  refine wpAny_bind (wpAny_notOrdered_dict m.typeIs ?_)
  show wpAny _ _ (dictSet d v y >>= _) _ _ s
  obtain ⟨⟨o, es, ep, ho, hc, hd, he⟩, hn⟩ := m
  refine wpAny_bind ?_
  unfold dictSet
  try with_reducible refine wpAny_holding ?_
  refine wpAny_bind (pyHash_key k v _ s _ hkey.1 (by have := hkey.2; show A.units + 1 + k.depth < cLine; omega) ?_)
  unfold dictSetHashed
  try with_reducible refine wpAny_holding ?_
  have hsz : es.size = xs.length := by rw [← Array.length_toList, he, List.length_map]
  refine wpAny_bind (findN (s := { s with toks := s.toks + k.draws }) (by show A.units + 1 + 8 < cLine; omega) hkey hk2 ho hd he his hn ?_ ?_)
  · intro hno
    refine wpAny_bind (wpAny_rule (wpAny_updateDictKeys (hz := by rw [hsz, sizeLine_eq]; omega) (s := { s with toks := s.toks + k.draws }) ho hd (wpAny_pure ⟨.none, rfl, wpAny_pure (h _ _ ⟨⟨_, _, ep + 1, Heap.get?_update_self _ ho (Obj.isFreed_of_dict (Obj.data_mapDictKeys hd _)),
      hc.mapDictKeys _, Obj.data_mapDictKeys hd _, ?_⟩, ?_⟩ (Heap.SameBut.update ..))⟩)))
    · simp [he, entN]
    · rw [List.map_append]
      exact List.nodup_append.mpr ⟨hn, by simp, fun a ha b hb e => by
        simp only [List.map_cons, List.map_nil, List.mem_singleton] at hb
        subst hb
        exact hp (e ▸ ha)⟩
  · intro j p hj
    exact absurd (List.mem_map.mpr ⟨_, List.mem_of_getElem? hj, rfl⟩) hp
end
end K13
/-! K13RuleB2 -/
set_option autoImplicit true
set_option Elab.async false
set_option linter.all false
set_option maxRecDepth 100000
set_option maxHeartbeats 4000000
/-! the store's dict of what was found, over the layer -/
namespace K13
open PySem PySem.Spec PyProof.Rows L2
/-- a key as H tells it: a text, or a pair of a text and a tuple of ints -/
inductive KH (H : Hp) : NestedKey → V → Prop
  | text (x : Str) : KH H (.text x) (.str x)
  | pair {a b : Addr} (x : Str) (ns : List Int) (ha : H a = some (.tup [.str x, .ref b])) (hb : H b = some (.tup (ns.map V.int))) : KH H (.tup [.text x, .tup (ns.map .num)]) (.ref a)
theorem KH.mono {H H' : Hp} {k : NestedKey} {v : V} (ht : ∀ b xs, H b = some (.tup xs) → H' b = some (.tup xs)) (h : KH H k v) : KH H' k v := by
  cases h with
  | text x => exact .text x
  | pair x ns ha hb => exact .pair x ns (ht _ _ ha) (ht _ _ hb)
theorem nested_ints {h : Heap} : ∀ {ns : List Int} {its : List Value}, Vals (ns.map V.int) its → NestedAll h (ns.map .num) its
  | [], _, r => by
    cases r
    exact .nil
  | n :: ns, _, r => by
    cases r with
    | cons r1 r2 =>
      obtain ⟨t, rfl⟩ := r1
      exact .cons (.int n t) (nested_ints r2)
theorem depth_nums : ∀ ns : List Int, NestedKey.depthAll (ns.map .num) = 0
  | [] => by simp [NestedKey.depthAll]
  | n :: ns => by simp [NestedKey.depthAll, NestedKey.depth, depth_nums ns]
theorem KH.key {P : Program} {w : World} {H : Hp} {h : Heap} {k : NestedKey} {v : V} {u : Value} (x : KH H k v) (ok : HOk P w H h) (r : RelV v u) : KeyN h k u ∧ ((∃ x t, u = .str x t) ∨ ∃ a, u = .ref a) := by
  cases x with
  | text x =>
    obtain ⟨t, rfl⟩ := r
    exact ⟨⟨.text x t, by simp [NestedKey.depth]⟩, .inl ⟨x, t, rfl⟩⟩
  | @pair a b x ns ha hb =>
    cases r
    obtain ⟨_, its, rv, o, h1, h2, n, h3⟩ := ok a _ ha
    obtain ⟨_, its2, rv2, o2, g1, g2, n2, g3⟩ := ok b _ hb
    cases rv with
    | cons r1 r2 =>
      cases r2 with
      | cons r3 r4 =>
        cases r4
        obtain ⟨t, rfl⟩ := r1
        cases r3
        refine ⟨⟨.tup h1 h2 h3 (.cons (.text x t) (.cons (.tup g1 g2 g3 ?_) .nil)), ?_⟩, .inr ⟨a, rfl⟩⟩
        · simpa using nested_ints rv2
        · simp [NestedKey.depth, NestedKey.depthAll, depth_nums]
abbrev FEnt := NestedKey × V × V
def RelF : List FEnt → List NEnt → Prop := Paired fun (p : FEnt) (q : NEnt) => p.1 = q.1 ∧ RelV p.2.1 q.2.1 ∧ RelV p.2.2 q.2.2
/-- the dict of what was found, as an object -/
def FdO (w : World) (d : Addr) (kvs : List FEnt) : HO := .ext fun h => ∃ xs : List NEnt, RelF kvs xs ∧ (d == sysModules) = false ∧ ObN w h d xs
/-- its keys -/
def FdK (H : Hp) (kvs : List FEnt) : Prop := ∀ p ∈ kvs, KH H p.1 p.2.1
def fdAt (kvs : List FEnt) (k : NestedKey) : Option V := (kvs.find? fun p => decide (p.1 = k)).map (·.2.2)
theorem ObN.at {w : World} {h h' : Heap} {d : Addr} {xs : List NEnt} (m : ObN w h d xs) (k : ∀ o, h.get? d = some o → h'.get? d = some o) : ObN w h' d xs :=
  let ⟨o, es, ep, ho, r⟩ := m.ex; ⟨⟨o, es, ep, k o ho, r⟩, m.nd⟩
theorem fdO_ok {P : Program} {w : World} {H : Hp} {h : Heap} {d : Addr} {kvs : List FEnt} {xs : List NEnt} (r : RelF kvs xs) (hd : (d == sysModules) = false) (m : ObN w h d xs) : ObjOk P w H h d (FdO w d kvs) := by
  obtain ⟨o, es, ep, ho, _⟩ := id m.ex
  exact ⟨⟨xs, r, hd, m⟩, ⟨o, ho⟩, fun h1 h2 ⟨ys, r', hd', m'⟩ k => ⟨ys, r', hd', m'.at k⟩⟩
theorem fdO_at {P : Program} {w : World} {H : Hp} {h : Heap} {d : Addr} {kvs : List FEnt} (ok : HOk P w H h) (e : H d = some (FdO w d kvs)) : ∃ xs : List NEnt, RelF kvs xs ∧ (d == sysModules) = false ∧ ObN w h d xs := by
  have x : ObjOk P w H h d (.ext fun h => ∃ xs : List NEnt, RelF kvs xs ∧ (d == sysModules) = false ∧ ObN w h d xs) := ok d _ e
  exact x.1
theorem RelF.at : ∀ {kvs : List FEnt} {xs : List NEnt}, RelF kvs xs → ∀ k, RelO (fdAt kvs k) ((atN xs k).map (·.2))
  | _, _, .nil, k => True.intro
  | p :: kvs, q :: xs, .cons h t, k => by
    obtain ⟨h1, h2, h3⟩ := h
    have ih := RelF.at (kvs := kvs) (xs := xs) t k
    by_cases e : p.1 = k
    · have e' : q.1 = k := h1 ▸ e
      have a1 : fdAt (p :: kvs) k = some p.2.2 := by simp [fdAt, e]
      have a2 : (atN (q :: xs) k).map (·.2) = some q.2.2 := by simp [atN, e']
      rw [a1, a2]
      exact h3
    · have e' : ¬ q.1 = k := h1 ▸ e
      have a1 : fdAt (p :: kvs) k = fdAt kvs k := by simp [fdAt, e]
      have a2 : atN (q :: xs) k = atN xs k := by simp [atN, e']
      rw [a1, a2]
      exact ih
theorem RelF.keys : ∀ {kvs : List FEnt} {xs : List NEnt}, RelF kvs xs → xs.map (·.1) = kvs.map (·.1)
  | _, _, .nil => rfl
  | p :: kvs, q :: xs, .cons h t => by
    rw [List.map_cons, List.map_cons, RelF.keys (kvs := kvs) (xs := xs) t, h.1]
theorem RelF.keyN {P : Program} {w : World} {H : Hp} {h : Heap} (ok : HOk P w H h) : ∀ {kvs : List FEnt} {xs : List NEnt}, RelF kvs xs → FdK H kvs → ∀ x ∈ xs, KeyN h x.1 x.2.1
  | _, _, .nil, _, x, hx => absurd hx List.not_mem_nil
  | p :: kvs, q :: xs, .cons h t, hk, x, hx => by
    rcases List.mem_cons.mp hx with rfl | hx
    · rw [← h.1]
      exact ((hk p List.mem_cons_self).key ok h.2.1).1
    · exact RelF.keyN ok (kvs := kvs) (xs := xs) t (fun p hp => hk p (List.mem_cons_of_mem _ hp)) x hx
theorem fdAt_none {kvs : List FEnt} {k : NestedKey} (h : fdAt kvs k = none) : k ∉ kvs.map (·.1) := by
  intro m
  obtain ⟨p, hp, e⟩ := List.mem_map.mp m
  unfold fdAt at h
  rw [Option.map_eq_none_iff, List.find?_eq_none] at h
  exact h p hp (decide_eq_true e)
theorem fdAt_snoc {kvs : List FEnt} {k j : NestedKey} {a b : V} (h : fdAt kvs k = none) : fdAt (kvs ++ [(k, a, b)]) j = if j = k then some b else fdAt kvs j := by
  unfold fdAt at h ⊢
  rw [List.find?_append]
  by_cases e : j = k
  · subst e
    rw [Option.map_eq_none_iff] at h
    rw [h]
    simp
  · have e' : ¬ k = j := fun z => e z.symm
    simp [e, e']
theorem atN_some_of {o : Option V} {r : Option (Value × Value)} (h : RelO o (r.map (·.2))) : r.isSome = o.isSome := by
  cases o <;> cases r <;> first | rfl | exact h.elim
section
variable {X : Cx} {i o value e : Expr} {ty td tv : TE} {pos pos' : Pos}
def tFdNotIn (w : World) (ty td : TE) : TE := fun σ H Q => ty σ H fun y H1 => td σ H1 fun x H2 => ∃ d kvs k, x = .ref d ∧ H2 d = some (FdO w d kvs) ∧ FdK H2 kvs ∧ KH H2 k y ∧ Q (.bl (!(fdAt kvs k).isSome)) H2
theorem pc_fdnotin {n : Nat} (hr : Room n X.A) (hi : PE X i ty) (ho : PE X o td) : PC X .NotIn i o (tFdNotIn X.w ty td) := by
  refine ⟨fun pins s σ H Q I h => ?_⟩
  refine thn (hi.run pins s σ H _ I h) fun iv s1 ⟨y, H1, I1, ry, q1⟩ => thn (ho.run pins s1 σ H1 _ I1 q1) fun u s2 ⟨x, H2, I2, rx, d, kvs, k, ex, hd, hk, ky, q2⟩ => ?_
  subst ex
  obtain rfl : u = Value.ref d := rx
  obtain ⟨xs, r, hs, m⟩ := fdO_at I2.hok hd
  obtain ⟨k1, k2⟩ := ky.key I2.hok ry
  have hu := hr.units
  refine notInN (by omega) k1 k2 hs m (r.keyN I2.hok hk) fun tk => ⟨.bl _, H2, I2.tok tk, ?_, q2⟩
  show Value.bool _ = Value.bool _
  rw [atN_some_of (r.at k)]
def tFdGet (w : World) (td ty : TE) : TE := fun σ H Q => td σ H fun x H1 => ty σ H1 fun y H2 => ∃ d kvs k v, x = .ref d ∧ H2 d = some (FdO w d kvs) ∧ FdK H2 kvs ∧ KH H2 k y ∧ fdAt kvs k = some v ∧ Q v H2
theorem pe_fdget {n : Nat} (hr : Room n X.A) (ho : PE X o td) (hi : PE X i ty) (hs : NoSl i) : PE X (.Subscript o i pos) (tFdGet X.w td ty) := by
  refine ⟨fun pins s σ H Q I h => ?_⟩
  refine subD_of PySem.F.slot_dict_getitem.lookup hs (thn (ho.run pins s σ H _ I h) fun u s1 ⟨x, H1, I1, rx, q1⟩ => thn (hi.run pins s1 σ H1 _ I1 q1) fun iv s2 ⟨y, H2, I2, ry, d, kvs, k, v, ex, hd, hk, ky, hv, q2⟩ => ?_)
  subst ex
  obtain rfl : u = Value.ref d := rx
  obtain ⟨xs, r, hs, m⟩ := fdO_at I2.hok hd
  obtain ⟨k1, k2⟩ := ky.key I2.hok ry
  have hu := hr.units
  have hq := r.at k
  rw [hv] at hq
  cases hp : atN xs k with
  | none =>
    rw [hp] at hq
    exact hq.elim
  | some p =>
    rw [hp] at hq
    exact ⟨m.typeIs, getItemN (by omega) k1 k2 m (r.keyN I2.hok hk) hp fun tk => ⟨v, H2, I2.tok tk, hq, q2⟩⟩
/-- d[y] = v, the key not there -/
def sFdPut (w : World) (td ty tv : TE) : TS := fun D σ H => tv σ H fun v H1 => td σ H1 fun x H2 => ty σ H2 fun y H3 => ∃ d kvs k, x = .ref d ∧ H3 d = some (FdO w d kvs) ∧ FdK H3 kvs ∧ KH H3 k y ∧ fdAt kvs k = none ∧ kvs.length ≤ 1000 ∧
  D.nx σ (upd H3 d (FdO w d (kvs ++ [(k, y, v)])))
theorem ps_fdput {n : Nat} (hr : Room n X.A) (ho : PE X o td) (hi : PE X i ty) (hv : PE X value tv) (hs : swapsWith value (some (.Subscript o i pos')) pos.line X.env = pure false := by rfl) :
    PS X (.Assign [.Subscript o i pos'] value pos) (sFdPut X.w td ty tv) := by
  refine ⟨fun pins s σ H D I h => ?_⟩
  refine wpAny_Assign_Subscript (thn (hv.run pins s σ H _ I h) fun r s1 ⟨v, H1, I1, rv, q1⟩ => thn (ho.run pins s1 σ H1 _ I1 q1) fun u s2 ⟨x, H2, I2, rx, q2⟩ => thn (hi.run pins s2 σ H2 _ I2 q2) fun iv s3 ⟨y, H3, I3, ry, d, kvs, k, ex, hd, hk, ky, hn, hz, q3⟩ => ?_) hs
  subst ex
  obtain rfl : u = Value.ref d := rx
  obtain ⟨xs, rf, hs, m⟩ := fdO_at I3.hok hd
  obtain ⟨k1, k2⟩ := ky.key I3.hok ry
  have hu := hr.units
  have hl : xs.length = kvs.length := (Paired.length rf).symm
  refine setItemN (by omega) k1 k2 m (rf.keyN I3.hok hk) (by rw [rf.keys]; exact fdAt_none hn) (by omega) fun h' tk m' sb => ?_
  obtain ⟨ob, _, _, hob, _⟩ := id m'.ex
  have rf' : RelF (kvs ++ [(k, y, v)]) (xs ++ [(k, iv, r)]) := by
    have app : ∀ {l1 : List FEnt} {l2 : List NEnt}, RelF l1 l2 → RelF (l1 ++ [(k, y, v)]) (l2 ++ [(k, iv, r)]) := by
      intro l1 l2 h
      induction h with
      | nil => exact .cons ⟨rfl, ry, rv⟩ .nil
      | cons a _ ih => exact .cons a ih
    exact app rf
  exact ⟨σ, _, d_write I3 (by rw [hd]; exact True.intro) sb ⟨ob, hob⟩ (fdO_ok rf' hs m'), q3⟩
/-- a new dict that holds nothing of what was found -/
def tFdNew (w : World) : TE := fun _ H Q => ∀ p, H p = none → Q (.ref p) (upd H p (FdO w p []))
theorem pe_fdnew : PE X (.Dict [] [] pos) (tFdNew X.w) := by
  refine ⟨fun pins s σ H Q I h => ?_⟩
  have hb : (s.heap.objs.size == sysModules) = false := by
    have := I.big
    simp
    exact Nat.ne_of_gt this
  refine wpAny_Dict_empty ⟨.ref s.heap.objs.size, _, I.laid (a := s.heap.objs.size) (o := FdO X.w s.heap.objs.size []) (t' := s.toks) (fun _ _ q => Heap.get?_push_of_some _ q) (Nat.le_refl _) ?_, rfl, h _ (I.hok.fresh (Nat.le_refl _))⟩
  exact fdO_ok (xs := []) .nil hb ⟨⟨_, #[], 0, Heap.get?_push_size _ rfl, ⟨rfl, rfl, rfl⟩, rfl, rfl⟩, List.nodup_nil⟩
end
end K13
/-! K13Math -/
set_option autoImplicit false
set_option linter.all false
namespace K13
/-! Plain mathematics: islands of a lot by walks. -/
abbrev Row := List Int

def apart (s t : Row) : List Int := ((List.range s.length).filter fun i => decide (s.getD i 0 ≠ t.getD i 0)).map Int.ofNat

theorem apart_symm {s t : Row} (h : s.length = t.length) : apart s t = apart t s := by
  unfold apart
  rw [h]
  congr 1
  apply List.filter_congr
  intro i _
  exact decide_eq_decide.mpr ⟨fun h => Ne.symm h, fun h => Ne.symm h⟩

section
variable (st : List Row) (lot : List Int)
def Edge (s t : Row) : Prop := s ∈ st ∧ t ∈ st ∧ ∃ k ∈ lot, apart s t = [k]
inductive Conn : Row → Row → Prop
  | refl (s : Row) : Conn s s
  | step {s t u : Row} : Conn s t → Edge st lot t u → Conn s u
end

section
variable {st : List Row} {lot : List Int}
theorem Edge.symm (hl : ∀ s ∈ st, ∀ t ∈ st, s.length = t.length) {s t : Row} (h : Edge st lot s t) : Edge st lot t s := by
  obtain ⟨a, b, k, hk, e⟩ := h
  exact ⟨b, a, k, hk, (apart_symm (hl t b s a)).trans e⟩
theorem Conn.trans {s t u : Row} (h : Conn st lot s t) (g : Conn st lot t u) : Conn st lot s u := by
  induction g with
  | refl => exact h
  | step _ e ih => exact .step ih e
theorem Conn.symm (hl : ∀ s ∈ st, ∀ t ∈ st, s.length = t.length) {s t : Row} (h : Conn st lot s t) : Conn st lot t s := by
  induction h with
  | refl => exact .refl _
  | step _ e ih => exact Conn.trans (.step (.refl _) (e.symm hl)) ih
theorem Conn.mem {s t : Row} (h : Conn st lot s t) : s = t ∨ t ∈ st := by
  cases h with
  | refl => exact .inl rfl
  | step _ e => exact .inr e.2.1

noncomputable def cn (st : List Row) (lot : List Int) (s t : Row) : Bool := @decide (Conn st lot s t) (Classical.propDecidable _)
theorem cn_iff {s t : Row} : cn st lot s t = true ↔ Conn st lot s t := by
  unfold cn
  exact @decide_eq_true_iff _ (Classical.propDecidable _)
end

/-! representatives, in the order of the list -/
section
variable (C : Row → Row → Bool)
def repStep (acc : List Row) (s : Row) : List Row := if acc.any (fun r => C r s) = true then acc else acc ++ [s]
def reps (l : List Row) : List Row := l.foldl (repStep C) []
def home (st : List Row) (s : Row) : Nat := (reps C st).findIdx fun r => C r s
end
structure Eqv (C : Row → Row → Bool) : Prop where
  refl : ∀ s, C s s = true
  symm : ∀ s t, C s t = true → C t s = true
  trans : ∀ s t u, C s t = true → C t u = true → C s u = true

theorem cn_eqv {st : List Row} {lot : List Int} (hl : ∀ s ∈ st, ∀ t ∈ st, s.length = t.length) : Eqv (cn st lot) :=
  ⟨fun _ => cn_iff.mpr (.refl _), fun _ _ h => cn_iff.mpr ((cn_iff.mp h).symm hl), fun _ _ _ h g => cn_iff.mpr ((cn_iff.mp h).trans (cn_iff.mp g))⟩

section
variable {C : Row → Row → Bool}
theorem reps_nil : reps C [] = [] := rfl
theorem reps_snoc (l : List Row) (s : Row) : reps C (l ++ [s]) = repStep C (reps C l) s := by
  unfold reps
  rw [List.foldl_append]
  rfl
theorem repStep_yes {acc : List Row} {s : Row} (h : ∃ r ∈ acc, C r s = true) : repStep C acc s = acc := by
  unfold repStep
  rw [if_pos (List.any_eq_true.mpr h)]
theorem repStep_no {acc : List Row} {s : Row} (h : ¬ ∃ r ∈ acc, C r s = true) : repStep C acc s = acc ++ [s] := by
  unfold repStep
  rw [if_neg fun q => h (List.any_eq_true.mp q)]
theorem repStep_prefix (acc : List Row) (s : Row) : acc <+: repStep C acc s := by
  unfold repStep
  split
  · exact List.prefix_rfl
  · exact List.prefix_append _ _
theorem foldl_prefix : ∀ (m acc : List Row), acc <+: m.foldl (repStep C) acc
  | [], acc => List.prefix_rfl
  | s :: m, acc => (repStep_prefix acc s).trans (foldl_prefix m _)
theorem reps_prefix (l m : List Row) : reps C l <+: reps C (l ++ m) := by
  unfold reps
  rw [List.foldl_append]
  exact foldl_prefix m _
/-- an induction from the right -/
theorem snoc_ind {P : List Row → Prop} (h0 : P []) (h1 : ∀ l s, P l → P (l ++ [s])) : ∀ l, P l := fun l => by
  have q : ∀ n, ∀ l : List Row, l.length = n → P l := by
    intro n
    induction n with
    | zero =>
      intro l e
      rw [List.length_eq_zero_iff.mp e]
      exact h0
    | succ n ih =>
      intro l e
      have hne : l ≠ [] := by
        intro z
        rw [z] at e
        cases e
      rw [← List.dropLast_concat_getLast hne]
      exact h1 _ _ (ih _ (by rw [List.length_dropLast, e]; rfl))
  exact q _ l rfl
theorem reps_mem : ∀ (l : List Row) {r : Row}, r ∈ reps C l → r ∈ l := by
  refine snoc_ind ?_ ?_
  · intro r h
    exact h
  · intro l s ih r h
    rw [reps_snoc] at h
    by_cases q : ∃ r ∈ reps C l, C r s = true
    · rw [repStep_yes q] at h
      exact List.mem_append_left _ (ih h)
    · rw [repStep_no q] at h
      rcases List.mem_append.mp h with h | h
      · exact List.mem_append_left _ (ih h)
      · exact List.mem_append_right _ h
theorem reps_cover (E : Eqv C) : ∀ (l : List Row) {s : Row}, s ∈ l → ∃ r ∈ reps C l, C r s = true := by
  refine snoc_ind ?_ ?_
  · intro s h
    cases h
  · intro l x ih s h
    rw [reps_snoc]
    rcases List.mem_append.mp h with h | h
    · obtain ⟨r, hr, e⟩ := ih h
      exact ⟨r, (repStep_prefix _ _).subset hr, e⟩
    · have hs : s = x := List.mem_singleton.mp h
      subst hs
      by_cases q : ∃ r ∈ reps C l, C r s = true
      · rw [repStep_yes q]
        exact q
      · rw [repStep_no q]
        exact ⟨s, List.mem_append_right _ (List.mem_singleton.mpr rfl), E.refl s⟩
theorem reps_apart : ∀ (l : List Row), (reps C l).Pairwise fun a b => ¬ C a b = true := by
  refine snoc_ind ?_ ?_
  · exact .nil
  · intro l s ih
    rw [reps_snoc]
    by_cases q : ∃ r ∈ reps C l, C r s = true
    · rw [repStep_yes q]
      exact ih
    · rw [repStep_no q]
      refine List.pairwise_append.mpr ⟨ih, List.pairwise_singleton _ _, fun a ha b hb e => ?_⟩
      rw [List.mem_singleton.mp hb] at e
      exact q ⟨a, ha, e⟩
theorem reps_sublist : ∀ (l : List Row), (reps C l).Sublist l := by
  refine snoc_ind ?_ ?_
  · exact .slnil
  · intro l s ih
    rw [reps_snoc]
    unfold repStep
    split
    · exact ih.trans (List.sublist_append_left _ _)
    · exact ih.append (List.Sublist.refl _)

theorem pw_get {α : Type} {R : α → α → Prop} {l : List α} (h : l.Pairwise R) {i j : Nat} {a b : α} (hij : i < j) (ha : l[i]? = some a) (hb : l[j]? = some b) : R a b := by
  obtain ⟨i1, e1⟩ := List.getElem?_eq_some_iff.mp ha
  obtain ⟨j1, e2⟩ := List.getElem?_eq_some_iff.mp hb
  rw [← e1, ← e2]
  exact List.pairwise_iff_getElem.mp h i j i1 j1 hij

/-- the island's index, by any of the representatives -/
theorem home_of (E : Eqv C) {st : List Row} {c : Nat} {r s : Row} (hr : (reps C st)[c]? = some r) (e : C r s = true) : home C st s = c := by
  unfold home
  have hc : c < (reps C st).length := (List.getElem?_eq_some_iff.mp hr).1
  have hlt : (reps C st).findIdx (fun r => C r s) < (reps C st).length := List.findIdx_lt_length.mpr ⟨r, List.mem_of_getElem? hr, e⟩
  have hp := List.findIdx_getElem (w := hlt)
  have hq : (reps C st)[(reps C st).findIdx fun r => C r s]? = some ((reps C st)[(reps C st).findIdx fun r => C r s]'hlt) := List.getElem?_eq_getElem hlt
  rcases Nat.lt_trichotomy ((reps C st).findIdx fun r => C r s) c with h | h | h
  · exact absurd (E.trans _ _ _ hp (E.symm _ _ e)) (pw_get (reps_apart st) h hq hr)
  · exact h
  · exact absurd (E.trans _ _ _ e (E.symm _ _ hp)) (pw_get (reps_apart st) h hr hq)
theorem home_rep (E : Eqv C) {st : List Row} {s : Row} (h : s ∈ st) : ∃ r, (reps C st)[home C st s]? = some r ∧ C r s = true := by
  obtain ⟨r, hr, e⟩ := reps_cover E st h
  obtain ⟨c, hc⟩ := List.getElem?_of_mem hr
  exact ⟨r, by rw [home_of E hc e]; exact hc, e⟩
theorem home_lt (E : Eqv C) {st : List Row} {s : Row} (h : s ∈ st) : home C st s < (reps C st).length := by
  obtain ⟨r, hr, _⟩ := home_rep E h
  exact (List.getElem?_eq_some_iff.mp hr).1
theorem home_iff (E : Eqv C) {st : List Row} {s t : Row} (h : s ∈ st) (g : t ∈ st) : home C st s = home C st t ↔ C s t = true := by
  obtain ⟨r, hr, e⟩ := home_rep E h
  obtain ⟨q, hq, e'⟩ := home_rep E g
  constructor
  · intro z
    rw [z, hq] at hr
    cases hr
    exact E.trans _ _ _ (E.symm _ _ e) e'
  · intro z
    exact (home_of E hr (E.trans _ _ _ e z)).symm
/-- a new island's index -/
theorem home_new (E : Eqv C) {l m : List Row} {s t : Row} (h : ¬ ∃ r ∈ reps C l, C r s = true) (e : C s t = true) : home C (l ++ s :: m) t = (reps C l).length := by
  refine home_of E (r := s) ?_ e
  have q : reps C (l ++ [s]) <+: reps C (l ++ s :: m) := by
    have := reps_prefix (C := C) (l ++ [s]) m
    rw [List.append_assoc] at this
    exact this
  rw [reps_snoc, repStep_no h] at q
  obtain ⟨z, ez⟩ := q
  rw [← ez, List.append_assoc, List.getElem?_append_right (Nat.le_refl _)]
  simp
theorem reps_get_home (E : Eqv C) {st : List Row} {c : Nat} {r : Row} (hr : (reps C st)[c]? = some r) : home C st r = c := home_of E hr (E.refl r)
end

theorem sub_len {α : Type} [DecidableEq α] : ∀ {l m : List α}, l.Nodup → (∀ a ∈ l, a ∈ m) → l.length ≤ m.length
  | [], _, _, _ => Nat.zero_le _
  | a :: l, m, h, hs => by
    obtain ⟨h1, h2⟩ := List.nodup_cons.mp h
    have ha : a ∈ m := hs a List.mem_cons_self
    have q := sub_len (m := m.erase a) h2 fun b hb => (List.mem_erase_of_ne (fun e : b = a => h1 (by rw [← e]; exact hb))).mpr (hs b (List.mem_cons_of_mem _ hb))
    rw [List.length_erase_of_mem ha] at q
    have := List.length_pos_of_mem ha
    rw [List.length_cons]
    omega
/-! ### the walk -/
section
variable (C : Row → Row → Bool) (st : List Row)
abbrev keysOf (D : List (Row × Nat)) : List Row := D.map (·.1)
/-- ahead of the next start: the islands of the starts l are found -/
structure Outer (l : List Row) (D : List (Row × Nat)) : Prop where
  keys : ∀ r, r ∈ keysOf D ↔ r ∈ st ∧ ∃ q ∈ reps C l, C q r = true
  val : ∀ p ∈ D, p.2 = home C st p.1
  nd : (keysOf D).Nodup
/-- within the island of s: the neighbours todo of v are still to be looked at -/
structure Inner (ed : Row → Row → Prop) (l : List Row) (s v : Row) (todo : List Row) (D : List (Row × Nat)) (fresh : List Row) : Prop where
  sub : ∀ r ∈ keysOf D, r ∈ st ∧ ((∃ q ∈ reps C l, C q r = true) ∨ C s r = true)
  old : ∀ r ∈ st, (∃ q ∈ reps C l, C q r = true) → r ∈ keysOf D
  has : s ∈ keysOf D
  val : ∀ p ∈ D, p.2 = home C st p.1
  nd : (keysOf D).Nodup
  fr : ∀ f ∈ fresh, f ∈ keysOf D ∧ C s f = true
  td : ∀ t ∈ todo, t ∈ st ∧ C s t = true
  cl : ∀ u ∈ keysOf D, C s u = true → u ∉ fresh → ∀ t, ed u t → (u = v ∧ t ∈ todo) ∨ t ∈ keysOf D
end
section
variable {C : Row → Row → Bool} {st l m : List Row} {ed : Row → Row → Prop} {s v t : Row} {todo fresh : List Row} {D : List (Row × Nat)}
theorem nd_snoc {α : Type} {l : List α} {k : α} (h : l.Nodup) (hk : k ∉ l) : (l ++ [k]).Nodup := by
  refine List.nodup_append.mpr ⟨h, List.nodup_cons.mpr ⟨List.not_mem_nil, List.nodup_nil⟩, fun a ha b hb e => ?_⟩
  rw [List.mem_singleton.mp hb] at e
  exact hk (e ▸ ha)
theorem keys_snoc {k : Row} {n : Nat} : keysOf (D ++ [(k, n)]) = keysOf D ++ [k] := by simp [keysOf]
theorem mem_snoc {r k : Row} {n : Nat} : r ∈ keysOf (D ++ [(k, n)]) ↔ r ∈ keysOf D ∨ r = k := by
  rw [keys_snoc, List.mem_append, List.mem_singleton]
theorem Outer.init : Outer C st [] [] :=
  ⟨fun r => ⟨fun h => absurd h List.not_mem_nil, fun ⟨_, q, hq, _⟩ => absurd hq List.not_mem_nil⟩, fun _ h => absurd h List.not_mem_nil, List.nodup_nil⟩
/-- the start stands on a known island -/
theorem Outer.skip (O : Outer C st l D) (h : s ∈ keysOf D) : Outer C st (l ++ [s]) D := by
  have q := ((O.keys s).mp h).2
  have e : reps C (l ++ [s]) = reps C l := by rw [reps_snoc, repStep_yes q]
  exact ⟨fun r => by rw [e]; exact O.keys r, O.val, O.nd⟩
theorem Outer.no (O : Outer C st l D) (hs : s ∈ st) (h : s ∉ keysOf D) : ¬ ∃ r ∈ reps C l, C r s = true := fun q => h ((O.keys s).mpr ⟨hs, q⟩)
/-- a new island is begun -/
theorem Outer.start (E : Eqv C) (O : Outer C st l D) (hst : st = l ++ s :: m) (h : s ∉ keysOf D) : Inner C st ed l s s [] (D ++ [(s, (reps C l).length)]) [s] := by
  have hs : s ∈ st := by
    rw [hst]
    simp
  have hno := O.no hs h
  refine ⟨fun r hr => ?_, fun r hr q => mem_snoc.mpr (.inl ((O.keys r).mpr ⟨hr, q⟩)), mem_snoc.mpr (.inr rfl), fun p hp => ?_, ?_, fun f hf => ?_, fun t ht => absurd ht List.not_mem_nil, fun u hu hC hn => ?_⟩
  · rcases mem_snoc.mp hr with hr | hr
    · obtain ⟨a, b⟩ := (O.keys r).mp hr
      exact ⟨a, .inl b⟩
    · subst hr
      exact ⟨hs, .inr (E.refl _)⟩
  · rcases List.mem_append.mp hp with hp | hp
    · exact O.val p hp
    · rw [List.mem_singleton.mp hp, hst]
      exact (home_new E hno (E.refl s)).symm
  · rw [keys_snoc]
    exact nd_snoc O.nd h
  · rw [List.mem_singleton.mp hf]
    exact ⟨mem_snoc.mpr (.inr rfl), E.refl s⟩
  · exfalso
    rcases mem_snoc.mp hu with hu | hu
    · obtain ⟨_, q, hq, e⟩ := (O.keys u).mp hu
      exact hno ⟨q, hq, E.trans _ _ _ e (E.symm _ _ hC)⟩
    · exact hn (List.mem_singleton.mpr hu)
/-- a state is taken off the pile -/
theorem Inner.pop (I : Inner C st ed l s v [] D (fresh ++ [t])) (h1 : ∀ u, ed t u → u ∈ todo) (h2 : ∀ u ∈ todo, u ∈ st ∧ C s u = true) : Inner C st ed l s t todo D fresh := by
  refine ⟨I.sub, I.old, I.has, I.val, I.nd, fun f hf => I.fr f (List.mem_append_left _ hf), h2, fun u hu hC hn w hw => ?_⟩
  by_cases e : u = t
  · subst e
    exact .inl ⟨rfl, h1 w hw⟩
  · rcases I.cl u hu hC (fun q => (List.mem_append.mp q).elim hn fun z => e (List.mem_singleton.mp z)) w hw with ⟨_, q⟩ | q
    · exact absurd q List.not_mem_nil
    · exact .inr q
theorem Inner.known (I : Inner C st ed l s v (t :: todo) D fresh) (h : t ∈ keysOf D) : Inner C st ed l s v todo D fresh := by
  refine ⟨I.sub, I.old, I.has, I.val, I.nd, I.fr, fun u hu => I.td u (List.mem_cons_of_mem _ hu), fun u hu hC hn w hw => ?_⟩
  rcases I.cl u hu hC hn w hw with ⟨a, q⟩ | q
  · rcases List.mem_cons.mp q with q | q
    · subst q
      exact .inr h
    · exact .inl ⟨a, q⟩
  · exact .inr q
theorem Inner.add (E : Eqv C) (I : Inner C st ed l s v (t :: todo) D fresh) (hst : st = l ++ s :: m) (hno : ¬ ∃ r ∈ reps C l, C r s = true) (h : t ∉ keysOf D) : Inner C st ed l s v todo (D ++ [(t, (reps C l).length)]) (fresh ++ [t]) := by
  obtain ⟨ht, hC⟩ := I.td t List.mem_cons_self
  refine ⟨fun r hr => ?_, fun r hr q => mem_snoc.mpr (.inl (I.old r hr q)), mem_snoc.mpr (.inl I.has), fun p hp => ?_, ?_, fun f hf => ?_, fun u hu => I.td u (List.mem_cons_of_mem _ hu), fun u hu hCu hn w hw => ?_⟩
  · rcases mem_snoc.mp hr with hr | hr
    · exact I.sub r hr
    · subst hr
      exact ⟨ht, .inr hC⟩
  · rcases List.mem_append.mp hp with hp | hp
    · exact I.val p hp
    · rw [List.mem_singleton.mp hp, hst]
      exact (home_new E hno hC).symm
  · rw [keys_snoc]
    exact nd_snoc I.nd h
  · rcases List.mem_append.mp hf with hf | hf
    · exact ⟨mem_snoc.mpr (.inl (I.fr f hf).1), (I.fr f hf).2⟩
    · rw [List.mem_singleton.mp hf]
      exact ⟨mem_snoc.mpr (.inr rfl), hC⟩
  · have hut : u ≠ t := fun e => hn (List.mem_append_right _ (List.mem_singleton.mpr e))
    rcases mem_snoc.mp hu with hu | hu
    · rcases I.cl u hu hCu (fun q => hn (List.mem_append_left _ q)) w hw with ⟨a, q⟩ | q
      · rcases List.mem_cons.mp q with q | q
        · subst q
          exact .inr (mem_snoc.mpr (.inr rfl))
        · exact .inl ⟨a, q⟩
      · exact .inr (mem_snoc.mpr (.inl q))
    · exact absurd hu hut
/-- the island is whole -/
theorem Inner.done {lot : List Int} (E : Eqv (cn st lot)) (I : Inner (cn st lot) st (Edge st lot) l s v [] D []) (hno : ¬ ∃ r ∈ reps (cn st lot) l, cn st lot r s = true) : Outer (cn st lot) st (l ++ [s]) D := by
  have all : ∀ r, Conn st lot s r → r ∈ keysOf D := by
    intro r h
    induction h with
    | refl => exact I.has
    | @step a b hc e ih =>
      rcases I.cl a ih (cn_iff.mpr hc) List.not_mem_nil b e with ⟨_, q⟩ | q
      · exact absurd q List.not_mem_nil
      · exact q
  have e : reps (cn st lot) (l ++ [s]) = reps (cn st lot) l ++ [s] := by rw [reps_snoc, repStep_no hno]
  refine ⟨fun r => ⟨fun hr => ?_, fun ⟨hr, q, hq, hc⟩ => ?_⟩, I.val, I.nd⟩
  · obtain ⟨a, b⟩ := I.sub r hr
    refine ⟨a, ?_⟩
    rw [e]
    rcases b with ⟨q, hq, hc⟩ | b
    · exact ⟨q, List.mem_append_left _ hq, hc⟩
    · exact ⟨s, List.mem_append_right _ (List.mem_singleton.mpr rfl), b⟩
  · rw [e] at hq
    rcases List.mem_append.mp hq with hq | hq
    · exact I.old r hr ⟨q, hq, hc⟩
    · rw [List.mem_singleton.mp hq] at hc
      exact all r (cn_iff.mp hc)
theorem Outer.fin (E : Eqv C) (O : Outer C st st D) : (∀ r, r ∈ keysOf D ↔ r ∈ st) ∧ (∀ p ∈ D, p.2 = home C st p.1) ∧ (keysOf D).Nodup :=
  ⟨fun r => ⟨fun h => ((O.keys r).mp h).1, fun h => (O.keys r).mpr ⟨h, reps_cover E st h⟩⟩, O.val, O.nd⟩
theorem Inner.len (I : Inner C st ed l s v todo D fresh) : D.length ≤ st.length := by
  have h : (keysOf D).length ≤ st.length := sub_len I.nd fun r hr => (I.sub r hr).1
  rw [List.length_map] at h
  exact h
end
end K13
/-! K13Spec -/
set_option autoImplicit true
set_option Elab.async false
set_option linter.all false
set_option maxRecDepth 100000
set_option maxHeartbeats 2000000
namespace K13
open PySem PySem.Spec PyProof.Rows L2
def rowK (r : List Int) : List L2.Key := r.map Sum.inl
theorem rowK_kV {r : List Int} : (rowK r).map kV = iV r := by simp [rowK, iV, Function.comp_def, kV]
theorem rowK_inj {r t : List Int} (h : rowK r = rowK t) : r = t := by
  induction r generalizing t with
  | nil =>
    cases t with
    | nil => rfl
    | cons a b => simp [rowK] at h
  | cons a r ih =>
    cases t with
    | nil => simp [rowK] at h
    | cons b t =>
      simp only [rowK, List.map_cons, List.cons.injEq, Sum.inl.injEq] at h
      rw [h.1, ih h.2]
/-! ### the deal: a list [its numbers, a number] -/
def Dl (d l : Addr) (H : Hp) : Prop := ∃ (xs : List Int) (b : Int), H d = some (.lst [.ref l, .int b]) ∧ H l = some (.lst (iV xs)) ∧ (∀ x ∈ xs, 0 ≤ x) ∧ xs.length ≤ 48 ∧ 0 ≤ b ∧ b < 2147483647
theorem Dl.fr {d l : Addr} {ds : List Addr} {H H' : Hp} (f : Fr ds H H') (h : Dl d l H) (n1 : d ∉ ds) (n2 : l ∉ ds) : Dl d l H' := by
  obtain ⟨xs, b, h1, h2, h3⟩ := h
  exact ⟨xs, b, f.keep _ _ n1 h1, f.keep _ _ n2 h2, h3⟩
theorem Dl.same {d l : Addr} {H H' : Hp} (f : Fr [] H H') (h : Dl d l H) : Dl d l H' := h.fr f (fun q => nomatch q) (fun q => nomatch q)
/-! ### dicts by rows -/
/-- by a state: the changed keys and the neighbours -/
structure NbAt (H : Hp) (st : List Row) (r : Row) (l : Addr) : Prop where
  ex : ∃ es : List (Addr × Int × Addr × Row), H l = some (.lst (es.map fun e => V.ref e.1)) ∧ (∀ e ∈ es, H e.1 = some (.tup [.int e.2.1, .ref e.2.2.1]) ∧ H e.2.2.1 = some (.tup (iV e.2.2.2))) ∧ es.length ≤ 400 ∧
    ∀ k t, (∃ e ∈ es, e.2.1 = k ∧ e.2.2.2 = t) ↔ t ∈ st ∧ apart r t = [k]
theorem NbAt.fr {ds : List Addr} {H H' : Hp} {st : List Row} {r : Row} {l : Addr} (f : Fr ds H H') (h : NbAt H st r l) (n : l ∉ ds) : NbAt H' st r l := by
  obtain ⟨es, h1, h2, h3⟩ := h.ex
  exact ⟨es, f.keep _ _ n h1, fun e he => ⟨f.tup _ _ (h2 e he).1, f.tup _ _ (h2 e he).2⟩, h3⟩
def nearKV (bs : List (Row × Addr)) : List (List L2.Key × V) := bs.map fun p => (rowK p.1, V.ref p.2)
structure NearAt (H : Hp) (st : List Row) (av : List Addr) (n : Addr) : Prop where
  ex : ∃ bs : List (Row × Addr), H n = some (.dT (nearKV bs)) ∧ bs.map (·.1) = st ∧ ∀ p ∈ bs, p.2 ∉ av ∧ NbAt H st p.1 p.2
def homesKV (D : List (Row × Nat)) : List (List L2.Key × V) := D.map fun p => (rowK p.1, V.int p.2)
/-- by a state: the number of its island -/
structure HomesAt (H : Hp) (st : List Row) (lot : List Int) (n : Addr) : Prop where
  ex : ∃ D : List (Row × Nat), H n = some (.dT (homesKV D)) ∧ (∀ r, r ∈ keysOf D ↔ r ∈ st) ∧ (∀ p ∈ D, p.2 = home (cn st lot) st p.1) ∧ (keysOf D).Nodup
theorem NearAt.fr {ds : List Addr} {H H' : Hp} {st : List Row} {av : List Addr} {n : Addr} (f : Fr ds H H') (hd : ∀ d ∈ ds, (∀ kvs, H d ≠ some (.dT kvs)) ∧ ((∀ xs, H d ≠ some (.lst xs)) ∨ d ∈ av)) (h : NearAt H st av n) : NearAt H' st av n := by
  obtain ⟨bs, h1, h2, h3⟩ := h.ex
  refine ⟨bs, f.keep _ _ (fun q => (hd n q).1 _ h1) h1, h2, fun p hp => ⟨(h3 p hp).1, (h3 p hp).2.fr f fun q => ?_⟩⟩
  rcases (hd _ q).2 with z | z
  · obtain ⟨es, e1, _⟩ := (h3 p hp).2.ex
    exact z _ e1
  · exact (h3 p hp).1 z
theorem HomesAt.fr {ds : List Addr} {H H' : Hp} {st : List Row} {lot : List Int} {n : Addr} (f : Fr ds H H') (hd : ∀ d ∈ ds, ∀ kvs, H d ≠ some (.dT kvs)) (h : HomesAt H st lot n) : HomesAt H' st lot n := by
  obtain ⟨D, h1, h2⟩ := h.ex
  exact ⟨D, f.keep _ _ (fun q => hd n q _ h1) h1, h2⟩
/-! ### what the lots are, and which are whole -/
/-- the values of the row on the keys -/
def seenOn (lot : List Int) (r : Row) : List Int := lot.map fun k => r.getD k.toNat 0
def restOf (n : Nat) (lot : List Int) : List Int := ((List.range n).map Int.ofNat).filter fun k => !lot.contains k
/-- states of one view are of one island -/
def IsWhole (n : Nat) (st : List Row) (lot : List Int) : Prop := ∀ s ∈ st, ∀ t ∈ st, seenOn (restOf n lot) s = seenOn (restOf n lot) t → home (cn st lot) st s = home (cn st lot) st t
noncomputable def isWhole (n : Nat) (st : List Row) (lot : List Int) : Bool := @decide (IsWhole n st lot) (Classical.propDecidable _)
theorem isWhole_yes {n : Nat} {st : List Row} {lot : List Int} (h : IsWhole n st lot) : isWhole n st lot = true := by
  unfold isWhole
  exact (@decide_eq_true_iff _ (Classical.propDecidable _)).mpr h
theorem isWhole_no {n : Nat} {st : List Row} {lot : List Int} (h : ¬ IsWhole n st lot) : isWhole n st lot = false := by
  unfold isWhole
  exact (@decide_eq_false_iff_not _ (Classical.propDecidable _)).mpr h
def genL : Nat → List (List Int)
  | 0 => [[]]
  | k + 1 => genL k ++ (genL k).map fun r => r ++ [(k : Int)]
def lotsOf (n : Nat) : List (List Int) := srt (genL n)
noncomputable def allWhole (n : Nat) (st : List Row) : Bool := (lotsOf n).all fun lot => isWhole n st lot
/-! ### the store -/
/-- what the store has found so far is right -/
def OkV (H : Hp) (n : Nat) (st : List Row) (av : List Addr) (k : NestedKey) (v : V) : Prop :=
  (k = .text "near" ∧ ∃ a, v = .ref a ∧ NearAt H st av a) ∨ (∃ lot : List Int, k = .tup [.text "homes", .tup (lot.map .num)] ∧ lot ∈ genL n ∧ ∃ a, v = .ref a ∧ HomesAt H st lot a) ∨ (k = .text "joined" ∧ v = .bl (allWhole n st))
theorem OkV.fr {ds : List Addr} {H H' : Hp} {n : Nat} {st : List Row} {av : List Addr} {k : NestedKey} {v : V} (f : Fr ds H H') (hd : ∀ d ∈ ds, (∀ kvs, H d ≠ some (.dT kvs)) ∧ ((∀ xs, H d ≠ some (.lst xs)) ∨ d ∈ av)) (h : OkV H n st av k v) : OkV H' n st av k v := by
  rcases h with ⟨e, a, ev, h⟩ | ⟨lot, e, eg, a, ev, h⟩ | h
  · exact .inl ⟨e, a, ev, h.fr f hd⟩
  · exact .inr (.inl ⟨lot, e, eg, a, ev, h.fr f fun d q => (hd d q).1⟩)
  · exact .inr (.inr h)
/-- the store's class and addresses; P: the table of the code objects of homes -/
structure Sto where
  a : Addr
  C : Addr
  dx : Addr
  tz : Addr
  ts : Addr
  ix : Addr
  fd : Addr
  P : Addr
def lamQ : Str := "homes.<locals>.<lambda>"
theorem tabS_fr {ds : List Addr} {H H' : Hp} {P : Addr} {q : Str} (f : Fr ds H H') (hd : ∀ d ∈ ds, ∀ u, H d = some u → (∀ ps, u ≠ .tbl ps) ∧ ∀ φ, u ≠ .ext φ) (h : LamX.TabS H P q) : LamX.TabS H' P q := by
  obtain ⟨ps, h1, h2, h3⟩ := h
  refine ⟨ps, f.keep _ _ (fun z => (hd P z _ h1).1 ps rfl) h1, h2, fun pos cv hc => ?_⟩
  obtain ⟨c, e1, e2⟩ := h3 pos cv hc
  refine ⟨c, e1, f.keep _ _ (fun z => ?_) e2⟩
  unfold LamX.CodeO at e2
  exact (hd c z _ e2).2 _ rfl
def ixKV (ps : List (Addr × Row)) : List (List L2.Key × V) := ps.zipIdx.map fun p => (rowK p.1.2, V.int (p.2 : Nat))
structure StAt (w : World) (H : Hp) (S : Sto) (sizes : List Int) (ps : List (Addr × Row)) (av : List Addr) (kvs : List FEnt) : Prop where
  ins : H S.a = some (.ins S.C S.dx [("key_count", .int sizes.length), ("sizes", .ref S.tz), ("states", .ref S.ts), ("_index", .ref S.ix), ("_found", .ref S.fd)])
  hz : H S.tz = some (.tup (iV sizes))
  hs : H S.ts = some (.tup (rV ps))
  rw : RwL H ps
  ix : H S.ix = some (.dT (ixKV ps))
  fdo : H S.fd = some (FdO w S.fd kvs)
  fdk : FdK H kvs
  fdn : (kvs.map (·.1)).Nodup
  fdv : ∀ e ∈ kvs, OkV H sizes.length (rR ps) av e.1 e.2.2
  tab : LamX.TabS H S.P lamQ
  ava : ∀ x ∈ av, ∃ xs, H x = some (.lst xs)
theorem StAt.fr {w : World} {H H' : Hp} {S : Sto} {sizes : List Int} {ps : List (Addr × Row)} {av ds : List Addr} {kvs : List FEnt} (f : Fr ds H H') (hd : ∀ d ∈ ds, d ∈ av ∧ ∃ xs, H' d = some (.lst xs)) (h : StAt w H S sizes ps av kvs) : StAt w H' S sizes ps av kvs := by
  have hl : ∀ d ∈ ds, ∃ xs, H d = some (.lst xs) := fun d z => h.ava d (hd d z).1
  exact {
    ins := f.keep _ _ (fun q => by obtain ⟨xs, e⟩ := hl _ q; rw [h.ins] at e; cases e) h.ins
    hz := f.tup _ _ h.hz
    hs := f.tup _ _ h.hs
    rw := h.rw.fr f
    ix := f.keep _ _ (fun q => by obtain ⟨xs, e⟩ := hl _ q; rw [h.ix] at e; cases e) h.ix
    fdo := f.keep _ _ (fun q => by obtain ⟨xs, e⟩ := hl _ q; rw [h.fdo] at e; cases e) h.fdo
    fdk := fun p hp => (h.fdk p hp).mono f.tup
    fdn := h.fdn
    fdv := fun e he => (h.fdv e he).fr f fun d q => by
      obtain ⟨xs, e⟩ := hl d q
      exact ⟨fun kvs z => (by rw [e] at z; cases z), .inr (hd d q).1⟩
    tab := tabS_fr f (fun d q u hu => by
      obtain ⟨xs, e⟩ := hl d q
      rw [e] at hu
      cases hu
      exact ⟨fun _ z => (nomatch z), fun _ z => (nomatch z)⟩) h.tab
    ava := fun x hx => by
      by_cases q : x ∈ ds
      · exact (hd x q).2
      · obtain ⟨xs, e⟩ := h.ava x hx
        exact ⟨xs, f.keep _ _ q e⟩ }
theorem StAt.same {w : World} {H H' : Hp} {S : Sto} {sizes : List Int} {ps : List (Addr × Row)} {av : List Addr} {kvs : List FEnt} (f : Fr [] H H') (h : StAt w H S sizes ps av kvs) : StAt w H' S sizes ps av kvs := h.fr f fun _ z => nomatch z
/-- the keys that may have come -/
def Grow (A : NestedKey → Prop) (kvs kvs' : List FEnt) : Prop := ∀ k ∈ kvs'.map (·.1), k ∈ kvs.map (·.1) ∨ A k
theorem Grow.refl {A : NestedKey → Prop} {kvs : List FEnt} : Grow A kvs kvs := fun _ h => .inl h
theorem Grow.trans {A : NestedKey → Prop} {k1 k2 k3 : List FEnt} (h : Grow A k1 k2) (g : Grow A k2 k3) : Grow A k1 k3 := fun k hk => (g k hk).elim (h k) .inr
theorem Grow.imp {A B : NestedKey → Prop} {k1 k2 : List FEnt} (h : Grow A k1 k2) (hi : ∀ k, A k → B k) : Grow B k1 k2 := fun k hk => (h k hk).imp id (hi k)
/-- the keys, the sizes, the states -/
structure Shape (sizes : List Int) (st : List Row) : Prop where
  few : sizes.length ≤ 4
  pos : 1 ≤ sizes.length
  small : ∀ s ∈ sizes, 1 ≤ s ∧ s ≤ 4
  box : ∀ r ∈ st, InBox sizes r
  asc : st.Pairwise fun a b => a < b
  ne : st ≠ []
  many : st.length ≤ 24
/-- a lot as it is checked: ascending keys -/
def LotOk (n : Nat) (lot : List Int) : Prop := lot.Pairwise (· < ·) ∧ ∀ k ∈ lot, 0 ≤ k ∧ k < n
end K13
/-! K13Kx -/
set_option autoImplicit true
set_option Elab.async false
set_option linter.all false
set_option maxRecDepth 100000
set_option maxHeartbeats 2000000
namespace K13
open PySem PySem.Spec PyProof.Rows L2
theorem rf_yes {p : Nat → Bool} {i : Nat} (h : p i = true) : (List.range (i + 1)).filter p = (List.range i).filter p ++ [i] := by
  rw [List.range_succ, List.filter_append, List.filter_cons, if_pos h]
  rfl
theorem rf_no {p : Nat → Bool} {i : Nat} (h : p i = false) : (List.range (i + 1)).filter p = (List.range i).filter p := by
  rw [List.range_succ, List.filter_append, List.filter_cons, if_neg (by rw [h]; exact Bool.false_ne_true)]
  exact List.append_nil _
theorem tf_yes {α : Type} {l : List α} {p : α → Bool} {i : Nat} {x : α} (hx : l[i]? = some x) (h : p x = true) : (l.take (i + 1)).filter p = (l.take i).filter p ++ [x] := by
  rw [take_snoc hx, List.filter_append, List.filter_cons, if_pos h]
  rfl
theorem tf_no {α : Type} {l : List α} {p : α → Bool} {i : Nat} {x : α} (hx : l[i]? = some x) (h : p x = false) : (l.take (i + 1)).filter p = (l.take i).filter p := by
  rw [take_snoc hx, List.filter_append, List.filter_cons, if_neg (by rw [h]; exact Bool.false_ne_true)]
  exact List.append_nil _
theorem tm_snoc {α β : Type} {l : List α} {g : α → β} {i : Nat} {x : α} (hx : l[i]? = some x) : (l.take (i + 1)).map g = (l.take i).map g ++ [g x] := by
  rw [take_snoc hx, List.map_append]
  rfl
theorem RwL.new {H : Hp} {ps : List (Addr × List Int)} {p : Addr} {o : HO} (hp : H p = none) (h : RwL H ps) : RwL (upd H p o) ps := h.fr (ds := []) (.new hp)
theorem RwL.app {H : Hp} {ps qs : List (Addr × List Int)} (h : RwL H ps) (g : RwL H qs) : RwL H (ps ++ qs) := fun z hz => by
  rcases List.mem_append.mp hz with hz | hz
  · exact h z hz
  · exact g z hz
theorem rV_app {ps qs : List (Addr × List Int)} : rV (ps ++ qs) = rV ps ++ rV qs := List.map_append
theorem rR_app {ps qs : List (Addr × List Int)} : rR (ps ++ qs) = rR ps ++ rR qs := List.map_append
theorem fresh_of {H H' : Hp} {p : Addr} (f : Fr [] H H') (h : H' p = none) : H p = none := by
  cases e : H p with
  | none => rfl
  | some o => exact absurd (f.keep p o (fun z => nomatch z) e) (by rw [h]; exact fun z => nomatch z)
theorem cat_row {K : PySem.W.Frag} {H : Hp} {Q : VK} {a b : Addr} {r t : List Int} (ha : H a = some (.tup (iV r))) (hb : H b = some (.tup (iV t))) (hl : r.length + t.length ≤ 1000) (ht : t ≠ [])
    (q : ∀ H' c, Fr [] H H' → H' c = some (.tup (iV (r ++ t))) → Q (.ref c) H') : rCatA K (.ref a) (.ref b) H Q := by
  refine ⟨a, b, iV r, iV t, rfl, rfl, SqT.of ha, SqT.of hb, by rw [iV_len, iV_len]; exact Nat.le_trans hl (by decide), fun e => ?_, fun _ e => ?_, fun _ _ p hp => ?_⟩
  · have er : r = [] := by simpa [iV] using e
    exact q H b .refl (by rw [er]; exact hb)
  · exact absurd (by simpa [iV] using e) ht
  · exact q _ p (.new hp) (by rw [upd_same, iV, iV, iV, List.map_append])
/-! ### the rules with K named: for use within a comprehension -/
section
variable {X : Cx} (K : PySem.W.Frag) (hK : X.K = K := by rfl)
include hK
theorem ixT : IxR X (rIxT K) := hK ▸ ix_tup
theorem ixL : IxR X (rIxL K) := hK ▸ ix_list
theorem inS : OpR X (compareOp .In) (rIn K false) := hK ▸ op_in_seq
theorem ninS : OpR X (compareOp .NotIn) (rIn K true) := hK ▸ op_notIn_seq
theorem catA : OpR X (binaryOp .Add) (rCatA K) := hK ▸ op_catA
theorem slA : SlR X (rSlA K) := hK ▸ sl_tupA
theorem slL : SlR X (rSlL K) := hK ▸ sl_list
theorem inD {n : Nat} (hr : Room n X.A) : OpR X (compareOp .In) (rInD K) := hK ▸ op_inD (by have := hr.un; omega)
theorem ninD {n : Nat} (hr : Room n X.A) : OpR X (compareOp .NotIn) (rNotInD K) := hK ▸ op_notInD (by have := hr.un; omega)
end
section
variable {X : Cx} {e a b : Expr} {te ta tb : TE} {p p2 pos pos2 : Pos} {kk : Nat}
theorem k_len (K : PySem.W.Frag) (B : Bt X.mg) (ha : PE X e te) (hK : X.K = K := by rfl) (hg : Gl X "len" := by rfl) (hs : starEach [e] X.env = (false, eval e X.env) :: starEach [] X.env := by rfl) : PE X (.Call (.Name "len" p) [e] [] pos) (tCB (rLenS K) (tCons te tNil)) :=
  hK ▸ b_len B ha hg hs
theorem k_sum (K : PySem.W.Frag) (B : Bt X.mg) (hc : X.calm = true) (ha : PE X e te) (hK : X.K = K := by rfl) (hg : Gl X "sum" := by rfl) (hs : starEach [e] X.env = (false, eval e X.env) :: starEach [] X.env := by rfl) : PE X (.Call (.Name "sum" p) [e] [] pos) (tCB (rSum K) (tCons te tNil)) :=
  hK ▸ b_sum B hc ha hg hs
theorem k_listOf (K : PySem.W.Frag) (B : Bt X.mg) (ha : PE X e te) (hK : X.K = K := by rfl) (hg : Gl X "list" := by rfl) (hs : starEach [e] X.env = (false, eval e X.env) :: starEach [] X.env := by rfl) : PE X (.Call (.Name "list" p) [e] [] pos) (tCB (rLstOf K) (tCons te tNil)) :=
  hK ▸ b_listOf B ha hg hs
theorem k_tupOf (K : PySem.W.Frag) (B : Bt X.mg) (ha : PE X e te) (hK : X.K = K := by rfl) (hg : Gl X "tuple" := by rfl) (hs : starEach [e] X.env = (false, eval e X.env) :: starEach [] X.env := by rfl) : PE X (.Call (.Name "tuple" p) [e] [] pos) (tThen te (kTup K)) :=
  hK ▸ b_tupOf B ha hg hs
theorem k_sortD {n : Nat} (K : PySem.W.Frag) (B : Bt X.mg) (hr : Room n X.A) (ha : PE X e te) (hK : X.K = K := by rfl) (hg : Gl X "sorted" := by rfl) (hs : starEach [e] X.env = (false, eval e X.env) :: starEach [] X.env := by rfl) : PE X (.Call (.Name "sorted" p) [e] [] pos) (tCB (rSortD K) (tCons te tNil)) :=
  hK ▸ b_sortD B hr ha hg hs
theorem k_fld (K : PySem.W.Frag) {fl : Str} (he : PE X e ta) (hK : X.K = K := by rfl) (hb : attributeBase e fl X.env (eval e X.env) = eval e X.env := by rfl) : PE X (.Attribute e fl pos) (tFld K ta fl) := hK ▸ pe_fld he hb
theorem k_star (K : PySem.W.Frag) {es : List Expr} {t : TA} (he : PE X e te) (h : PA X es t) (hK : X.K = K := by rfl) (hs : starEach (.Starred e p :: es) X.env = (true, eval e X.env) :: starEach es X.env := by rfl) : PA X (.Starred e p :: es) (StX.tStar K te t) := hK ▸ StX.pa_star he h hs
end
end K13
/-! K13F1 -/
set_option autoImplicit true
set_option Elab.async false
set_option linter.all false
set_option maxRecDepth 100000
set_option maxHeartbeats 2000000
namespace K13
open PySem PySem.Spec PyProof.Rows L2
/-- the store's class: its own attributes are no names of the class -/
structure SC (K : PySem.W.Frag) (C : Addr) : Prop where
  cl : Cls K C
  nKey : NoAttr K C "key_count"
  nSiz : NoAttr K C "sizes"
  nSta : NoAttr K C "states"
  nIdx : NoAttr K C "_index"
  nFnd : NoAttr K C "_found"
section
variable {P : Program} {w : World} {K : PySem.W.Frag} {mg : Str → Option Value} {base : Heap} {f : Addr} {fd : FuncData}
theorem getD_of {r : List Int} {k : Int} (h0 : 0 ≤ k) (h1 : k < r.length) : atI (iV r) k = some (.int (r.getD k.toNat 0)) := by
  obtain ⟨n, rfl⟩ := Int.eq_ofNat_of_zero_le h0
  have hn : n < r.length := by simpa using h1
  refine atI_nat ?_
  simp [iV, List.getD, hn]
def spSeenOn : Sp := fun vs H Q _ => ∃ a b r lot, vs = [.ref a, .ref b] ∧ H a = some (.tup (iV r)) ∧ H b = some (.tup (iV lot)) ∧ (∀ k ∈ lot, 0 ≤ k ∧ k < r.length) ∧ lot.length ≤ 100 ∧ ∀ H' p, Fr [] H H' → H' p = some (.tup (iV (seenOn lot r))) → Q (.ref p) H'
theorem cal_seen_on (B : Bt mg) (F : FnP K "seen_on" s_seen_on f fd) (hm : mg "seen_on" = some (.ref f)) : Cal P w K mg base 1 "seen_on" spSeenOn := by
  refine cal0 F hm sc_seen_on (fun _ _ _ _ _ _ us hl => match us, hl with | [_, _], _ => rfl) (fun vs H Q E h => ?_) (fun cdv A outer s H vs Q E hr h => ?_)
  · obtain ⟨a, b, r, lot, rfl, _⟩ := h
    rfl
  · obtain ⟨a, b, r, lot, rfl, ha, hb, hk, h100, q⟩ := h
    have nd := sc_seen_on.nd
    refine ⟨_, pss_one (ps_ret (b_tupOf B (pe_lc (own := [("key", 2)]) (g := gName 2) rfl nd (pi_tup (pv 1)) (blkOk_by (N := N_seen_on) (sc := defScope s_seen_on) (by decide +kernel))
      (fun _ _ _ _ _ => pg_name (i := 2) nd rfl (Or.inl rfl)) (fun _ _ _ _ _ => pts_nil) (fun _ _ _ _ _ => pe_ix (ixT K) (pv 0) (pv 2) (fun _ _ => rfl))))), ?_⟩
    refine ⟨_, rfl, b, rfl, ⟨_, SqT.of hb⟩, fun D hD => lcG walk_tup [] (fun i acc _ => acc = iV ((lot.take i).map fun k => r.getD k.toNat 0)) hD (by rw [iV_len]; exact Nat.lt_of_le_of_lt h100 (by decide)) rfl (fun _ _ _ _ _ _ t => t) (fun i acc H2 _ fr _ => SqT.of (fr.tup _ _ hb)) ?_ ?_⟩
    · rintro i x H2 _ acc hi hD2 fr rfl ⟨rfl, hx⟩ yes no
      obtain ⟨k, hk', rfl⟩ := iV_get hx
      have hb2 := hk k (List.mem_of_getElem? hk')
      refine ⟨rfl, ?_⟩
      refine ⟨_, rfl, _, rfl, a, _, _, _, rfl, rfl, SqT.of (fr.tup _ _ ha), getD_of hb2.1 hb2.2, ?_⟩
      exact yes _ _ hD2 fr (by rw [take_snoc hk', List.map_append, iV, iV, List.map_append]; rfl)
    · rintro acc H2 hD2 hl fr rfl
      refine .inl ⟨D, _, rfl, SqL.of hD2, fun p hp => q _ p (fr.trans (.new hp)) ?_⟩
      rw [upd_same, iV_len, List.take_length]
      rfl
def spChanged : Sp := fun vs H Q _ => ∃ a b r t k rest, vs = [.ref a, .ref b] ∧ H a = some (.tup (iV r)) ∧ H b = some (.tup (iV t)) ∧ r.length = t.length ∧ r.length ≤ 100 ∧ apart r t = k :: rest ∧ ∀ H', Fr [] H H' → Q (.int k) H'
theorem getD_nat {r : List Int} {i : Nat} (h1 : i < r.length) : atI (iV r) (0 + (i : Int)) = some (.int (r.getD i 0)) := by
  have := getD_of (r := r) (k := (i : Int)) (by omega) (by omega)
  simpa using this
theorem range_snoc (i : Nat) : List.range (i + 1) = List.range i ++ [i] := List.range_succ
theorem cal_changed_key (B : Bt mg) (F : FnP K "changed_key" s_changed_key f fd) (hm : mg "changed_key" = some (.ref f)) : Cal P w K mg base 1 "changed_key" spChanged := by
  refine cal0 F hm sc_changed_key (fun _ _ _ _ _ _ us hl => match us, hl with | [_, _], _ => rfl) (fun vs H Q E h => ?_) (fun cdv A outer s H vs Q E hr h => ?_)
  · obtain ⟨a, b, r, t, k, rest, rfl, _⟩ := h
    rfl
  · obtain ⟨a, b, r, t, k, rest, rfl, ha, hb, hl, h100, hap, q⟩ := h
    have nd := sc_changed_key.nd
    refine ⟨_, pss_one (ps_ret (pe_ix ix_list (pe_lc (own := [("key", 2)]) (g := gName 2) rfl nd (pi_range1 rfl B.range (pa_cons (b_len B (pv 0)) pa_nil)) (blkOk_by (N := N_changed_key) (sc := defScope s_changed_key) (by decide +kernel))
      (fun _ _ _ _ _ => pg_name (i := 2) nd rfl (Or.inl rfl)) (fun _ _ _ _ _ => pts_one (pt_cmpR op_ne (pe_ix (ixT K) (pv 0) (pv 2) (fun _ _ => rfl)) (pe_ix (ixT K) (pv 1) (pv 2) (fun _ _ => rfl)) (nomark _))) (fun _ _ _ _ _ => pv 2)) pe_int (fun _ _ => rfl))), ?_⟩
    have er : (((iV r).length : Int).toNat) = r.length := by rw [iV_len]; omega
    refine ⟨_, rfl, a, _, rfl, .inr (SqT.of ha), _, rfl, by omega, by rw [iV_len]; omega, fun D hD => lcG walk_range [] (fun i acc _ => acc = iV (((List.range i).filter fun j => decide (r.getD j 0 ≠ t.getD j 0)).map Int.ofNat)) hD (by rw [er]; exact Nat.lt_of_le_of_lt h100 (by decide)) rfl (fun _ _ _ _ _ _ t => t) (fun i acc H2 _ fr _ => True.intro) ?_ ?_⟩
    · rintro i x H2 _ acc hi hD2 fr rfl ⟨rfl, rfl⟩ yes no
      rw [er] at hi
      refine ⟨rfl, ?_⟩
      refine ⟨_, rfl, _, rfl, a, _, _, _, rfl, rfl, SqT.of (fr.tup _ _ ha), getD_nat hi, ?_⟩
      refine ⟨_, rfl, _, rfl, b, _, _, _, rfl, rfl, SqT.of (fr.tup _ _ hb), getD_nat (by omega), ?_⟩
      refine ⟨rfl, _, rfl, ?_⟩
      by_cases hx : r.getD i 0 = t.getD i 0
      · have e : (!decide (V.int (r.getD i 0) = V.int (t.getD i 0))) = false := by rw [hx]; simp
        rw [e]
        refine no _ hD2 fr ?_
        rw [rf_no (decide_eq_false fun z => z hx)]
      · have e : (!decide (V.int (r.getD i 0) = V.int (t.getD i 0))) = true := by rw [decide_eq_false (fun z => hx (V.int.inj z))]; rfl
        rw [e]
        refine ⟨_, rfl, ?_⟩
        refine yes _ _ hD2 fr ?_
        rw [rf_yes (decide_eq_true hx)]
        simp [iV]
    · rintro acc H2 hD2 hl fr rfl
      rw [er] at hD2
      refine ⟨D, _, 0, _, rfl, rfl, SqL.of hD2, ?_, q H2 fr⟩
      show atI (iV (apart r t)) 0 = _
      rw [hap]
      exact atI_nat (j := 0) rfl
end
end K13
/-! K13RuleD -/
set_option autoImplicit true
set_option Elab.async false
set_option linter.all false
set_option maxRecDepth 100000
set_option maxHeartbeats 4000000
namespace K13
open PySem PySem.Spec PyProof.Rows L2
/-! ### xs == [], xs != []; max of a tuple -/
section
variable {X : Cx}
def rIsNil (neg : Bool) : R2 := fun x y H Q => ∃ a b xs, x = .ref a ∧ y = .ref b ∧ H a = some (.lst xs) ∧ H b = some (.lst []) ∧ Q (.bl (if neg then !xs.isEmpty else xs.isEmpty)) H
theorem op_eqNil {n : Nat} (hr : Room n X.A) : OpR X (compareOp .Eq) (rIsNil false) := by
  intro pins s σ H x y v u Q I rx ry h
  obtain ⟨a, b, xs, rfl, rfl, ha, hb, q⟩ := h
  cases rx
  cases ry
  obtain ⟨its, rv, hl, _⟩ := invB (k := true) I ha
  obtain ⟨its2, rv2, hl2, _⟩ := invB (k := true) I hb
  cases rv2
  have hu := hr.un
  cases xs with
  | nil =>
    cases rv
    refine SeqAt.eq_listAt (items := #[]) (items2 := #[]) (e := fun _ => true) hl hl2 rfl (by omega) (fun j h1 _ => absurd h1 (by simp)) ⟨.bl true, H, I, rfl, q⟩
  | cons x xs =>
    cases rv with
    | cons r1 r2 =>
      exact SeqAt.eq_list_lengthsAt hl hl2 (by simp) (by omega) ⟨.bl false, H, I, rfl, q⟩
theorem op_neNil {n : Nat} (hr : Room n X.A) : OpR X (compareOp .NotEq) (rIsNil true) := by
  intro pins s σ H x y v u Q I rx ry h
  obtain ⟨a, b, xs, rfl, rfl, ha, hb, q⟩ := h
  cases rx
  cases ry
  obtain ⟨its, rv, hl, _⟩ := invB (k := true) I ha
  obtain ⟨its2, rv2, hl2, _⟩ := invB (k := true) I hb
  cases rv2
  have hu := hr.un
  cases xs with
  | nil =>
    cases rv
    exact SeqAt.RcNeAt.lists (items := #[]) (items2 := #[]) (e := fun _ => true) hl hl2 rfl (by omega) (fun j h1 _ => absurd h1 (by simp)) X.prog X.w _ _ ⟨.bl false, H, I, rfl, q⟩
  | cons x xs =>
    cases rv with
    | cons r1 r2 =>
      exact SeqAt.RcNeAt.lists_lengths hl hl2 (by simp) (by omega) X.prog X.w _ _ ⟨.bl true, H, I, rfl, q⟩
end
section
variable {prog : Program} {w : World} {A : Around} {s : Shared}
/-- the record of iter(t), t a tuple -/
def tupIt (t : Addr) : Obj := { cls := .type "tuple_iterator", data := .fields #[.ref t, .int 0 0] }
/-- a new walk over a tuple: the walk, its start, that its records stand, that it leaves all else as it was -/
theorem tupWalk {t : Addr} {items : Array Value} (hh : A.handled = none) (tup : s.heap.IsTuple t items) :
    Walks prog w A s.heap.objs.size [s.heap.objs.size, t] [s.heap.objs.size] items.size (fun i v => items[i]? = some v) (fun i h => h.IsTupleIter s.heap.objs.size t i ∧ h.IsTuple t items) ∧
    ((s.heap.push (tupIt t)).IsTupleIter s.heap.objs.size t 0 ∧ (s.heap.push (tupIt t)).IsTuple t items) ∧ (∀ b ∈ [s.heap.objs.size, t], b < (s.heap.push (tupIt t)).objs.size) ∧
    ∀ h' : Heap, (∀ b o, b ∉ [s.heap.objs.size] → (s.heap.push (tupIt t)).get? b = some o → h'.get? b = some o) → ∀ b o, s.heap.get? b = some o → h'.get? b = some o := by
  have old : t < s.heap.objs.size := tup.elim fun _ z => Heap.lt_size z.1
  refine ⟨Walks.tuple hh _ t (Nat.ne_of_lt old) items, ⟨⟨_, Heap.get?_push_size _ rfl, rfl, rfl⟩, tup.push _⟩, ?_, fun h' k b o e => k b o (fun m => ?_) (Heap.get?_push_of_some _ e)⟩
  · simp only [List.forall_mem_cons, Heap.size_push]
    exact ⟨Nat.lt_succ_self _, Nat.lt_succ_of_lt old, nofun⟩
  · exact Nat.ne_of_lt (Heap.lt_size e) (List.mem_singleton.mp m)
theorem intAt {ns : List Int} {its : List Value} (rv : Vals (ns.map V.int) its) (i : Nat) (v : Value) (q : its.toArray[i]? = some v) : ∃ t, v = .int (ns.getD i 0) t := by
  have lt : i < (ns.map V.int).length := by
    rw [rv.length]
    exact (Array.getElem?_eq_some_iff.mp q).1
  have r := drawn rv lt q
  rw [List.getElem_map] at r
  rw [List.getD_eq_getElem?_getD, List.getElem?_eq_getElem (by simpa using lt)]
  exact r
end
end K13
/-! K13RuleD2 -/
set_option autoImplicit true
set_option Elab.async false
set_option linter.all false
set_option maxRecDepth 100000
set_option maxHeartbeats 4000000
namespace K13
open PySem PySem.Spec PyProof.Rows L2
section
variable {X : Cx}
def rMaxT (K : PySem.W.Frag) : List V → Hp → VK → Prop := fun vs H Q => ∃ (a : Addr) (ns : List Int), vs = [V.ref a] ∧ H a = some (.tup (ns.map V.int)) ∧ 0 < ns.length ∧ ∀ m, m ∈ ns → (∀ y, y ∈ ns → y ≤ m) → Q (.int m) H
theorem cr_maxT (hc : X.calm = true) : CallR X (.builtin "max") (rMaxT X.K) := by
  rintro pins s σ H _ _ Q I r ⟨a, ns, rfl, at_a, some, q⟩
  obtain ⟨_, rfl, rfl⟩ := r.one
  obtain ⟨its, rv, tup, _⟩ := invB (k := false) I at_a
  have len : its.toArray.size = ns.length := by rw [List.size_toArray, ← rv.length, List.length_map]
  obtain ⟨W, st, own, keeps⟩ := tupWalk (prog := X.prog) (w := X.w) (A := X.A.in1) (I.ok.hd hc) (show s.heap.IsTuple a its.toArray from tup)
  refine call_max_walk (wpAny_pyIter_tuple tup ⟨_, _, _, _, _, _, _, rfl, W, st, own, by omega, CmpOf.ints_gt (fun i => ns.getD i 0) (intAt rv), fun v h' tk best same => ?_⟩)
  obtain ⟨t, rfl⟩ := intAt rv _ _ best
  obtain ⟨low, top⟩ := argBest_gt (fun i => ns.getD i 0) (its.toArray.size - 1)
  refine ⟨.int _, H, I.kept (keeps h' same), ⟨t, rfl⟩, q _ (PySem.getD_mem (by omega)) fun y m => ?_⟩
  obtain ⟨j, lt, rfl⟩ := mem_getD m
  exact top j (by omega)
end
/-! ### setdefault on a dict with tuple keys -/
def tDSetdT (td ty tx : TE) : TE := fun σ H Q => td σ H fun x H1 => ∃ a, x = .ref a ∧ IsD H1 a ∧ ty σ H1 fun y H2 => tx σ H2 fun z H3 => ∃ (kvs : List (List L2.Key × V)) (k : List L2.Key) (b : Addr), H3 a = some (.dT kvs) ∧ y = .ref b ∧ H3 b = some (.tup (k.map kV)) ∧ kvs.length < sizeLine ∧
  (∀ v, valV kvs k = some v → Q v H3) ∧ (valV kvs k = none → Q z (upd H3 a (.dT (putK kvs k z))))
section
variable {X : Cx} {o e f : Expr} {td ty tx : TE} {apos cpos : Pos} {n : Nat}
theorem pe_dsetdT (hr : Room n X.A) (ho : PE X o td) (he : PE X e ty) (hf : PE X f tx) (m : M2 X o "setdefault" apos e f cpos) : PE X (.Call (.Attribute o "setdefault" apos) [e, f] [] cpos) (tDSetdT td ty tx) := by
  refine ⟨fun pins s σ H Q I h => wpAny_Call_method m.base m.few m.line PySem.F.plainAttrs_dict PySem.F.slot_dict_setdefault PySem.F.type_dict_setdefault (thn (ho.run pins s σ H _ I h) ?_)⟩
  rintro u s1 ⟨_, H1, I1, rx, a, rfl, dct, q1⟩
  cases rx
  have ⟨kind, tree, _⟩ := isD_at I1 dct
  refine ⟨kind, tree, m.trees ▸ Calls.callWith_builtin rfl (Calls.evalArgs_plain (Calls.spliced_cons (thn (he.run pins s1 σ H1 _ I1 q1) ?_)))⟩
  rintro u s2 ⟨_, H2, I2, ry, q2⟩
  refine Calls.spliced_cons (thn (hf.run pins s2 σ H2 _ I2 q2) ?_)
  rintro w s3 ⟨z, H3, I3, rz, kvs, k, b, at_a, rfl, at_b, few, old, new⟩
  cases ry
  obtain ⟨_, own, xs, rel, dict⟩ := dt_of I3.hok at_a
  have room := hr.un
  have len := Paired.length rel
  have found := rel.val k
  generalize e : valV kvs k = r at found
  refine Calls.spliced_nil (call_setdefault_heap (hsz := (by omega : xs.length ≤ sizeLine)) (tupleKind_room_in1 (by show X.A.units + 1 < cLine; omega)) (key_of I3.hok at_b) own dict (fun p there => ?_) fun lacks h' dict' same => ?_)
  · rw [there] at found
    match r, found with
    | some v, val => exact ⟨v, _, I3.tok _, val, old v e⟩
    | none, no => cases no
  · rw [lacks] at found
    match r, found with
    | some v, no => cases no
    | none, _ =>
      have grow := length_putK kvs k z
      obtain ⟨o, es, ep, at_o, ex, dat, ents, _, led⟩ := dict'
      have set : Inv X pins σ (upd H3 a (.dT (putK kvs k z))) { s3 with heap := h', toks := s3.toks + (tupleKind (mixKind X.prog X.w)).draws k } :=
        d_write I3 (by rw [at_a]; exact True.intro) same ⟨o, at_o⟩ ⟨by omega, own, _, (rel.put k at_b rz).keeps fun c ys at_c => (upd_ne (ne_of at_c at_a nofun)).trans at_c, o, es, ep, at_o, ex, dat, ents, led⟩
      exact ⟨z, _, set, rz, new e⟩
end
/-! ### the pairs of a locked dict with tuple keys -/
def Itit (d : Addr) (o : Obj) (kvs : List (List L2.Key × V)) : It :=
  ⟨fun i H => H d = some (.frz o (.dT kvs)) ∧ i < kvs.length, fun i H x H' => ∃ T k v q, x = .ref T ∧ kvs[i]? = some (k, v) ∧ H T = none ∧ H q = some (.tup (k.map kV)) ∧ H' = upd H T (.tup [.ref q, v]),
    fun i H => H d = some (.frz o (.dT kvs)) ∧ i = kvs.length⟩
section
variable {X : Cx} {pins : List (Addr × Obj)} {σ : L2.St} {H : Hp} {s : Shared} {d : Addr} {o : Obj}
theorem frzT2 {kvs : List (List L2.Key × V)} (I : Inv X pins σ H s) (h : H d = some (.frz o (.dT kvs))) : (d == sysModules) = false ∧ o.ExactDict ∧ ∃ es ep, (s.heap.get? d = some o ∧ o.data = .dict es ep) ∧ es.size = kvs.length ∧
    ∀ (i : Nat) (lt : i < es.size) (k : List L2.Key) (v : V), kvs[i]? = some (k, v) → ∃ q, es[i].key = .ref q ∧ RelV v es[i].val ∧ H q = some (.tup (k.map kV)) := by
  obtain ⟨at_d, _, own, xs, pr, o', es, ep, at_o, ex, dat, ents, _⟩ := I.hok d _ h
  obtain rfl : o = o' := Option.some.inj (at_d.symm.trans at_o)
  refine ⟨own, ex, es, ep, ⟨at_d, dat⟩, (size_of_entries ents).trans (Paired.length pr).symm, fun i lt k v e => ?_⟩
  obtain ⟨b, hb, tup, val⟩ := paired_get pr e
  have q := entry_at ents i
  rw [hb, Array.getElem?_eq_getElem lt] at q
  rw [Option.some.inj q]
  exact ⟨b.2.1, rfl, val.2, val.1⟩
end
section
variable {P : Program} {w : World} {K : PySem.W.Frag} {d : Addr} {o : Obj} {es : Array DictEntry} {ep : Nat}
theorem turn_itemsT {kvs : List (List L2.Key × V)} {elts : List Expr} {kk : Nat} {tpos : Pos} (it : Addr) (hod : o.data = .dict es ep) (hes : es.size = kvs.length) :
    Turn P w K (.Tuple elts kk tpos) (Itit d o kvs) [it] it (fun i h => ∃ ok ov, IsItemIter h it d i es.size ep ok ov) := by
  refine turnW (wr := [it]) (.head _) (fun _ m => m) (fun i h st b m => ?_) (fun i h h' ⟨ok, ov, z⟩ k => ⟨ok, ov, k it (.head _) _ z⟩) (fun A i s Q E ⟨_, _, z⟩ q => wpAny_pyIter_itemiter z q) fun X hP hw hc pins σ H s I i own gs st => ?_
  · obtain ⟨_, _, z⟩ := st
    cases List.mem_singleton.mp m
    exact ⟨_, z, nofun⟩
  · have lock : H d = some (.frz o (.dT kvs)) := gs.elim (·.1) (·.1)
    obtain ⟨_, ex, es', ep', ⟨at_d, dat⟩, _, ent⟩ := frzT2 I lock
    cases hod.symm.trans dat
    subst hP hw
    refine ⟨_, _, _, _, _, WalksT.rawItems (I.ok.hd hc) it d (ne_of_none lock (own it (.head _)).1) es ep, ⟨st, o, at_d, ex, dat⟩, fun h z => z.1, fun stop => stop.2.trans hes.symm, fun go => ?_⟩
    have lt : i < es.size := hes ▸ go.2
    have at_i : kvs[i]? = some kvs[i] := List.getElem?_eq_getElem go.2
    obtain ⟨q, key, val, tup⟩ := ent i lt _ _ at_i
    refine ⟨lt, [.ref q, kvs[i].2], ?_, ?_, fun T new => ⟨T, kvs[i].1, kvs[i].2, q, rfl, at_i, new, tup, rfl⟩⟩
    · show 2 ≤ sizeLine
      decide
    · rintro _ ⟨_, rfl⟩
      exact .cons key (.cons val .nil)
end
/-- e.items(): the dict is locked for the walk; ps_open gives it free again -/
def iItemsL (H0 : Hp) (td : TE) : TI := fun σ H R => td σ H fun x H1 => ∃ d kvs, x = .ref d ∧ H1 d = some (.dT kvs) ∧ ∀ o, (∀ o' u', H0 d ≠ some (.frz o' u')) → R (Itit d o kvs) (upd H1 d (.frz o (.dT kvs)))
def tOpen (H0 : Hp) (t : TS) : TS := fun D σ H => t { D with nx := fun σ' H' => ∃ d o u, H' d = some (.frz o u) ∧ (∀ o' u', H0 d ≠ some (.frz o' u')) ∧ D.nx σ' (upd H' d u) } σ H
section
variable {X : Cx}
theorem ps_open {st : Stmt} {t : TS} (h : PS X st t) : PS X st (tOpen X.H_0 t) := by
  refine ⟨fun pins s σ H D I hw => ?_⟩
  refine thn (h.run pins s σ _ _ I hw) fun f s1 q => ?_
  cases f with
  | next =>
    obtain ⟨σ', H', I2, d, o, u, e, hn, q⟩ := q
    exact ⟨σ', _, I2.unlock e hn, q⟩
  | brk => exact q
  | cont => exact q
  | ret v => exact q
theorem pi_itemsL {e : Expr} {td : TE} {apos cpos : Pos} {elts : List Expr} {kk : Nat} {tpos : Pos} (he : PE X e td) (hbase : attributeBase e "items" X.env (eval e X.env) = eval e X.env := by rfl) (hline : (apos.endLine == cpos.line) = true := by rfl) :
    PI X (.Tuple elts kk tpos) (.Call (.Attribute e "items" apos) [] [] cpos) (iItemsL X.H_0 td) := by
  refine ⟨fun pins s σ H R I h => ?_⟩
  refine wpAny_Call_method (T := "dict") (id := "dict.items") hbase rfl hline F.plainAttrs_dict F.slot_dict_items F.type_dict_items (thn (he.run pins s σ H _ I h) fun u s1 ⟨x, H1, I0, rx, d, kvs, ex, hd0, q⟩ => ?_)
  subst ex
  obtain rfl : u = Value.ref d := rx
  obtain ⟨o, I1⟩ := I0.lock hd0 True.intro
  have q := q o (I0.nofrz hd0 True.intro)
  obtain ⟨own, ex, es, ep, ⟨at_d, dat⟩, len, _⟩ := frzT2 I1 upd_same
  have raw : DT.Raw s1.heap d es ep := ⟨o, at_d, ex, dat⟩
  refine ⟨raw.typeIs, fun b z => ?_, ?_⟩
  · cases z
    exact ⟨o, at_d, ex.2.1⟩
  let view : Obj := { cls := .type "dict_items", data := .fields #[.ref d] }
  have I2 : Inv X pins σ _ { s1 with heap := s1.heap.push view } := I1.kept (t' := s1.toks) fun _ _ => Heap.get?_push_of_some _
  have fin : wpAny (model X.prog X.w) X.A (pyIter (.ref s1.heap.objs.size)) (PIE X pins σ (.Tuple elts kk tpos) R) X.xe { s1 with heap := s1.heap.push view } :=
    DT.iterI (d := d) ⟨view, Heap.get?_push_size _ rfl, rfl, rfl⟩ (raw.push _) (pi_one (tk := s1.toks) I2 _ (turn_itemsT _ dat len) ⟨.none, .none, Heap.get?_push_size _ rfl⟩ q)
  show wpAny _ _ (callWith cpos (.builtin "dict.items") [.ref d] [] []) _ X.xe s1
  exact method_meetsIn F.slot_dict_items F.entry_dict_items rfl (PySem.evalArgs_none ⟨rfl, raw.typeIs, F.args_dict_items_1 _, _, DT.meetsItems (es := es) (ep := ep) own, raw, fin⟩)
end
end K13
/-! K13RuleD3 -/
set_option autoImplicit true
set_option Elab.async false
set_option linter.all false
set_option maxRecDepth 100000
set_option maxHeartbeats 4000000
namespace K13
open PySem PySem.Spec PyProof.Rows L2
section
variable {X : Cx}
def rSumT : List V → Hp → VK → Prop := fun vs H Q => ∃ (a : Addr) (ns : List Int), vs = [V.ref a] ∧ H a = some (.tup (iV ns)) ∧ Q (.int ns.sum) H
theorem cr_sumT (hc : X.calm = true) : CallR X (.builtin "sum") rSumT := by
  rintro pins s σ H _ _ Q I r ⟨a, ns, rfl, at_a, q⟩
  obtain ⟨_, rfl, rfl⟩ := r.one
  obtain ⟨its, rv, tup, _⟩ := invB (k := false) I at_a
  have rv : Vals (ns.map V.int) its := rv
  have len : its.toArray.size = ns.length := by rw [List.size_toArray, ← rv.length, List.length_map]
  obtain ⟨W, st, own, keeps⟩ := tupWalk (prog := X.prog) (w := X.w) (A := X.A.in1) (I.ok.hd hc) (show s.heap.IsTuple a its.toArray from tup)
  refine call_sum_walkG (wpAny_pyIter_tuple tup ⟨_, _, _, _, _, _, fun i => ns.getD i 0, rfl, W, st, own, intAt rv, fun h' tk t same => ?_⟩)
  rw [preSum_getD, List.take_of_length_le (by omega)]
  exact ⟨.int _, H, I.kept (keeps h' same), ⟨t, rfl⟩, q⟩
variable {e : Expr} {te : TE} {p pos : Pos}
theorem b_sumT (B : Bt X.mg) (hc : X.calm = true) (ha : PE X e te) (hg : Gl X "sum" := by rfl) (hs : starEach [e] X.env = (false, eval e X.env) :: starEach [] X.env := by rfl) : PE X (.Call (.Name "sum" p) [e] [] pos) (tCB rSumT (tCons te tNil)) :=
  pe_callB (cr_sumT hc) hg B.sum (by decide +kernel) (pa_cons ha pa_nil hs) (he := hs)
end
/-! ### rows among rows -/
theorem lay_ints : ∀ r : List Int, PyData.canLayAll0 (r.map .int) = true
  | [] => by simp [PyData.canLayAll0]
  | _ :: r => by simp [PyData.canLayAll0, PyData.canLay0, lay_ints r]
theorem lay_rows : ∀ rs : List (List Int), PyData.canLayAll0 (rs.map dI) = true
  | [] => by simp [PyData.canLayAll0]
  | r :: rs => by
    have h : (dI r).canLay0 = true := by simp [dI, PyData.canLay0, lay_ints r]
    simp [PyData.canLayAll0, h, lay_rows rs]
theorem shaped_row (r : List Int) : SeqAt.shaped (dI r) = true := by
  have h1 := depth_row r
  have h : (dI r).canLay0 = true := by simp [dI, PyData.canLay0, lay_ints r]
  simp only [SeqAt.shaped, h, Bool.true_and, decide_eq_true_eq]
  omega
theorem depth_rows : ∀ rs : List (List Int), PyData.depthAll (rs.map dI) ≤ 2
  | [] => by simp [PyData.depthAll]
  | r :: rs => by
    have h1 := depth_row r
    have h2 := depth_rows rs
    simp only [List.map_cons, PyData.depthAll]
    omega
theorem shaped_rows (rs : List (List Int)) : SeqAt.shaped (.list (rs.map dI)) = true := by
  have h1 := depth_rows rs
  have h2 : (PyData.list (rs.map dI)).depth ≤ 64 := by
    simp only [PyData.depth]
    omega
  simp only [SeqAt.shaped, PyData.canLay0, lay_rows rs, Bool.true_and, decide_eq_true_eq]
  exact h2
theorem eqv_ints : ∀ a b : List Int, PyData.eqvAll (a.map .int) (b.map .int) = decide (a = b)
  | [], [] => by simp [PyData.eqvAll]
  | [], _ :: _ => by simp [PyData.eqvAll]
  | _ :: _, [] => by simp [PyData.eqvAll]
  | x :: a, y :: b => by
    simp only [List.map_cons, PyData.eqvAll, PyData.eqv, eqv_ints a b, List.cons.injEq]
    by_cases h1 : x = y <;> by_cases h2 : a = b <;> simp [h1, h2]
theorem eqv_row (a b : List Int) : PyData.eqv (dI a) (dI b) = decide (a = b) := by
  show PyData.eqv (.tuple (a.map .int)) (.tuple (b.map .int)) = _
  simp only [PyData.eqv]
  exact eqv_ints a b
theorem dp_rows {K : PySem.W.Frag} {H : Hp} : ∀ {ps : List (Addr × List Int)}, RwL H ps → DpAll K H (rV ps) ((rR ps).map dI)
  | [], _ => .nil
  | p :: ps, h => .cons (dp_row (h p List.mem_cons_self)) (dp_rows fun q hq => h q (List.mem_cons_of_mem _ hq))
theorem dp_lst {K : PySem.W.Frag} {H : Hp} {a : Addr} {ps : List (Addr × List Int)} (ha : H a = some (.lst (rV ps))) (h : RwL H ps) : Dp K H (.ref a) (.list ((rR ps).map dI)) := .lst (SqL.of ha) (dp_rows h)
theorem any_row (rs : List (List Int)) (r : List Int) : ((rs.map dI).any fun z => PyData.eqv z (dI r)) = decide (r ∈ rs) := by
  rw [List.any_map]
  simp only [Function.comp_def, eqv_row]
  induction rs with
  | nil => simp
  | cons x rs ih =>
    simp only [List.any_cons, ih]
    by_cases h : x = r
    · simp [h]
    · have h' : ¬ r = x := fun e => h e.symm
      simp [h, h']
/-- r in rows -/
theorem in_rows {K : PySem.W.Frag} {H : Hp} {Q : VK} {p : Addr × List Int} {a : Addr} {ps : List (Addr × List Int)} (hp : H p.1 = some (.tup (iV p.2))) (ha : H a = some (.lst (rV ps))) (h : RwL H ps) (q : Q (.bl (decide (p.2 ∈ rR ps))) H) : rInD K (.ref p.1) (.ref a) H Q :=
  ⟨dI p.2, (rR ps).map dI, dp_row hp, dp_lst ha h, shaped_row _, shaped_rows _, by rw [any_row]; exact q⟩
theorem nin_rows {K : PySem.W.Frag} {H : Hp} {Q : VK} {p : Addr × List Int} {a : Addr} {ps : List (Addr × List Int)} (hp : H p.1 = some (.tup (iV p.2))) (ha : H a = some (.lst (rV ps))) (h : RwL H ps) (q : Q (.bl (!decide (p.2 ∈ rR ps))) H) : rNotInD K (.ref p.1) (.ref a) H Q :=
  ⟨dI p.2, (rR ps).map dI, dp_row hp, dp_lst ha h, shaped_row _, shaped_rows _, by rw [any_row]; exact q⟩
end K13
/-! K13L7 -/
set_option autoImplicit true
set_option Elab.async false
set_option linter.all false
set_option maxRecDepth 100000
set_option maxHeartbeats 2000000
namespace K13
open PySem PySem.Spec PyProof.Rows L2
/-! ### one value by view -/
def Tell (view : Row → Row) (g : Row → Int) (l : List Row) : Prop := ∀ s ∈ l, ∀ t ∈ l, view s = view t → g s = g t
structure SeenI (view : Row → Row) (g : Row → Int) (l : List Row) (kvs : List (List L2.Key × V)) : Prop where
  has : ∀ r ∈ l, valV kvs (rowK (view r)) = some (.int (g r))
  of : ∀ k v, valV kvs k = some v → ∃ r ∈ l, k = rowK (view r) ∧ v = .int (g r)
  len : kvs.length ≤ l.length
section
variable {view : Row → Row} {g : Row → Int} {l : List Row} {s : Row} {kvs : List (List L2.Key × V)}
theorem SeenI.nil : SeenI view g [] [] := ⟨fun _ h => (nomatch h), fun k v h => by simp [valV] at h, Nat.le_refl _⟩
theorem SeenI.put (I : SeenI view g l kvs) (h : valV kvs (rowK (view s)) = none) : SeenI view g (l ++ [s]) (putK kvs (rowK (view s)) (.int (g s))) where
  has := fun r hr => by
    rw [valV_put]
    rcases List.mem_append.mp hr with hr | hr
    · have := I.has r hr
      by_cases e : rowK (view r) = rowK (view s)
      · rw [e, h] at this
        cases this
      · rw [if_neg e]
        exact this
    · obtain rfl : r = s := by simpa using hr
      rw [if_pos rfl]
  of := fun k v hv => by
    rw [valV_put] at hv
    by_cases e : k = rowK (view s)
    · rw [if_pos e] at hv
      cases hv
      exact ⟨s, by simp, e, rfl⟩
    · rw [if_neg e] at hv
      obtain ⟨r, hr, h1⟩ := I.of k v hv
      exact ⟨r, by simp [hr], h1⟩
  len := by
    have := length_putK kvs (rowK (view s)) (V.int (g s))
    have := I.len
    simp
    omega
theorem SeenI.same (I : SeenI view g l kvs) (h : valV kvs (rowK (view s)) = some (.int (g s))) : SeenI view g (l ++ [s]) kvs where
  has := fun r hr => by
    rcases List.mem_append.mp hr with hr | hr
    · exact I.has r hr
    · obtain rfl : r = s := by simpa using hr
      exact h
  of := fun k v hv => by
    obtain ⟨r, hr, h1⟩ := I.of k v hv
    exact ⟨r, by simp [hr], h1⟩
  len := by
    have := I.len
    simp
    omega
theorem SeenI.bad (I : SeenI view g l kvs) {v : V} (h : valV kvs (rowK (view s)) = some v) : ∃ r ∈ l, view r = view s ∧ v = .int (g r) := by
  obtain ⟨r, hr, h1, h2⟩ := I.of _ _ h
  exact ⟨r, hr, (rowK_inj h1).symm, h2⟩
theorem SeenI.fin (I : SeenI view g l kvs) : Tell view g l := fun s hs t ht e => by
  have h1 := I.has s hs
  have h2 := I.has t ht
  rw [e, h2] at h1
  exact (V.int.inj (Option.some.inj h1)).symm
end
theorem take_len_le2 {α : Type} (l : List α) (i : Nat) : (l.take i).length ≤ l.length := by simp; omega
theorem seenOn_len {lot : List Int} {r : Row} : (seenOn lot r).length = lot.length := by simp [seenOn]
section
variable {P : Program} {w : World} {K : PySem.W.Frag} {mg : Str → Option Value} {base : Heap} {f : Addr} {fd : FuncData}
theorem rowsAt {ps : List (Addr × List Int)} {i : Nat} (h : i < ps.length) : ∃ p, ps[i]? = some p := ⟨ps[i], List.getElem?_eq_getElem h⟩
def spTells : Sp := fun vs H Q _ => ∃ k a b c ps g lot, vs = [.ref a, .ref b, .ref c] ∧ H a = some (.lst (rV ps)) ∧ RwL H ps ∧ ps.length ≤ 100 ∧ SqB k H b (iV ((rR ps).map g)) ∧ H c = some (.lst (iV lot)) ∧ lot.length ≤ 100 ∧ (∀ r ∈ rR ps, ∀ k ∈ lot, 0 ≤ k ∧ k < r.length) ∧
  (Tell (seenOn lot) g (rR ps) → ∀ H', Fr [] H H' → Q (.bl true) H') ∧ (¬ Tell (seenOn lot) g (rR ps) → ∀ H', Fr [] H H' → Q (.bl false) H')
theorem cal_l_tells (B : Bt mg) (F : FnP K "_law_tells" s_l_tells f fd) (hm : mg "_law_tells" = some (.ref f)) : Cal P w K mg base 1 "_law_tells" spTells := by
  refine cal0 F hm sc_l_tells (fun _ _ _ _ _ _ us hl => match us, hl with | [_, _, _], _ => rfl) (fun vs H Q E h => ?_) (fun cdv A outer s H vs Q E hr h => ?_)
  · obtain ⟨k, a, b, c, ps, g, lot, rfl, _⟩ := h
    rfl
  · obtain ⟨k, a, b, c, ps, g, lot, rfl, ha, hR, h100, hb, hc, hl, hk, qy, qn⟩ := h
    have nd := sc_l_tells.nd
    have hu := hu_of hr
    refine ⟨_, pss_cons (ps_set (i := 3) nd rfl (Or.inl rfl) pe_dnewT)
      (pss_cons (ps_for PassesOwn.never rfl (pi_zipB B (pv 0) (pv 1)) (pg_tup rfl (pgs_cons (pg_name (i := 4) nd rfl (Or.inr rfl)) (pgs_cons (pg_name (i := 5) nd rfl (Or.inl rfl)) pgs_nil)))
        (pss_cons (ps_set (i := 6) nd rfl (Or.inl rfl) (b_tupOf B (pe_lc (own := [("_law_key", 7)]) (g := gName 7) rfl nd (pi_list (pv 2)) (blkOk_by (N := N_l_tells) (sc := defScope s_l_tells) (by decide +kernel))
            (fun _ _ _ _ _ => pg_name (i := 7) nd rfl (Or.inl rfl)) (fun _ _ _ _ _ => pts_nil) (fun _ _ _ _ _ => pe_ix (ixT K) (pv 4) (pv 7) (fun _ _ => rfl)))))
        (pss_cons (ps_if (pt_cmp (pc_dnotin hu (pv 6) (pv 3))) (pss_one (ps_dput hu (pv 3) (pv 6) (pv 5) rfl)) pss_nil)
        (pss_one (ps_if (pt_cmpR op_ne (pe_dget hu (pv 3) (pv 6) (fun _ _ => rfl)) (pv 5) (nomark _)) (pss_one (ps_ret pe_bl)) pss_nil)))))
      (pss_one (ps_ret pe_bl))), ?_⟩
    intro d hd
    have el : (rV ps).length = (iV ((rR ps).map g)).length := by rw [rV_len, iV_len, List.length_map, rR_len]
    have ha1 : upd H d (.dT []) a = some (.lst (rV ps)) := by rw [upd_ne (ne_of_none ha hd)]; exact ha
    have hb1 : SqB k (upd H d (.dT [])) b (iV ((rR ps).map g)) := hb.fr (.new (ds := []) hd) (fun z => nomatch z)
    have hnd : ∀ {x : Addr} {xs : List V}, H x = some (.lst xs) → x ∉ ([] : List Addr) := fun _ z => nomatch z
    refine ⟨_, rfl, _, rfl, true, k, a, b, _, _, rfl, SqB.l ha1, hb1, for_it (walk_zipB el) (fun i σ H' => ∃ kvs x4 x5 x6 x7, σ = [some (.ref a), some (.ref b), some (.ref c), some (.ref d), x4, x5, x6, x7] ∧ H' d = some (.dT kvs) ∧ SeenI (seenOn lot) g ((rR ps).take i) kvs ∧ Fr [] H H')
      ⟨[], _, _, _, _, rfl, upd_same, .nil, .new hd⟩ ?_ ?_ ?_⟩
    · rintro i σ H' _ ⟨kvs, x4, x5, x6, x7, rfl, hD, hI, fr⟩
      exact ⟨SqB.l (fr.keep _ _ (fun z => nomatch z) ha), hb.fr fr (fun z => nomatch z)⟩
    · rintro i x σ H1 H9 hi ⟨kvs, x4, x5, x6, x7, rfl, hD, hI, fr⟩ ⟨T, u, v, rfl, hT, rfl, hu', hv⟩
      obtain ⟨p, hp, rfl⟩ := rV_get hu'
      obtain ⟨m, hm', rfl⟩ := iV_get hv
      have hrow : (rR ps)[i]? = some p.2 := by rw [rR, List.getElem?_map, hp]; rfl
      obtain rfl : g p.2 = m := by rw [List.getElem?_map, hrow] at hm'; exact Option.some.inj hm'
      have hmem : p.2 ∈ rR ps := List.mem_of_getElem? hrow
      have fr1 : Fr [] H (upd H1 T (.tup [.ref p.1, .int (g p.2)])) := fr.trans (.new hT)
      refine ⟨T, _, rfl, SqT.of upd_same, rfl, _, _, rfl, _, _, rfl, rfl, ?_⟩
      have hD1 : upd H1 T (.tup [.ref p.1, .int (g p.2)]) d = some (.dT kvs) := by rw [upd_ne (ne_of_none hD hT)]; exact hD
      generalize upd H1 T (.tup [.ref p.1, .int (g p.2)]) = H2 at fr1 hD1
      refine ⟨_, rfl, c, rfl, ⟨_, SqL.of (fr1.keep _ _ (fun z => nomatch z) hc)⟩, fun D hDn => lcG (walk_list (xs := iV lot)) [] (fun i acc _ => acc = iV ((lot.take i).map fun k => p.2.getD k.toNat 0)) hDn (by rw [iV_len, sizeLine_eq]; omega) rfl (fun _ _ _ _ _ _ t => t)
        (fun i acc H2 _ f2 _ => SqL.of (f2.keep _ _ (fun z => nomatch z) (fr1.keep _ _ (fun z => nomatch z) hc))) ?_ ?_⟩
      · rintro i x _ H3 acc hi hD2 fr3 rfl ⟨rfl, hx⟩ yes no
        obtain ⟨kk, hk', rfl⟩ := iV_get hx
        have hb2 := hk _ hmem kk (List.mem_of_getElem? hk')
        refine ⟨rfl, ?_⟩
        refine ⟨_, rfl, _, rfl, p.1, _, _, _, rfl, rfl, SqT.of ((fr1.trans fr3).tup _ _ (hR p (List.mem_of_getElem? hp))), getD_of hb2.1 hb2.2, ?_⟩
        exact yes _ _ hD2 fr3 (by rw [tm_snoc hk']; simp [iV])
      · rintro acc H3 hD3 hl3 fr3 rfl
        have eacc : iV ((lot.take (iV lot).length).map fun k => p.2.getD k.toNat 0) = iV (seenOn lot p.2) := by rw [iV_len, List.take_length]; rfl
        rw [eacc] at hD3
        refine .inl ⟨D, _, rfl, SqL.of hD3, fun vw hvw => ?_⟩
        have fr4 : Fr [] H (upd H3 vw (.tup (iV (seenOn lot p.2)))) := (fr1.trans fr3).trans (.new hvw)
        have hD4 : upd H3 vw (.tup (iV (seenOn lot p.2))) d = some (.dT kvs) := by rw [upd_ne (ne_of_none (fr3.keep _ _ (fun z => nomatch z) hD1) hvw)]; exact fr3.keep _ _ (fun z => nomatch z) hD1
        have hw : upd H3 vw (.tup (iV (seenOn lot p.2))) vw = some (.tup ((rowK (seenOn lot p.2)).map kV)) := by rw [upd_same, rowK_kV]
        generalize upd H3 vw (.tup (iV (seenOn lot p.2))) = H4 at fr4 hD4 hw
        have et : (rR ps).take (i + 1) = (rR ps).take i ++ [p.2] := take_snoc hrow
        have hlen := hI.len
        have h2 := take_len_le2 (rR ps) i
        rw [rR_len] at h2
        refine ⟨_, rfl, _, rfl, d, _, rfl, .inr ⟨kvs, rowK (seenOn lot p.2), vw, .inl hD4, rfl, hw, rfl⟩, _, rfl, ?_⟩
        cases e : valV kvs (rowK (seenOn lot p.2)) with
        | none =>
          refine iteT ⟨_, rfl, _, rfl, _, rfl, d, _, rfl, .inr ⟨kvs, _, vw, hD4, rfl, hw, by rw [sizeLine_eq]; omega, rfl⟩, ?_⟩
          have hI2 := hI.put e
          have hw2 : upd H4 d (.dT (putK kvs (rowK (seenOn lot p.2)) (.int (g p.2)))) vw = some (.tup ((rowK (seenOn lot p.2)).map kV)) := by rw [upd_ne (ne_of hw hD4 (fun z => nomatch z))]; exact hw
          refine ⟨_, rfl, _, rfl, d, .int (g p.2), rfl, .inr ⟨_, _, vw, .inl upd_same, rfl, hw2, by rw [valV_put, if_pos rfl]⟩, _, rfl, rfl, _, rfl, ?_⟩
          rw [decide_eq_true rfl]
          exact ⟨_, _, _, _, _, rfl, upd_same, by rw [et]; exact hI2, fr4.own hd⟩
        | some v =>
          refine iteF ?_
          refine ⟨_, rfl, _, rfl, d, v, rfl, .inr ⟨_, _, vw, .inl hD4, rfl, hw, e.symm⟩, _, rfl, ?_⟩
          obtain ⟨r, hr1, hr2, rfl⟩ := hI.bad e
          refine ⟨rfl, _, rfl, ?_⟩
          by_cases hg : g r = g p.2
          · rw [hg, decide_eq_true rfl]
            exact ⟨_, _, _, _, _, rfl, hD4, by rw [et]; exact hI.same (by rw [e, hg]), fr4⟩
          · rw [decide_eq_false (fun z => hg (V.int.inj z))]
            refine qn (fun t => hg (t r (List.mem_of_mem_take hr1) p.2 hmem hr2)) _ fr4
    · rintro σ H1 ⟨kvs, x4, x5, x6, x7, rfl, hD, hI, fr⟩
      rw [rV_len, ← rR_len, List.take_length] at hI
      exact qy hI.fin _ fr
end
end K13
/-! K13L8 -/
set_option autoImplicit true
set_option Elab.async false
set_option linter.all false
set_option maxRecDepth 100000
set_option maxHeartbeats 2000000
namespace K13
open PySem PySem.Spec PyProof.Rows L2
/-- the homes' dict tells the island of each state -/
theorem homes_val {H : Hp} {st : List Row} {lot : List Int} {n : Addr} (h : HomesAt H st lot n) : ∃ kvs, H n = some (.dT kvs) ∧ ∀ r ∈ st, valV kvs (rowK r) = some (.int (home (cn st lot) st r : Nat)) := by
  obtain ⟨D, h1, h2, h3, h4⟩ := h.ex
  refine ⟨_, h1, fun r hr => ?_⟩
  obtain ⟨p, hp, rfl⟩ := List.mem_map.mp ((h2 r).mpr hr)
  rw [← h3 p hp]
  clear h1 h2 h3 hr
  induction D with
  | nil => cases hp
  | cons q D ih =>
    have h4 : (q.1 :: keysOf D).Nodup := h4
    rw [List.nodup_cons] at h4
    rcases List.mem_cons.mp hp with rfl | hp
    · exact valV_pos rfl
    · have : ¬ rowK q.1 = rowK p.1 := fun e => h4.1 (rowK_inj e ▸ List.mem_map_of_mem hp)
      rw [show homesKV (q :: D) = (rowK q.1, V.int q.2) :: homesKV D from rfl, valV_neg this]
      exact ih h4.2 hp
/-- the keys that are not in the lot, as the walk over the row meets them -/
theorem rest_view (lot : List Int) (r : Row) : ((List.range r.length).filter fun (i : Nat) => !lot.contains (i : Int)).map (fun i => r.getD i 0) = seenOn (restOf r.length lot) r := by
  unfold seenOn restOf
  rw [List.filter_map, List.map_map]
  rfl
section
variable {P : Program} {w : World} {K : PySem.W.Frag} {mg : Str → Option Value} {base : Heap} {f : Addr} {fd : FuncData}
theorem inV_int {k : Int} : ∀ {lot : List Int}, inV (.int k) (iV lot) = lot.contains k
  | [] => rfl
  | a :: lot => by
    have ih := inV_int (k := k) (lot := lot)
    unfold inV at ih ⊢
    rw [show iV (a :: lot) = V.int a :: iV lot from rfl, List.any_cons, ih, List.contains_cons]
    congr 1
    show (a == k) = (k == a)
    exact BEq.comm
theorem flat_ints (lot : List Int) : (iV lot).all flatV = true := by
  simp [iV, flatV]
def spLWhole : Sp := fun vs H Q _ => ∃ a b c n ps lot, vs = [.ref a, .ref b, .ref c] ∧ H a = some (.lst (rV ps)) ∧ RwL H ps ∧ ps.length ≤ 100 ∧ HomesAt H (rR ps) lot b ∧ H c = some (.tup (iV lot)) ∧ n ≤ 100 ∧ (∀ r ∈ rR ps, r.length = n) ∧
  (IsWhole n (rR ps) lot → ∀ H', Fr [] H H' → Q (.bl true) H') ∧ (¬ IsWhole n (rR ps) lot → ∀ H', Fr [] H H' → Q (.bl false) H')
theorem whole_tell {n : Nat} {st : List Row} {lot : List Int} : IsWhole n st lot ↔ Tell (seenOn (restOf n lot)) (fun r => (home (cn st lot) st r : Nat)) st := by
  constructor
  · intro h s hs t ht e
    exact congrArg Int.ofNat (h s hs t ht e)
  · intro h s hs t ht e
    exact Int.ofNat.inj (h s hs t ht e)
theorem cal_l_is_whole (B : Bt mg) (F : FnP K "_law_is_whole" s_l_is_whole f fd) (hm : mg "_law_is_whole" = some (.ref f)) : Cal P w K mg base 1 "_law_is_whole" spLWhole := by
  refine cal0 F hm sc_l_is_whole (fun _ _ _ _ _ _ us hl => match us, hl with | [_, _, _], _ => rfl) (fun vs H Q E h => ?_) (fun cdv A outer s H vs Q E hr h => ?_)
  · obtain ⟨a, b, c, n, ps, lot, rfl, _⟩ := h
    rfl
  · obtain ⟨a, b, c, n, ps, lot, rfl, ha, hR, h100, hb, hc, hn, hln, qy, qn⟩ := h
    have nd := sc_l_is_whole.nd
    have hu := hu_of hr
    rw [whole_tell] at qy qn
    obtain ⟨hkv, hb, hval⟩ := homes_val hb
    refine ⟨_, pss_cons (ps_set (i := 3) nd rfl (Or.inl rfl) pe_dnewT)
      (pss_cons (ps_for PassesOwn.never rfl (pi_list (pv 0)) (pg_name (i := 4) nd rfl (Or.inl rfl))
        (pss_cons (ps_set (i := 5) nd rfl (Or.inl rfl) (b_tupOf B (pe_lc (own := [("_law_key", 6), ("_law_value", 7)]) (g := g2 K 6 7) rfl nd (pi_enumB B (pv 4)) (blkOk_by (N := N_l_is_whole) (sc := defScope s_l_is_whole) (by decide +kernel))
            (fun _ _ _ _ _ => pg_tup rfl (pgs_cons (pg_name (i := 6) nd rfl (Or.inl rfl)) (pgs_cons (pg_name (i := 7) nd rfl (Or.inl rfl)) pgs_nil))) (fun _ _ _ _ _ => pts_one (pt_cmpR (ninS K) (pv 6) (pv 2) rfl)) (fun _ _ _ _ _ => pv 7))))
        (pss_one (ps_if (pt_cmpR op_ne (pe_dsetdT hr (pv 3) (pv 5) (pe_dget hu (pv 1) (pv 4) (fun _ _ => rfl)) ⟨rfl, rfl, rfl, rfl⟩) (pe_dget hu (pv 1) (pv 4) (fun _ _ => rfl)) (nomark _)) (pss_one (ps_ret pe_bl)) pss_nil))))
      (pss_one (ps_ret pe_bl))), ?_⟩
    intro d hd
    have ha1 : upd H d (.dT []) a = some (.lst (rV ps)) := by rw [upd_ne (ne_of_none ha hd)]; exact ha
    refine ⟨_, rfl, a, rfl, ⟨_, SqL.of ha1⟩, for_list (xs := rV ps) (fun i σ H' => ∃ kvs x4 x5 x6 x7, σ = [some (.ref a), some (.ref b), some (.ref c), some (.ref d), x4, x5, x6, x7] ∧ H' d = some (.dT kvs) ∧ SeenI (seenOn (restOf n lot)) (fun r => (home (cn (rR ps) lot) (rR ps) r : Nat)) ((rR ps).take i) kvs ∧ Fr [] H H')
      ⟨[], _, _, _, _, rfl, upd_same, .nil, .new hd⟩ ?_ ?_ ?_⟩
    · rintro i σ H' _ ⟨kvs, x4, x5, x6, x7, rfl, hD, hI, fr⟩
      exact SqL.of (fr.keep _ _ (fun z => nomatch z) ha)
    · rintro i x σ H1 hx ⟨kvs, x4, x5, x6, x7, rfl, hD, hI, fr⟩
      obtain ⟨p, hp, rfl⟩ := rV_get hx
      have hrow : (rR ps)[i]? = some p.2 := by rw [rR, List.getElem?_map, hp]; rfl
      have hmem : p.2 ∈ rR ps := List.mem_of_getElem? hrow
      have hpl := hln _ hmem
      have hp1 := fr.tup _ _ (hR p (List.mem_of_getElem? hp))
      refine ⟨_, rfl, false, p.1, _, rfl, SqB.t hp1, fun D hDn => lcG (walk_enumB (k := false) (a := p.1) (xs := iV p.2)) [] (fun i acc _ => acc = iV (((List.range i).filter fun (i : Nat) => !lot.contains (i : Int)).map fun i => p.2.getD i 0)) hDn (by rw [iV_len, sizeLine_eq]; omega) rfl (fun _ _ _ _ _ _ t => t)
        (fun i acc H2 _ f2 _ => SqB.t (f2.tup _ _ hp1)) ?_ ?_⟩
      · rintro j x H9 H3 acc hi hD2 fr3 rfl ⟨T, u, v, rfl, hT, rfl, hu', hv⟩ yes no
        obtain rfl : V.int (j : Nat) = u := Option.some.inj hu'
        obtain ⟨m, hm', rfl⟩ := iV_get hv
        have fT : Fr [] H9 (upd H9 T (.tup [.int (j : Nat), .int m])) := .new hT
        have hjl : j < p.2.length := by rw [iV_len] at hi; exact hi
        have em : p.2.getD j 0 = m := by rw [List.getD_eq_getElem?_getD, hm']; rfl
        refine ⟨T, _, rfl, SqT.of upd_same, rfl, _, _, rfl, _, _, rfl, rfl, rfl, ?_⟩
        refine ⟨_, rfl, _, rfl, c, _, rfl, .inr (SqT.of ((fr.trans (fr3.trans fT)).tup _ _ hc)), rfl, flat_ints lot, _, rfl, ?_⟩
        rw [inV_int]
        by_cases hin : lot.contains (j : Int) = true
        · rw [hin]
          exact no _ (fT.keep _ _ (fun z => nomatch z) hD2) (fr3.trans fT) (by rw [rf_no (by rw [hin]; rfl)])
        · have hin : lot.contains (j : Int) = false := by simpa using hin
          rw [hin]
          refine ⟨_, rfl, yes _ _ (fT.keep _ _ (fun z => nomatch z) hD2) (fr3.trans fT) ?_⟩
          rw [rf_yes (by rw [hin]; rfl), List.map_append]
          simp only [iV, List.map_append, List.map_cons, List.map_nil]
          rw [em]
      · rintro acc H3 hD3 hl3 fr3 rfl
        rw [iV_len, rest_view, hpl] at hD3
        have fr3' := fr.trans fr3
        refine .inl ⟨D, _, rfl, SqL.of hD3, fun vw hvw => ?_⟩
        have fr4 : Fr [] H (upd H3 vw (.tup (iV (seenOn (restOf n lot) p.2)))) := fr3'.trans (.new hvw)
        have hD4 : upd H3 vw (.tup (iV (seenOn (restOf n lot) p.2))) d = some (.dT kvs) := by rw [upd_ne (ne_of_none (fr3.keep _ _ (fun z => nomatch z) hD) hvw)]; exact fr3.keep _ _ (fun z => nomatch z) hD
        have hw : upd H3 vw (.tup (iV (seenOn (restOf n lot) p.2))) vw = some (.tup ((rowK (seenOn (restOf n lot) p.2)).map kV)) := by rw [upd_same, rowK_kV]
        generalize upd H3 vw (.tup (iV (seenOn (restOf n lot) p.2))) = H4 at fr4 hD4 hw
        have et : (rR ps).take (i + 1) = (rR ps).take i ++ [p.2] := take_snoc hrow
        have hlen := hI.len
        have h2 := take_len_le2 (rR ps) i
        rw [rR_len] at h2
        have hb4 := fr4.keep _ _ (fun z => nomatch z) hb
        have hk4 : H4 p.1 = some (.tup ((rowK p.2).map kV)) := by rw [rowK_kV]; exact fr4.tup _ _ (hR p (List.mem_of_getElem? hp))
        refine ⟨_, rfl, d, rfl, .inr ⟨_, .inl hD4⟩, _, rfl, _, rfl, _, rfl, b, .int (home (cn (rR ps) lot) (rR ps) p.2 : Nat), rfl, .inr ⟨hkv, _, p.1, .inl hb4, rfl, hk4, (hval _ hmem).symm⟩, ?_⟩
        refine ⟨kvs, _, vw, hD4, rfl, hw, by rw [sizeLine_eq]; omega, fun v hv => ?_, fun hv => ?_⟩
        · refine ⟨_, rfl, _, rfl, b, .int (home (cn (rR ps) lot) (rR ps) p.2 : Nat), rfl, .inr ⟨hkv, _, p.1, .inl hb4, rfl, hk4, (hval _ hmem).symm⟩, ?_⟩
          obtain ⟨r, hr1, hr2, rfl⟩ := hI.bad hv
          refine ⟨rfl, _, rfl, ?_⟩
          by_cases hg : ((home (cn (rR ps) lot) (rR ps) r : Nat) : Int) = (home (cn (rR ps) lot) (rR ps) p.2 : Nat)
          · rw [hg, decide_eq_true rfl]
            exact ⟨_, _, _, _, _, rfl, hD4, by rw [et]; exact hI.same (by rw [hv]; exact congrArg (fun z => some (V.int z)) hg), fr4⟩
          · rw [decide_eq_false (fun z => hg (V.int.inj z))]
            exact qn (fun t => hg (t r (List.mem_of_mem_take hr1) p.2 hmem hr2)) _ fr4
        · have hI2 := hI.put (s := p.2) hv
          have ndb : b ≠ d := fun e => by rw [e, hd] at hb; cases hb
          refine ⟨_, rfl, _, rfl, b, .int (home (cn (rR ps) lot) (rR ps) p.2 : Nat), rfl, .inr ⟨hkv, _, p.1, .inl (by rw [upd_ne ndb]; exact hb4), rfl, by rw [upd_ne (ne_of hk4 hD4 (fun z => nomatch z))]; exact hk4, (hval _ hmem).symm⟩, ?_⟩
          refine ⟨rfl, _, rfl, ?_⟩
          rw [decide_eq_true rfl]
          exact ⟨_, _, _, _, _, rfl, upd_same, by rw [et]; exact hI2, fr4.own hd⟩
    · rintro σ H1 ⟨kvs, x4, x5, x6, x7, rfl, hD, hI, fr⟩
      rw [rV_len, ← rR_len, List.take_length] at hI
      exact qy hI.fin _ fr
end
end K13
/-! K13H0 -/
set_option autoImplicit true
set_option Elab.async false
set_option linter.all false
set_option maxRecDepth 100000
set_option maxHeartbeats 2000000
namespace K13
open PySem PySem.Spec PyProof.Rows L2
theorem hk_none {D : List (Row × Nat)} {r : Row} (h : r ∉ keysOf D) : valV (homesKV D) (rowK r) = none := by
  induction D with
  | nil => rfl
  | cons q D ih =>
    have h1 : ¬ rowK q.1 = rowK r := fun e => h (by rw [← rowK_inj e]; exact List.mem_cons_self)
    rw [show homesKV (q :: D) = (rowK q.1, V.int q.2) :: homesKV D from rfl, valV_neg h1]
    exact ih fun z => h (List.mem_cons_of_mem _ z)
theorem hk_some {D : List (Row × Nat)} {r : Row} (h : r ∈ keysOf D) : (valV (homesKV D) (rowK r)).isSome = true := by
  induction D with
  | nil => cases h
  | cons q D ih =>
    by_cases e : q.1 = r
    · rw [show homesKV (q :: D) = (rowK q.1, V.int q.2) :: homesKV D from rfl, valV_pos (by rw [e])]
      rfl
    · have h1 : ¬ rowK q.1 = rowK r := fun z => e (rowK_inj z)
      rw [show homesKV (q :: D) = (rowK q.1, V.int q.2) :: homesKV D from rfl, valV_neg h1]
      rcases List.mem_cons.mp h with h | h
      · exact absurd h.symm e
      · exact ih h
theorem putK_new {κ : Type} [DecidableEq κ] {kvs : List (κ × V)} {k : κ} {v : V} (h : valV kvs k = none) : putK kvs k v = kvs ++ [(k, v)] := by
  unfold putK
  rw [valV_any, h]
  rfl
theorem hk_put {D : List (Row × Nat)} {r : Row} {n : Nat} (h : r ∉ keysOf D) : putK (homesKV D) (rowK r) (.int n) = homesKV (D ++ [(r, n)]) := by
  rw [putK_new (hk_none h)]
  simp [homesKV]
theorem near_val {bs : List (Row × Addr)} {r : Row} (hr : r ∈ bs.map (·.1)) : ∃ l, valV (nearKV bs) (rowK r) = some (.ref l) ∧ (r, l) ∈ bs := by
  induction bs with
  | nil => cases hr
  | cons q bs ih =>
    by_cases e : q.1 = r
    · refine ⟨q.2, ?_, ?_⟩
      · rw [show nearKV (q :: bs) = (rowK q.1, V.ref q.2) :: nearKV bs from rfl, valV_pos (by rw [e])]
      · rw [← e]
        exact List.mem_cons_self
    · have h1 : ¬ rowK q.1 = rowK r := fun z => e (rowK_inj z)
      rcases List.mem_cons.mp hr with h | h
      · exact absurd h.symm e
      · obtain ⟨l, h2, h3⟩ := ih h
        exact ⟨l, by rw [show nearKV (q :: bs) = (rowK q.1, V.ref q.2) :: nearKV bs from rfl, valV_neg h1]; exact h2, List.mem_cons_of_mem _ h3⟩
/-! ### the neighbours still to be looked at -/
abbrev NEnt1 := Addr × Int × Addr × Row
def todoAt (lot : List Int) (es : List NEnt1) (j : Nat) : List Row := ((es.drop j).filter fun e => lot.contains e.2.1).map fun e => e.2.2.2
theorem todo_skip {lot : List Int} {es : List NEnt1} {j : Nat} {e : NEnt1} (h : es[j]? = some e) (hk : lot.contains e.2.1 = false) : todoAt lot es j = todoAt lot es (j + 1) := by
  obtain ⟨hj, rfl⟩ := List.getElem?_eq_some_iff.mp h
  rw [todoAt, List.drop_eq_getElem_cons hj, List.filter_cons, if_neg (by rw [hk]; exact Bool.false_ne_true)]
  rfl
theorem todo_take {lot : List Int} {es : List NEnt1} {j : Nat} {e : NEnt1} (h : es[j]? = some e) (hk : lot.contains e.2.1 = true) : todoAt lot es j = e.2.2.2 :: todoAt lot es (j + 1) := by
  obtain ⟨hj, rfl⟩ := List.getElem?_eq_some_iff.mp h
  rw [todoAt, List.drop_eq_getElem_cons hj, List.filter_cons, if_pos hk]
  rfl
theorem todo_end {lot : List Int} {es : List NEnt1} : todoAt lot es es.length = [] := by simp [todoAt]
section
variable {st l m : List Row} {lot : List Int} {s v t : Row} {D : List (Row × Nat)} {fresh : List Row} {es : List NEnt1}
/-- t is popped: its neighbours by es are to be looked at -/
theorem Inner.popN (hl : ∀ s ∈ st, ∀ t ∈ st, s.length = t.length) (I : Inner (cn st lot) st (Edge st lot) l s v [] D (fresh ++ [t])) (he : ∀ k u, (∃ e ∈ es, e.2.1 = k ∧ e.2.2.2 = u) ↔ u ∈ st ∧ apart t u = [k]) :
    Inner (cn st lot) st (Edge st lot) l s t (todoAt lot es 0) D fresh := by
  have ht := I.fr t (by simp)
  have hts := (I.sub t ht.1).1
  refine Inner.pop I (fun u hu => ?_) fun u hu => ?_
  · obtain ⟨h1, h2, k, hk, h3⟩ := hu
    obtain ⟨e, he1, e2, e3⟩ := (he k u).mpr ⟨h2, h3⟩
    exact List.mem_map.mpr ⟨e, List.mem_filter.mpr ⟨by simpa using he1, by rw [e2]; simpa using hk⟩, e3⟩
  · obtain ⟨e, he1, rfl⟩ := List.mem_map.mp hu
    obtain ⟨he1, hc⟩ := List.mem_filter.mp he1
    obtain ⟨h1, h2⟩ := (he e.2.1 e.2.2.2).mp ⟨e, by simpa using he1, rfl, rfl⟩
    refine ⟨h1, ?_⟩
    rw [cn_iff]
    exact .step (cn_iff.mp ht.2) ⟨hts, h1, e.2.1, by simpa using hc, h2⟩
end
theorem reps_len_yes {C : Row → Row → Bool} {l : List Row} {s : Row} (h : ∃ r ∈ reps C l, C r s = true) : (reps C (l ++ [s])).length = (reps C l).length := by rw [reps_snoc, repStep_yes h]
theorem reps_len_no {C : Row → Row → Bool} {l : List Row} {s : Row} (h : ¬ ∃ r ∈ reps C l, C r s = true) : (reps C (l ++ [s])).length = (reps C l).length + 1 := by rw [reps_snoc, repStep_no h]; simp
theorem rV_snoc2 {ps : List (Addr × List Int)} (h : ps ≠ []) : ∃ qs p, ps = qs ++ [p] := ⟨ps.dropLast, ps.getLast h, (List.dropLast_concat_getLast h).symm⟩
theorem rV_last {qs : List (Addr × List Int)} {p : Addr × List Int} : (rV (qs ++ [p]))[(rV (qs ++ [p])).length - 1]? = some (.ref p.1) := by
  rw [rV_snoc]
  simp
theorem rV_dropLast {qs : List (Addr × List Int)} {p : Addr × List Int} : (rV (qs ++ [p])).dropLast = rV qs := by
  rw [rV_snoc]
  simp
end K13
/-! K13H1 -/
set_option autoImplicit true
set_option Elab.async false
set_option linter.all false
set_option maxRecDepth 100000
set_option maxHeartbeats 4000000
namespace K13
open PySem PySem.Spec PyProof.Rows L2
def nearA : NestedKey → Prop := fun k => k = .text "near"
theorem Shape.len {sizes : List Int} {st : List Row} (h : Shape sizes st) : ∀ s ∈ st, ∀ t ∈ st, s.length = t.length := fun s hs t ht => (h.box s hs).1.trans (h.box t ht).1.symm
theorem Shape.nd {sizes : List Int} {st : List Row} (h : Shape sizes st) : st.Nodup := by
  refine List.Pairwise.imp (R := fun a b => a < b) (fun {a b} hab => ?_) h.asc
  intro e
  subst e
  exact List.lt_irrefl _ hab
section
variable {P : Program} {w : World} {K : PySem.W.Frag} {mg : Str → Option Value} {base : Heap} {f : Addr} {fd : FuncData}
def spNBK (w : World) (C : Addr) : Sp := fun vs H Q _ => ∃ S sizes ps av kvs, vs = [.ref S.a] ∧ StAt w H S sizes ps av kvs ∧ Shape sizes (rR ps) ∧ S.C = C ∧
  ∀ H' kvs' n, StAt w H' S sizes ps av kvs' → Grow nearA kvs kvs' → NearAt H' (rR ps) av n → Fr [S.fd] H H' → Q (.ref n) H'
def spHomesOf (w : World) (C : Addr) : Sp := fun vs H Q _ => ∃ S sizes ps av kvs c lot, vs = [.ref S.a, .ref c] ∧ StAt w H S sizes ps av kvs ∧ Shape sizes (rR ps) ∧ S.C = C ∧ H c = some (.tup (iV lot)) ∧
  ∀ H' kvs' n, StAt w H' S sizes ps av kvs' → Grow nearA kvs kvs' → HomesAt H' (rR ps) lot n → Fr [S.fd] H H' → Q (.ref n) H'
theorem cal_homes_of {C : Addr} (B : Bt mg) (sc0 : SC K C) (cN : Cal P w K mg base 5 "near_by_keys" (spNBK w C)) (F : FnP K "homes_of" s_homes_of f fd) (hm : mg "homes_of" = some (.ref f)) : Cal P w K mg base 6 "homes_of" (spHomesOf w C) := by
  refine cal0 F hm sc_homes_of (fun _ _ _ _ _ _ us hl => match us, hl with | [_, _], _ => rfl) (fun vs H Q E h => ?_) (fun cdv A outer s H vs Q E hr h => ?_)
  · obtain ⟨S, sizes, ps, av, kvs, c, lot, rfl, _⟩ := h
    rfl
  · obtain ⟨S, sizes, ps, av, kvs, c, lot, rfl, sa, sh, hC, hc, q⟩ := h
    have sc : SC K S.C := hC ▸ sc0
    have nd := sc_homes_of.nd
    have hu := hu_of hr
    have hln := sh.len
    have E' := cn_eqv (lot := lot) hln
    refine ⟨_, pss_cons (ps_par3 (i := 2) (j := 3) (l := 4) rfl nd rfl rfl rfl (by decide) (by decide) (by decide) rfl rfl rfl (pa_cons (pc cN hr (pa_cons (pv 0) pa_nil)) (pa_cons pe_dnewT (pa_cons pe_int pa_nil))) rfl)
      (pss_cons (ps_for PassesOwn.never rfl (pi_tup (pe_fld (pv 0) rfl)) (pg_name (i := 5) nd rfl (Or.inl rfl))
        (pss_cons (ps_if (pt_cmp (pc_din hu (pv 5) (pv 3))) (pss_one ps_continue) pss_nil)
        (pss_cons (ps_asg (pe_tup (pa_cons (pv 4) (pa_cons (pe_lst (pa_cons (pv 5) pa_nil)) pa_nil))) (pg_tup rfl (pgs_cons (pg_sub (pv 3) (pv 5) (set_dict hu)) (pgs_cons (pg_name (i := 6) nd rfl (Or.inl rfl)) pgs_nil))))
        (C8.pss_cut (ps_while PassesOwn.never (pt_cmpR op_gt (b_len B (pv 6)) pe_int (nomark _))
            (pss_cons (ps_set (i := 7) nd rfl (Or.inl rfl) (pe_bm0 PySem.F.plainAttrs_list PySem.F.slot_list_pop PySem.F.type_list_pop mt_pop (pv 6)))
            (pss_one (ps_for PassesOwn.never rfl (pi_list (pe_dget hu (pv 2) (pv 7) (fun _ _ => rfl))) (pg_tup rfl (pgs_cons (pg_name (i := 8) nd rfl (Or.inl rfl)) (pgs_cons (pg_name (i := 9) nd rfl (Or.inl rfl)) pgs_nil)))
              (pss_one (ps_if (PW.pt (pw_and (pt_cmpR op_in_seq (pv 8) (pv 1) rfl) (pw_and1 (pt_cmp (pc_dnotin hu (pv 9) (pv 3))))))
                (pss_cons (ps_dput hu (pv 3) (pv 9) (pv 4) rfl)
                (pss_one (ps_expr (pe_bm PySem.F.plainAttrs_list PySem.F.slot_list_append PySem.F.type_list_append mt_append (pv 6) (pa_cons (pv 9) pa_nil))))) pss_nil))))))
        (pss_one (ps_set (i := 4) nd rfl (Or.inl rfl) (pe_op op_add (pv 4) pe_int)))))))
      (pss_one (ps_ret (pv 3)))), ?_⟩
    refine ⟨_, rfl, S, sizes, ps, av, kvs, rfl, sa, sh, hC, fun H0 kvs0 nb sa0 gr0 hnear fr0 => ?_⟩
    obtain ⟨bs, hb, ebs, hnb⟩ := hnear.ex
    intro hd hhd
    refine ⟨_, _, _, rfl, ?_⟩
    have nn : ∀ {x : Addr}, x ∉ ([] : List Addr) := fun z => nomatch z
    have hc0 := fr0.tup _ _ hc
    have fi : Fr [] H0 (upd H0 hd (.dT [])) := .new hhd
    have hR := sa0.rw
    have h24 : ps.length ≤ 24 := by rw [← rR_len]; exact sh.many
    refine ⟨_, rfl, S.a, S.C, S.dx, _, _, rfl, fi.keep _ _ nn sa0.ins, sc.cl, sc.nSta, rfl, S.ts, rfl, ⟨_, SqT.of (fi.tup _ _ sa0.hs)⟩, for_tup (xs := rV ps) (fun i σ H' => ∃ D x5 x6 x7 x8 x9, σ = [some (.ref S.a), some (.ref c), some (.ref nb), some (.ref hd), some (.int ((reps (cn (rR ps) lot) ((rR ps).take i)).length : Nat)), x5, x6, x7, x8, x9] ∧
        H' hd = some (.dT (homesKV D)) ∧ Outer (cn (rR ps) lot) (rR ps) ((rR ps).take i) D ∧ Fr [] H0 H')
      ⟨[], _, _, _, _, _, rfl, upd_same, .init, .new hhd⟩ ?_ ?_ ?_⟩
    · rintro i σ H' _ ⟨D, x5, x6, x7, x8, x9, rfl, _, _, fr⟩
      exact SqT.of (fr.tup _ _ sa0.hs)
    · rintro i x σ H1 hx ⟨D, x5, x6, x7, x8, x9, rfl, hD, O, fr⟩
      obtain ⟨p, hp, rfl⟩ := rV_get hx
      have hpm := List.mem_of_getElem? hp
      have hrow : (rR ps)[i]? = some p.2 := by rw [rR, List.getElem?_map, hp]; rfl
      have hst : p.2 ∈ rR ps := List.mem_of_getElem? hrow
      have et : (rR ps).take (i + 1) = (rR ps).take i ++ [p.2] := take_snoc hrow
      have esp : rR ps = (rR ps).take i ++ p.2 :: (rR ps).drop (i + 1) := by
        obtain ⟨hi, e⟩ := List.getElem?_eq_some_iff.mp hrow
        rw [← e, List.getElem_cons_drop]
        exact (List.take_append_drop i (rR ps)).symm
      have kp : ∀ {H' : Hp}, Fr [] H0 H' → H' p.1 = some (.tup ((rowK p.2).map kV)) := fun f => by rw [rowK_kV]; exact f.tup _ _ (hR p hpm)
      refine ⟨_, rfl, _, rfl, hd, _, rfl, .inr ⟨_, _, p.1, .inl hD, rfl, kp fr, rfl⟩, _, rfl, ?_⟩
      by_cases hk : p.2 ∈ keysOf D
      · rw [hk_some hk]
        refine ⟨D, some (.ref p.1), x6, x7, x8, x9, ?_, hD, by rw [et]; exact O.skip hk, fr⟩
        rw [et, reps_len_yes ((O.keys p.2).mp hk).2]
        rfl
      · rw [hk_none hk]
        have hno := O.no hst hk
        refine ⟨_, rfl, _, rfl, by show 1 ≤ sizeLine; decide, fun fa hfa => ⟨by show 2 ≤ sizeLine; decide, fun T hT => ⟨T, _, rfl, SqT.of upd_same, rfl, _, _, rfl, _, rfl, _, rfl, ?_⟩⟩⟩
        have f1 : Fr [] H1 (upd (upd H1 fa (.lst [.ref p.1])) T (.tup [.int ((reps (cn (rR ps) lot) ((rR ps).take i)).length : Nat), .ref fa])) := (Fr.new hfa).trans (.new hT)
        have hfa1 : upd (upd H1 fa (.lst [.ref p.1])) T (.tup [.int ((reps (cn (rR ps) lot) ((rR ps).take i)).length : Nat), .ref fa]) fa = some (.lst (rV [p])) := by rw [upd_ne (ne_of_none upd_same hT), upd_same]; rfl
        have hfa0 : H0 fa = none := fresh_of fr hfa
        have hhfa : hd ≠ fa := ne_of_none hD hfa
        generalize upd (upd H1 fa (.lst [.ref p.1])) T (.tup [.int ((reps (cn (rR ps) lot) ((rR ps).take i)).length : Nat), .ref fa]) = H2 at f1 hfa1
        have hD2 := f1.keep _ _ nn hD
        have fr2 := fr.trans f1
        have hDl : D.length ≤ 100 := by
          have h1 := sub_len O.nd fun r hr => ((O.keys r).mp hr).1
          rw [List.length_map, rR_len] at h1
          omega
        have hkl : (homesKV D).length < sizeLine := by rw [homesKV, List.length_map, sizeLine_eq]; omega
        refine ⟨hd, _, rfl, .inr ⟨_, _, p.1, hD2, rfl, kp fr2, hkl, rfl⟩, _, _, rfl, rfl, ?_⟩
        rw [hk_put hk]
        have I0 := O.start (ed := Edge (rR ps) lot) E' esp hk
        have fa3 : upd H2 hd (.dT (homesKV (D ++ [(p.2, (reps (cn (rR ps) lot) ((rR ps).take i)).length)]))) fa = some (.lst (rV [p])) := by rw [upd_ne (fun e => hhfa e.symm)]; exact hfa1
        have fr3 : Fr [] H0 (upd H2 hd (.dT (homesKV (D ++ [(p.2, (reps (cn (rR ps) lot) ((rR ps).take i)).length)])))) := fr2.own hhd
        refine ⟨fun σ H' => ∃ D' x6 x7 x8 x9, σ = [some (.ref S.a), some (.ref c), some (.ref nb), some (.ref hd), some (.int ((reps (cn (rR ps) lot) ((rR ps).take i)).length : Nat)), some (.ref p.1), x6, x7, x8, x9] ∧ H' hd = some (.dT (homesKV D')) ∧ Outer (cn (rR ps) lot) (rR ps) ((rR ps).take i ++ [p.2]) D' ∧ Fr [] H0 H', ?_, ?_⟩
        · refine ⟨fun m σ H' => ∃ D' qs v x7 x8 x9, σ = [some (.ref S.a), some (.ref c), some (.ref nb), some (.ref hd), some (.int ((reps (cn (rR ps) lot) ((rR ps).take i)).length : Nat)), some (.ref p.1), some (.ref fa), x7, x8, x9] ∧
              H' fa = some (.lst (rV qs)) ∧ RwL H' qs ∧ H' hd = some (.dT (homesKV D')) ∧ Inner (cn (rR ps) lot) (rR ps) (Edge (rR ps) lot) ((rR ps).take i) p.2 v [] D' (rR qs) ∧ Fr [] H0 H' ∧ m = 1000 + qs.length - 2 * D'.length ∧ qs.length ≤ D'.length,
            ⟨_, _, [p], _, _, _, _, rfl, fa3, fun z hz => ?_, upd_same, I0, fr3, rfl, by simp⟩, ?_⟩
          · obtain rfl : z = p := by simpa using hz
            exact fr3.tup _ _ (hR _ hpm)
          · rintro m σ H3 ⟨D', qs, v, x7, x8, x9, rfl, hfb, hQ, hD3, I, fr3, rfl, hql⟩
            have hDl3 := I.len
            rw [rR_len] at hDl3
            refine ⟨_, rfl, fa, _, rfl, .inl (SqL.of hfb), _, _, rfl, rfl, _, rfl, ?_⟩
            rw [rV_len]
            by_cases hqs : qs = []
            · subst hqs
              exact ⟨D', _, _, _, _, rfl, hD3, Inner.done E' I hno, fr3⟩
            · have e1 : decide ((0 : Int) < (qs.length : Nat)) = true := decide_eq_true (by have := List.length_pos_iff.mpr hqs; omega)
              obtain ⟨qs, tt, rfl⟩ := rV_snoc2 hqs
              rw [e1]
              refine iteT ⟨_, fun σ' H' h => h, ?_⟩
              have hndf : hd ≠ fa := hhfa
              have htm : tt.2 ∈ rR ps := (I.sub tt.2 (I.fr tt.2 (by rw [rR_snoc]; simp)).1).1
              obtain ⟨ln, hln1, hln2⟩ := near_val (bs := bs) (r := tt.2) (by rw [ebs]; exact htm)
              obtain ⟨es, es1, es2, es3, es4⟩ := (hnb _ hln2).2.ex
              have fr6 : Fr [] H0 (upd H3 fa (.lst (rV qs))) := fr3.own hfa0
              have hD6 : upd H3 fa (.lst (rV qs)) hd = some (.dT (homesKV D')) := by rw [upd_ne hndf]; exact hD3
              have hQ6 : RwL (upd H3 fa (.lst (rV qs))) qs := fun z hz => by rw [upd_ne (ne_of (hQ z (by simp [hz])) hfb (fun z => nomatch z))]; exact hQ z (by simp [hz])
              have ht6 : upd H3 fa (.lst (rV qs)) tt.1 = some (.tup ((rowK tt.2).map kV)) := by rw [rowK_kV, upd_ne (ne_of (hQ tt (by simp)) hfb (fun z => nomatch z))]; exact hQ tt (by simp)
              have hb6 := fr6.keep _ _ nn hb
              have es6 := fr6.keep _ _ nn es1
              have I6 : Inner (cn (rR ps) lot) (rR ps) (Edge (rR ps) lot) ((rR ps).take i) p.2 tt.2 (todoAt lot es 0) D' (rR (qs ++ [])) := by
                rw [List.append_nil]
                rw [rR_snoc] at I
                exact I.popN hln es4
              refine ⟨_, rfl, .inl ⟨rfl, _, SqL.of hfb⟩, fa, _, _, rfl, rfl, hfb, rV_last, ?_⟩
              rw [rV_dropLast]
              refine ⟨_, rfl, _, rfl, nb, .ref ln, rfl, .inr ⟨_, _, tt.1, .inl hb6, rfl, ht6, hln1.symm⟩, ln, rfl, ⟨_, SqL.of es6⟩, for_list (xs := es.map fun e => V.ref e.1) (fun j σ H' => ∃ D2 ls x7 x8 x9, σ = [some (.ref S.a), some (.ref c), some (.ref nb), some (.ref hd), some (.int ((reps (cn (rR ps) lot) ((rR ps).take i)).length : Nat)), some (.ref p.1), some (.ref fa), x7, x8, x9] ∧
                  RwL H' ls ∧ H' fa = some (.lst (rV (qs ++ ls))) ∧ RwL H' qs ∧ H' hd = some (.dT (homesKV D2)) ∧ Inner (cn (rR ps) lot) (rR ps) (Edge (rR ps) lot) ((rR ps).take i) p.2 tt.2 (todoAt lot es j) D2 (rR (qs ++ ls)) ∧ Fr [] H0 H' ∧ D2.length = D'.length + ls.length)
                ⟨D', [], _, _, _, rfl, .nil, by rw [List.append_nil]; exact upd_same, hQ6, hD6, I6, fr6, rfl⟩ ?_ ?_ ?_⟩
              · rintro j σ H' _ ⟨D2, ls, x7, x8, x9, rfl, _, _, _, _, _, fr', _⟩
                exact SqL.of (fr'.keep _ _ nn es1)
              · rintro j x σ H7 hx ⟨D2, ls, x7, x8, x9, rfl, hL7, hfb7, hQ7, hD7, I7, fr7, hl7⟩
                simp only [List.getElem?_map, Option.map_eq_some_iff] at hx
                obtain ⟨en, hen, rfl⟩ := hx
                obtain ⟨en1, en2⟩ := es2 en (List.mem_of_getElem? hen)
                have hDl7 := I7.len
                rw [rR_len] at hDl7
                simp at hql
                have hkey : H7 en.2.2.1 = some (.tup ((rowK en.2.2.2).map kV)) := by rw [rowK_kV]; exact fr7.tup _ _ en2
                refine ⟨en.1, _, rfl, SqT.of (fr7.tup _ _ en1), rfl, _, _, rfl, _, _, rfl, rfl, ?_⟩
                refine ⟨_, rfl, _, rfl, c, _, rfl, .inr (SqT.of (fr7.tup _ _ hc0)), rfl, flat_ints lot, _, rfl, ?_⟩
                rw [if_neg (show ¬ (false = true) from Bool.false_ne_true), inV_int]
                by_cases hin : lot.contains en.2.1 = true
                · rw [hin]
                  rw [todo_take hen hin] at I7
                  refine iteT ⟨_, rfl, _, rfl, hd, _, rfl, .inr ⟨_, _, en.2.2.1, .inl hD7, rfl, hkey, rfl⟩, _, rfl, ?_⟩
                  by_cases hk2 : en.2.2.2 ∈ keysOf D2
                  · rw [hk_some hk2]
                    exact ⟨D2, ls, _, _, _, rfl, hL7, hfb7, hQ7, hD7, I7.known hk2, fr7, hl7⟩
                  · rw [hk_none hk2]
                    have hkl2 : (homesKV D2).length < sizeLine := by rw [homesKV, List.length_map, sizeLine_eq]; omega
                    refine iteT ⟨_, rfl, _, rfl, _, rfl, hd, _, rfl, .inr ⟨_, _, en.2.2.1, hD7, rfl, hkey, hkl2, rfl⟩, ?_⟩
                    rw [hk_put hk2]
                    have I8 := I7.add E' esp hno hk2
                    have hfb8 : upd H7 hd (.dT (homesKV (D2 ++ [(en.2.2.2, (reps (cn (rR ps) lot) ((rR ps).take i)).length)]))) fa = some (.lst (rV (qs ++ ls))) := by rw [upd_ne (fun z => hndf z.symm)]; exact hfb7
                    have f8 : Fr [hd] H7 (upd H7 hd (.dT (homesKV (D2 ++ [(en.2.2.2, (reps (cn (rR ps) lot) ((rR ps).take i)).length)])))) := .set (by simp) hD7 (fun _ z => nomatch z)
                    have hD8 : upd H7 hd (.dT (homesKV (D2 ++ [(en.2.2.2, (reps (cn (rR ps) lot) ((rR ps).take i)).length)]))) hd = some (.dT (homesKV (D2 ++ [(en.2.2.2, (reps (cn (rR ps) lot) ((rR ps).take i)).length)]))) := upd_same
                    have fr8 : Fr [] H0 (upd H7 hd (.dT (homesKV (D2 ++ [(en.2.2.2, (reps (cn (rR ps) lot) ((rR ps).take i)).length)])))) := fr7.own hhd
                    generalize upd H7 hd (.dT (homesKV (D2 ++ [(en.2.2.2, (reps (cn (rR ps) lot) ((rR ps).take i)).length)]))) = H8 at hfb8 f8 hD8 fr8
                    refine ⟨_, rfl, .inl ⟨rfl, _, SqL.of hfb8⟩, _, rfl, fa, _, _, rfl, rfl, hfb8, by rw [rV_len, sizeLine_eq]; simp; omega, ?_⟩
                    have f9 : Fr [fa] H8 (upd H8 fa (.lst (rV (qs ++ ls) ++ [.ref en.2.2.1]))) := .set (by simp) hfb8 (fun _ z => nomatch z)
                    refine ⟨_, ls ++ [(en.2.2.1, en.2.2.2)], _, _, _, rfl, ((hL7.fr f8).fr f9).snoc (f9.tup _ _ (fr8.tup _ _ en2)), by rw [upd_same, ← List.append_assoc, rV_snoc], (hQ7.fr f8).fr f9, by rw [upd_ne hndf]; exact hD8, ?_, fr8.own hfa0, by simp; omega⟩
                    rw [← List.append_assoc, rR_snoc]
                    exact I8
                · have hin : lot.contains en.2.1 = false := by simpa using hin
                  rw [hin]
                  rw [todo_skip hen hin] at I7
                  exact ⟨D2, ls, _, _, _, rfl, hL7, hfb7, hQ7, hD7, I7, fr7, hl7⟩
              · rintro σ H7 ⟨D2, ls, x7, x8, x9, rfl, hL7, hfb7, hQ7, hD7, I7, fr7, hl7⟩
                rw [List.length_map, todo_end] at I7
                have hDl7 := I7.len
                rw [rR_len] at hDl7
                simp at hql
                refine ⟨_, ?_, D2, qs ++ ls, _, _, _, _, rfl, hfb7, hQ7.app hL7, hD7, I7, fr7, rfl, ?_⟩
                · simp
                  omega
                · simp
                  omega
        · rintro σ H' ⟨D', x6, x7, x8, x9, rfl, hD', O', fr'⟩
          refine ⟨_, rfl, _, _, rfl, rfl, ?_⟩
          refine ⟨D', some (.ref p.1), x6, x7, x8, x9, ?_, hD', by rw [et]; exact O', fr'⟩
          rw [et, reps_len_no hno]
          rfl
    · rintro σ H1 ⟨D, x5, x6, x7, x8, x9, rfl, hD, O, fr⟩
      rw [rV_len, ← rR_len, List.take_length] at O
      obtain ⟨o1, o2, o3⟩ := O.fin E'
      exact ⟨_, rfl, q H1 kvs0 hd (sa0.same fr) gr0 ⟨D, hD, o1, o2, o3⟩ (fr0.trans (fr.wider fun _ z => nomatch z))⟩
end
end K13
/-! K13M0 -/
set_option autoImplicit true
set_option Elab.async false
set_option linter.all false
set_option maxRecDepth 100000
set_option maxHeartbeats 2000000
namespace K13
open PySem PySem.Spec PyProof.Rows L2
/-! ### a method, by its class and name -/
structure CalM (P : Program) (w : World) (K : PySem.W.Frag) (mg : Str → Option Value) (base : Heap) (k : Nat) (C : Addr) (m : Str) (sp : Sp) : Prop where
  ex : ∃ (f : Addr) (fd : FuncData) (ps : List Str), FnOk P w K mg base (L2.CX P w) k f fd ps sp ∧ Meth K C m f ∧ Binds K fd ps []
section
variable {X : Cx} {k j : Nat} {C : Addr} {m : Str} {sp : Sp} {o e : Expr} {es : List Expr} {ta : TE} {t : TA} {apos pos : Pos}
theorem pm {pl : Sem Bool} (c : CalM X.prog X.w X.K X.mg X.base k C m sp) (cl : Cls X.K C) (hr : Room j X.A) (he : PE X o ta) (ha : PA X (e :: es) t) (hk : k ≤ j := by decide)
    (hst : starEach (e :: es) X.env = (false, eval e X.env) :: starEach es X.env := by rfl) (hpl : (backTo pos (starEach es X.env)).any (·.1) = false := by rfl)
    (ht : eval (.Call (.Attribute o m apos) (e :: es) [] pos) X.env = (do
      let ov ← eval o X.env
      standAt apos.atName
      let (f, first) ← holding [ov] (getMethod ov m pl)
      callWith pos f first (backTo pos (starEach (e :: es) X.env)) (backToKw pos (keywordEach [] X.env))) := by rfl) :
    PE X (.Call (.Attribute o m apos) (e :: es) [] pos) (tMeth C m sp [] E0 ta t) := by
  obtain ⟨f, fd, ps, F, hm, b⟩ := c.ex
  exact pe_meth he cl hm F (hr.mono hk) b .nil passL ha hst hpl ht
end
section
variable {P : Program} {w : World} {K : PySem.W.Frag} {mg : Str → Option Value} {base : Heap}
theorem cal0M {x q : Str} {st : Stmt} {f C : Addr} {fd : FuncData} {N ps : List Str} {k : Nat} {sp : Sp} (F : FunD K x q (defArgs st) (defBody st) (defScope st) [] [] f fd) (hm : Meth K C x f) (S : FnScope N ps (defScope st))
    (hb : ∀ (kV doc pm : Value) (an : Option Addr) (cdv ct : Value) (us : List Value), us.length = ps.length → bindArgs (PySem.W.fnOf x q (defArgs st) (defBody st) (defScope st) .none kV doc pm an cdv ct) ⟨us, []⟩ = pure (ps.zip us))
    (len : ∀ vs H Q E, sp vs H Q E → vs.length = ps.length)
    (hbody : ∀ (cdv : Value) (A : Around) (outer : List Env) (s : Shared) (H : Hp) (vs : List V) (Q : VK) (E : XK), Room k (A.deeper (envOfC q (defScope st) s.heap.objs.size f cdv)) → sp vs H Q E →
      ∃ t, PSs (cxOf (L2.CX P w) P w K mg base N q (defScope st) f cdv A outer s H E).nox (defBody st) t ∧ t { nx := fun _ H' => Q .non H', rt := Q } (start N vs) H) : CalM P w K mg base (k + 1) C x sp := by
  refine ⟨f, fd, ps, F.ok S len (fun cdv A outer s H vs Q E hr h => ?_), hm, FunD.bindsN F hb⟩
  obtain ⟨t, h1, h2⟩ := hbody cdv A outer s H vs Q E hr h
  exact ⟨t, h1.nox, h2⟩
theorem ix_val (ps : List (Addr × Row)) : ∀ (n : Nat) (t : Row), (t ∈ rR ps → ∃ m : Nat, valV ((ps.zipIdx n).map fun p => (rowK p.1.2, V.int (p.2 : Nat))) (rowK t) = some (.int m)) ∧ (t ∉ rR ps → valV ((ps.zipIdx n).map fun p => (rowK p.1.2, V.int (p.2 : Nat))) (rowK t) = none) := by
  induction ps with
  | nil => exact fun n t => ⟨fun h => (nomatch h), fun _ => rfl⟩
  | cons p ps ih =>
    intro n t
    rw [List.zipIdx_cons, List.map_cons]
    by_cases e : p.2 = t
    · exact ⟨fun _ => ⟨n, by rw [valV_pos (by rw [e])]⟩, fun h => absurd (by rw [← e]; exact List.mem_cons_self) h⟩
    · have h1 : ¬ rowK p.2 = rowK t := fun z => e (rowK_inj z)
      obtain ⟨i1, i2⟩ := ih (n + 1) t
      refine ⟨fun h => ?_, fun h => ?_⟩
      · rcases List.mem_cons.mp h with h | h
        · exact absurd h.symm e
        · obtain ⟨m, hm⟩ := i1 h
          exact ⟨m, by rw [valV_neg (by exact h1)]; exact hm⟩
      · rw [valV_neg (by exact h1)]
        exact i2 fun z => h (List.mem_cons_of_mem _ z)
/-- index_of: a number, or None -/
def spIndexOf (w : World) (C : Addr) : Sp := fun vs H Q _ => ∃ S sizes ps av kvs b t, vs = [.ref S.a, .ref b] ∧ StAt w H S sizes ps av kvs ∧ S.C = C ∧ H b = some (.tup (iV t)) ∧ (t ∈ rR ps → ∀ m : Nat, Q (.int m) H) ∧ (t ∉ rR ps → Q .non H)
theorem cal_index_of {f C : Addr} {fd : FuncData} (B : Bt mg) (sc0 : SC K C) (F : FunD K "index_of" "Store.index_of" (defArgs s_Storeindex_of) (defBody s_Storeindex_of) (defScope s_Storeindex_of) [] [] f fd) (hm : Meth K C "index_of" f) : CalM P w K mg base 1 C "index_of" (spIndexOf w C) := by
  refine cal0M F hm sc_Storeindex_of (fun _ _ _ _ _ _ us hl => match us, hl with | [_, _], _ => rfl) (fun vs H Q E h => ?_) (fun cdv A outer s H vs Q E hr h => ?_)
  · obtain ⟨S, sizes, ps, av, kvs, b, t, rfl, _⟩ := h
    rfl
  · obtain ⟨S, sizes, ps, av, kvs, b, t, rfl, sa, hC, hb, q1, q2⟩ := h
    have sc : SC K S.C := hC ▸ sc0
    have hu := hu_of hr
    refine ⟨_, pss_one (ps_ret (pe_dget1 hu (pe_fld (pv 0) rfl) (pv 1) ⟨rfl, rfl, rfl, rfl⟩)), ?_⟩
    obtain ⟨i1, i2⟩ := ix_val ps 0 t
    refine ⟨_, rfl, S.a, S.C, S.dx, _, _, rfl, sa.ins, sc.cl, sc.nIdx, rfl, S.ix, rfl, .inr ⟨_, .inl sa.ix⟩, _, rfl, _, .inr ⟨_, rowK t, b, .inl sa.ix, rfl, by rw [rowK_kV]; exact hb, rfl⟩, ?_⟩
    by_cases h : t ∈ rR ps
    · obtain ⟨m, hm⟩ := i1 h
      rw [show valV (ixKV ps) (rowK t) = some (.int m) from hm]
      exact q1 h m
    · rw [show valV (ixKV ps) (rowK t) = none from i2 h]
      exact q2 h
end
end K13
/-! K13M1 -/
set_option autoImplicit true
set_option Elab.async false
set_option linter.all false
set_option maxRecDepth 100000
set_option maxHeartbeats 2000000
set_option pp.maxSteps 400
namespace K13
open PySem PySem.Spec PyProof.Rows L2
/-! ### rows that differ in one place -/
theorem range_one (p : Nat → Bool) (k : Nat) : ∀ n, (∀ i, i < n → (p i = true ↔ i = k)) → (List.range n).filter p = if k < n then [k] else []
  | 0, _ => by simp
  | n + 1, h => by
    have ih := range_one p k n fun i hi => h i (by omega)
    by_cases e : n = k
    · subst e
      rw [rf_yes ((h n (by omega)).mpr rfl), ih, if_neg (by omega), if_pos (by omega)]
      rfl
    · have hp : p n = false := by
        cases q : p n with
        | false => rfl
        | true => exact absurd ((h n (by omega)).mp q) e
      rw [rf_no hp, ih]
      by_cases hk : k < n
      · rw [if_pos hk, if_pos (by omega)]
      · rw [if_neg hk, if_neg (by omega)]
theorem apart_set {r : Row} {k : Nat} {v : Int} (hk : k < r.length) (hv : v ≠ r.getD k 0) : apart r (r.set k v) = [(k : Int)] := by
  unfold apart
  rw [range_one _ k, if_pos hk]
  · rfl
  · intro i hi
    rw [decide_eq_true_iff]
    by_cases e : i = k
    · subst e
      have : (r.set i v).getD i 0 = v := by simp [List.getD, hi]
      rw [this]
      exact ⟨fun _ => rfl, fun _ z => hv z.symm⟩
    · have : (r.set k v).getD i 0 = r.getD i 0 := by simp [List.getD, List.getElem?_set_ne (fun z => e z.symm)]
      rw [this]
      exact ⟨fun z => absurd rfl z, fun z => absurd z e⟩
theorem apart_one {r t : Row} {k : Int} (hl : r.length = t.length) (h : apart r t = [k]) : ∃ n : Nat, k = n ∧ n < r.length ∧ t = r.set n (t.getD n 0) ∧ t.getD n 0 ≠ r.getD n 0 := by
  unfold apart at h
  cases hf : (List.range r.length).filter (fun i => decide (r.getD i 0 ≠ t.getD i 0)) with
  | nil => rw [hf] at h; cases h
  | cons n rest =>
    rw [hf] at h
    cases rest with
    | cons a b => simp at h
    | nil =>
      have hk : k = (n : Int) := by simpa using h.symm
      have hn : n ∈ (List.range r.length).filter (fun i => decide (r.getD i 0 ≠ t.getD i 0)) := by rw [hf]; simp
      rw [List.mem_filter, List.mem_range, decide_eq_true_iff] at hn
      refine ⟨n, hk, hn.1, ?_, fun z => hn.2 z.symm⟩
      refine List.ext_getElem (by simp [hl]) fun i h1 h2 => ?_
      by_cases e : i = n
      · subst e
        simp [List.getD, h1]
      · rw [List.getElem_set_ne (fun z => e z.symm)]
        have hi : i < r.length := by omega
        have : i ∉ (List.range r.length).filter (fun i => decide (r.getD i 0 ≠ t.getD i 0)) := by rw [hf]; simpa using e
        rw [List.mem_filter, List.mem_range, decide_eq_true_iff] at this
        have : r.getD i 0 = t.getD i 0 := Decidable.byContradiction fun z => this ⟨hi, z⟩
        simp [List.getD, hi, h1] at this
        exact this.symm
theorem set_parts {r : Row} {k : Nat} {v : Int} (hk : k < r.length) : iV (r.take k) ++ (V.int v :: (iV (r.drop (k + 1)) ++ [])) = iV (r.set k v) := by
  rw [List.append_nil, List.set_eq_take_append_cons_drop, if_pos hk]
  simp [iV]
/-- the row is a neighbour of r, by a key below i, or by the key i and a value below j -/
def NbTo (r t : Row) (i j : Nat) : Prop := (∃ k : Nat, k < i ∧ apart r t = [(k : Int)]) ∨ (apart r t = [(i : Int)] ∧ t.getD i 0 < (j : Int))
section
variable {P : Program} {w : World} {K : PySem.W.Frag} {mg : Str → Option Value} {base : Heap} {f : Addr} {fd : FuncData}
theorem cut_take {r : List Int} {k : Nat} (h : k ≤ r.length) : cutV (iV r) none (some (k : Int)) = iV (r.take k) := by
  unfold cutV
  rw [HT.sIx_nat, HT.sIx_none, iV_len, Nat.min_eq_left h]
  simp [iV]
theorem cut_drop {r : List Int} {k : Nat} (h : k ≤ r.length) : cutV (iV r) (some (k : Int)) none = iV (r.drop k) := by
  unfold cutV
  rw [HT.sIx_nat, HT.sIx_none, iV_len, Nat.min_eq_left h]
  rw [List.take_of_length_le (by simp [iV])]
  simp [iV]
def spNear (w : World) (C : Addr) : Sp := fun vs H Q _ => ∃ S sizes ps av kvs b r, vs = [.ref S.a, .ref b] ∧ StAt w H S sizes ps av kvs ∧ Shape sizes (rR ps) ∧ S.C = C ∧ H b = some (.tup (iV r)) ∧ r ∈ rR ps ∧
  ∀ H' p qs, Fr [] H H' → H p = none → H' p = some (.lst (rV qs)) → RwL H' qs → qs.length ≤ 16 → (∀ t, t ∈ rR qs ↔ t ∈ rR ps ∧ ∃ k, apart r t = [k]) → Q (.ref p) H'
theorem cal_near {C : Addr} (B : Bt mg) (sc0 : SC K C) (cI : CalM P w K mg base 1 C "index_of" (spIndexOf w C)) (F : FnP K "near" s_near f fd) (hm : mg "near" = some (.ref f)) : Cal P w K mg base 2 "near" (spNear w C) := by
  refine cal0 F hm sc_near (fun _ _ _ _ _ _ us hl => match us, hl with | [_, _], _ => rfl) (fun vs H Q E h => ?_) (fun cdv A outer s H vs Q E hr h => ?_)
  · obtain ⟨S, sizes, ps, av, kvs, b, r, rfl, _⟩ := h
    rfl
  · obtain ⟨S, sizes, ps, av, kvs, b, r, rfl, sa, sh, hC, hb, hrm, q⟩ := h
    have sc : SC K S.C := hC ▸ sc0
    subst hC
    have nd := sc_near.nd
    refine ⟨_, pss_cons (ps_set (i := 2) nd rfl (Or.inl rfl) (pe_lst pa_nil))
      (pss_cons (ps_for PassesOwn.never rfl (pi_range1 rfl B.range (pa_cons (pe_fld (pv 0) rfl) pa_nil)) (pg_name (i := 3) nd rfl (Or.inl rfl))
        (pss_one (ps_for PassesOwn.never rfl (pi_range1 rfl B.range (pa_cons (pe_ix ix_tup (pe_fld (pv 0) rfl) (pv 3) (fun _ _ => rfl)) pa_nil)) (pg_name (i := 4) nd rfl (Or.inl rfl))
          (pss_cons (ps_set (i := 5) nd rfl (Or.inl rfl) (pe_tup (k_star K (pe_slice sl_tupA (pv 1) po_none (po_some (pv 3))) (pa_cons (pv 4) (k_star K (pe_slice sl_tupA (pv 1) (po_some (pe_op op_add (pv 3) pe_int)) po_none) pa_nil)))))
          (pss_one (ps_if (PW.pt (pw_and (pt_cmpR op_ne (pv 4) (pe_ix ix_tup (pv 1) (pv 3) (fun _ _ => rfl)) (nomark _)) (pw_and1 (pt_cmp (pc_notN (pm cI sc.cl hr (pv 0) (pa_cons (pv 5) pa_nil)))))))
            (pss_one (ps_expr (pe_bm PySem.F.plainAttrs_list PySem.F.slot_list_append PySem.F.type_list_append mt_append (pv 2) (pa_cons (pv 5) pa_nil)))) pss_nil))))))
      (pss_one (ps_ret (b_sortD B hr (pv 2))))), ?_⟩
    have nn : ∀ {x : Addr}, x ∉ ([] : List Addr) := fun z => nomatch z
    have hrl : r.length = sizes.length := (sh.box r hrm).1
    have h4 := sh.few
    refine ⟨Nat.zero_le _, fun fa hfa => ?_⟩
    have f0 : Fr [] H (upd H fa (.lst [])) := .new hfa
    refine ⟨_, rfl, S.a, S.C, S.dx, _, _, rfl, f0.keep _ _ nn sa.ins, sc.cl, sc.nKey, rfl, sizes.length, rfl, by omega, by omega, for_range (n := sizes.length) (fun i σ H' => ∃ qs x3 x4 x5, σ = [some (.ref S.a), some (.ref b), some (.ref fa), x3, x4, x5] ∧ H' fa = some (.lst (rV qs)) ∧ RwL H' qs ∧ qs.length ≤ 4 * i ∧
        (∀ t, t ∈ rR qs ↔ t ∈ rR ps ∧ ∃ k : Nat, k < i ∧ apart r t = [(k : Int)]) ∧ Fr [] H H')
      ⟨[], _, _, _, rfl, upd_same, .nil, Nat.zero_le _, fun t => ⟨fun z => (nomatch z), fun ⟨_, k, hk, _⟩ => absurd hk (by omega)⟩, f0⟩ ?_ ?_⟩
    · rintro i σ H1 hi ⟨qs, x3, x4, x5, rfl, hL, hQ, hq4, hqm, fr⟩
      have hsz : sizes[i]? = some sizes[i] := List.getElem?_eq_getElem hi
      have hsm := sh.small sizes[i] (List.getElem_mem hi)
      refine ⟨_, rfl, S.a, S.C, S.dx, _, _, rfl, fr.keep _ _ nn sa.ins, sc.cl, sc.nSiz, rfl, _, rfl, S.tz, iV sizes, _, _, rfl, rfl, SqT.of (fr.tup _ _ sa.hz), ?_, sizes[i], rfl, by omega, by omega, ?_⟩
      · rw [show (0 : Int) + (i : Nat) = (i : Int) by omega]
        exact atI_nat (by simp [iV, hi])
      refine for_range (n := sizes[i].toNat) (fun j σ H' => ∃ qs x4 x5, σ = [some (.ref S.a), some (.ref b), some (.ref fa), some (.int (0 + (i : Nat))), x4, x5] ∧ H' fa = some (.lst (rV qs)) ∧ RwL H' qs ∧ qs.length ≤ 4 * i + j ∧
        (∀ t, t ∈ rR qs ↔ t ∈ rR ps ∧ NbTo r t i j) ∧ Fr [] H H') ⟨qs, _, _, rfl, hL, hQ, by omega, fun t => ?_, fr⟩ ?_ ?_
      · rw [hqm t]
        refine ⟨fun ⟨a, z⟩ => ⟨a, .inl z⟩, fun ⟨a, z⟩ => ⟨a, z.elim id fun ⟨e, lt⟩ => ?_⟩⟩
        obtain ⟨n, e1, n1, e2, e3⟩ := apart_one ((sh.len r hrm t a)) e
        have e4 : n = i := by omega
        subst e4
        have hb2 := (sh.box t a).2 n sizes[n] (t.getD n 0) hsz (by
          have : n < t.length := by rw [← sh.len r hrm t a]; exact n1
          simp [List.getD, this])
        omega
      · rintro j σ H2 hj ⟨qs, x4, x5, rfl, hL, hQ, hq4, hqm, fr⟩
        have hij : (0 : Int) + (i : Nat) = (i : Int) := by omega
        have hjj : (0 : Int) + (j : Nat) = (j : Int) := by omega
        have hir : i < r.length := by omega
        -- the row with the value put in
        have fin : ∀ (t1 t2 : Addr) (H3 : Hp), Fr [] H2 H3 → H3 t1 = some (.tup (iV (r.take i))) → H3 t2 = some (.tup (iV (r.drop (i + 1)))) → True := fun _ _ _ _ _ _ => True.intro
        refine ⟨_, rfl, _, rfl, _, rfl, b, iV r, rfl, SqT.of (fr.tup _ _ hb), fun hfull => ?_, fun _ t1 ht1 => ?_⟩
        · rw [hij, HT.sIx_nat, iV_len] at hfull
          omega
        rw [hij, cut_take (by omega)]
        have fr3 : Fr [] H (upd H2 t1 (.tup (iV (r.take i)))) := fr.trans (.new ht1)
        have hL3 : upd H2 t1 (.tup (iV (r.take i))) fa = some (.lst (rV qs)) := by rw [upd_ne (ne_of_none hL ht1)]; exact hL
        have hQ3 := hQ.new (o := .tup (iV (r.take i))) ht1
        refine ⟨t1, _, rfl, .inl (SqT.of upd_same), _, rfl, _, rfl, _, rfl, _, _, rfl, rfl, _, rfl, b, iV r, rfl, SqT.of (fr3.tup _ _ hb), fun hfull => ?_, fun _ t2 ht2 => ?_⟩
        · rw [show (i : Int) + 1 = ((i + 1 : Nat) : Int) by omega, HT.sIx_nat, iV_len] at hfull
          omega
        rw [show (i : Int) + 1 = ((i + 1 : Nat) : Int) by omega, cut_drop (by omega)]
        refine ⟨t2, _, rfl, .inl (SqT.of upd_same), ?_⟩
        have es : iV (r.take i) ++ (V.int (0 + (j : Nat)) :: (iV (r.drop (i + 1)) ++ [])) = iV (r.set i j) := by rw [hjj]; exact set_parts hir
        refine ⟨Nat.le_trans (Nat.le_of_eq (congrArg List.length es)) (by rw [iV_len, sizeLine_eq]; simp; omega), fun o ho => ?_⟩
        rw [show (HO.tup (iV (r.take i) ++ (V.int (0 + (j : Nat)) :: (iV (r.drop (i + 1)) ++ [])))) = HO.tup (iV (r.set i j)) from congrArg HO.tup es]
        have fr5 := (fr3.trans (.new (o := .tup (iV (r.drop (i + 1)))) ht2)).trans (.new (o := .tup (iV (r.set i j))) ho)
        have hL5 : upd (upd (upd H2 t1 (.tup (iV (r.take i)))) t2 (.tup (iV (r.drop (i + 1))))) o (.tup (iV (r.set i j))) fa = some (.lst (rV qs)) := by
          have := ((Fr.new (ds := []) (o := .tup (iV (r.drop (i + 1)))) ht2).trans (.new (o := .tup (iV (r.set i j))) ho)).keep _ _ nn hL3
          exact this
        have hQ5 := (hQ3.new (o := .tup (iV (r.drop (i + 1)))) ht2).new (o := .tup (iV (r.set i j))) ho
        have ho5 : upd (upd (upd H2 t1 (.tup (iV (r.take i)))) t2 (.tup (iV (r.drop (i + 1))))) o (.tup (iV (r.set i j))) o = some (.tup (iV (r.set i j))) := upd_same
        generalize upd (upd (upd H2 t1 (.tup (iV (r.take i)))) t2 (.tup (iV (r.drop (i + 1))))) o (.tup (iV (r.set i j))) = H5 at fr5 hL5 hQ5 ho5
        have hnb : ∀ t ∈ rR ps, (NbTo r t i (j + 1) ↔ NbTo r t i j ∨ (t = r.set i j ∧ (j : Int) ≠ r.getD i 0)) := fun t ht => by
          constructor
          · rintro (z | ⟨e, lt⟩)
            · exact .inl (.inl z)
            · by_cases h : t.getD i 0 < (j : Int)
              · exact .inl (.inr ⟨e, h⟩)
              · have ej : t.getD i 0 = (j : Int) := by omega
                obtain ⟨n, e1, n1, e2, e3⟩ := apart_one (sh.len r hrm t ht) e
                have e4 : n = i := by omega
                subst e4
                rw [ej] at e2 e3
                exact .inr ⟨e2, e3⟩
          · rintro ((z | ⟨e, lt⟩) | ⟨rfl, hne⟩)
            · exact .inl z
            · exact .inr ⟨e, by omega⟩
            · refine .inr ⟨apart_set hir hne, ?_⟩
              have : (r.set i (j : Int)).getD i 0 = j := by simp [List.getD, hir]
              rw [this]
              omega
        have skip : (∀ t ∈ rR ps, ¬ (t = r.set i j ∧ (j : Int) ≠ r.getD i 0)) → ∀ t, t ∈ rR qs ↔ t ∈ rR ps ∧ NbTo r t i (j + 1) := fun hno t => by
          rw [hqm t]
          refine ⟨fun ⟨a, z⟩ => ⟨a, (hnb t a).mpr (.inl z)⟩, fun ⟨a, z⟩ => ⟨a, ((hnb t a).mp z).elim id fun z => absurd z (hno t a)⟩⟩
        refine ⟨_, rfl, _, rfl, _, rfl, b, iV r, _, _, rfl, rfl, SqT.of (fr5.tup _ _ hb), (hij ▸ getD_nat hir : atI (iV r) (i : Int) = some (.int (r.getD i 0))), rfl, _, rfl, ?_⟩
        rw [hjj]
        by_cases hne : (j : Int) = r.getD i 0
        · rw [show (!decide (V.int (j : Int) = V.int (r.getD i 0))) = false by rw [hne]; simp]
          refine iteF ⟨qs, _, _, rfl, hL5, hQ5, by omega, skip (fun t _ z => z.2 hne), fr5⟩
        · rw [show (!decide (V.int (j : Int) = V.int (r.getD i 0))) = true by rw [decide_eq_false (fun z => hne (V.int.inj z))]; rfl]
          refine iteT ⟨_, rfl, S.a, S.dx, _, rfl, fr5.keep _ _ nn sa.ins, rfl, _, rfl, S, sizes, ps, av, kvs, o, r.set i j, rfl, sa.same fr5, rfl, ho5, fun hin m => ?_, fun hnin => ?_⟩
          · refine ⟨_, rfl, _, rfl, .inl ⟨rfl, _, SqL.of hL5⟩, _, rfl, fa, _, _, rfl, rfl, hL5, by rw [rV_len, sizeLine_eq]; omega, ?_⟩
            have f6 : Fr [fa] H5 (upd H5 fa (.lst (rV qs ++ [.ref o]))) := .set (by simp) hL5 (fun _ z => nomatch z)
            refine ⟨qs ++ [(o, r.set i j)], _, _, rfl, by rw [upd_same, rV_snoc], (hQ5.fr f6).snoc (f6.tup _ _ ho5), by simp; omega, fun t => ?_, fr5.own hfa⟩
            rw [rR_snoc, List.mem_append, hqm t]
            refine ⟨fun z => z.elim (fun ⟨a, z⟩ => ⟨a, (hnb t a).mpr (.inl z)⟩) fun z => ?_, fun ⟨a, z⟩ => ((hnb t a).mp z).elim (fun z => .inl ⟨a, z⟩) fun z => .inr (by simp [z.1])⟩
            obtain rfl : t = r.set i j := by simpa using z
            exact ⟨hin, (hnb _ hin).mpr (.inr ⟨rfl, hne⟩)⟩
          · exact ⟨_, rfl, qs, _, _, rfl, hL5, hQ5, by omega, skip (fun t a z => hnin (z.1 ▸ a)), fr5⟩
      · rintro σ H2 ⟨qs, x4, x5, rfl, hL, hQ, hq4, hqm, fr⟩
        refine ⟨qs, _, _, _, rfl, hL, hQ, by omega, fun t => ?_, fr⟩
        rw [hqm t]
        refine ⟨fun ⟨a, z⟩ => ⟨a, z.elim (fun ⟨k, h1, h2⟩ => ⟨k, by omega, h2⟩) fun ⟨e, _⟩ => ⟨i, by omega, e⟩⟩, fun ⟨a, k, h1, h2⟩ => ⟨a, ?_⟩⟩
        by_cases hk : k < i
        · exact .inl ⟨k, hk, h2⟩
        · have e4 : k = i := by omega
          subst e4
          refine .inr ⟨h2, ?_⟩
          have hb2 := (sh.box t a).2 k sizes[k] (t.getD k 0) hsz (by
            have : k < t.length := by rw [← sh.len r hrm t a]; omega
            simp [List.getD, this])
          omega
    · rintro σ H1 ⟨qs, x3, x4, x5, rfl, hL, hQ, hq4, hqm, fr⟩
      have hne : ∀ p ∈ qs, p.2 ≠ [] := fun p hp e => by
        have := (sh.box p.2 ((hqm p.2).mp (List.mem_map_of_mem hp)).1).1
        have hpos := sh.pos
        rw [e] at this
        simp at this
        omega
      refine ⟨_, rfl, rSort_rows (k := true) hL hQ (.inl hne) fun p ps' hp hpm hs => ?_⟩
      refine q _ p ps' (fr.trans (.new hp)) (fresh_of fr hp) upd_same ((hQ.sub fun p hp => hpm.mem_iff.mp hp).new hp) (by rw [hpm.length_eq]; omega) fun t => ?_
      have : t ∈ rR ps' ↔ t ∈ rR qs := (hpm.map _).mem_iff
      rw [this, hqm t]
      refine ⟨fun ⟨a, k, _, e⟩ => ⟨a, k, e⟩, fun ⟨a, k, e⟩ => ⟨a, ?_⟩⟩
      obtain ⟨n, e1, n1, _⟩ := apart_one (sh.len r hrm t a) e
      exact ⟨n, by omega, by rw [e, e1]⟩
end
end K13
/-! K13M2 -/
set_option autoImplicit true
set_option Elab.async false
set_option linter.all false
set_option maxRecDepth 100000
set_option maxHeartbeats 2000000
set_option pp.maxSteps 400
namespace K13
open PySem PySem.Spec PyProof.Rows L2
theorem nk_none {bs : List (Row × Addr)} {r : Row} (h : r ∉ bs.map (·.1)) : valV (nearKV bs) (rowK r) = none := by
  induction bs with
  | nil => rfl
  | cons q D ih =>
    have h1 : ¬ rowK q.1 = rowK r := fun e => h (by rw [← rowK_inj e]; exact List.mem_cons_self)
    rw [show nearKV (q :: D) = (rowK q.1, V.ref q.2) :: nearKV D from rfl, valV_neg h1]
    exact ih fun z => h (List.mem_cons_of_mem _ z)
theorem nk_put {bs : List (Row × Addr)} {r : Row} {a : Addr} (h : r ∉ bs.map (·.1)) : putK (nearKV bs) (rowK r) (.ref a) = nearKV (bs ++ [(r, a)]) := by
  rw [putK_new (nk_none h)]
  simp [nearKV]
theorem take_not_mem {α : Type} {l : List α} {i : Nat} {x : α} (h : l.Nodup) (hx : l[i]? = some x) : x ∉ l.take i := fun hm => by
  obtain ⟨j, hj, e⟩ := List.getElem_of_mem hm
  obtain ⟨hi, e2⟩ := List.getElem?_eq_some_iff.mp hx
  rw [List.length_take] at hj
  rw [List.getElem_take] at e
  exact pw_get (R := fun a b => a ≠ b) h (show j < i by omega) (show l[j]? = some x by rw [List.getElem?_eq_getElem (by omega), e]) hx rfl
section
variable {P : Program} {w : World} {K : PySem.W.Frag} {mg : Str → Option Value} {base : Heap} {f : Addr} {fd : FuncData}
def spFindNear (w : World) (C : Addr) : Sp := fun vs H Q _ => ∃ S sizes ps av kvs, vs = [.ref S.a] ∧ StAt w H S sizes ps av kvs ∧ Shape sizes (rR ps) ∧ S.C = C ∧ ∀ H' n, Fr [] H H' → NearAt H' (rR ps) av n → Q (.ref n) H'
theorem cal_find_near {C : Addr} (B : Bt mg) (sc0 : SC K C) (cN : Cal P w K mg base 2 "near" (spNear w C)) (cK : Cal P w K mg base 1 "changed_key" spChanged) (F : FnP K "find_near" s_find_near f fd) (hm : mg "find_near" = some (.ref f)) : Cal P w K mg base 3 "find_near" (spFindNear w C) := by
  refine cal0 F hm sc_find_near (fun _ _ _ _ _ _ us hl => match us, hl with | [_], _ => rfl) (fun vs H Q E h => ?_) (fun cdv A outer s H vs Q E hr h => ?_)
  · obtain ⟨S, sizes, ps, av, kvs, rfl, _⟩ := h
    rfl
  · obtain ⟨S, sizes, ps, av, kvs, rfl, sa, sh, hC, q⟩ := h
    have sc : SC K S.C := hC ▸ sc0
    subst hC
    have nd := sc_find_near.nd
    have hu := hu_of hr
    refine ⟨_, pss_cons (ps_set (i := 1) nd rfl (Or.inl rfl) pe_dnewT)
      (pss_cons (ps_for PassesOwn.never rfl (pi_tup (pe_fld (pv 0) rfl)) (pg_name (i := 2) nd rfl (Or.inr rfl))
        (pss_one (ps_dput hu (pv 1) (pv 2) (pe_lc (own := [("other", 3)]) (g := gName 3) rfl nd (pi_list (pc cN hr (pa_cons (pv 0) (pa_cons (pv 2) pa_nil)))) (blkOk_by (N := N_find_near) (sc := defScope s_find_near) (by decide +kernel))
          (fun _ _ _ _ _ => pg_name (i := 3) nd rfl (Or.inl rfl)) (fun _ _ _ _ _ => pts_nil) (fun _ _ _ _ _ => pe_tup (pa_cons (pc cK hr (pa_cons (pv 2) (pa_cons (pv 3) pa_nil))) (pa_cons (pv 3) pa_nil)))) rfl)))
      (pss_one (ps_ret (pv 1)))), ?_⟩
    have nn : ∀ {x : Addr}, x ∉ ([] : List Addr) := fun z => nomatch z
    have h24 : ps.length ≤ 24 := by rw [← rR_len]; exact sh.many
    intro fa hfa
    have f0 : Fr [] H (upd H fa (.dT [])) := .new hfa
    refine ⟨_, rfl, S.a, S.C, S.dx, _, _, rfl, f0.keep _ _ nn sa.ins, sc.cl, sc.nSta, rfl, S.ts, rfl, ⟨_, SqT.of (f0.tup _ _ sa.hs)⟩, for_tup (xs := rV ps) (fun i σ H' => ∃ bs x2 x3, σ = [some (.ref S.a), some (.ref fa), x2, x3] ∧ H' fa = some (.dT (nearKV bs)) ∧ bs.map (·.1) = (rR ps).take i ∧
        (∀ p ∈ bs, p.2 ∉ av ∧ NbAt H' (rR ps) p.1 p.2) ∧ Fr [] H H')
      ⟨[], _, _, rfl, upd_same, rfl, fun _ z => (nomatch z), f0⟩ ?_ ?_ ?_⟩
    · rintro i σ H' _ ⟨bs, x2, x3, rfl, _, _, _, fr⟩
      exact SqT.of (fr.tup _ _ sa.hs)
    · rintro i x σ H1 hx ⟨bs, x2, x3, rfl, hD, hb, hnb, fr⟩
      obtain ⟨p, hp, rfl⟩ := rV_get hx
      have hpm := List.mem_of_getElem? hp
      have hrow : (rR ps)[i]? = some p.2 := by rw [rR, List.getElem?_map, hp]; rfl
      have hst : p.2 ∈ rR ps := List.mem_of_getElem? hrow
      have hp1 := fr.tup _ _ (sa.rw p hpm)
      refine ⟨_, rfl, _, rfl, S, sizes, ps, av, kvs, p.1, p.2, rfl, sa.same fr, sh, rfl, hp1, hst, fun H2 na qs fr2 hna hna2 hqs hq16 hqm => ?_⟩
      have fr12 := fr.trans fr2
      refine ⟨na, rfl, ⟨_, SqL.of hna2⟩, fun D hDn => lcG (walk_list (xs := rV qs)) [] (fun j acc H3 => ∃ es : List NEnt1, acc = es.map (fun e => V.ref e.1) ∧ (∀ e ∈ es, H3 e.1 = some (.tup [.int e.2.1, .ref e.2.2.1]) ∧ H3 e.2.2.1 = some (.tup (iV e.2.2.2)) ∧ apart p.2 e.2.2.2 = [e.2.1]) ∧ es.map (fun e => e.2.2) = qs.take j) hDn (by rw [rV_len, sizeLine_eq]; omega) ⟨[], rfl, (fun _ z => nomatch z), rfl⟩
        (fun _ _ _ _ f _ ⟨es, e1, e2, e3⟩ => ⟨es, e1, fun e he => ⟨f.tup _ _ (e2 e he).1, f.tup _ _ (e2 e he).2.1, (e2 e he).2.2⟩, e3⟩) (fun _ _ _ _ f _ => SqL.of (f.keep _ _ nn hna2)) ?_ ?_⟩
      · rintro j x _ H3 acc hj hD3 fr3 ⟨es, rfl, he, hes⟩ ⟨rfl, hx2⟩ yes no
        obtain ⟨t, ht, rfl⟩ := rV_get hx2
        have htm := List.mem_of_getElem? ht
        obtain ⟨hts, k, hk⟩ := (hqm t.2).mp (List.mem_map_of_mem htm)
        have ht3 := fr3.tup _ _ (hqs t htm)
        have hl := sh.len p.2 hst t.2 hts
        have h4 := sh.few
        have hpl := (sh.box p.2 hst).1
        refine ⟨rfl, ?_⟩
        refine ⟨_, rfl, _, rfl, p.1, t.1, p.2, t.2, k, [], rfl, (fr2.trans fr3).tup _ _ hp1, ht3, hl, by omega, hk, fun H4 fr4 => ⟨_, rfl, by show 2 ≤ sizeLine; decide, fun T hT => ?_⟩⟩
        have f5 := fr4.trans (.new (o := .tup [.int k, .ref t.1]) hT)
        refine yes _ _ (f5.keep _ _ nn hD3) (fr3.trans f5) ⟨es ++ [(T, k, t.1, t.2)], by simp, fun e hee => ?_, by rw [take_snoc ht, List.map_append, hes]; rfl⟩
        rcases List.mem_append.mp hee with hee | hee
        · exact ⟨f5.tup _ _ (he e hee).1, f5.tup _ _ (he e hee).2.1, (he e hee).2.2⟩
        · obtain rfl : e = (T, k, t.1, t.2) := by simpa using hee
          exact ⟨upd_same, f5.tup _ _ ht3, hk⟩
      · rintro acc H3 hD3 hl3 fr3 ⟨es, rfl, he, hes⟩
        rw [rV_len, List.take_length] at hes
        have fr13 := fr12.trans fr3
        have hD3' := (fr2.trans fr3).keep _ _ nn hD
        have hDfa : D ≠ fa := ne_of hD3 hD3' (fun z => nomatch z)
        have hkl : (nearKV bs).length < sizeLine := by
          have := congrArg List.length hb
          rw [List.length_map, List.length_take, rR_len] at this
          rw [nearKV, List.length_map, sizeLine_eq]
          omega
        have hkey : H3 p.1 = some (.tup ((rowK p.2).map kV)) := by rw [rowK_kV]; exact (fr2.trans fr3).tup _ _ hp1
        have hnm : p.2 ∉ bs.map (·.1) := by rw [hb]; exact take_not_mem sh.nd hrow
        refine ⟨_, rfl, _, rfl, fa, _, rfl, .inr ⟨_, _, p.1, hD3', rfl, hkey, hkl, rfl⟩, ?_⟩
        rw [nk_put hnm]
        have f4 : Fr [fa] H3 (upd H3 fa (.dT (nearKV (bs ++ [(p.2, D)])))) := .set (by simp) hD3' (fun _ z => nomatch z)
        have hel : es.length = qs.length := by rw [← hes, List.length_map]
        refine ⟨bs ++ [(p.2, D)], _, _, rfl, upd_same, by rw [List.map_append, hb, take_snoc hrow]; rfl, fun z hz => ?_, fr13.own hfa⟩
        rcases List.mem_append.mp hz with hz | hz
        · refine ⟨(hnb z hz).1, ?_⟩
          have h1 : NbAt H3 (rR ps) z.1 z.2 := (hnb z hz).2.fr (fr2.trans fr3) nn
          refine h1.fr f4 fun m => ?_
          obtain ⟨es', e1, _⟩ := h1.ex
          rw [List.mem_singleton.mp m, hD3'] at e1
          cases e1
        · obtain rfl : z = (p.2, D) := by simpa using hz
          refine ⟨fun m => ?_, ⟨es, f4.keep _ _ (by simpa using hDfa) hD3, fun e hee => ⟨f4.tup _ _ (he e hee).1, f4.tup _ _ (he e hee).2.1⟩, by omega, fun k t => ⟨?_, ?_⟩⟩⟩
          · obtain ⟨xs, e⟩ := sa.ava D m
            have := fr12.keep _ _ nn e
            rw [hDn] at this
            cases this
          · rintro ⟨e, hee, rfl, rfl⟩
            have : e.2.2 ∈ qs := by rw [← hes]; exact List.mem_map_of_mem (f := fun e : NEnt1 => e.2.2) hee
            exact ⟨((hqm e.2.2.2).mp (List.mem_map_of_mem (f := fun q : Addr × Row => q.2) this)).1, (he e hee).2.2⟩
          · rintro ⟨h1, h2⟩
            have := (hqm t).mpr ⟨h1, k, h2⟩
            obtain ⟨qq, hqq, rfl⟩ := List.mem_map.mp this
            rw [← hes] at hqq
            obtain ⟨e, hee, rfl⟩ := List.mem_map.mp hqq
            refine ⟨e, hee, ?_, rfl⟩
            have h3 := (he e hee).2.2
            rw [h2] at h3
            exact (List.cons.inj h3).1.symm
    · rintro σ H1 ⟨bs, x2, x3, rfl, hD, hb, hnb, fr⟩
      rw [rV_len, ← rR_len, List.take_length] at hb
      exact ⟨_, rfl, q H1 fa fr ⟨bs, hD, hb, hnb⟩⟩
end
end K13
/-! K13M3 -/
set_option autoImplicit true
set_option Elab.async false
set_option linter.all false
set_option maxRecDepth 100000
set_option maxHeartbeats 2000000
set_option pp.maxSteps 400
namespace K13
open PySem PySem.Spec PyProof.Rows L2
theorem heap_of_size : ∀ n : Nat, ∃ h : Heap, h.objs.size = n
  | 0 => ⟨{ objs := #[] }, rfl⟩
  | n + 1 => by
    obtain ⟨h, e⟩ := heap_of_size n
    exact ⟨h.push { cls := .none, data := .fields #[] }, by rw [Heap.size_push, e]⟩
theorem codeO_ne_fdO {w : World} {c : Addr} {q : Str} {kvs : List FEnt} : LamX.CodeO c q ≠ FdO w c kvs := by
  intro e
  unfold LamX.CodeO FdO at e
  injection e with e
  obtain ⟨h, hs⟩ := heap_of_size c
  have h1 : (fun h : Heap => ∃ (oc : Obj) (vs : Array Value) (t : Tok), h.get? c = some oc ∧ oc.data = .fields vs ∧ vs[1]? = some (.str q t)) (h.push { cls := .none, data := .fields #[.none, .str q 0] }) :=
    ⟨_, _, 0, by rw [← hs]; exact Heap.get?_push_size _ rfl, rfl, rfl⟩
  rw [e] at h1
  obtain ⟨xs, _, _, m⟩ := h1
  obtain ⟨o, es, ep, ho, hr⟩ := m.ex
  rw [← hs, Heap.get?_push_size _ rfl] at ho
  cases ho
  have := hr.2.1
  cases this
theorem tab_put {w : World} {H : Hp} {P d : Addr} {q : Str} {kvs kvs' : List FEnt} (h : LamX.TabS H P q) (hd : H d = some (FdO w d kvs)) : LamX.TabS (upd H d (FdO w d kvs')) P q := by
  obtain ⟨ps, h1, h2, h3⟩ := h
  refine ⟨ps, by rw [upd_ne (ne_of h1 hd (fun z => by unfold FdO at z; cases z))]; exact h1, h2, fun pos cv hc => ?_⟩
  obtain ⟨c, e1, e2⟩ := h3 pos cv hc
  refine ⟨c, e1, ?_⟩
  rw [upd_ne]
  · exact e2
  · intro e
    subst e
    rw [hd] at e2
    exact codeO_ne_fdO (Option.some.inj e2).symm
theorem fdAt_mem {kvs : List FEnt} {k : NestedKey} {v : V} (h : fdAt kvs k = some v) : ∃ e ∈ kvs, e.1 = k ∧ e.2.2 = v := by
  unfold fdAt at h
  rw [Option.map_eq_some_iff] at h
  obtain ⟨e, he, rfl⟩ := h
  exact ⟨e, List.mem_of_find?_eq_some he, by simpa using List.find?_some he, rfl⟩
theorem fdAt_no {kvs : List FEnt} {k : NestedKey} (h : k ∉ kvs.map (·.1)) : fdAt kvs k = none := by
  unfold fdAt
  rw [Option.map_eq_none_iff, List.find?_eq_none]
  intro e he z
  exact h (by rw [← of_decide_eq_true z]; exact List.mem_map_of_mem he)
theorem StAt.put {w : World} {H : Hp} {S : Sto} {sizes : List Int} {ps : List (Addr × Row)} {av : List Addr} {kvs : List FEnt} {k : NestedKey} {y v : V} (h : StAt w H S sizes ps av kvs) (hk : KH H k y) (hn : fdAt kvs k = none) (hv : OkV H sizes.length (rR ps) av k v) :
    StAt w (upd H S.fd (FdO w S.fd (kvs ++ [(k, y, v)]))) S sizes ps av (kvs ++ [(k, y, v)]) := by
  have nx : ∀ {a : Addr} {o : HO}, H a = some o → (∀ φ, o ≠ .ext φ) → a ≠ S.fd := fun {a o} e ne z => by
    subst z
    rw [h.fdo] at e
    unfold FdO at e
    exact ne _ (Option.some.inj e).symm
  have f : Fr [S.fd] H (upd H S.fd (FdO w S.fd (kvs ++ [(k, y, v)]))) := .set (by simp) h.fdo (fun xs z => by unfold FdO at z; cases z)
  have hd : ∀ d ∈ [S.fd], (∀ kvs, H d ≠ some (.dT kvs)) ∧ ((∀ xs, H d ≠ some (.lst xs)) ∨ d ∈ av) := fun d q => by
    obtain rfl : d = S.fd := by simpa using q
    rw [h.fdo]
    unfold FdO
    exact ⟨fun _ z => (nomatch z), .inl fun _ z => (nomatch z)⟩
  exact {
    ins := by rw [upd_ne (nx h.ins (fun _ z => nomatch z))]; exact h.ins
    hz := f.tup _ _ h.hz
    hs := f.tup _ _ h.hs
    rw := h.rw.fr f
    ix := by rw [upd_ne (nx h.ix (fun _ z => nomatch z))]; exact h.ix
    fdo := upd_same
    fdk := fun p hp => by
      rcases List.mem_append.mp hp with hp | hp
      · exact (h.fdk p hp).mono f.tup
      · obtain rfl : p = (k, y, v) := by simpa using hp
        exact hk.mono f.tup
    fdn := by
      rw [List.map_append]
      exact nd_snoc h.fdn (fdAt_none hn)
    fdv := fun e he => by
      rcases List.mem_append.mp he with he | he
      · exact (h.fdv e he).fr f hd
      · obtain rfl : e = (k, y, v) := by simpa using he
        exact hv.fr f hd
    tab := tab_put h.tab h.fdo
    ava := fun x hx => by
      obtain ⟨xs, e⟩ := h.ava x hx
      exact ⟨xs, by rw [upd_ne (nx e (fun _ z => nomatch z))]; exact e⟩ }
theorem genL_le2 {n : Nat} (h : n ≤ 4) : (genL n).length ≤ 16 := by
  have e : ∀ n, (genL n).length = 2 ^ n := fun n => by
    induction n with
    | zero => rfl
    | succ n ih =>
      simp only [genL, List.length_append, List.length_map, ih]
      omega
  rw [e]
  exact Nat.pow_le_pow_right (by decide) h
/-- the keys that a store may hold -/
def KeyOk (n : Nat) (k : NestedKey) : Prop := k = .text "near" ∨ k = .text "joined" ∨ ∃ lot ∈ genL n, k = .tup [.text "homes", .tup (lot.map .num)]
theorem OkV.key {H : Hp} {n : Nat} {st : List Row} {av : List Addr} {k : NestedKey} {v : V} (h : OkV H n st av k v) : KeyOk n k := by
  rcases h with ⟨e, _⟩ | ⟨lot, e, hl, _⟩ | ⟨e, _⟩
  · exact .inl e
  · exact .inr (.inr ⟨lot, hl, e⟩)
  · exact .inr (.inl e)
theorem StAt.len {w : World} {H : Hp} {S : Sto} {sizes : List Int} {ps : List (Addr × Row)} {av : List Addr} {kvs : List FEnt} (h : StAt w H S sizes ps av kvs) (h4 : sizes.length ≤ 4) : kvs.length ≤ 18 := by
  have e := sub_len (m := .text "near" :: .text "joined" :: (genL sizes.length).map fun lot => NestedKey.tup [.text "homes", .tup (lot.map .num)]) h.fdn fun k hk => by
    obtain ⟨e, he, rfl⟩ := List.mem_map.mp hk
    rcases (h.fdv e he).key with z | z | ⟨lot, hl, z⟩
    · rw [z]; simp
    · rw [z]; simp
    · rw [z]
      exact List.mem_cons_of_mem _ (List.mem_cons_of_mem _ (List.mem_map_of_mem hl))
  have := genL_le2 h4
  simp at e
  omega
def orA (A : NestedKey → Prop) (k : NestedKey) : NestedKey → Prop := fun j => A j ∨ j = k
/-- what stays, the tables of code objects apart -/
structure FrT (ds : List Addr) (H H' : Hp) : Prop where
  keep : ∀ b u, b ∉ ds → (∀ ps, u ≠ .tbl ps) → H b = some u → H' b = some u
  tup : ∀ b xs, H b = some (.tup xs) → H' b = some (.tup xs)
section
variable {ds es : List Addr} {H H1 H2 H' : Hp} {a b p : Addr} {o u : HO}
theorem Fr.t (f : Fr ds H H') : FrT ds H H' := ⟨fun b u n _ e => f.keep b u n e, f.tup⟩
theorem FrT.refl : FrT ds H H := Fr.refl.t
theorem FrT.trans (f : FrT ds H H1) (g : FrT ds H1 H2) : FrT ds H H2 := ⟨fun b u n t e => g.keep b u n t (f.keep b u n t e), fun b xs e => g.tup b xs (f.tup b xs e)⟩
theorem FrT.wider (f : FrT ds H H1) (h : ∀ x, x ∈ ds → x ∈ es) : FrT es H H1 := ⟨fun b u n t e => f.keep b u (fun q => n (h b q)) t e, f.tup⟩
theorem FrT.of_ext (e : LamX.ExtN H H1) : FrT ds H H1 := ⟨fun b u _ t q => e b u q t, fun b xs q => e b _ q fun _ z => nomatch z⟩
theorem FrT.own (f : FrT ds H H1) (h : H p = none) : FrT ds H (upd H1 p o) := by
  refine ⟨fun b v n t e => ?_, fun b xs e => ?_⟩
  · rw [upd_ne (ne_of_none e h)]
    exact f.keep b v n t e
  · rw [upd_ne (ne_of_none e h)]
    exact f.tup b xs e
end
/-- a relation of heaps that found may hand on -/
structure RlOk (w : World) (S : Sto) (Rl : Hp → Hp → Prop) : Prop where
  refl : ∀ H, Rl H H
  tup : ∀ H H', Rl H H' → ∀ b xs, H b = some (.tup xs) → H' b = some (.tup xs)
  put : ∀ H H' kvs kvs', Rl H H' → H' S.fd = some (FdO w S.fd kvs) → Rl H (upd H' S.fd (FdO w S.fd kvs'))
theorem rlFr {w : World} {S : Sto} : RlOk w S (Fr [S.fd]) := ⟨fun _ => .refl, fun _ _ f => f.tup, fun _ _ _ _ f e => f.trans (.set (by simp) e (fun xs z => by unfold FdO at z; cases z))⟩
theorem rlFrT {w : World} {S : Sto} : RlOk w S (FrT [S.fd]) := ⟨fun _ => .refl, fun _ _ f => f.tup, fun _ _ _ _ f e => f.trans (Fr.set (by simp) e (fun xs z => by unfold FdO at z; cases z)).t⟩
/-- the reading of found -/
theorem found_read {w : World} {K : PySem.W.Frag} {H : Hp} {S : Sto} {sizes : List Int} {ps : List (Addr × Row)} {av : List Addr} {kvs : List FEnt} {nk : NestedKey} {y wv : V} {A : NestedKey → Prop} {tw : TE} {Q : VK} {Rl : Hp → Hp → Prop}
    (sc : SC K S.C) (sa : StAt w H S sizes ps av kvs) (h4 : sizes.length ≤ 4) (hk : KH H nk y) (hA : ¬ A nk) (hR : RlOk w S Rl)
    (hW : ∀ Q' : VK, (∀ v H1 kvs1, StAt w H1 S sizes ps av kvs1 → Grow A kvs kvs1 → OkV H1 sizes.length (rR ps) av nk v → Rl H H1 → Q' v H1) → tw [some (.ref S.a), some y, some wv] H Q')
    (q : ∀ v H' kvs', StAt w H' S sizes ps av kvs' → Grow (orA A nk) kvs kvs' → OkV H' sizes.length (rR ps) av nk v → Rl H H' → Q v H') :
    tSeq (tIfS (tB (tFdNotIn w (tVar 1) (tFld K (tVar 0) "_found"))) (sFdPut w (tFld K (tVar 0) "_found") (tVar 1) tw) tNext) (tRet (tFdGet w (tFld K (tVar 0) "_found") (tVar 1))) { nx := fun _ H' => Q .non H', rt := Q } [some (.ref S.a), some y, some wv] H := by
  have get : ∀ {H' : Hp} {kvs' : List FEnt} {v : V}, StAt w H' S sizes ps av kvs' → KH H' nk y → fdAt kvs' nk = some v → Q v H' → tRet (tFdGet w (tFld K (tVar 0) "_found") (tVar 1)) { nx := fun _ H' => Q .non H', rt := Q } [some (.ref S.a), some y, some wv] H' :=
    fun {H' kvs' v} sa' hk' hv qv => ⟨_, rfl, S.a, S.C, S.dx, _, _, rfl, sa'.ins, sc.cl, sc.nFnd, rfl, _, rfl, S.fd, kvs', nk, v, rfl, sa'.fdo, sa'.fdk, hk', hv, qv⟩
  refine ⟨_, rfl, _, rfl, S.a, S.C, S.dx, _, _, rfl, sa.ins, sc.cl, sc.nFnd, rfl, S.fd, kvs, nk, rfl, sa.fdo, sa.fdk, hk, _, rfl, ?_⟩
  cases e : fdAt kvs nk with
  | some v =>
    refine iteF ?_
    obtain ⟨en, he, e1, e2⟩ := fdAt_mem e
    have hv := sa.fdv en he
    rw [e1, e2] at hv
    exact get sa hk e (q v H kvs sa .refl hv (hR.refl H))
  | none =>
    refine iteT ?_
    refine hW _ fun v H1 kvs1 sa1 gr hv fr => ?_
    have hn1 : fdAt kvs1 nk = none := fdAt_no fun m => (gr nk m).elim (fun z => fdAt_none e z) hA
    have hk1 := hk.mono (hR.tup _ _ fr)
    have hl := sa1.len h4
    refine ⟨_, rfl, S.a, S.C, S.dx, _, _, rfl, sa1.ins, sc.cl, sc.nFnd, rfl, _, rfl, S.fd, kvs1, nk, rfl, sa1.fdo, sa1.fdk, hk1, hn1, by omega, ?_⟩
    have sa2 := sa1.put hk1 hn1 hv
    have f2 : Fr [S.fd] H1 (upd H1 S.fd (FdO w S.fd (kvs1 ++ [(nk, y, v)]))) := .set (by simp) sa1.fdo (fun xs z => by unfold FdO at z; cases z)
    have hget : fdAt (kvs1 ++ [(nk, y, v)]) nk = some v := by rw [fdAt_snoc hn1, if_pos rfl]
    obtain ⟨en, he, e1, e2⟩ := fdAt_mem hget
    have hv2 := sa2.fdv en he
    rw [e1, e2] at hv2
    refine get sa2 (hk1.mono f2.tup) hget (q v _ _ sa2 (fun j hj => ?_) hv2 (hR.put _ _ _ _ fr sa1.fdo))
    rw [List.map_append, List.mem_append] at hj
    rcases hj with hj | hj
    · exact (gr j hj).imp id .inl
    · exact .inr (.inr (by simpa using hj))
end K13
/-! K13M4 -/
set_option autoImplicit true
set_option Elab.async false
set_option linter.all false
set_option maxRecDepth 100000
set_option maxHeartbeats 2000000
set_option pp.maxSteps 400
namespace K13
open PySem PySem.Spec PyProof.Rows L2
section
variable {P : Program} {w : World} {K : PySem.W.Frag} {mg : Str → Option Value} {base : Heap} {f : Addr} {fd : FuncData}
/-- what found is handed: the def at g, which answers by spw -/
def spFound (w : World) (C g : Addr) (spw : Sp) : Sp := fun vs H Q _ => ∃ S sizes ps av kvs nk y A Rl, vs = [.ref S.a, y, .ref g] ∧ StAt w H S sizes ps av kvs ∧ sizes.length ≤ 4 ∧ S.C = C ∧ KH H nk y ∧ ¬ A nk ∧ RlOk w S Rl ∧
  (∀ Q' : VK, (∀ v H1 kvs1, StAt w H1 S sizes ps av kvs1 → Grow A kvs kvs1 → OkV H1 sizes.length (rR ps) av nk v → Rl H H1 → Q' v H1) → spw [.ref S.a] H Q' E0) ∧
  (∀ v H' kvs', StAt w H' S sizes ps av kvs' → Grow (orA A nk) kvs kvs' → OkV H' sizes.length (rR ps) av nk v → Rl H H' → Q v H')
theorem cal_found {C g : Addr} {fdw : FuncData} {psw : List Str} {spw : Sp} {k : Nat} (B : Bt mg) (sc0 : SC K C) (W : FnOk P w K mg base (L2.CX P w) k g fdw psw spw) (kp : PySem.W.keepIn K (.ref g) = true) (bw : Binds K fdw psw [])
    (F : FunD K "found" "Store.found" (defArgs s_Storefound) (defBody s_Storefound) (defScope s_Storefound) [] [] f fd) (hm : Meth K C "found" f) : CalM P w K mg base (k + 1) C "found" (spFound w C g spw) := by
  refine cal0M F hm sc_Storefound (fun _ _ _ _ _ _ us hl => match us, hl with | [_, _, _], _ => rfl) (fun vs H Q E h => ?_) (fun cdv A outer s H vs Q E hr h => ?_)
  · obtain ⟨S, sizes, ps, av, kvs, nk, y, A, ds, rfl, _⟩ := h
    rfl
  · obtain ⟨S, sizes, ps, av, kvs, nk, y, A', ds, rfl, sa, h4, hC, hk, hA, hds, hW, q⟩ := h
    have sc : SC K S.C := hC ▸ sc0
    refine ⟨_, pss_cons (ps_if (pt_cmp (pc_fdnotin hr (pv 1) (pe_fld (pv 0) rfl))) (pss_one (ps_fdput hr (pe_fld (pv 0) rfl) (pv 1)
        (pe_callL (i := 2) (E := E0) W hr rfl (by first | exact Or.inl rfl | exact Or.inr (Or.inl rfl)) kp bw .nil passL (pa_cons (pv 0) pa_nil)) rfl)) pss_nil)
      (pss_one (ps_ret (pe_fdget hr (pe_fld (pv 0) rfl) (pv 1) (fun _ _ => rfl)))), ?_⟩
    exact found_read (wv := .ref g) sc sa h4 hk hA hds (fun Q' hq => ⟨rfl, _, rfl, hW Q' hq⟩) q
end
section
variable {P : Program} {w : World} {K : PySem.W.Frag} {mg : Str → Option Value} {base : Heap} {f : Addr} {fd : FuncData}
theorem cal_near_by_keys {C g : Addr} (B : Bt mg) (sc0 : SC K C) (hg : mg "find_near" = some (.ref g)) (cF : CalM P w K mg base 4 C "found" (spFound w C g (spFindNear w C))) (F : FnP K "near_by_keys" s_near_by_keys f fd) (hm : mg "near_by_keys" = some (.ref f)) : Cal P w K mg base 5 "near_by_keys" (spNBK w C) := by
  refine cal0 F hm sc_near_by_keys (fun _ _ _ _ _ _ us hl => match us, hl with | [_], _ => rfl) (fun vs H Q E h => ?_) (fun cdv A outer s H vs Q E hr h => ?_)
  · obtain ⟨S, sizes, ps, av, kvs, rfl, _⟩ := h
    rfl
  · obtain ⟨S, sizes, ps, av, kvs, rfl, sa, sh, hC, q⟩ := h
    have sc : SC K S.C := hC ▸ sc0
    subst hC
    refine ⟨_, pss_one (ps_ret (pm cF sc.cl hr (pv 0) (pa_cons pe_str (pa_cons (pe_glob (v := .ref g) (by rfl) hg (show L2.RelV (.ref g) (.ref g) from rfl)) pa_nil)))), ?_⟩
    refine ⟨_, rfl, S.a, S.dx, _, rfl, sa.ins, rfl, S, sizes, ps, av, kvs, .text "near", .str "near", (fun _ => False), Fr [S.fd], rfl, sa, sh.few, rfl, .text _, id, rlFr, fun Q' hq => ⟨S, sizes, ps, av, kvs, rfl, sa, sh, rfl, fun H' n fr hn => hq _ H' kvs (sa.same fr) .refl (.inl ⟨rfl, n, rfl, hn⟩) (fr.wider fun _ z => nomatch z)⟩, fun v H' kvs' sa' gr hv fr => ?_⟩
    rcases hv with ⟨_, n, rfl, hn⟩ | ⟨lot, e, _⟩ | ⟨e, _⟩
    · exact q H' kvs' n sa' (gr.imp fun k z => z.elim False.elim id) hn fr
    · cases e
    · exact absurd e (by decide)
end
end K13
/-! K13Lam -/
set_option autoImplicit true
set_option Elab.async false
set_option linter.all false
set_option maxRecDepth 100000
set_option maxHeartbeats 2000000
set_option pp.maxSteps 600
/-! a lambda of one parameter, handed to a method beside another argument -/
namespace K13
open PySem PySem.Spec PyProof.Rows L2
/-- y is a name that a lambda in a def of the scope sc may take from it -/
abbrev FromDef (sc : Scope) (y : Str) : Prop := sc.names.lookup y = some .cell ∨ sc.names.lookup y = some .free
/-- the scope of a lambda of the one parameter `one`, in a def of the scope sc -/
abbrev LamS1 (sc scope : Scope) (one : Str) : Prop := (scope.kind = .function ∧ scope.isCoroutine = false ∧ scope.isGenerator = false) ∧ scope.names.lookup one = some .local ∧
  ∀ y ∈ scope.names, y.2 ≠ .cell ∧ (y.2 = .local → y.1 = one) ∧ (y.2 = .free → FromDef sc y.1)
def lamS1B (sc scope : Scope) (one : Str) : Bool := decide (LamS1 sc scope one)
theorem lamS1_by {sc scope : Scope} {one : Str} (h : lamS1B sc scope one = true) : LamS1 sc scope one := of_decide_eq_true h
/-! what a closure holds is what the def around holds -/
theorem clo_up {cells : List (Str × Addr)} {names : List (Str × NameKind)} (seen : ∀ y ∈ names, y.2 = .free → ∃ c, cells.lookup y.1 = some c) {y : Str} {c : Addr} (e : (cloFrom cells names []).lookup y = some c) : cells.lookup y = some c := by
  obtain z | ⟨m, rfl⟩ := cloFrom_mem (PySem.mem_of_lookup e)
  · cases z
  · obtain ⟨c, q⟩ := seen (y, .free) m rfl
    rw [show cells.lookup y = some c from q]
    rfl
theorem clo_has {cells : List (Str × Addr)} {names : List (Str × NameKind)} {y : Str} (k : names.lookup y = some .free) : ∃ c, (cloFrom cells names []).lookup y = some c := mem_lookup (cloFrom_has (PySem.mem_of_lookup k))
def lamCx1 (X : Cx) (A : Around) (outer : List Env) (s : Shared) (H : Hp) (scope : Scope) (f c' : Addr) (one : Str) : Cx where
  prog := X.prog
  w := X.w
  K := X.K
  mg := X.mg
  base := X.base
  A := A.deeper (LamX.lamEnv X scope s.heap.objs.size f c')
  N := X.N ++ [one]
  s_0 := s
  H_0 := H
  env := LamX.lamEnv X scope s.heap.objs.size f c'
  outer := outer
  stack := LamX.lamEnv X scope s.heap.objs.size f c' :: outer
  ex := []
  fn := fun _ => false
  calm := true
  pn := []
  xe := fun _ _ => False
section
variable {X : Cx} {pins : List (Addr × Obj)} {σ : L2.St} {H HZ : Hp} {s s1 : Shared} {one : Str}
/-- a cell of the def around holds what it held -/
theorem cell_on {h1 : Heap} (I : Inv X pins σ H s) (un : Un (frs X.stack) [] H HZ s.heap s1.heap) (kp : ∀ b o, s1.heap.get? b = some o → h1.get? b = some o) {y : Str} {c : Addr} (e : X.env.cells.lookup y = some c) {v : Option Value} (q : s.heap.IsCell c v) : h1.IsCell c v := by
  obtain ⟨o, at_c, d⟩ := q
  obtain ⟨sl, on⟩ := un.any at_c (I.freeC y c e) nofun
  exact ⟨_, kp _ _ on, d⟩
/-- a name that the lambda sees is its parameter, or stands in a cell of the def around -/
theorem lam_var {scope : Scope} (I : Inv X pins σ H s) (L : LamS1 X.env.scope scope one) (new : one ∉ X.N) {v v' : V} {i : Nat} {y : Str} (at_i : (X.N ++ [one])[i]? = some y) (val : (σ ++ [some v])[i]? = some (some v')) (vis : Vis scope y) :
    (y = one ∧ v' = v) ∨ (scope.names.lookup y = some .free ∧ ∃ c u, X.env.cells.lookup y = some c ∧ L2.RelV v' u ∧ s.heap.IsCell c (some u)) := by
  have len := I.len
  rcases Nat.lt_or_ge i X.N.length with lt | ge
  · rw [List.getElem?_append_left lt] at at_i
    rw [List.getElem?_append_left (by omega)] at val
    have rule := fun {kind} (k : scope.names.lookup y = some kind) => L.2.2 _ (PySem.mem_of_lookup k)
    rcases vis with k | k | k
    · have z : y = one := (rule k).2.1 rfl
      exact absurd (List.mem_of_getElem? at_i) (z ▸ new)
    · cases (rule k).1 rfl
    · have out : FromDef X.env.scope y := (rule k).2.2 rfl
      obtain ⟨m, _, look⟩ := I.loc
      obtain ⟨u, r, ⟨loc, _⟩ | ⟨_, c, e, q⟩⟩ := look i y v' at_i val (.inr out)
      · rcases out with o | o <;> cases o.symm.trans loc
      · exact .inr ⟨k, c, u, e, r, q⟩
  · have top := (List.getElem?_eq_some_iff.mp at_i).1
    rw [List.length_append, List.length_singleton] at top
    obtain rfl : i = X.N.length := by omega
    rw [List.getElem?_append_right (by omega), Nat.sub_self] at at_i
    rw [List.getElem?_append_right (by omega), len, Nat.sub_self] at val
    cases at_i
    cases val
    exact .inl ⟨rfl, rfl⟩
theorem lam_start1 {A : Around} {outer : List Env} {scope : Scope} {f c' : Addr} {h₁ : Heap} {tk : Nat} {v : V} {u : Value} (I : Inv X pins σ H s) (L : LamS1 X.env.scope scope one) (hone : one ∉ X.N) (e0 : Env0 X.prog X.w X.K X.mg X.base A outer s1 HZ) (hd : A.handled = none)
    (un : Un (frs X.stack) [] H HZ s.heap s1.heap) (hns : h₁.Ns s1.heap.objs.size fun y => ([(one, u)] : List (Str × Value)).reverse.lookup y) (kp : ∀ b o, s1.heap.get? b = some o → h₁.get? b = some o) (rv : L2.RelV v u) :
    Inv (lamCx1 X A outer s1 HZ scope f c' one) [] (σ ++ [some v]) HZ { s1 with heap := h₁, toks := tk } := by
  have seen : ∀ y ∈ scope.names, y.2 = .free → ∃ c, X.env.cells.lookup y.1 = some c := fun y m e => I.ok.has _ ((L.2.2 y m).2.2 e)
  have on := fun {y c} (e : X.env.cells.lookup y = some c) {v} q => cell_on (h1 := h₁) I un kp e (v := v) q
  have none : ∀ {p : Prop} {b : Addr}, b ∈ (lamCx1 X A outer s1 HZ scope f c' one).ex → p := fun m => by cases m
  have ok : (lamCx1 X A outer s1 HZ scope f c' one).Ok :=
    { mod := e0.mod, kind := L.1.1, glob := rfl, blt := rfl, above := Nat.le_refl _, inj := fun y z c a b => I.ok.inj y z c (clo_up seen a) (clo_up seen b)
      has := fun y k => k.elim (fun k => absurd rfl (L.2.2 _ (PySem.mem_of_lookup k)).1) clo_has
      cab := fun _ _ z => by cases z
      hd := fun _ => hd, frames := Around.frames_deeper e0.frames, stk := .inr ⟨rfl, rfl⟩, exf := fun _ => none, bs := e0.bs, bsz := e0.bsz, noex := fun _ _ _ m => none m, exfs := fun _ => none, funs := e0.funs, frf := e0.frf }
  refine { ok := ok, os := rfl, bare := e0.bare, base := Un.kept kp, loc := ⟨_, hns, fun i y v' at_i val vis => ?_⟩, cell := fun y c e => ?_, free := e0.hok.fresh (Nat.le_refl _), freeC := fun y c e => ?_, pin := fun p m => (by cases m), hok := e0.hok.kept kp, len := ?_ }
  · rcases lam_var I L hone at_i val vis with ⟨rfl, rfl⟩ | ⟨k, c, r, e, rel, q⟩
    · exact ⟨u, rv, .inl ⟨L.2.1, by simp⟩⟩
    · obtain ⟨c2, e2⟩ := clo_has (cells := X.env.cells) k
      cases e.symm.trans (clo_up seen e2)
      exact ⟨r, rel, .inr ⟨.inr k, c, e2, on e q⟩⟩
  · exact (I.cell y c (clo_up seen e)).elim fun v q => ⟨v, on (clo_up seen e) q⟩
  · obtain ⟨v, o, at_c, _⟩ := I.cell y c (clo_up seen e)
    exact un.free c o at_c (I.freeC y c (clo_up seen e)) nofun
  · have := I.len
    show (σ ++ [some v]).length = (X.N ++ [one]).length
    simpa using this
/-- work(self): the lambda runs, its body by tb -/
theorem pe_act1 {CXg : CXT} {Eg : XK} {Ng : List Str} {qg : Str} {sg : Scope} {g f c' : Addr} {cdg pm ctv : Value} {params : Arguments} {body : Expr} {scope : Scope} {k i j : Nat} {a b : Str} {tb : TE} {p1 p2 p3 : Pos}
    (I : Inv X pins σ H s) (L : LamS1 X.env.scope scope one) (hone : one ∉ X.N) (hf : s.heap.get? f = some (PySem.W.kla_obj "<lambda>" (X.env.qual ++ "<lambda>") params body scope (cloFrom X.env.cells scope.names []) pm c' ctv)) (hfn : H f = none) (hfr : f ∉ frs X.stack)
    (hbind : ∀ u : Value, bindArgs (PySem.W.kla_fn "<lambda>" (X.env.qual ++ "<lambda>") params body scope (cloFrom X.env.cells scope.names []) pm (.ref c') ctv) ⟨[u], []⟩ = pure [(one, u)])
    (hr : Room (k + 1) (X.A.deeper (envOfC qg sg s.heap.objs.size g cdg)))
    (hbody : ∀ (A : Around) (outer : List Env) (s : Shared) (H : Hp), Room k (A.deeper (LamX.lamEnv X scope s.heap.objs.size f c')) → PE (lamCx1 X A outer s H scope f c' one) body tb)
    (hN : Ng[i]? = some a) (hv : Vis sg a) (hNb : Ng[j]? = some b) (hvb : Vis sg b) (hd : (a == ("__debug__" : Str)) = false := by decide) (hcd : (a == ("__classdict__" : Str)) = false := by decide) (hdb : (b == ("__debug__" : Str)) = false := by decide) (hcdb : (b == ("__classdict__" : Str)) = false := by decide) :
    PE (cxOf CXg X.prog X.w X.K X.mg X.base Ng qg sg g cdg X.A X.stack s H Eg).nox (.Call (.Name a p1) [.Name b p3] [] p2)
      (fun σZ HZ Q => σZ[i]? = some (some (.ref f)) ∧ ∃ v, σZ[j]? = some (some v) ∧ HZ c' = some (LamX.CodeO c' (X.env.qual ++ "<lambda>")) ∧ tb (σ ++ [some v]) HZ Q) := by
  refine ⟨fun pinsZ sZ σZ HZ Q IZ h => ?_⟩
  obtain ⟨hs, v, hvj, hc, ht⟩ := h
  refine wpAny_Call_Name_kw (thn ((pe_var (pos := p1) (i := i) hN hv hd hcd).run pinsZ sZ σZ HZ (fun v H1 => v = .ref f ∧ H1 = HZ) IZ ⟨.ref f, hs, rfl, rfl⟩) fun u s1 ⟨v1, H1, I1, r1, q1⟩ => ?_)
  obtain ⟨ev, eH⟩ := q1
  subst ev
  rw [eH] at I1
  obtain rfl : u = Value.ref f := r1
  have of1 : s1.heap.get? f = some (PySem.W.kla_obj "<lambda>" (X.env.qual ++ "<lambda>") params body scope (cloFrom X.env.cells scope.names []) pm c' ctv) := I1.base.keep f _ hf hfn hfr (fun z => nomatch (show f ∈ ([] : List Addr) from z))
  refine PySem.W.callWith_F ⟨_, _, _, _, of1⟩ ?_ rfl rfl
  show wpAny _ _ (spliced ((false, eval (.Name b p3) _) :: backTo p2 (starEach [] _))) _ _ s1
  refine Calls.spliced_cons (thn ((pe_var (pos := p3) (i := j) hNb hvb hdb hcdb).run pinsZ s1 σZ HZ (fun v2 H2 => v2 = v ∧ H2 = HZ) I1 ⟨v, hvj, rfl, rfl⟩) fun u s2 ⟨v2, H2, I2, r2, q2⟩ => Calls.spliced_nil ?_)
  obtain ⟨ev, eH2⟩ := q2
  subst ev
  rw [eH2] at I2
  have of2 : s2.heap.get? f = some (PySem.W.kla_obj "<lambda>" (X.env.qual ++ "<lambda>") params body scope (cloFrom X.env.cells scope.names []) pm c' ctv) := I2.base.keep f _ hf hfn hfr (fun z => nomatch (show f ∈ ([] : List Addr) from z))
  refine ⟨⟨_, _, _, _, of2⟩, ?_⟩
  have un : Un (frs X.stack) [] H HZ s.heap s2.heap := I2.base
  obtain ⟨⟨oc, vs, t, hoc, hdc, hvc⟩, _, _⟩ := I2.hok c' _ hc
  have rc : codeAny (model X.prog X.w) (X.A.deeper (envOfC qg sg s.heap.objs.size g cdg)) (.call (.ref f) ⟨[u], []⟩) (CR (L2.CX X.prog X.w) (envOfC qg sg s.heap.objs.size g cdg :: X.stack) X.prog X.w HZ s2 Q (fun _ _ _ => False)) s2 := by
    refine PySem.W.kla_callFunE hr.depth of2 rfl L.1.2.1 L.1.2.2 rfl ⟨c', oc, vs, t, rfl, hoc, hdc, hvc⟩ ?_
    rw [hbind u]
    refine wpAny_pure (wpAny_newFunctionEnv (fun y m => (L.2.2 y m).1) (fun y hy => by
      obtain rfl : y = (one, u) := by simpa using hy
      exact L.2.1) (fun h₁ hns hsb => ⟨I2.nolimit.fresh _ hsb, ?_⟩) L.1.1)
    show codeAny _ _ (.expr body (LamX.lamEnv X scope s2.heap.objs.size f c')) _ _
    have kp : ∀ b o, s2.heap.get? b = some o → h₁.get? b = some o := fun b o e => hsb.extBut b o (Nat.ne_of_lt (Heap.lt_size e)) (Heap.get?_push_of_some _ e)
    have J : Inv (lamCx1 X (X.A.deeper (envOfC qg sg s.heap.objs.size g cdg)) (envOfC qg sg s.heap.objs.size g cdg :: X.stack) s2 HZ scope f c' one) [] (σ ++ [some v2]) HZ { s2 with heap := h₁, toks := s2.toks + ([(one, u)] : List (Str × Value)).length } :=
      lam_start1 I L hone I2.env0 hr.hd un hns kp r2
    refine PySem.W.kla_codeExpr (wpAny_mono ((hbody _ _ s2 HZ (hr.deeper _)).run [] _ _ HZ Q J ht) (fun v s' hq => ?_) fun e s' hq => (show False from hq).elim)
    exact hq.elim fun r z => z.elim fun H' z => ⟨r, H', z.1.os, z.1.bare, z.1.base, z.1.hok, z.2⟩
  refine wpAny_call (codeAny_mono rc fun r s' hq => ?_)
  cases r with
  | error e => exact passL pinsZ σZ HZ s2 e s' I2 hq
  | ok fl =>
    cases fl with
    | ret u => exact I2.after hq
    | next => exact False.elim hq
    | brk => exact False.elim hq
    | cont => exact False.elim hq
end
end K13
/-! K13M5 -/
set_option autoImplicit true
set_option Elab.async false
set_option linter.all false
set_option maxRecDepth 100000
set_option maxHeartbeats 2000000
set_option pp.maxSteps 600
namespace K13
open PySem PySem.Spec PyProof.Rows L2
section
variable {X : Cx} {one : Str} {C g c P : Addr} {k : Nat} {dV kV doc pm cdg ct oc : Value} {an od : Option Addr} {osl : Array (Option Value)} {o e1 : Expr} {ta t1 tb : TE} {params : Arguments} {body : Expr} {scope : Scope} {apos lpos pos : Pos}
/-- store.found(word, lambda one: body) -/
def tFL (w : World) (C P : Addr) (ta t1 tb : TE) : TE := fun σ H Q => ta σ H fun x H1 => ∃ a dx fs, x = .ref a ∧ H1 a = some (.ins C dx fs) ∧ fs.lookup ("found" : Str) = none ∧ t1 σ H1 fun y H2 => LamX.TabS H2 P lamQ ∧ ∀ H3, LamX.ExtN H2 H3 → LamX.TabS H3 P lamQ →
  ∃ S sizes ps av kvs nk A Rl, a = S.a ∧ StAt w H3 S sizes ps av kvs ∧ sizes.length ≤ 4 ∧ S.C = C ∧ KH H3 nk y ∧ ¬ A nk ∧ RlOk w S Rl ∧
  (∀ Q' : VK, (∀ v H1 kvs1, StAt w H1 S sizes ps av kvs1 → Grow A kvs kvs1 → OkV H1 sizes.length (rR ps) av nk v → Rl H3 H1 → Q' v H1) → tb (σ ++ [some (.ref S.a)]) H3 Q') ∧
  (∀ v H' kvs', StAt w H' S sizes ps av kvs' → Grow (orA A nk) kvs kvs' → OkV H' sizes.length (rR ps) av nk v → Rl H3 H' → Q v H')
theorem pe_foundLam {pl : Sem Bool} (sc : SC X.K C) (he : PE X o ta) (hm : Meth X.K C "found" g)
    (lk : X.K.lookup g = some ⟨oc, od, .func (PySem.W.fnOf "found" "Store.found" (defArgs s_Storefound) (defBody s_Storefound) (defScope s_Storefound) dV kV doc pm an cdg ct), osl⟩) (hcg : PySem.W.codeIn X.K cdg "Store.found" = true)
    (hb : L2.Binds X.K (PySem.W.fnOf "found" "Store.found" (defArgs s_Storefound) (defBody s_Storefound) (defScope s_Storefound) dV kV doc pm an cdg ct) ["self", "word", "work"] []) (h1 : PE X e1 t1)
    (TB : LamX.TabB X.base X.mg c P) (hcode : X.env.code = .ref c) (hq : X.env.qual ++ "<lambda>" = lamQ) (hr : Room (k + 2) X.A) (L : LamS1 X.env.scope scope one) (hone : one ∉ X.N) (hdef : defaultsOf params X.env = ([], []))
    (hbind : ∀ (cl : List (Str × Addr)) (pm cv ctv u : Value), bindArgs (PySem.W.kla_fn "<lambda>" (X.env.qual ++ "<lambda>") params body scope cl pm cv ctv) ⟨[u], []⟩ = pure [(one, u)])
    (hbody : ∀ (A : Around) (outer : List Env) (s : Shared) (H : Hp) (f c' : Addr), Room k (A.deeper (LamX.lamEnv X scope s.heap.objs.size f c')) → PE (lamCx1 X A outer s H scope f c' one) body tb)
    (hst : starEach [e1, .Lambda params body scope lpos] X.env = (false, eval e1 X.env) :: (false, eval (.Lambda params body scope lpos) X.env) :: starEach [] X.env := by rfl)
    (hpl : (backTo pos (starEach [.Lambda params body scope lpos] X.env)).any (·.1) = false := by rfl)
    (ht : eval (.Call (.Attribute o "found" apos) [e1, .Lambda params body scope lpos] [] pos) X.env = (do
      let ov ← eval o X.env
      standAt apos.atName
      let (f, first) ← holding [ov] (getMethod ov "found" pl)
      callWith pos f first (backTo pos (starEach [e1, .Lambda params body scope lpos] X.env)) (backToKw pos (keywordEach [] X.env))) := by rfl) :
    PE X (.Call (.Attribute o "found" apos) [e1, .Lambda params body scope lpos] [] pos) (tFL X.w C P ta t1 tb) := by
  refine ⟨fun pins s σ H Q I h => ?_⟩
  refine PySem.W.methodCall_KW (pl := pl) (thn (he.run pins s σ H _ I h) fun u s1 ⟨x, H1, I1, rx, a, dx, fs, ex, ea, l, q⟩ => ?_) ht
  subst ex
  obtain rfl : u = Value.ref a := rx
  refine getmeth_ok I1 ea sc.cl hm l ?_
  refine PySem.W.callWith_K (first := [.ref a]) (h₀ := X.base) I.ok.mod.kin hm.kp ?_ (by rw [hst]; rfl) hpl
  rw [hst]
  refine Calls.spliced_cons (thn (h1.run pins s1 σ H1 _ I1 q) fun u1 s2 ⟨y, H2, I2, ry, hT, q2⟩ => ?_)
  have hTs : LamX.Tabs [(P, X.env.qual ++ "<lambda>")] H2 := fun p hp => by
    obtain rfl : p = (P, X.env.qual ++ "<lambda>") := by simpa using hp
    rw [hq]
    exact hT
  refine Calls.spliced_cons (LamX.lam_make2 I2 TB hcode (by simp) (fun p hp _ => by
    obtain rfl : p = (P, X.env.qual ++ "<lambda>") := by simpa using hp
    rfl) hTs hdef (fun y m e => I2.ok.has _ ((L.2.2 y m).2.2 e)) fun f c' pm' ctv H3 s3 I3 eN T3 hf hfn hfr hco => ?_)
  refine Calls.spliced_nil ⟨I3.kIn, ?_⟩
  have hT3 : LamX.TabS H3 P lamQ := by
    have := T3 (P, X.env.qual ++ "<lambda>") (by simp)
    rw [hq] at this
    exact this
  obtain ⟨S, sizes, ps, av, kvs, nk, A, Rl, rfl, sa, h4, rfl, hk, hA, hR, hW, hQ⟩ := q2 H3 eN hT3
  have rc : codeAny (model X.prog X.w) X.A (.call (.ref g) ⟨[.ref S.a, u1, .ref f], []⟩) (CR (L2.CX X.prog X.w) X.stack X.prog X.w H3 s3 Q E0) s3 := by
    refine LamX.run_ofS (N := N_Storefound) (ps := ["self", "word", "work"]) (us := [.ref S.a, u1, .ref f]) (vs := [.ref S.a, y, .ref f]) lk hcg sc_Storefound hr I3.env0 (hb s3 [.ref S.a, u1, .ref f] I3.kIn rfl) (.cons rfl (.cons ry (.cons rfl .nil))) rfl fun hr' => ?_
    have act := fun (p1 p2 p3 : Pos) => pe_act1 (CXg := L2.CX X.prog X.w) (Eg := E0) (Ng := N_Storefound) (qg := "Store.found") (sg := defScope s_Storefound) (g := g) (cdg := cdg) (i := 2) (j := 0) (a := "work") (b := "self") (p1 := p1) (p2 := p2) (p3 := p3) I3 L hone hf hfn hfr (fun u => hbind _ _ _ _ u) hr'
      (fun A outer s H hr2 => hbody A outer s H f c' hr2) rfl (by first | exact Or.inl rfl | exact Or.inr (Or.inl rfl)) rfl (by first | exact Or.inl rfl | exact Or.inr (Or.inl rfl))
    have main : ∃ t, PSs (cxOf (L2.CX X.prog X.w) X.prog X.w X.K X.mg X.base N_Storefound "Store.found" (defScope s_Storefound) g cdg X.A X.stack s3 H3 E0).nox (defBody s_Storefound) t ∧ t { nx := fun _ H' => Q .non H', rt := Q } (L2.start N_Storefound [.ref S.a, y, .ref f]) H3 := by
      refine ⟨_, pss_cons (ps_if (pt_cmp (pc_fdnotin hr' (pv 1) (pe_fld (pv 0) rfl))) (pss_one (ps_fdput hr' (pe_fld (pv 0) rfl) (pv 1) (act _ _ _) rfl)) pss_nil)
        (pss_one (ps_ret (pe_fdget hr' (pe_fld (pv 0) rfl) (pv 1) (fun _ _ => rfl)))), ?_⟩
      exact found_read (wv := .ref f) sc sa h4 hk hA hR (fun Q' hq => ⟨rfl, _, rfl, hco, hW Q' hq⟩) hQ
    obtain ⟨t, h1, h2⟩ := main
    exact ⟨t, h1.nox, h2⟩
  refine wpAny_call (codeAny_mono rc fun r s' hq => ?_)
  cases r with
  | error e => exact passL pins σ H3 s3 e s' I3 hq
  | ok fl =>
    cases fl with
    | ret u => exact I3.after hq
    | next => exact False.elim hq
    | brk => exact False.elim hq
    | cont => exact False.elim hq
end
end K13
/-! K13M6 -/
set_option autoImplicit true
set_option Elab.async false
set_option linter.all false
set_option maxRecDepth 100000
set_option maxHeartbeats 2000000
set_option pp.maxSteps 600
namespace K13
open PySem PySem.Spec PyProof.Rows L2
def homesA : NestedKey → Prop := fun k => k ≠ .text "joined"
theorem near_homesA : ∀ k, nearA k → homesA k := fun k h e => by
  rw [h] at e
  injection e with e
  exact absurd e (by decide)
theorem num_inj {a b : List Int} (h : a.map NestedKey.num = b.map NestedKey.num) : a = b := by
  induction a generalizing b with
  | nil =>
    cases b with
    | nil => rfl
    | cons x b => simp at h
  | cons x a ih =>
    cases b with
    | nil => simp at h
    | cons y b =>
      simp only [List.map_cons, List.cons.injEq, NestedKey.num.injEq] at h
      rw [h.1, ih h.2]
theorem StAt.frT {w : World} {H H' : Hp} {S : Sto} {sizes : List Int} {ps : List (Addr × Row)} {av : List Addr} {kvs : List FEnt} (f : FrT [] H H') (ht : LamX.TabS H' S.P lamQ) (h : StAt w H S sizes ps av kvs) : StAt w H' S sizes ps av kvs := by
  have nn : ∀ {x : Addr}, x ∉ ([] : List Addr) := fun z => nomatch z
  have near : ∀ {n : Addr}, NearAt H (rR ps) av n → NearAt H' (rR ps) av n := fun {n} hn => by
    obtain ⟨bs, h1, h2, h3⟩ := hn.ex
    refine ⟨bs, f.keep _ _ nn (fun _ z => nomatch z) h1, h2, fun p hp => ⟨(h3 p hp).1, ?_⟩⟩
    obtain ⟨es, e1, e2, e3⟩ := (h3 p hp).2.ex
    exact ⟨es, f.keep _ _ nn (fun _ z => nomatch z) e1, fun e he => ⟨f.tup _ _ (e2 e he).1, f.tup _ _ (e2 e he).2⟩, e3⟩
  have homes : ∀ {lot : List Int} {n : Addr}, HomesAt H (rR ps) lot n → HomesAt H' (rR ps) lot n := fun {lot n} hn => by
    obtain ⟨D, h1, h2⟩ := hn.ex
    exact ⟨D, f.keep _ _ nn (fun _ z => nomatch z) h1, h2⟩
  exact {
    ins := f.keep _ _ nn (fun _ z => nomatch z) h.ins
    hz := f.tup _ _ h.hz
    hs := f.tup _ _ h.hs
    rw := fun p hp => f.tup _ _ (h.rw p hp)
    ix := f.keep _ _ nn (fun _ z => nomatch z) h.ix
    fdo := f.keep _ _ nn (fun _ z => by unfold FdO at z; cases z) h.fdo
    fdk := fun p hp => (h.fdk p hp).mono f.tup
    fdn := h.fdn
    fdv := fun e he => by
      rcases h.fdv e he with ⟨z, a, ev, hv⟩ | ⟨lot, z, zl, a, ev, hv⟩ | z
      · exact .inl ⟨z, a, ev, near hv⟩
      · exact .inr (.inl ⟨lot, z, zl, a, ev, homes hv⟩)
      · exact .inr (.inr z)
    tab := ht
    ava := fun x hx => by
      obtain ⟨xs, e⟩ := h.ava x hx
      exact ⟨xs, f.keep _ _ nn (fun _ z => nomatch z) e⟩ }
section
variable {P : Program} {w : World} {K : PySem.W.Frag} {mg : Str → Option Value} {base : Heap} {f : Addr} {fd : FuncData}
def spHomes (w : World) (C P0 : Addr) : Sp := fun vs H Q _ => ∃ S sizes ps av kvs c lot, vs = [.ref S.a, .ref c] ∧ StAt w H S sizes ps av kvs ∧ Shape sizes (rR ps) ∧ S.C = C ∧ S.P = P0 ∧ H c = some (.tup (iV lot)) ∧ lot ∈ genL sizes.length ∧
  ∀ H' kvs' n, StAt w H' S sizes ps av kvs' → Grow homesA kvs kvs' → HomesAt H' (rR ps) lot n → FrT [S.fd] H H' → Q (.ref n) H'
theorem cal_homes {C P0 g : Addr} {fdg : FuncData} (B : Bt mg) (sc0 : SC K C) (cO : Cal P w K mg base 6 "homes_of" (spHomesOf w C)) (G : FunD K "found" "Store.found" (defArgs s_Storefound) (defBody s_Storefound) (defScope s_Storefound) [] [] g fdg) (hG : Meth K C "found" g)
    (F : FnP K "homes" s_homes f fd) (hm : mg "homes" = some (.ref f))
    (hTab : ∀ {oc : Value} {od : Option Addr} {osl : Array (Option Value)} {dV kV doc pm cdv ct : Value} {an : Option Addr}, K.lookup f = some ⟨oc, od, .func (PySem.W.fnOf "homes" "homes" (defArgs s_homes) (defBody s_homes) (defScope s_homes) dV kV doc pm an cdv ct), osl⟩ → ∃ c, cdv = .ref c ∧ LamX.TabB base mg c P0) :
    Cal P w K mg base 9 "homes" (spHomes w C P0) := by
  have hbd : ∀ (kV doc pm : Value) (an : Option Addr) (cdv ct : Value) (us : List Value), us.length = 2 → bindArgs (PySem.W.fnOf "homes" "homes" (defArgs s_homes) (defBody s_homes) (defScope s_homes) .none kV doc pm an cdv ct) ⟨us, []⟩ = pure ((["store", "lot"] : List Str).zip us) := fun _ _ _ _ _ _ us hl => match us, hl with | [_, _], _ => rfl
  have hbG : L2.Binds K fdg ["self", "word", "work"] [] := FunD.bindsN G (fun _ _ _ _ _ _ us hl => match us, hl with | [_, _, _], _ => rfl)
  obtain ⟨oc, od, dV, kV, doc, pm, an, cdv, ct, osl, rfl, lk, hcd, d1, d2⟩ := id F.ex
  obtain ⟨oc', od', dV', kV', doc', pm', an', cdv', ct', osl', rfl, lk', hcd', d1', d2'⟩ := id G.ex
  obtain ⟨c, rfl, TB⟩ := hTab lk
  refine ⟨f, _, ["store", "lot"], ?_, hm, F.kp, FunD.bindsN F hbd, _, _, _, lk, rfl⟩
  refine fn_of lk hcd sc_homes (fun vs H Q E h => ?_) fun A outer s H vs Q E hr h => ?_
  · obtain ⟨S, sizes, ps, av, kvs, c, lot, rfl, _⟩ := h
    rfl
  · obtain ⟨S, sizes, ps, av, kvs, cl, lot, rfl, sa, sh, hC, hP, hc, hlot, q⟩ := h
    have sc : SC K S.C := hC ▸ sc0
    subst hC hP
    have main : ∃ t, PSs (cxOf (L2.CX P w) P w K mg base N_homes "homes" (defScope s_homes) f (.ref c) A outer s H E).nox (defBody s_homes) t ∧ t { nx := fun _ H' => Q .non H', rt := Q } (L2.start N_homes [.ref S.a, .ref cl]) H := by
      refine ⟨_, pss_one (ps_ret (pe_foundLam (one := "one") (k := 6) sc (pv 0) hG lk' hcd' hbG (pe_tup (pa_cons pe_str (pa_cons (pv 1) pa_nil))) TB rfl (by rfl) hr (lamS1_by (sc := defScope s_homes) (by decide +kernel)) (show ("one" : Str) ∉ N_homes by decide) (by rfl) (fun _ _ _ _ _ => rfl)
        (fun A outer s H f c' hr2 => pc cO hr2 (pa_cons (pv 2) (pa_cons (pv 1) pa_nil))))), ?_⟩
      refine ⟨_, rfl, S.a, S.dx, _, rfl, sa.ins, rfl, _, rfl, by show 2 ≤ sizeLine; decide, fun T hT => ⟨(sa.same (.new hT)).tab, fun H3 eN tab3 => ?_⟩⟩
      have f1 : FrT [] H H3 := (Fr.new hT).t.trans (FrT.of_ext eN)
      have sa3 := (sa.same (.new (o := .tup [.str "homes", .ref cl]) hT)).frT (FrT.of_ext eN) tab3
      have hc3 := f1.tup _ _ hc
      have hT3 : H3 T = some (.tup [.str "homes", .ref cl]) := (FrT.of_ext (ds := []) eN).tup _ _ upd_same
      refine ⟨S, sizes, ps, av, kvs, .tup [.text "homes", .tup (lot.map .num)], nearA, FrT [S.fd], rfl, sa3, sh.few, rfl, .pair _ lot hT3 hc3, (fun z => nomatch z), rlFrT, fun Q' hq => ?_, fun v H' kvs' sa' gr hv fr => ?_⟩
      · refine ⟨_, rfl, _, rfl, S, sizes, ps, av, kvs, cl, lot, rfl, sa3, sh, rfl, hc3, fun H4 kvs4 n sa4 gr4 hn fr4 => ?_⟩
        exact hq _ H4 kvs4 sa4 gr4 (.inr (.inl ⟨lot, rfl, hlot, n, rfl, hn⟩)) fr4.t
      · rcases hv with ⟨e, _⟩ | ⟨lot', e, _, n, rfl, hn⟩ | ⟨e, _⟩
        · cases e
        · injection e with e
          injection e with _ e
          injection e with e _
          injection e with e
          obtain rfl := num_inj e
          refine q H' kvs' n sa' (gr.imp fun k z => z.elim (near_homesA k) fun z => ?_) hn ((f1.wider fun _ z => nomatch z).trans fr)
          rw [z]
          intro w'
          cases w'
        · cases e
    obtain ⟨t, h1, h2⟩ := main
    exact ⟨t, h1.nox, h2⟩
end
end K13
/-! K13C1 -/
set_option autoImplicit true
set_option Elab.async false
set_option linter.all false
set_option maxRecDepth 100000
set_option maxHeartbeats 2000000
set_option pp.maxSteps 600
namespace K13
open PySem PySem.Spec PyProof.Rows L2
/-! ### ints sorted -/
theorem dpE {K : PySem.W.Frag} {H : Hp} (i : Int) : Dp K H (.int i) (.int i) := .int i
theorem rSort_ints {K : PySem.W.Frag} {H : Hp} {k : Bool} {a : Addr} {ys : List Int} {Q : VK} (hq : SqB k H a (iV ys)) (q : ∀ p zs, H p = none → zs.Perm ys → zs.Pairwise (· ≤ ·) → Q (.ref p) (upd H p (.lst (iV zs)))) : rSortD K [.ref a] H Q := by
  have e1 : (ys.map fun i => ((V.int i, PyData.int i) : VD)).map (·.1) = iV ys := by simp [iV]
  have e2 : (ys.map fun i => ((V.int i, PyData.int i) : VD)).map (·.2) = ys.map PyData.int := by simp
  refine ⟨k, a, ys.map fun i => (V.int i, PyData.int i), rfl, by rw [e1]; exact hq, fun b hb => ?_, ?_, ?_, fun p hp => ?_⟩
  · obtain ⟨i, _, rfl⟩ := List.mem_map.mp hb
    exact ⟨.int i, by simp [PyData.depth]⟩
  · rw [e2]
    exact PySem.W.AllAlike.of fun a b => by simp [PySem.W.alike]
  · rw [e2]
    refine .inl (.inr fun d hd => ?_)
    obtain ⟨i, _, rfl⟩ := List.mem_map.mp hd
    exact ⟨(fun z => nomatch z), fun _ z => nomatch z⟩
  · have e3 : ordD (ys.map fun i => ((V.int i, PyData.int i) : VD)) = (ys.mergeSort fun a b => decide (a ≤ b)).map fun i => ((V.int i, PyData.int i) : VD) := by
      rw [ordD]
      symm
      refine List.map_mergeSort fun a _ b _ => ?_
      exact (congrFun (congrFun (PySem.W.dataLe_int (fun i : Int => i)) a) b).symm
    rw [e3]
    have hs : (ys.mergeSort fun a b => decide (a ≤ b)).Pairwise (· ≤ ·) := by
      have := List.pairwise_mergeSort (le := fun a b : Int => decide (a ≤ b)) (fun a b c h g => by simp at h g ⊢; omega) (fun a b => by simp; omega) ys
      exact this.imp fun h => of_decide_eq_true h
    have := q p (ys.mergeSort fun a b => decide (a ≤ b)) hp (List.mergeSort_perm _ _) hs
    simpa [iV, Function.comp_def] using this
/-! ### refusals -/
/-- InvalidLot(e), as it is raised: the error's own dict is new -/
def tMkAt (CI : Addr) (te : TE) : L2.St → Hp → XK → Prop := fun σ H Q => te σ H fun v H1 => ∀ d, H1 d = none → Q (.ref CI) (some d) (upd H1 d (.xd [("at", v)]))
structure PmkLot (P : Program) (w : World) (K : PySem.W.Frag) (mg : Str → Option Value) (base : Heap) (CI : Addr) : Prop where
  run : ∀ (X : Cx) (j : Nat) (te : TE) (e : Expr) (p pos : Pos), X.prog = P → X.w = w → X.K = K → X.mg = mg → X.base = base → Room (j + 2) X.A → Gl X "InvalidLot" → PE X e te →
    starEach [e] X.env = (false, eval e X.env) :: starEach [] X.env → PMk X (.Call (.Name "InvalidLot" p) [e] [] pos) (tMkAt CI te)
section
variable {P : Program} {w : World} {K : PySem.W.Frag} {mg : Str → Option Value} {base : Heap}
/-- the promise of a def by its body, which may raise -/
theorem calE {x : Str} {st : Stmt} {f : Addr} {fd : FuncData} {N ps : List Str} {k : Nat} {sp : Sp} (F : FnP K x st f fd) (hm : mg x = some (.ref f)) (S : FnScope N ps (defScope st))
    (hb : ∀ (kV doc pm : Value) (an : Option Addr) (cdv ct : Value) (us : List Value), us.length = ps.length → bindArgs (PySem.W.fnOf x x (defArgs st) (defBody st) (defScope st) .none kV doc pm an cdv ct) ⟨us, []⟩ = pure (ps.zip us))
    (len : ∀ vs H Q E, sp vs H Q E → vs.length = ps.length)
    (hbody : ∀ (cdv : Value) (A : Around) (outer : List Env) (s : Shared) (H : Hp) (vs : List V) (Q : VK) (E : XK), Room k (A.deeper (envOfC x (defScope st) s.heap.objs.size f cdv)) → sp vs H Q E →
      ∃ t, PSs (cxOf (L2.CX P w) P w K mg base N x (defScope st) f cdv A outer s H E) (defBody st) t ∧ t { nx := fun _ H' => Q .non H', rt := Q } (start N vs) H) (hps : (defArgs st).args.map (·.arg) = ps := by rfl) : Cal P w K mg base (k + 1) x sp :=
  ⟨f, fd, ps, F.ok S len hbody, hm, F.kp, FunD.bindsN F hb, lkOf F hps⟩
end
/-- an int key of a dict -/
def keyI (ks : List Int) (kvs : List (L2.Key × V)) : Prop := (∀ j : Int, (valV kvs (.inl j)).isSome = decide (j ∈ ks)) ∧ (∀ (T : V), (∀ j : Int, T ≠ .int j) → True) ∧ kvs.length ≤ ks.length
theorem keyI.nil : keyI [] [] := ⟨fun j => rfl, fun _ _ => True.intro, Nat.le_refl _⟩
theorem keyI.put {ks : List Int} {kvs : List (L2.Key × V)} {i : Int} {v : V} (h : keyI ks kvs) : keyI (ks ++ [i]) (putK kvs (.inl i) v) := by
  refine ⟨fun j => ?_, fun _ _ => True.intro, ?_⟩
  · rw [valV_put]
    by_cases e : j = i
    · subst e
      simp
    · have e2 : ¬ (Sum.inl j : L2.Key) = Sum.inl i := fun z => e (Sum.inl.inj z)
      rw [if_neg e2, h.1 j]
      simp [e]
  · have := length_putK kvs (Sum.inl i) v
    have := h.2.2
    simp
    omega
section
variable {P : Program} {w : World} {K : PySem.W.Frag} {mg : Str → Option Value} {base : Heap} {f : Addr} {fd : FuncData}
/-- ints that may stand in a lot -/
def InLot (n : Nat) (ys : List Int) : Prop := ys.Nodup ∧ ∀ k ∈ ys, 0 ≤ k ∧ k < n
/-- a value that is no lot, refused with the number at -/
inductive BadLot (H : Hp) (n : Nat) : V → Int → Prop
  | odd {x : V} {T : String} (h : Odd H x T) : BadLot H n x 0
  | seq {k : Bool} {v : Addr} {pre : List Int} {z : V} {post : List V} {T : String} (hs : SqB k H v (iV pre ++ z :: post)) (h50 : (iV pre ++ z :: post).length ≤ 50) (hi : InLot n pre) (hz : Odd H z T) (hb : ixB n z = false ∨ ∃ i, z = .int i ∧ i ∈ pre) : BadLot H n (.ref v) pre.length
def spChk (w : World) (C CI : Addr) : Sp := fun vs H Q E => ∃ S sizes ps av kvs x, vs = [.ref S.a, x] ∧ StAt w H S sizes ps av kvs ∧ S.C = C ∧
  ((∃ at_, BadLot H sizes.length x at_ ∧ ∀ H' d, Fr [] H H' → H d = none → H' d = some (.xd [("at", .int at_)]) → E (.ref CI) (some d) H') ∨
   (∃ k v ys, x = .ref v ∧ SqB k H v (iV ys) ∧ ys.length ≤ 50 ∧ InLot sizes.length ys ∧ ∀ H' p zs, Fr [] H H' → H' p = some (.tup (iV zs)) → zs.Perm ys → zs.Pairwise (· ≤ ·) → Q (.ref p) H'))
theorem cal_checked_lot {C CI : Addr} (B : Bt mg) (sc0 : SC K C) (L : PmkLot P w K mg base CI) (cQ : Cal P w K mg base 1 "is_sequence" spSeq) (cX : Cal P w K mg base 3 "is_index" spIx) (F : FnP K "checked_lot" s_checked_lot f fd) (hm : mg "checked_lot" = some (.ref f)) : Cal P w K mg base 4 "checked_lot" (spChk w C CI) := by
  refine calE F hm sc_checked_lot (fun _ _ _ _ _ _ us hl => match us, hl with | [_, _], _ => rfl) (fun vs H Q E h => ?_) (fun cdv A outer s H vs Q E hr h => ?_)
  · obtain ⟨S, sizes, ps, av, kvs, x, rfl, _⟩ := h
    rfl
  · obtain ⟨S, sizes, ps, av, kvs, x, rfl, sa, hC, hx⟩ := h
    have sc : SC K S.C := hC ▸ sc0
    have nd := sc_checked_lot.nd
    have hu := hu_of hr
    have nn : ∀ {x : Addr}, x ∉ ([] : List Addr) := fun z => nomatch z
    refine ⟨_, pss_cons (ps_if (pt_not (pt_val (pc cQ hr (pa_cons (pv 1) pa_nil)))) (pss_one (ps_raise rfl (takes_of rfl rfl rfl rfl) (L.run _ 1 _ _ _ _ rfl rfl rfl rfl rfl hr rfl pe_int rfl))) pss_nil)
      (pss_cons (ps_set (i := 2) nd rfl (Or.inl rfl) pe_dnewK)
      (pss_cons (ps_for (passes_of rfl) rfl (pi_enumB B (pv 1)) (pg_tup rfl (pgs_cons (pg_name (i := 3) nd rfl (Or.inl rfl)) (pgs_cons (pg_name (i := 4) nd rfl (Or.inl rfl)) pgs_nil)))
        (pss_cons (ps_if (PW.pt (pw_or (pt_not (pt_val (pc cX hr (pa_cons (pv 4) (pa_cons (pe_fld (pv 0) rfl) pa_nil))))) (pw_or1 (pt_cmp (pc_din hu (pv 4) (pv 2))))))
          (pss_one (ps_raise rfl (takes_of rfl rfl rfl rfl) (L.run _ 1 _ _ _ _ rfl rfl rfl rfl rfl hr rfl (pv 3) rfl))) pss_nil)
        (pss_one (ps_dput hu (pv 2) (pv 4) pe_bl rfl))))
      (pss_one (ps_ret (b_tupOf B (b_sortD B hr (pv 1))))))), ?_⟩
    -- one turn's answer
    have walk : ∀ (k : Bool) (v : Addr) (pre : List Int) (rest : List V) (H1 : Hp), x = .ref v → SqB k H1 v (iV pre ++ rest) → Fr [] H H1 → pre.length ≤ 50 → InLot sizes.length pre → True := fun _ _ _ _ _ _ _ _ _ _ => True.intro
    rcases hx with ⟨at_, hbad, hE⟩ | ⟨k, v, ys, rfl, hv, h50, hi, q⟩
    · cases hbad with
      | odd ho =>
        refine ⟨_, rfl, _, false, rfl, .inl ⟨rfl, _, ho⟩, fun H1 e1 => ⟨false, rfl, iteT fun d hd => ?_⟩⟩
        have fr : Fr [] H H1 := .of_same e1
        exact hE _ d (fr.trans (.new hd)) (fresh_of fr hd) upd_same
      | @seq k v pre z post T hs hl50 hi hz hb =>
        refine ⟨_, rfl, _, true, rfl, .inr ⟨rfl, _, hs.seq⟩, fun H1 e1 => ⟨true, rfl, iteF fun sd hsd => ?_⟩⟩
        have fr1 : Fr [] H (upd H1 sd (.dK [])) := (Fr.of_same e1).trans (.new hsd)
        have hsd0 : H sd = none := fresh_of (.of_same e1) hsd
        refine ⟨_, rfl, k, v, _, rfl, hs.fr fr1 nn, for_it walk_enumB (fun i σ H' => i ≤ pre.length ∧ ∃ dv x3 x4, σ = [some (.ref S.a), some (.ref v), some (.ref sd), x3, x4] ∧ H' sd = some (.dK dv) ∧ keyI (pre.take i) dv ∧ Fr [] H H') ⟨Nat.zero_le _, [], _, _, rfl, upd_same, .nil, fr1⟩ ?_ ?_ ?_⟩
        · rintro i σ H' _ ⟨_, dv, x3, x4, rfl, _, _, fr⟩
          exact hs.fr fr nn
        · rintro i u σ H2 H3 hi2 ⟨hip, dv, x3, x4, rfl, hD, hK, fr⟩ ⟨T2, a2, b2, rfl, hT2, rfl, ha2, hb2⟩
          obtain rfl : V.int (i : Nat) = a2 := Option.some.inj ha2
          have frT : Fr [] H (upd H2 T2 (.tup [.int (i : Nat), b2])) := fr.trans (.new hT2)
          have hD3 : upd H2 T2 (.tup [.int (i : Nat), b2]) sd = some (.dK dv) := by rw [upd_ne (ne_of_none hD hT2)]; exact hD
          refine ⟨T2, _, rfl, SqT.of upd_same, rfl, _, _, rfl, _, _, rfl, rfl, ?_⟩
          have hkl := hK.2.2
          have htl : (pre.take i).length ≤ pre.length := by simp; omega
          have h50 : pre.length ≤ 50 := by simp [iV_len] at hl50; omega
          by_cases hlt : i < pre.length
          · obtain ⟨y, hy⟩ : ∃ y, pre[i]? = some y := ⟨pre[i], List.getElem?_eq_getElem hlt⟩
            have hb2' : (iV pre ++ z :: post)[i]? = some b2 := hb2
            rw [List.getElem?_append_left (by rw [iV_len]; exact hlt)] at hb2'
            obtain ⟨y', hy', rfl⟩ := iV_get hb2'
            rw [hy] at hy'
            cases hy'
            have hyr := hi.2 y (List.mem_of_getElem? hy)
            have hyn : y ∉ pre.take i := take_not_mem hi.1 hy
            refine ⟨_, rfl, _, rfl, S.a, S.C, S.dx, _, _, rfl, frT.keep _ _ nn sa.ins, sc.cl, sc.nKey, rfl, .int y, "int", sizes.length, rfl, .int y, _, rfl, ?_⟩
            rw [show ixB sizes.length (.int y) = true by simp [ixB, hyr]]
            refine ⟨_, rfl, _, rfl, sd, _, rfl, DGet.k (k := Sum.inl y) hD3, _, rfl, ?_⟩
            rw [hK.1 y, decide_eq_false hyn]
            refine ⟨_, rfl, _, rfl, sd, _, rfl, DPut.k (k := Sum.inl y) hD3 (by rw [sizeLine_eq]; omega), ?_⟩
            exact ⟨hlt, _, _, _, rfl, upd_same, by rw [take_snoc hy]; exact hK.put, frT.own hsd0⟩
          · have e : i = pre.length := by omega
            subst e
            have hb2' : (iV pre ++ z :: post)[pre.length]? = some b2 := hb2
            rw [List.getElem?_append_right (by rw [iV_len]; exact Nat.le_refl _), iV_len, Nat.sub_self] at hb2'
            obtain rfl : z = b2 := Option.some.inj hb2'
            rw [List.take_length] at hK
            have raise : ∀ d, upd H2 T2 (.tup [.int (pre.length : Nat), z]) d = none → E (.ref CI) (some d) (upd (upd H2 T2 (.tup [.int (pre.length : Nat), z])) d (.xd [("at", .int (pre.length : Nat))])) := fun d hd => hE _ d (frT.trans (.new hd)) (fresh_of frT hd) upd_same
            refine ⟨_, rfl, _, rfl, S.a, S.C, S.dx, _, _, rfl, frT.keep _ _ nn sa.ins, sc.cl, sc.nKey, rfl, z, T, sizes.length, rfl, hz.same (fr.trans (.new hT2)).same, _, rfl, ?_⟩
            by_cases hix : ixB sizes.length z = false
            · rw [hix]
              exact ⟨_, rfl, raise⟩
            · have hix : ixB sizes.length z = true := by simpa using hix
              rw [hix]
              obtain ⟨y, rfl, hy⟩ : ∃ y, z = .int y ∧ y ∈ pre := hb.elim (fun e => by rw [hix] at e; cases e) id
              refine ⟨_, rfl, _, rfl, sd, _, rfl, DGet.k (k := Sum.inl y) hD3, _, rfl, ?_⟩
              rw [hK.1 y, decide_eq_true hy]
              exact ⟨_, rfl, raise⟩
        · rintro σ H2 ⟨hip, dv, x3, x4, rfl, hD, hK, fr⟩
          rw [List.length_append, iV_len, List.length_cons] at hip
          exact absurd hip (by omega)
    · refine ⟨_, rfl, _, true, rfl, .inr ⟨rfl, _, hv.seq⟩, fun H1 e1 => ⟨true, rfl, iteF fun sd hsd => ?_⟩⟩
      have fr1 : Fr [] H (upd H1 sd (.dK [])) := (Fr.of_same e1).trans (.new hsd)
      have hsd0 : H sd = none := fresh_of (.of_same e1) hsd
      refine ⟨_, rfl, k, v, _, rfl, hv.fr fr1 nn, for_it walk_enumB (fun i σ H' => ∃ dv x3 x4, σ = [some (.ref S.a), some (.ref v), some (.ref sd), x3, x4] ∧ H' sd = some (.dK dv) ∧ keyI (ys.take i) dv ∧ Fr [] H H') ⟨[], _, _, rfl, upd_same, .nil, fr1⟩ ?_ ?_ ?_⟩
      · rintro i σ H' _ ⟨dv, x3, x4, rfl, _, _, fr⟩
        exact hv.fr fr nn
      · rintro i u σ H2 H3 hi2 ⟨dv, x3, x4, rfl, hD, hK, fr⟩ ⟨T2, a2, b2, rfl, hT2, rfl, ha2, hb2⟩
        obtain rfl : V.int (i : Nat) = a2 := Option.some.inj ha2
        obtain ⟨y, hy, rfl⟩ := iV_get hb2
        have frT : Fr [] H (upd H2 T2 (.tup [.int (i : Nat), .int y])) := fr.trans (.new hT2)
        have hD3 : upd H2 T2 (.tup [.int (i : Nat), .int y]) sd = some (.dK dv) := by rw [upd_ne (ne_of_none hD hT2)]; exact hD
        refine ⟨T2, _, rfl, SqT.of upd_same, rfl, _, _, rfl, _, _, rfl, rfl, ?_⟩
        have hkl := hK.2.2
        have htl : (ys.take i).length ≤ ys.length := by simp; omega
        have hyr := hi.2 y (List.mem_of_getElem? hy)
        have hyn : y ∉ ys.take i := take_not_mem hi.1 hy
        refine ⟨_, rfl, _, rfl, S.a, S.C, S.dx, _, _, rfl, frT.keep _ _ nn sa.ins, sc.cl, sc.nKey, rfl, .int y, "int", sizes.length, rfl, .int y, _, rfl, ?_⟩
        rw [show ixB sizes.length (.int y) = true by simp [ixB, hyr]]
        refine ⟨_, rfl, _, rfl, sd, _, rfl, DGet.k (k := Sum.inl y) hD3, _, rfl, ?_⟩
        rw [hK.1 y, decide_eq_false hyn]
        refine ⟨_, rfl, _, rfl, sd, _, rfl, DPut.k (k := Sum.inl y) hD3 (by rw [sizeLine_eq]; omega), ?_⟩
        exact ⟨_, _, _, rfl, upd_same, by rw [take_snoc hy]; exact hK.put, frT.own hsd0⟩
      · rintro σ H2 ⟨dv, x3, x4, rfl, hD, hK, fr⟩
        refine ⟨_, rfl, ?_⟩
        refine rSort_ints (K := K) (Q := fun x H1 => kTup K x H1 Q) (hv.fr fr nn) fun p zs hp hpm hs => ?_
        refine Or.inl ⟨p, _, rfl, SqL.of upd_same, fun t ht => ?_⟩
        exact q _ t zs ((fr.trans (.new hp)).trans (.new ht)) upd_same hpm hs
end
end K13
/-! K13X1 -/
set_option autoImplicit true
set_option Elab.async false
set_option linter.all false
set_option maxRecDepth 100000
set_option maxHeartbeats 4000000
set_option pp.maxSteps 600
namespace K13
open PySem PySem.Spec PyProof.Rows L2
/-- what the written part says of InvalidLot and its __init__ -/
structure LotF (P : Program) (K : PySem.W.Frag) (C fI : Addr) : Prop where
  T : OexC K C
  fn : ∃ (oc : Value) (od : Option Addr) (kV doc pm : Value) (an : Option Addr) (cda : Addr) (ct : Value) (osl : Array (Option Value)) (cc : Addr) (ccl : Value) (cdd : Option Addr) (vs : Array Value) (ccs : Array (Option Value)) (file : Str) (tf : Tok) (cl : Value) (cld : Option Addr) (csl : Array (Option Value)),
    K.lookup fI = some ⟨oc, od, .func (PySem.W.ksFn "__init__" "InvalidLot.__init__" (defArgs s_InvalidLotI) (defBody s_InvalidLotI) (defScope s_InvalidLotI) .none kV doc pm an (.ref cda) ct cc), osl⟩ ∧ PySem.W.codeIn K (.ref cda) "InvalidLot.__init__" = true ∧
    K.lookup cda = some ⟨ccl, cdd, .fields vs, ccs⟩ ∧ vs[2]? = some (.str file tf) ∧ ((P.main.file : Str) == file) = true ∧ K.lookup cc = some ⟨cl, cld, .cell (some (.ref C)), csl⟩
  cls : ∃ cd, PySem.W.clsIn K C = some cd
  sup : PySem.W.ks_superIn K C C "__init__" = some (some (.builtin "ValueError.__init__"))
  sub : PySem.W.mroIn K C (.ref C) = some true
  subV : PySem.W.subIn K (.ref C) (.type "ValueError") = some true
  opq : PySem.W.nsIn K cStatics "thirdparty.any" = some none
  at_ : PySem.W.findIn K (.ref C) "at" = some none
  init : PySem.W.findIn K (.ref C) "__init__" = some (some (.ref fI))
  ty : PySem.W.typeIn K (.ref fI) = some (.type "function")
  top : (P.main.scope.names.lookup ("super" : Str)).isSome = false
section
open PySem.W
variable {prog : Program} {w : World} {M : Model} {A : Around} {E : Value → Shared → Prop} {h : Heap} {g : Array GenState} {d : Drawn} {t : Nat} {os : OsState} {s : Shared} {K : PySem.W.Frag} {C a u t0 : Addr}
theorem call_mw {rest : List Value} {Q : Value → Shared → Prop} (T : OexC K C) (X : K.In h) (hu : h.get? u = some (kxs_mw "ValueError.__init__" a)) (he : h.get? a = some (PySem.HandSPX.excO C t0)) (hz : rest.length ≤ sizeLine)
    (hq : ∀ h' t1, (∀ b o, b ≠ a → h.get? b = some o → h'.get? b = some o) → h'.get? a = some (PySem.HandSPX.excO C t1) → Q .none ⟨h', g, d, t, os⟩) : wpAny (model prog w) A (call (.ref u) rest) Q E ⟨h, g, d, t, os⟩ := by
  obtain ⟨nm, q, N, bs, bm, sn, sub, ab, col, dd, k0, k1, k2, k3, k5, hC, hbm⟩ := T.cls
  refine wpAny_call (codeAny_of_tree ?_)
  show wpAny _ A.in1 (callAny (.ref u) ⟨rest, []⟩) _ _ _
  simp only [callAny]
  refine wpAny_bind (wpAny_load hu ?_)
  simp only [kxs_mw, show (Value.type "method-wrapper" == Value.type "method" || Value.type "method-wrapper" == Value.type "builtin_function_or_method" || Value.type "method-wrapper" == Value.type "method-wrapper") = true by decide, if_true]
  refine KFB.if_so (by decide) ?_
  refine wpAny_bind (check_bound_init F.excBase_ValueError.toExcCallFacts (X _ _ hC) he rfl ?_)
  refine wpAny_bind (wpAny_pure (wpAny_pure ?_))
  refine ⟨plainId_quiet F.excBase_ValueError.init.plain _, codeAny_builtin F.excBase_ValueError.initEntry ?_⟩
  exact exc_init_tree (cls := .ref C) (t0 := t0) (dv := none) (c2 := .none) (c3 := .none) (b4 := .bool false) he hz fun h' k e' _ => hq h' _ k e'
theorem callWith_mw {pos : Pos} {i : String} {env : Env} {e : Expr} {rest : List Expr} {Q : Value → Shared → Prop}
    (h : wpAny M A (spliced (backTo pos (starEach (e :: rest) env))) (fun vs s₁ => KxsAt i u a s₁.heap ∧ wpAny M A (call (.ref u) vs) Q E s₁) E s)
    (he : starEach (e :: rest) env = (false, eval e env) :: starEach rest env := by rfl) (hplain : (backTo pos (starEach rest env)).any (·.1) = false := by rfl) :
    wpAny M A (callWith pos (.ref u) [] (backTo pos (starEach (e :: rest) env)) []) Q E s := by
  rw [he] at h ⊢
  refine kxs_callWith (i := i) (x := a) (by show (false || (backTo pos (starEach rest env)).any (·.1)) = false; rw [hplain]; rfl) ?_
  exact Calls.evalArgs_plain h
end
section
variable {prog : Program} {w : World} {A : Around} {K : PySem.W.Frag} {mg : Str → Option Value} {C fI a t0 : Addr} {v : Value} {s : Shared} {R : Result → Shared → Prop}
theorem lot_init (L : LotF prog K C fI) (X : K.In s.heap) (hKa : ∀ b o, K.lookup b = some o → b ≠ a) (lim : s.heap.NoLimit) (hg : mg "super" = none) (G : s.heap.Ns mainGlobals mg) (Bl : ∃ mb, s.heap.Ns builtinsNs mb ∧ ∀ x : Str, x ≠ "__name__" → mb x = bootBuiltins x) (hroom : A.depth < recursionLimit) (he : s.heap.get? a = some (PySem.HandSPX.excO C t0))
    (h : ∀ h' d t1 tk, (∀ b o, b ≠ a → s.heap.get? b = some o → h'.get? b = some o) → s.heap.objs.size ≤ d → d ≠ a → h'.get? a = some ({ cls := .ref C, dict := some d, data := .fields #[.ref t1, .none, .none, .none, .bool false, .none] } : Obj) →
      h'.Ns1 d (fun y => if y = "at" then some v else none) → R (.ok (.ret .none)) { s with heap := h', toks := tk }) :
    codeAny (model prog w) A (.call (.ref fI) ⟨[.ref a, v], []⟩) R s := by
  obtain ⟨oc, od, kV, doc, pm, an, cda, ct, osl, cc, ccl, cdd, vs, ccs, file, tf, cl, cld, csl, lk, hcd, lcd, hvs, hfile, lcc⟩ := L.fn
  obtain ⟨mb, hb1, hb2⟩ := Bl
  obtain ⟨hp, g, dr, tk, os⟩ := s
  dsimp only at X lim G he h hb1
  refine PySem.ks_codeAny_call_defAt (binds := [("self", .ref a), ("at", v)]) hroom (X _ _ lk) rfl lim (PySem.W.codeRec_of X hcd) rfl (BindsTo.of_eq rfl) (show ∀ x ∈ (defScope s_InvalidLotI).names, x.2 ≠ .cell by decide +kernel) (by
    intro x hx
    simp only [List.mem_cons, List.not_mem_nil, or_false] at hx
    rcases hx with rfl | rfl <;> rfl) (fun h₀ hns kp => ?_) rfl rfl rfl
  refine PySem.ks_wpAt_execs_cons (PySem.ks_wpAt_Expr_any (PySem.ks_wpAt_MethodCall ?_))
  obtain ⟨cd, hcd2⟩ := L.cls
  obtain ⟨oD, hD1, hD2⟩ : ∃ oD, K.lookup C = some oD ∧ oD.data = .cls cd := by
    unfold PySem.W.clsIn at hcd2
    split at hcd2
    · rename_i c d cd' sl ho
      cases hcd2
      exact ⟨_, ho, rfl⟩
    · cases hcd2
  have hla : a < hp.objs.size := Heap.lt_size he
  refine PySem.ks_wpAt_super_base (f := fI) (cc := cda) rfl rfl rfl rfl (kp _ _ (X _ _ lk)) rfl rfl rfl (kp _ _ (X _ _ lcd)) rfl hvs hfile L.top ?_
  refine PySem.W.ks_loadName_global rfl rfl (Calls.loadGlobal_builtin (G.keeps kp) hg (hb1.keeps kp) (hb2 _ (by decide)) ?_)
  have X0 := X.keeps kp
  have sup := L.sup
  unfold PySem.W.ks_superIn at sup
  rw [hcd2] at sup
  have sup : PySem.W.alongIn K "__init__" ((cd.mro.dropWhile (· != .ref C)).drop 1) = some (some (.builtin "ValueError.__init__")) := sup
  refine ⟨rfl, ?_⟩
  refine wpAny_loadName_free rfl rfl rfl ⟨_, X0 _ _ lcc, rfl⟩ ?_
  refine wpAny_loadName_local rfl rfl hns rfl ?_
  refine PySem.ks_wpAny_isType_cls (X0 _ _ hD1) hD2 ⟨rfl, ?_⟩
  refine PySem.ks_wpAny_call_super (X0 _ _ hD1) hD2 (kp _ _ he) rfl (fun c e => nomatch e) (PySem.W.looks_mroIn X0 L.sub) (fun h1 e1 k1 => ?_)
  have X1 := X0.keeps k1
  have he1 := k1 _ _ (kp _ _ he)
  have I1 : PySem.W.InstAt h1 a (PySem.HandSPX.excO C t0) C none := ⟨he1, rfl, rfl, trivial⟩
  have hI : PySem.W.Looks (model prog w) h1 (isInstance (.ref a) (.type "ValueError")) true := I1.type.andThen (PySem.W.looks_subIn X1 L.subV)
  refine PySem.W.kxs_getMethod PySem.W.kxs_ValueError e1 (PySem.W.looks_opaque X1 L.opq) (l₀ := cd.mro) (fun A Q E s k q => wpAny_bind ((PySem.W.looks_clsIn X1 hcd2) A _ E s k (wpAny_pure q))) rfl X1 sup hI (PySem.W.ks_ne X1 I1 hcd2) (by decide) ?_
  have hu2 : (h1.push (PySem.W.kxs_mw "ValueError.__init__" a)).get? h1.objs.size = some (PySem.W.kxs_mw "ValueError.__init__" a) := Heap.get?_push_at rfl rfl
  have k2 : ∀ b o, h1.get? b = some o → (h1.push (PySem.W.kxs_mw "ValueError.__init__" a)).get? b = some o := fun b o e => Heap.get?_push_of_some _ e
  refine callWith_mw (i := "ValueError.__init__") (a := a) ?_
  refine Calls.spliced_cons (Calls.Constant_str (k := 0) (pos := ⟨12, 25, 12, 38⟩) (Calls.spliced_nil ⟨hu2, ?_⟩))
  refine call_mw L.T (X1.keeps k2) hu2 (k2 _ _ he1) (by show 1 ≤ sizeLine; decide) fun h3 t3 k3 e3 => ?_
  have k03 : ∀ b o, b ≠ a → h₀.get? b = some o → h3.get? b = some o := fun b o n e => k3 b o n (k2 _ _ (k1 _ _ e))
  have kall : ∀ b o, b ≠ a → hp.get? b = some o → h3.get? b = some o := fun b o n e => k03 b o n (kp _ _ e)
  have nla : hp.objs.size ≠ a := fun e => absurd hla (by rw [← e]; exact Nat.lt_irrefl _)
  have hns3 : h3.Ns hp.objs.size (fun x => ([("self", Value.ref a), ("at", v)] : List (Str × Value)).reverse.lookup x) := hns.at fun o e => k03 _ o nla e
  refine PySem.ks_wpAt_execs_cons (PySem.ks_wpAt_Assign_Attr ?_ rfl)
  refine wpAt_of_wpAny (ESX.ldL hns3 rfl ?_)
  refine ESX.ldL hns3 rfl ?_
  have X3 : K.In h3 := fun b o e => kall b o (hKa b o e) (X b o e)
  obtain ⟨nm, q, N, bs, bm, sn, sub, ab, col, dd, c0, c1, c2, c3, c5, hC, hbm⟩ := L.T.cls
  have hcl : PySem.W.clsIn K C = some { name := nm, bases := bs, mro := .ref C :: bm, ns := N, qualname := q, hasDict := true, slotNames := sn, subclasses := sub, abstract := ab, collection := col, hasDel := false } := by unfold PySem.W.clsIn; rw [hC] <;> rfl
  refine PySem.W.set_plain X3 (ox := PySem.HandSPX.excO C t3) (od := none) ⟨e3, rfl, rfl, trivial⟩ L.T.sa ?_
  refine PySem.HandSPX.exc_osa X3 e3 hcl (show PySem.HandSPX.refsVE (.ref C :: bm) = true from hbm) rfl L.at_ (fun h' tk' dx k dn dne hx hn => ?_)
  have hsz : hp.objs.size ≤ h3.objs.size := by
    by_cases z : hp.objs.size ≤ h3.objs.size
    · exact z
    · obtain ⟨oL, _, _, eL, _⟩ := hns3
      exact absurd (Nat.le_of_lt (Heap.lt_size eL)) z
  refine wpAt_of_wpAny (wpAny_pure ?_)
  exact h h' dx t3 tk' (fun b o n e => k b o n (kall b o n e)) (Nat.le_trans hsz dn) dne hx hn
end
end K13
/-! K13X2 -/
set_option autoImplicit true
set_option Elab.async false
set_option linter.all false
set_option maxRecDepth 100000
set_option maxHeartbeats 4000000
set_option pp.maxSteps 600
namespace K13
open PySem PySem.Spec PyProof.Rows L2
section
variable {P : Program} {w : World} {K : PySem.W.Frag} {mg : Str → Option Value} {base : Heap} {C fI : Addr}
/-- the heap behind InvalidLot.__init__, without the exception: its dict is new -/
theorem lot_left {H : Hp} {a d : Addr} {v : V} (ha : H a = none) (hd : d ≠ a) : upd (del (upd (upd (upd H a (exo a C none)) d (exd d [("at", v)])) a (exo a C (some d))) a) d (.xd [("at", v)]) = upd H d (.xd [("at", v)]) := by
  funext b
  by_cases e : b = d
  · subst e
    rw [upd_same, upd_same]
  · rw [upd_ne e, upd_ne e]
    by_cases z : b = a
    · subst z
      rw [del_same, ha]
    · rw [del_ne z, upd_ne z, upd_ne e, upd_ne z]
theorem pmk_lot (L : LotF P K C fI) (hm : mg "InvalidLot" = some (.ref C)) (hs : mg "super" = none) : PmkLot P w K mg base C := by
  refine ⟨fun X j te e p pos eP ew eK em eb hr hg he hse => ?_⟩
  subst eP ew eK em eb
  intro pins s σ H Q I h
  have T := L.T
  obtain ⟨n1, n2, n3, n4, bm, n5, n6, n7, n8, n9, k0, k1, k2, k3, k5, hC, hbm⟩ := T.cls
  refine wpAny_Call_Name_kw (ld_glob I hg hm ?_ (by decide))
  refine PySem.W.callWith_K (h₀ := X.base) I.ok.mod.kin T.kC (thn ((pa_cons he pa_nil hse).run pos pins s σ H (fun vs H1 => match vs with | [v] => ∀ d, H1 d = none → Q (.ref C) (some d) (upd H1 d (.xd [("at", v)])) | _ => False) I h) fun us s1 hv => ?_) hse rfl
  obtain ⟨vs, H1, I1, r1, q1⟩ := hv
  cases r1 with
  | nil => exact q1.elim
  | @cons v u _ _ rv rr =>
  cases rr with
  | cons _ _ => exact q1.elim
  | nil =>
  refine ⟨I1.kIn, ?_⟩
  show wpAny _ _ (call (.ref C) [u]) _ _ _
  obtain ⟨hp, g, dr, tk, os⟩ := s1
  have hn : H1 (hp.objs.size + 1) = none := I1.hok.fresh (Nat.le_succ _)
  have kk : ∀ b o, hp.get? b = some o → ((hp.push (PySem.W.kdv_tup [u])).push (PySem.HandSPX.excO C hp.objs.size)).get? b = some o := fun b o z => Heap.get?_push_of_some _ (Heap.get?_push_of_some _ z)
  have hget : ((hp.push (PySem.W.kdv_tup [u])).push (PySem.HandSPX.excO C hp.objs.size)).get? (hp.objs.size + 1) = some (PySem.HandSPX.excO C hp.objs.size) := by heap_get
  have I2 : Inv X pins σ (upd H1 (hp.objs.size + 1) (exo (hp.objs.size + 1) C none)) ⟨(hp.push (PySem.W.kdv_tup [u])).push (PySem.HandSPX.excO C hp.objs.size), g, dr, tk, os⟩ :=
    I1.laid (t' := tk) (a := hp.objs.size + 1) (o := exo (hp.objs.size + 1) C none) (h' := (hp.push (PySem.W.kdv_tup [u])).push (PySem.HandSPX.excO C hp.objs.size)) kk (Nat.le_succ _) (exo_ok hget)
  have old : ∀ {b : Addr} {o : Obj}, hp.get? b = some o → b ≠ hp.objs.size + 1 := fun {b o} z => Nat.ne_of_lt (Nat.lt_succ_of_lt (Heap.lt_size z))
  refine wpAny_call (PySem.HandSPX.call_own F.excBase_ValueError (fun Y => PySem.HandSPX.refsVE_contains Y bm hbm) (I1.kIn _ _ hC) (PySem.W.looks_findIn I1.kIn L.init) (fun self => PySem.W.bind_fn I1.kIn self L.ty) (by show 1 ≤ sizeLine; decide) ?_)
  refine lot_init (mg := X.mg) (t0 := hp.objs.size) L I2.kIn (fun b o z => old (I1.kIn b o z)) I2.nolimit hs (I2.mod.glob.keeps I2.bk) ?_ ?_ hget (fun h' d t1 tk' keep dn dne hx hN => ?_)
  · obtain ⟨mb, b1, b2⟩ := I2.mod.blt
    exact ⟨mb, b1.keeps I2.bk, b2⟩
  · rw [make_depth]
    have := hr.dp
    omega
  have hd1 : upd H1 (hp.objs.size + 1) (exo (hp.objs.size + 1) C none) d = none := I2.hok.fresh dn
  have hd : H1 d = none := by rw [← hd1, upd_ne dne]
  have nd : ∀ {b : Addr} {o : Obj}, ((hp.push (PySem.W.kdv_tup [u])).push (PySem.HandSPX.excO C hp.objs.size)).get? b = some o → b ≠ d := fun {b o} z => Nat.ne_of_lt (Nat.lt_of_lt_of_le (Heap.lt_size z) dn)
  have keep' : ∀ b o, b ≠ hp.objs.size + 1 → ((hp.push (PySem.W.kdv_tup [u])).push (PySem.HandSPX.excO C hp.objs.size)).get? b = some o → h'.get? b = some o := keep
  clear hget
  have hsz : hp.objs.size ≤ hp.objs.size + 1 := Nat.le_succ _
  generalize hp.objs.size + 1 = a at hn I2 old hx hd1 dne keep' hsz ⊢
  generalize (hp.push (PySem.W.kdv_tup [u])).push (PySem.HandSPX.excO C hp.objs.size) = hp2 at kk I2 nd keep' ⊢
  have g0 : ∀ {b : Addr}, upd H1 a (exo a C none) b = none → b ≠ a := fun {b} z e => by
    rw [e, upd_same] at z
    cases z
  have ea : upd H1 a (exo a C none) a = some (exo a C none) := upd_same
  have rel := relO_put (f := "at") (fs := []) (mA := fun _ => none) rv fun _ => True.intro
  refine ⟨rfl, mk_end (H2 := upd (upd (upd H1 a (exo a C none)) d (exd d [("at", v)])) a (exo a C (some d))) (d := d) (fs := [("at", v)]) (raises_own T.exC T.tyC) I1 ?_ kk ?_ (fun b o z => ?_) rfl I2.bare upd_same ?_ hd ?_⟩
  · exact hsz
  · refine ⟨fun b o z n _ _ => keep' b o (g0 n) z, fun b o z n _ _ => ⟨o.slots, keep' b o (g0 n) z⟩, fun b o z n _ => ?_, fun b o z _ => ?_, fun b xs z => ?_, fun b o x z => ?_, fun b ps z => ⟨#[], ?_⟩⟩
    · rw [upd_ne (g0 n), upd_ne (nd z)]
      exact n
    · by_cases e : b = a
      · exact ⟨_, by rw [e]; exact hx⟩
      · exact ⟨o, keep' b o e z⟩
    · rw [upd_ne (at_ne ea z exo_tup), upd_ne (ne_of_none z hd1)]
      exact z
    · rw [upd_ne (at_ne ea z exo_frz), upd_ne (ne_of_none z hd1)]
      exact z
    · rw [upd_ne (at_ne ea z exo_tbl), upd_ne (ne_of_none z hd1), z]
      simp
  · by_cases e : b = a
    · subst e
      rw [upd_same] at z
      cases z
      exact exo_ok hx
    · rw [upd_ne e] at z
      by_cases e2 : b = d
      · subst e2
        rw [upd_same] at z
        cases z
        exact exd_ok hN rel
      · rw [upd_ne e2] at z
        refine (I2.hok b o z).stay (fun c x hc y => keep' c x (fun q => ?_) y) (fun c hc => ?_) fun c xs hc => ?_
        · rcases hc with hc | hc
          · exact e (hc.symm.trans q)
          · rw [q, ea] at hc
            exact exo_own (Option.some.inj hc)
        · rw [upd_ne (at_ne ea hc exo_own), upd_ne (ne_of_none hc hd1)]
          exact hc
        · rw [upd_ne (at_ne ea hc exo_tup), upd_ne (ne_of_none hc hd1)]
          exact hc
  · rw [upd_ne dne, upd_same]
  · rw [lot_left hn dne]
    exact q1 d hd
end
end K13
/-! K13F2 -/
set_option autoImplicit true
set_option Elab.async false
set_option linter.all false
set_option maxRecDepth 100000
set_option maxHeartbeats 2000000
namespace K13
open PySem PySem.Spec PyProof.Rows L2
theorem genL_len : ∀ n, (genL n).length = 2 ^ n
  | 0 => rfl
  | n + 1 => by
    simp only [genL, List.length_append, List.length_map, genL_len n]
    omega
theorem genL_head : ∀ n, (genL n)[0]? = some []
  | 0 => rfl
  | n + 1 => by
    rw [genL, List.getElem?_append_left (by rw [genL_len]; exact Nat.two_pow_pos n)]
    exact genL_head n
theorem genL_le {n : Nat} (h : n ≤ 4) : (genL n).length ≤ 16 := by
  rw [genL_len]
  exact Nat.pow_le_pow_right (by decide) h
theorem genL_row : ∀ n r, r ∈ genL n → LotOk n r ∧ r.length ≤ n
  | 0, r, h => by
    obtain rfl : r = [] := by simpa [genL] using h
    exact ⟨⟨.nil, fun k hk => nomatch hk⟩, Nat.le_refl _⟩
  | n + 1, r, h => by
    rw [genL, List.mem_append] at h
    rcases h with h | h
    · obtain ⟨⟨h1, h2⟩, h3⟩ := genL_row n r h
      exact ⟨⟨h1, fun k hk => ⟨(h2 k hk).1, by have := (h2 k hk).2; omega⟩⟩, by omega⟩
    · obtain ⟨t, ht, rfl⟩ := List.mem_map.mp h
      obtain ⟨⟨h1, h2⟩, h3⟩ := genL_row n t ht
      refine ⟨⟨List.pairwise_append.mpr ⟨h1, List.pairwise_singleton _ _, fun a ha b hb => ?_⟩, fun k hk => ?_⟩, by simp; omega⟩
      · obtain rfl : b = (n : Int) := by simpa using hb
        exact (h2 a ha).2
      · rcases List.mem_append.mp hk with hk | hk
        · exact ⟨(h2 k hk).1, by have := (h2 k hk).2; omega⟩
        · obtain rfl : k = (n : Int) := by simpa using hk
          exact ⟨by omega, by omega⟩
section
variable {P : Program} {w : World} {K : PySem.W.Frag} {mg : Str → Option Value} {base : Heap} {f : Addr} {fd : FuncData}
/-- what all_lots and _law_lots give -/
def LotsQ (n : Nat) (H : Hp) (Q : VK) : Prop := ∀ H' p ps, Fr [] H H' → H p = none → H' p = some (.lst (rV ps)) → RwL H' ps → rR ps = lotsOf n → Q (.ref p) H'
def spLLots : Sp := fun vs H Q _ => ∃ n : Nat, vs = [.int n] ∧ n ≤ 4 ∧ LotsQ n H Q
theorem cal_l_lots (B : Bt mg) (F : FnP K "_law_lots" s_l_lots f fd) (hm : mg "_law_lots" = some (.ref f)) : Cal P w K mg base 1 "_law_lots" spLLots := by
  refine cal0 F hm sc_l_lots (fun _ _ _ _ _ _ us hl => match us, hl with | [_], _ => rfl) (fun vs H Q E h => ?_) (fun cdv A outer s H vs Q E hr h => ?_)
  · obtain ⟨n, rfl, _⟩ := h
    rfl
  · obtain ⟨n, rfl, hn, q⟩ := h
    have nd := sc_l_lots.nd
    refine ⟨_, pss_cons (ps_set (i := 1) nd rfl (Or.inl rfl) (pe_lst (pa_cons (pe_tup pa_nil) pa_nil)))
      (pss_cons (ps_for PassesOwn.never rfl (pi_range1 rfl B.range (pa_cons (pv 0) pa_nil)) (pg_name (i := 2) nd rfl (Or.inr rfl))
        (pss_one (ps_set (i := 1) nd rfl (Or.inl rfl) (pe_op op_cat (pv 1) (pe_lc (own := [("_law_lot", 3)]) (g := gName 3) rfl nd (pi_list (pv 1)) (blkOk_by (N := N_l_lots) (sc := defScope s_l_lots) (by decide +kernel))
          (fun _ _ _ _ _ => pg_name (i := 3) nd rfl (Or.inl rfl)) (fun _ _ _ _ _ => pts_nil) (fun _ _ _ _ _ => pe_op (catA K) (pv 3) (pe_tup (pa_cons (pv 2) pa_nil))))))))
      (pss_one (ps_ret (b_sortD B hr (pv 1))))), ?_⟩
    refine ⟨Nat.zero_le _, fun t ht => ⟨by show 1 ≤ sizeLine; decide, fun a ha => ?_⟩⟩
    have fr0 : Fr [] H (upd (upd H t (.tup [])) a (.lst [.ref t])) := .trans (.new ht) (.new ha)
    refine ⟨_, rfl, n, rfl, by omega, by omega, for_range (n := n) (fun j σ H' => ∃ a ps x y, σ = [some (.int n), some (.ref a), x, y] ∧ H' a = some (.lst (rV ps)) ∧ RwL H' ps ∧ rR ps = genL j ∧ Fr [] H H') ⟨a, [(t, [])], _, _, rfl, upd_same, fun p hp => ?_, rfl, fr0⟩ ?_ ?_⟩
    · obtain rfl : p = (t, []) := by simpa using hp
      show upd (upd H t (.tup [])) a (.lst [.ref t]) t = _
      rw [upd_ne (ne_of_none upd_same ha), upd_same]
      rfl
    · rintro j σ H1 hj ⟨a1, ps, x, y, rfl, hL, hR, hg, fr⟩
      have hlen : ps.length = 2 ^ j := by rw [← genL_len j, ← hg, rR_len]
      have h16 : 2 ^ j ≤ 2 ^ 4 := Nat.pow_le_pow_right (by decide) (by omega)
      refine ⟨_, rfl, .ref a1, rfl, a1, rfl, ⟨_, SqL.of hL⟩, fun D hD => lcG walk_list [] (fun i acc H2 => ∃ qs, acc = rV qs ∧ RwL H2 qs ∧ rR qs = ((rR ps).take i).map fun r => r ++ [(j : Int)]) hD (by rw [rV_len, hlen]; exact Nat.lt_of_le_of_lt h16 (by decide)) ⟨[], rfl, .nil, rfl⟩
        (fun _ _ _ _ f _ ⟨qs, e1, e2, e3⟩ => ⟨qs, e1, e2.fr f, e3⟩) (fun i acc H2 _ f2 _ => SqL.of (f2.keep _ _ (fun z => nomatch z) hL)) ?_ ?_⟩
      · rintro i x1 _ H2 acc hi hD2 fr2 ⟨qs, rfl, hq, eq⟩ ⟨rfl, hx⟩ yes no
        obtain ⟨p, hp, rfl⟩ := rV_get hx
        have hp2 := hR p (List.mem_of_getElem? hp)
        refine ⟨rfl, ?_⟩
        refine ⟨_, rfl, _, rfl, by show 1 ≤ sizeLine; decide, fun u hu => ?_⟩
        have f3 : Fr [] H2 (upd H2 u (.tup [.int (0 + (j : Nat))])) := .new hu
        have hj2 : (0 + (j : Int)) = (j : Int) := by omega
        have hlr := (genL_row j p.2 (by rw [← hg]; exact List.mem_map_of_mem (List.mem_of_getElem? hp))).2
        refine cat_row (r := p.2) (t := [(j : Int)]) (f3.tup _ _ (fr2.tup _ _ hp2)) (by rw [upd_same, hj2]; rfl) (by show p.2.length + 1 ≤ 1000; omega) (by simp) fun H4 c f4 hc => ?_
        have f5 := f3.trans f4
        refine yes _ _ (f5.keep _ _ (fun z => nomatch z) hD2) (fr2.trans f5) ⟨qs ++ [(c, p.2 ++ [(j : Int)])], by rw [rV_snoc], (hq.fr f5).snoc hc, ?_⟩
        rw [rR_snoc, eq, tm_snoc (l := rR ps) (g := fun r => r ++ [(j : Int)]) (x := p.2) (by rw [rR, List.getElem?_map, hp]; rfl)]
      · rintro acc H2 hD2 hl fr2 ⟨qs, rfl, hq, eq⟩
        rw [rV_len, ← rR_len, List.take_length] at eq
        have hL2 := fr2.keep _ _ (fun z => nomatch z) hL
        refine ⟨a1, D, _, _, rfl, rfl, hL2, hD2, ?_, fun p hp => ?_⟩
        · rw [rV_len, rV_len, ← rR_len (ps := qs), eq, List.length_map, rR_len, hlen]
          exact Nat.le_trans (Nat.add_le_add h16 h16) (by decide)
        · refine ⟨p, ps ++ qs, _, _, rfl, ?_, ?_, ?_, (fr.trans fr2).trans (.new hp)⟩
          · rw [upd_same]
            simp [rV]
          · exact ((hR.fr fr2).app hq).new hp
          · rw [rR_app, eq, hg]
            rfl
    · rintro σ H1 ⟨a1, ps, x, y, rfl, hL, hR, hg, fr⟩
      refine ⟨_, rfl, rSort_rows (k := true) hL hR (.inr (by rw [hg]; exact genL_head n)) fun p ps' hp hpm hs => ?_⟩
      exact q _ p ps' (fr.trans (.new hp)) (fresh_of fr hp) upd_same ((hR.sub fun p hp => hpm.mem_iff.mp hp).new hp) (by rw [hs, hg]; rfl)
end
end K13
/-! K13C2 -/
set_option autoImplicit true
set_option Elab.async false
set_option linter.all false
set_option maxRecDepth 100000
set_option maxHeartbeats 2000000
set_option pp.maxSteps 600
namespace K13
open PySem PySem.Spec PyProof.Rows L2
theorem LotOk.inLot {n : Nat} {lot : List Int} (h : LotOk n lot) : InLot n lot := by
  refine ⟨?_, h.2⟩
  refine List.Pairwise.imp (R := fun a b => a < b) (fun {a b} hab => ?_) h.1
  intro e
  omega
theorem rest_snoc_no {lot : List Int} {i : Nat} (h : lot.contains (i : Int) = true) : ((List.range (i + 1)).map Int.ofNat).filter (fun k => !lot.contains k) = ((List.range i).map Int.ofNat).filter fun k => !lot.contains k := by
  have h' : lot.contains (Int.ofNat i) = true := h
  rw [List.range_succ, List.map_append, List.filter_append, List.map_cons, List.filter_cons, h']
  simp
theorem rest_snoc_yes {lot : List Int} {i : Nat} (h : lot.contains (i : Int) = false) : ((List.range (i + 1)).map Int.ofNat).filter (fun k => !lot.contains k) = (((List.range i).map Int.ofNat).filter fun k => !lot.contains k) ++ [(i : Int)] := by
  have h' : lot.contains (Int.ofNat i) = false := h
  rw [List.range_succ, List.map_append, List.filter_append, List.map_cons, List.filter_cons, h']
  simp
section
variable {P : Program} {w : World} {K : PySem.W.Frag} {mg : Str → Option Value} {base : Heap} {f : Addr} {fd : FuncData}
def spOther (w : World) (C : Addr) : Sp := fun vs H Q _ => ∃ S sizes ps av kvs c lot, vs = [.ref S.a, .ref c] ∧ StAt w H S sizes ps av kvs ∧ S.C = C ∧ sizes.length ≤ 4 ∧ H c = some (.tup (iV lot)) ∧ LotOk sizes.length lot ∧ lot.length ≤ 50 ∧ ∀ H' p, Fr [] H H' → H' p = some (.tup (iV (restOf sizes.length lot))) → Q (.ref p) H'
theorem cal_other_keys {C CI : Addr} (B : Bt mg) (sc0 : SC K C) (cC : Cal P w K mg base 4 "checked_lot" (spChk w C CI)) (F : FnP K "other_keys" s_other_keys f fd) (hm : mg "other_keys" = some (.ref f)) : Cal P w K mg base 5 "other_keys" (spOther w C) := by
  refine cal0 F hm sc_other_keys (fun _ _ _ _ _ _ us hl => match us, hl with | [_, _], _ => rfl) (fun vs H Q E h => ?_) (fun cdv A outer s H vs Q E hr h => ?_)
  · obtain ⟨S, sizes, ps, av, kvs, c, lot, rfl, _⟩ := h
    rfl
  · obtain ⟨S, sizes, ps, av, kvs, c, lot, rfl, sa, hC, h4, hc, hlot, h50, q⟩ := h
    have sc : SC K S.C := hC ▸ sc0
    have nd := sc_other_keys.nd
    have nn : ∀ {x : Addr}, x ∉ ([] : List Addr) := fun z => nomatch z
    refine ⟨_, pss_cons (ps_set (i := 2) nd rfl (Or.inr rfl) (pc cC hr (pa_cons (pv 0) (pa_cons (pv 1) pa_nil))))
      (pss_one (ps_ret (b_tupOf B (pe_lc (own := [("key", 3)]) (g := gName 3) rfl nd (pi_range1 rfl B.range (pa_cons (pe_fld (pv 0) rfl) pa_nil)) (blkOk_by (N := N_other_keys) (sc := defScope s_other_keys) (by decide +kernel))
        (fun _ _ _ _ _ => pg_name (i := 3) nd rfl (Or.inl rfl)) (fun _ _ _ _ _ => pts_one (pt_cmpR (ninS K) (pv 3) (pv 2) rfl)) (fun _ _ _ _ _ => pv 3))))), ?_⟩
    refine ⟨_, rfl, _, rfl, S, sizes, ps, av, kvs, .ref c, rfl, sa, hC, .inr ⟨false, c, lot, rfl, SqB.t hc, h50, hlot.inLot, fun H1 p zs fr hp hpm hs => ?_⟩⟩
    have ec : ∀ k, zs.contains k = lot.contains k := fun k => by
      rw [Bool.eq_iff_iff, List.contains_iff_mem, List.contains_iff_mem]
      exact hpm.mem_iff
    refine ⟨_, rfl, S.a, S.C, S.dx, _, _, rfl, fr.keep _ _ nn sa.ins, sc.cl, sc.nKey, rfl, sizes.length, rfl, by omega, by omega, fun D hD => lcG walk_range [] (fun i acc _ => acc = iV (((List.range i).map Int.ofNat).filter fun k => !lot.contains k)) hD (Nat.lt_of_le_of_lt (show ((sizes.length : Nat) : Int).toNat ≤ 4 by omega) (by decide)) rfl (fun _ _ _ _ _ _ t => t)
      (fun _ _ _ _ _ _ => True.intro) ?_ ?_⟩
    · rintro i x _ H2 acc hi hD2 fr2 rfl ⟨rfl, rfl⟩ yes no
      have hii : (0 : Int) + (i : Nat) = (i : Int) := by omega
      refine ⟨rfl, ?_⟩
      refine ⟨_, rfl, _, rfl, p, _, rfl, .inr (SqT.of (fr2.tup _ _ hp)), rfl, flat_ints zs, _, rfl, ?_⟩
      rw [if_pos rfl, inV_int, ec, hii]
      by_cases hin : lot.contains (i : Int) = true
      · rw [hin]
        exact no _ hD2 fr2 (by rw [rest_snoc_no hin])
      · have hin : lot.contains (i : Int) = false := by simpa using hin
        rw [hin]
        refine ⟨_, rfl, yes _ _ hD2 fr2 ?_⟩
        rw [rest_snoc_yes hin]
        show _ ++ [V.int (0 + (i : Nat))] = _
        rw [hii]
        simp [iV]
    · rintro acc H2 hD2 hl fr2 rfl
      rw [show ((sizes.length : Nat) : Int).toNat = sizes.length by omega] at hD2
      exact .inl ⟨D, _, rfl, SqL.of hD2, fun t ht => q _ t ((fr.trans fr2).trans (.new ht)) upd_same⟩
def spLots (w : World) (C : Addr) : Sp := fun vs H Q _ => ∃ S sizes ps av kvs, vs = [.ref S.a] ∧ StAt w H S sizes ps av kvs ∧ S.C = C ∧ sizes.length ≤ 4 ∧ LotsQ sizes.length H Q
theorem cal_all_lots {C : Addr} (B : Bt mg) (sc0 : SC K C) (F : FnP K "all_lots" s_all_lots f fd) (hm : mg "all_lots" = some (.ref f)) : Cal P w K mg base 1 "all_lots" (spLots w C) := by
  refine cal0 F hm sc_all_lots (fun _ _ _ _ _ _ us hl => match us, hl with | [_], _ => rfl) (fun vs H Q E h => ?_) (fun cdv A outer s H vs Q E hr h => ?_)
  · obtain ⟨S, sizes, ps, av, kvs, rfl, _⟩ := h
    rfl
  · obtain ⟨S, sizes, ps, av, kvs, rfl, sa, hC, hn, q⟩ := h
    have sc : SC K S.C := hC ▸ sc0
    have nd := sc_all_lots.nd
    have nn : ∀ {x : Addr}, x ∉ ([] : List Addr) := fun z => nomatch z
    refine ⟨_, pss_cons (ps_set (i := 1) nd rfl (Or.inl rfl) (pe_lst (pa_cons (pe_tup pa_nil) pa_nil)))
      (pss_cons (ps_for PassesOwn.never rfl (pi_range1 rfl B.range (pa_cons (pe_fld (pv 0) rfl) pa_nil)) (pg_name (i := 2) nd rfl (Or.inr rfl))
        (pss_one (ps_set (i := 1) nd rfl (Or.inl rfl) (pe_op op_cat (pv 1) (pe_lc (own := [("lot", 3)]) (g := gName 3) rfl nd (pi_list (pv 1)) (blkOk_by (N := N_all_lots) (sc := defScope s_all_lots) (by decide +kernel))
          (fun _ _ _ _ _ => pg_name (i := 3) nd rfl (Or.inl rfl)) (fun _ _ _ _ _ => pts_nil) (fun _ _ _ _ _ => pe_tup (k_star K (pv 3) (pa_cons (pv 2) pa_nil))))))))
      (pss_one (ps_ret (b_sortD B hr (pv 1))))), ?_⟩
    refine ⟨Nat.zero_le _, fun t ht => ⟨by show 1 ≤ sizeLine; decide, fun a ha => ?_⟩⟩
    have fr0 : Fr [] H (upd (upd H t (.tup [])) a (.lst [.ref t])) := .trans (.new ht) (.new ha)
    refine ⟨_, rfl, S.a, S.C, S.dx, _, _, rfl, fr0.keep _ _ nn sa.ins, sc.cl, sc.nKey, rfl, sizes.length, rfl, by omega, by omega, for_range (n := sizes.length) (fun j σ H' => ∃ a ps x y, σ = [some (.ref S.a), some (.ref a), x, y] ∧ H' a = some (.lst (rV ps)) ∧ RwL H' ps ∧ rR ps = genL j ∧ Fr [] H H') ⟨a, [(t, [])], _, _, rfl, upd_same, fun p hp => ?_, rfl, fr0⟩ ?_ ?_⟩
    · obtain rfl : p = (t, []) := by simpa using hp
      show upd (upd H t (.tup [])) a (.lst [.ref t]) t = _
      rw [upd_ne (ne_of_none upd_same ha), upd_same]
      rfl
    · rintro j σ H1 hj ⟨a1, ps, x, y, rfl, hL, hR, hg, fr⟩
      have hlen : ps.length = 2 ^ j := by rw [← genL_len j, ← hg, rR_len]
      have h16 : 2 ^ j ≤ 2 ^ 4 := Nat.pow_le_pow_right (by decide) (by omega)
      refine ⟨_, rfl, .ref a1, rfl, a1, rfl, ⟨_, SqL.of hL⟩, fun D hD => lcG walk_list [] (fun i acc H2 => ∃ qs, acc = rV qs ∧ RwL H2 qs ∧ rR qs = ((rR ps).take i).map fun r => r ++ [(j : Int)]) hD (by rw [rV_len, hlen]; exact Nat.lt_of_le_of_lt h16 (by decide)) ⟨[], rfl, .nil, rfl⟩
        (fun _ _ _ _ f _ ⟨qs, e1, e2, e3⟩ => ⟨qs, e1, e2.fr f, e3⟩) (fun i acc H2 _ f2 _ => SqL.of (f2.keep _ _ nn hL)) ?_ ?_⟩
      · rintro i x1 _ H2 acc hi hD2 fr2 ⟨qs, rfl, hq, eq⟩ ⟨rfl, hx⟩ yes no
        obtain ⟨p, hp, rfl⟩ := rV_get hx
        have hp2 := fr2.tup _ _ (hR p (List.mem_of_getElem? hp))
        have hj2 : (0 + (j : Int)) = (j : Int) := by omega
        have hlr := (genL_row j p.2 (by rw [← hg]; exact List.mem_map_of_mem (List.mem_of_getElem? hp))).2
        have es : iV p.2 ++ [V.int (0 + (j : Nat))] = iV (p.2 ++ [(j : Int)]) := by rw [hj2]; simp [iV]
        refine ⟨rfl, ?_⟩
        refine ⟨_, rfl, p.1, iV p.2, rfl, .inl (SqT.of hp2), _, rfl, Nat.le_trans (Nat.le_of_eq (congrArg List.length es)) (by rw [iV_len, sizeLine_eq]; simp; omega), fun c hc => ?_⟩
        refine yes _ _ (by rw [upd_ne (ne_of_none hD2 hc)]; exact hD2) (fr2.trans (.new hc)) ⟨qs ++ [(c, p.2 ++ [(j : Int)])], by rw [rV_snoc], (hq.new hc).snoc (by rw [upd_same]; exact congrArg (fun z => some (HO.tup z)) es), ?_⟩
        rw [rR_snoc, eq, tm_snoc (l := rR ps) (g := fun r => r ++ [(j : Int)]) (x := p.2) (by rw [rR, List.getElem?_map, hp]; rfl)]
      · rintro acc H2 hD2 hl fr2 ⟨qs, rfl, hq, eq⟩
        rw [rV_len, ← rR_len, List.take_length] at eq
        have hL2 := fr2.keep _ _ nn hL
        refine ⟨a1, D, _, _, rfl, rfl, hL2, hD2, ?_, fun p hp => ?_⟩
        · rw [rV_len, rV_len, ← rR_len (ps := qs), eq, List.length_map, rR_len, hlen]
          exact Nat.le_trans (Nat.add_le_add h16 h16) (by decide)
        · refine ⟨p, ps ++ qs, _, _, rfl, ?_, ?_, ?_, (fr.trans fr2).trans (.new hp)⟩
          · rw [upd_same]
            simp [rV]
          · exact ((hR.fr fr2).app hq).new hp
          · rw [rR_app, eq, hg]
            rfl
    · rintro σ H1 ⟨a1, ps, x, y, rfl, hL, hR, hg, fr⟩
      refine ⟨_, rfl, rSort_rows (k := true) hL hR (.inr (by rw [hg]; exact genL_head _)) fun p ps' hp hpm hs => ?_⟩
      exact q _ p ps' (fr.trans (.new hp)) (fresh_of fr hp) upd_same ((hR.sub fun p hp => hpm.mem_iff.mp hp).new hp) (by rw [hs, hg]; rfl)
end
end K13
/-! K13C3 -/
set_option autoImplicit true
set_option Elab.async false
set_option linter.all false
set_option maxRecDepth 100000
set_option maxHeartbeats 2000000
set_option pp.maxSteps 600
namespace K13
open PySem PySem.Spec PyProof.Rows L2
theorem restOf_mem {n : Nat} {lot : List Int} {k : Int} (h : k ∈ restOf n lot) : 0 ≤ k ∧ k < n := by
  obtain ⟨h1, _⟩ := List.mem_filter.mp h
  obtain ⟨i, hi, rfl⟩ := List.mem_map.mp h1
  have := List.mem_range.mp hi
  exact ⟨Int.natCast_nonneg _, by show (i : Int) < n; omega⟩
theorem restOf_len {n : Nat} {lot : List Int} : (restOf n lot).length ≤ n := by
  refine Nat.le_trans (List.length_filter_le _ _) ?_
  simp
section
variable {P : Program} {w : World} {K : PySem.W.Frag} {mg : Str → Option Value} {base : Heap} {f : Addr} {fd : FuncData}
def spWhole (w : World) (C P0 : Addr) : Sp := fun vs H Q _ => ∃ S sizes ps av kvs c lot, vs = [.ref S.a, .ref c] ∧ StAt w H S sizes ps av kvs ∧ Shape sizes (rR ps) ∧ S.C = C ∧ S.P = P0 ∧ H c = some (.tup (iV lot)) ∧ lot ∈ genL sizes.length ∧
  ∀ H' kvs', StAt w H' S sizes ps av kvs' → Grow homesA kvs kvs' → FrT [S.fd] H H' → Q (.bl (isWhole sizes.length (rR ps) lot)) H'
theorem cal_whole {C P0 : Addr} (B : Bt mg) (sc0 : SC K C) (cH : Cal P w K mg base 9 "homes" (spHomes w C P0)) (cO : Cal P w K mg base 5 "other_keys" (spOther w C)) (cS : Cal P w K mg base 1 "seen_on" spSeenOn) (F : FnP K "whole" s_whole f fd) (hm : mg "whole" = some (.ref f)) :
    Cal P w K mg base 10 "whole" (spWhole w C P0) := by
  refine cal0 F hm sc_whole (fun _ _ _ _ _ _ us hl => match us, hl with | [_, _], _ => rfl) (fun vs H Q E h => ?_) (fun cdv A outer s H vs Q E hr h => ?_)
  · obtain ⟨S, sizes, ps, av, kvs, c, lot, rfl, _⟩ := h
    rfl
  · obtain ⟨S, sizes, ps, av, kvs, c, lot, rfl, sa, sh, hC, hP, hc, hlot, q⟩ := h
    have sc : SC K S.C := hC ▸ sc0
    have nd := sc_whole.nd
    have hu := hu_of hr
    have nn : ∀ {x : Addr}, x ∉ ([] : List Addr) := fun z => nomatch z
    refine ⟨_, pss_cons (ps_par3 (i := 2) (j := 3) (l := 4) rfl nd rfl rfl rfl (by decide) (by decide) (by decide) rfl rfl rfl (pa_cons (pc cH hr (pa_cons (pv 0) (pa_cons (pv 1) pa_nil))) (pa_cons (pc cO hr (pa_cons (pv 0) (pa_cons (pv 1) pa_nil))) (pa_cons pe_dnewT pa_nil))) rfl)
      (pss_cons (ps_for PassesOwn.never rfl (pi_tup (pe_fld (pv 0) rfl)) (pg_name (i := 5) nd rfl (Or.inl rfl))
        (pss_one (ps_if (pt_cmpR op_ne (pe_dsetdT hr (pv 4) (pc cS hr (pa_cons (pv 5) (pa_cons (pv 3) pa_nil))) (pe_dget hu (pv 2) (pv 5) (fun _ _ => rfl)) ⟨rfl, rfl, rfl, rfl⟩) (pe_dget hu (pv 2) (pv 5) (fun _ _ => rfl)) (nomark _)) (pss_one (ps_ret pe_bl)) pss_nil)))
      (pss_one (ps_ret pe_bl))), ?_⟩
    obtain ⟨hlo, hll⟩ := genL_row _ _ hlot
    have h4 := sh.few
    have h24 : ps.length ≤ 24 := by rw [← rR_len]; exact sh.many
    refine ⟨_, rfl, _, rfl, S, sizes, ps, av, kvs, c, lot, rfl, sa, sh, hC, hP, hc, hlot, fun H1 kvs1 b sa1 gr1 hh fr1 => ?_⟩
    obtain ⟨hkv, hb, hval⟩ := homes_val hh
    refine ⟨_, rfl, _, rfl, S, sizes, ps, av, kvs1, c, lot, rfl, sa1, hC, h4, fr1.tup _ _ hc, hlo, by omega, fun H2 rst fr2 hrst => fun d hd => ?_⟩
    refine ⟨_, _, _, rfl, ?_⟩
    have f3 : Fr [] H1 (upd H2 d (.dT [])) := fr2.trans (.new hd)
    have hd1 : H1 d = none := fresh_of fr2 hd
    have hrst1 : ∀ {H' : Hp}, Fr [] H2 H' → H' rst = some (.tup (iV (restOf sizes.length lot))) := fun f => f.tup _ _ hrst
    refine ⟨_, rfl, S.a, S.C, S.dx, _, _, rfl, f3.keep _ _ nn sa1.ins, sc.cl, sc.nSta, rfl, S.ts, rfl, ⟨_, SqT.of (f3.tup _ _ sa1.hs)⟩, for_tup (xs := rV ps) (fun i σ H' => ∃ dv x5, σ = [some (.ref S.a), some (.ref c), some (.ref b), some (.ref rst), some (.ref d), x5] ∧ H' d = some (.dT dv) ∧
        SeenI (seenOn (restOf sizes.length lot)) (fun r => (home (cn (rR ps) lot) (rR ps) r : Nat)) ((rR ps).take i) dv ∧ Fr [] H1 H' ∧ Fr [] H2 H')
      ⟨[], _, rfl, upd_same, .nil, f3, .new hd⟩ ?_ ?_ ?_⟩
    · rintro i σ H' _ ⟨dv, x5, rfl, _, _, fr, _⟩
      exact SqT.of (fr.tup _ _ sa1.hs)
    · rintro i x σ H3 hx ⟨dv, x5, rfl, hD, hI, fr, frb⟩
      obtain ⟨p, hp, rfl⟩ := rV_get hx
      have hrow : (rR ps)[i]? = some p.2 := by rw [rR, List.getElem?_map, hp]; rfl
      have hmem : p.2 ∈ rR ps := List.mem_of_getElem? hrow
      have hpl := (sh.box _ hmem).1
      have hp1 := fr.tup _ _ (sa1.rw p (List.mem_of_getElem? hp))
      refine ⟨_, rfl, d, rfl, .inr ⟨_, .inl hD⟩, _, rfl, _, rfl, p.1, rst, p.2, restOf sizes.length lot, rfl, hp1, hrst1 frb, fun k hk => by rw [hpl]; exact restOf_mem hk, Nat.le_trans restOf_len (by omega), fun H4 vw fr4 hvw => ?_⟩
      have hd2 : H2 d = none := hd
      have hD4 := fr4.keep _ _ nn hD
      have hw : H4 vw = some (.tup ((rowK (seenOn (restOf sizes.length lot) p.2)).map kV)) := by rw [rowK_kV]; exact hvw
      have et : (rR ps).take (i + 1) = (rR ps).take i ++ [p.2] := take_snoc hrow
      have hlen := hI.len
      have h2 := take_len_le2 (rR ps) i
      rw [rR_len] at h2
      have fr14 := fr.trans fr4
      have frb4 := frb.trans fr4
      have hb4 := fr14.keep _ _ nn hb
      have hk4 : H4 p.1 = some (.tup ((rowK p.2).map kV)) := by rw [rowK_kV]; exact fr4.tup _ _ hp1
      refine ⟨_, rfl, _, rfl, b, .int (home (cn (rR ps) lot) (rR ps) p.2 : Nat), rfl, .inr ⟨hkv, _, p.1, .inl hb4, rfl, hk4, (hval _ hmem).symm⟩, ?_⟩
      refine ⟨dv, _, vw, hD4, rfl, hw, by rw [sizeLine_eq]; omega, fun v hv => ?_, fun hv => ?_⟩
      · refine ⟨_, rfl, _, rfl, b, .int (home (cn (rR ps) lot) (rR ps) p.2 : Nat), rfl, .inr ⟨hkv, _, p.1, .inl hb4, rfl, hk4, (hval _ hmem).symm⟩, ?_⟩
        obtain ⟨r, hr1, hr2, rfl⟩ := hI.bad hv
        refine ⟨rfl, _, rfl, ?_⟩
        by_cases hg : ((home (cn (rR ps) lot) (rR ps) r : Nat) : Int) = (home (cn (rR ps) lot) (rR ps) p.2 : Nat)
        · rw [hg, decide_eq_true rfl]
          exact ⟨_, _, rfl, hD4, by rw [et]; exact hI.same (by rw [hv]; exact congrArg (fun z => some (V.int z)) hg), fr14, frb4⟩
        · rw [decide_eq_false (fun z => hg (V.int.inj z))]
          have hno : ¬ IsWhole sizes.length (rR ps) lot := fun t => hg (whole_tell.mp t r (List.mem_of_mem_take hr1) p.2 hmem hr2)
          have := q H4 kvs1 (sa1.same fr14) gr1 (fr1.trans (fr14.wider fun _ z => nomatch z).t)
          rw [isWhole_no hno] at this
          exact this
      · have hI2 := hI.put (s := p.2) hv
        have ndb : b ≠ d := fun e => by rw [e, hd1] at hb; cases hb
        refine ⟨_, rfl, _, rfl, b, .int (home (cn (rR ps) lot) (rR ps) p.2 : Nat), rfl, .inr ⟨hkv, _, p.1, .inl (by rw [upd_ne ndb]; exact hb4), rfl, by rw [upd_ne (ne_of hk4 hD4 (fun z => nomatch z))]; exact hk4, (hval _ hmem).symm⟩, ?_⟩
        refine ⟨rfl, _, rfl, ?_⟩
        rw [decide_eq_true rfl]
        exact ⟨_, _, rfl, upd_same, by rw [et]; exact hI2, fr14.own hd1, frb4.own hd2⟩
    · rintro σ H3 ⟨dv, x5, rfl, hD, hI, fr, frb⟩
      rw [rV_len, ← rR_len, List.take_length] at hI
      have := q H3 kvs1 (sa1.same fr) gr1 (fr1.trans (fr.wider fun _ z => nomatch z).t)
      rw [isWhole_yes (whole_tell.mpr hI.fin)] at this
      exact this
/-- is_whole, of whatever reads as the lot, or what is refused -/
def spIsWhole (w : World) (C CI P0 : Addr) : Sp := fun vs H Q E => ∃ S sizes ps av kvs x, vs = [.ref S.a, x] ∧ StAt w H S sizes ps av kvs ∧ Shape sizes (rR ps) ∧ S.C = C ∧ S.P = P0 ∧
  ((∃ at_, BadLot H sizes.length x at_ ∧ ∀ H' d, Fr [] H H' → H d = none → H' d = some (.xd [("at", .int at_)]) → E (.ref CI) (some d) H') ∨
   (∃ k v ys lot, x = .ref v ∧ SqB k H v (iV ys) ∧ ys.length ≤ 50 ∧ ys.Perm lot ∧ lot ∈ genL sizes.length ∧ ∀ H' kvs', StAt w H' S sizes ps av kvs' → Grow homesA kvs kvs' → FrT [S.fd] H H' → Q (.bl (isWhole sizes.length (rR ps) lot)) H'))
theorem sorted_lot {n : Nat} {ys zs lot : List Int} (hl : LotOk n lot) (h1 : ys.Perm lot) (h2 : zs.Perm ys) (h3 : zs.Pairwise (· ≤ ·)) : zs = lot := by
  refine List.Perm.eq_of_pairwise (le := fun a b : Int => a ≤ b) (fun a b _ _ h g => by omega) h3 (List.Pairwise.imp (fun {a b} h => Int.le_of_lt h) hl.1) (h2.trans h1)
theorem InLot.perm {n : Nat} {ys lot : List Int} (h : ys.Perm lot) (g : InLot n lot) : InLot n ys := ⟨h.nodup_iff.mpr g.1, fun k hk => g.2 k (h.mem_iff.mp hk)⟩
theorem cal_is_whole {C CI P0 : Addr} (cC : Cal P w K mg base 4 "checked_lot" (spChk w C CI)) (cW : Cal P w K mg base 10 "whole" (spWhole w C P0)) (F : FnP K "is_whole" s_is_whole f fd) (hm : mg "is_whole" = some (.ref f)) : Cal P w K mg base 11 "is_whole" (spIsWhole w C CI P0) := by
  refine calE F hm sc_is_whole (fun _ _ _ _ _ _ us hl => match us, hl with | [_, _], _ => rfl) (fun vs H Q E h => ?_) (fun cdv A outer s H vs Q E hr h => ?_)
  · obtain ⟨S, sizes, ps, av, kvs, x, rfl, _⟩ := h
    rfl
  · obtain ⟨S, sizes, ps, av, kvs, x, rfl, sa, sh, hC, hP, hx⟩ := h
    refine ⟨_, pss_one (ps_ret (pc cW hr (pa_cons (pv 0) (pa_cons (pcE (E := E) cC hr (by decide) (passes_call (takes_of rfl rfl rfl rfl) fun _ _ _ _ h => h) rfl (pa_cons (pv 0) (pa_cons (pv 1) pa_nil))) pa_nil)))), ?_⟩
    rcases hx with ⟨at_, hb, hE⟩ | ⟨k, v, ys, lot, rfl, hv, h50, hpm, hlot, q⟩
    · exact ⟨_, rfl, _, rfl, _, rfl, S, sizes, ps, av, kvs, x, rfl, sa, hC, .inl ⟨at_, hb, hE⟩⟩
    · obtain ⟨hlo, hll⟩ := genL_row _ _ hlot
      refine ⟨_, rfl, _, rfl, _, rfl, S, sizes, ps, av, kvs, .ref v, rfl, sa, hC, .inr ⟨k, v, ys, rfl, hv, h50, hlo.inLot.perm hpm, fun H1 p zs fr hp hpm2 hs => ?_⟩⟩
      obtain rfl := sorted_lot hlo hpm hpm2 hs
      exact ⟨S, sizes, ps, av, kvs, p, zs, rfl, sa.same fr, sh, hC, hP, hp, hlot, fun H2 kvs2 sa2 gr fr2 => q H2 kvs2 sa2 gr ((fr.wider fun _ z => nomatch z).t.trans fr2)⟩
end
end K13
/-! K13Isl -/
set_option autoImplicit true
set_option Elab.async false
set_option linter.all false
set_option maxRecDepth 100000
set_option maxHeartbeats 2000000
set_option pp.maxSteps 600
namespace K13
open PySem PySem.Spec PyProof.Rows L2
def hd1 (g : List Row) : Row := g.headD []
/-- the islands, in the order of their numbers -/
noncomputable def dueOf (st : List Row) (lot : List Int) : List (List Row) := (List.range (reps (cn st lot) st).length).map fun c => st.filter fun r => decide (home (cn st lot) st r = c)
section
variable {C : Row → Row → Bool} {st : List Row}
theorem asc_sub {l : List Row} (h : l.Sublist st) (ha : st.Pairwise fun a b => a < b) : l.Pairwise fun a b => a < b := ha.sublist h
/-- the first of its island -/
theorem rep_least (E : Eqv C) (ha : st.Pairwise fun a b => a < b) {s r : Row} (hs : s ∈ st) (hr : (reps C st)[home C st s]? = some r) : r = s ∨ r < s := by
  obtain ⟨l, m, rfl⟩ := List.append_of_mem hs
  by_cases h : ∃ q ∈ reps C l, C q s = true
  · obtain ⟨q, hq, hc⟩ := h
    have hp : reps C l <+: reps C (l ++ s :: m) := reps_prefix l (s :: m)
    obtain ⟨t, ht⟩ := hp
    obtain ⟨i, hi, e⟩ := List.getElem_of_mem hq
    have hi2 : (reps C (l ++ s :: m))[i]? = some q := by
      rw [← ht, List.getElem?_append_left hi, List.getElem?_eq_getElem hi, e]
    have hh := home_of E hi2 hc
    rw [hh, hi2] at hr
    cases hr
    refine .inr ?_
    exact (List.pairwise_append.mp ha).2.2 r (reps_mem l hq) s (by simp)
  · have hh := home_new E (m := m) h (E.refl s)
    rw [hh] at hr
    have hp : reps C (l ++ [s]) <+: reps C (l ++ s :: m) := by
      have := reps_prefix (C := C) (l ++ [s]) m
      simpa using this
    obtain ⟨t, ht⟩ := hp
    rw [← ht, reps_snoc, repStep_no h] at hr
    simp at hr
    exact .inl hr.symm
theorem due_get {lot : List Int} {c : Nat} (hc : c < (reps (cn st lot) st).length) : (dueOf st lot)[c]? = some (st.filter fun r => decide (home (cn st lot) st r = c)) := by
  simp [dueOf, hc]
theorem due_head {lot : List Int} (E : Eqv (cn st lot)) (ha : st.Pairwise fun a b => a < b) {c : Nat} {r : Row} (hr : (reps (cn st lot) st)[c]? = some r) : ∃ rest, st.filter (fun r => decide (home (cn st lot) st r = c)) = r :: rest := by
  have hrm := reps_mem st (List.mem_of_getElem? hr)
  have hrh : home (cn st lot) st r = c := reps_get_home E hr
  have hin : r ∈ st.filter (fun r => decide (home (cn st lot) st r = c)) := List.mem_filter.mpr ⟨hrm, decide_eq_true hrh⟩
  cases hf : st.filter (fun r => decide (home (cn st lot) st r = c)) with
  | nil => rw [hf] at hin; cases hin
  | cons x rest =>
    have hx : x ∈ st.filter (fun r => decide (home (cn st lot) st r = c)) := by rw [hf]; exact List.mem_cons_self
    obtain ⟨hx1, hx2⟩ := List.mem_filter.mp hx
    have hx2 := of_decide_eq_true hx2
    have hmin := rep_least E ha hx1 (by rw [hx2]; exact hr)
    have hasc : (x :: rest).Pairwise fun a b => a < b := by rw [← hf]; exact asc_sub List.filter_sublist ha
    rw [hf] at hin
    rcases List.mem_cons.mp hin with e | hin
    · exact ⟨rest, by rw [e]⟩
    · have hlt : x < r := (List.pairwise_cons.mp hasc).1 r hin
      rcases hmin with e | h2
      · exact ⟨rest, by rw [e]⟩
      · exact absurd (List.lt_trans hlt h2) (List.lt_irrefl _)
theorem due_pair {lot : List Int} (E : Eqv (cn st lot)) (ha : st.Pairwise fun a b => a < b) : (dueOf st lot).Pairwise fun a b => rowLe (hd1 a) (hd1 b) = true := by
  have hr : (reps (cn st lot) st).Pairwise fun a b => a < b := asc_sub (reps_sublist st) ha
  rw [dueOf, List.pairwise_map]
  refine List.pairwise_iff_getElem.mpr fun i j hi hj hij => ?_
  simp only [List.length_range] at hi hj
  rw [List.getElem_range, List.getElem_range]
  obtain ⟨r1, e1⟩ := due_head E ha (List.getElem?_eq_getElem hi)
  obtain ⟨r2, e2⟩ := due_head E ha (List.getElem?_eq_getElem hj)
  rw [e1, e2]
  show rowLe ((reps (cn st lot) st)[i]) ((reps (cn st lot) st)[j]) = true
  exact decide_eq_true (List.le_of_lt (List.pairwise_iff_getElem.mp hr i j hi hj hij))
theorem due_mem {lot : List Int} {g : List Row} (h : g ∈ dueOf st lot) : ∃ c, c < (reps (cn st lot) st).length ∧ g = st.filter fun r => decide (home (cn st lot) st r = c) := by
  obtain ⟨c, hc, rfl⟩ := List.mem_map.mp h
  exact ⟨c, List.mem_range.mp hc, rfl⟩
theorem due_anti {lot : List Int} (E : Eqv (cn st lot)) (ha : st.Pairwise fun a b => a < b) {g k : List Row} (hg : g ∈ dueOf st lot) (hk : k ∈ dueOf st lot) (e : hd1 g = hd1 k) : g = k := by
  obtain ⟨c, hc, rfl⟩ := due_mem hg
  obtain ⟨d, hd, rfl⟩ := due_mem hk
  obtain ⟨r1, e1⟩ := due_head E ha (List.getElem?_eq_getElem hc)
  obtain ⟨r2, e2⟩ := due_head E ha (List.getElem?_eq_getElem hd)
  rw [e1, e2] at e
  have e : (reps (cn st lot) st)[c] = (reps (cn st lot) st)[d] := e
  have h1 : home (cn st lot) st ((reps (cn st lot) st)[c]) = c := reps_get_home E (List.getElem?_eq_getElem hc)
  have h2 : home (cn st lot) st ((reps (cn st lot) st)[d]) = d := reps_get_home E (List.getElem?_eq_getElem hd)
  rw [e, h2] at h1
  rw [h1]
theorem due_ne {lot : List Int} (E : Eqv (cn st lot)) (ha : st.Pairwise fun a b => a < b) {g : List Row} (hg : g ∈ dueOf st lot) : g ≠ [] := by
  obtain ⟨c, hc, rfl⟩ := due_mem hg
  obtain ⟨r1, e1⟩ := due_head E ha (List.getElem?_eq_getElem hc)
  rw [e1]
  exact List.cons_ne_nil _ _
end
/-! ### data of rows of rows -/
def dG (g : List Row) : PyData := .tuple (g.map dI)
theorem alike_rows : ∀ xs ys : List Row, PySem.W.alikeAll (xs.map dI) (ys.map dI) = true
  | [], _ => by simp [PySem.W.alikeAll]
  | _ :: _, [] => by simp [PySem.W.alikeAll]
  | x :: xs, y :: ys => by simp [PySem.W.alikeAll, alike_row x y, alike_rows xs ys]
theorem alike_G (x y : List Row) : PySem.W.alike (dG x) (dG y) = true := by
  show PySem.W.alike (.tuple (x.map dI)) (.tuple (y.map dI)) = true
  simp only [PySem.W.alike]
  exact alike_rows x y
theorem dataLt_row (x y : Row) : PySem.W.dataLt (dI x) (dI y) = decide (x < y) := by
  show PySem.W.dataLt (.tuple (x.map .int)) (.tuple (y.map .int)) = _
  rw [PySem.W.dataLt_tuple]
  exact PySem.W.dataLt_ints x y
/-- groups of unlike heads go by their heads -/
theorem dataLt_G {x y : Row} {xs ys : List Row} (h : x ≠ y) : PySem.W.dataLt (dG (x :: xs)) (dG (y :: ys)) = decide (x < y) := by
  show PySem.W.dataLt (.tuple (dI x :: xs.map dI)) (.tuple (dI y :: ys.map dI)) = _
  rw [PySem.W.dataLt_tuple, PySem.W.dataLt_cons (alike_row x y), eqv_row, decide_eq_false h, if_neg Bool.false_ne_true, dataLt_row]
theorem dataLt_self (g : List Row) : PySem.W.dataLt (dG g) (dG g) = false := by
  induction g with
  | nil =>
    show PySem.W.dataLt (.tuple []) (.tuple []) = false
    rw [PySem.W.dataLt_tuple]
    decide
  | cons x g ih =>
    show PySem.W.dataLt (.tuple (dI x :: g.map dI)) (.tuple (dI x :: g.map dI)) = _
    rw [PySem.W.dataLt_tuple, PySem.W.dataLt_cons (alike_row x x), eqv_row, decide_eq_true rfl, if_pos rfl]
    have : PySem.W.dataLt (.tuple (g.map dI)) (.tuple (g.map dI)) = false := ih
    rw [PySem.W.dataLt_tuple] at this
    exact this
theorem depth_G (g : List Row) : (dG g).depth ≤ 3 := by
  have := depth_rows g
  simp only [dG, PyData.depth]
  omega
/-- the lists of a list of groups -/
abbrev Grp := Addr × List (Addr × Row)
def GrL (H : Hp) (gs : List Grp) : Prop := ∀ g ∈ gs, H g.1 = some (.tup (rV g.2)) ∧ RwL H g.2
def gV (gs : List Grp) : List V := gs.map fun g => V.ref g.1
def gR (gs : List Grp) : List (List Row) := gs.map fun g => rR g.2
theorem GrL.fr {ds : List Addr} {H H' : Hp} {gs : List Grp} (f : Fr ds H H') (h : GrL H gs) : GrL H' gs := fun g hg => ⟨f.tup _ _ (h g hg).1, (h g hg).2.fr f⟩
theorem GrL.frT {ds : List Addr} {H H' : Hp} {gs : List Grp} (f : FrT ds H H') (h : GrL H gs) : GrL H' gs := fun g hg => ⟨f.tup _ _ (h g hg).1, fun p hp => f.tup _ _ ((h g hg).2 p hp)⟩
theorem rSort_groups {K : PySem.W.Frag} {H : Hp} {a : Addr} {gs : List Grp} {st : List Row} {lot : List Int} {Q : VK} (E : Eqv (cn st lot)) (ha : st.Pairwise fun a b => a < b) (hq : H a = some (.lst (gV gs))) (hg : GrL H gs) (hp : (gR gs).Perm (dueOf st lot))
    (q : ∀ p gs', H p = none → gs'.Perm gs → gR gs' = dueOf st lot → Q (.ref p) (upd H p (.lst (gV gs')))) : rSortD K [.ref a] H Q := by
  have e1 : (gs.map fun g => ((V.ref g.1, dG (rR g.2)) : VD)).map (·.1) = gV gs := by simp [gV]
  have e2 : (gs.map fun g => ((V.ref g.1, dG (rR g.2)) : VD)).map (·.2) = (gR gs).map dG := by simp [gR, Function.comp_def]
  have hm : ∀ g ∈ gs, rR g.2 ∈ dueOf st lot := fun g hgm => hp.mem_iff.mp (List.mem_map_of_mem hgm)
  refine ⟨true, a, gs.map fun g => (V.ref g.1, dG (rR g.2)), rfl, by rw [e1]; exact hq, fun b hb => ?_, ?_, ?_, fun p hpn => ?_⟩
  · obtain ⟨g, hgm, rfl⟩ := List.mem_map.mp hb
    exact ⟨.tup (SqT.of (hg g hgm).1) (dp_rows (hg g hgm).2), Nat.le_trans (depth_G _) (by decide)⟩
  · rw [e2]
    exact PySem.W.AllAlike.of alike_G
  · rw [e2]
    refine .inl (.inl fun d hd => ?_)
    obtain ⟨g, hgm, rfl⟩ := List.mem_map.mp hd
    have hne := due_ne E ha (hp.mem_iff.mp hgm)
    cases g with
    | nil => exact absurd rfl hne
    | cons x xs => exact ⟨_, _, rfl⟩
  · have key : ∀ g ∈ gs, ∀ k ∈ gs, PySem.W.dataLe false (fun b : VD => b.2) (V.ref g.1, dG (rR g.2)) (V.ref k.1, dG (rR k.2)) = rowLe (hd1 (rR g.2)) (hd1 (rR k.2)) := fun g hgm k hkm => by
      rw [PySem.W.dataLe_eq]
      show (!PySem.W.dataLt (dG (rR k.2)) (dG (rR g.2))) = _
      by_cases e : hd1 (rR g.2) = hd1 (rR k.2)
      · rw [due_anti E ha (hm g hgm) (hm k hkm) e, dataLt_self]
        have : rowLe (hd1 (rR k.2)) (hd1 (rR k.2)) = true := decide_eq_true (List.le_refl _)
        rw [this]
        rfl
      · have n1 := due_ne E ha (hm g hgm)
        have n2 := due_ne E ha (hm k hkm)
        cases hx : rR g.2 with
        | nil => exact absurd hx n1
        | cons x xs =>
          cases hy : rR k.2 with
          | nil => exact absurd hy n2
          | cons y ys =>
            rw [hx, hy] at e
            have e : x ≠ y := e
            rw [dataLt_G (fun z => e z.symm)]
            show (!decide (y < x)) = decide (x ≤ y)
            by_cases h : y < x
            · have h' : ¬ x ≤ y := fun r => List.not_lt.mpr r h
              simp [h, h']
            · have h' : x ≤ y := List.not_lt.mp h
              simp [h, h']
    have e3 : ordD (gs.map fun g => ((V.ref g.1, dG (rR g.2)) : VD)) = (gs.mergeSort fun g k => rowLe (hd1 (rR g.2)) (hd1 (rR k.2))).map fun g => ((V.ref g.1, dG (rR g.2)) : VD) := by
      rw [ordD]
      symm
      exact List.map_mergeSort fun g hgm k hkm => (key g hgm k hkm).symm
    rw [e3]
    have hpm := List.mergeSort_perm gs fun g k => rowLe (hd1 (rR g.2)) (hd1 (rR k.2))
    have hs : (gs.mergeSort fun g k => rowLe (hd1 (rR g.2)) (hd1 (rR k.2))).Pairwise fun g k => rowLe (hd1 (rR g.2)) (hd1 (rR k.2)) = true := by
      refine List.pairwise_mergeSort (fun a b c h g => ?_) (fun a b => ?_) gs
      · exact decide_eq_true (List.le_trans (of_decide_eq_true h) (of_decide_eq_true g))
      · rcases List.le_total (hd1 (rR a.2)) (hd1 (rR b.2)) with h | h
        · simp [rowLe, h]
        · simp [rowLe, h]
    have er : gR (gs.mergeSort fun g k => rowLe (hd1 (rR g.2)) (hd1 (rR k.2))) = dueOf st lot := by
      refine List.Perm.eq_of_pairwise (le := fun a b => rowLe (hd1 a) (hd1 b) = true) (fun a b hA hB h g => due_anti E ha ?_ hB (row_antisymm _ _ h g)) (by rw [gR, List.pairwise_map]; exact hs) (due_pair E ha) ((hpm.map _).trans hp)
      exact ((hpm.map _).trans hp).mem_iff.mp hA
    have := q p _ hpn hpm er
    simpa [gV, Function.comp_def] using this
end K13
/-! K13C4 -/
set_option autoImplicit true
set_option Elab.async false
set_option linter.all false
set_option maxRecDepth 100000
set_option maxHeartbeats 4000000
set_option pp.maxSteps 600
namespace K13
open PySem PySem.Spec PyProof.Rows L2
theorem perm_nd {α : Type} [DecidableEq α] : ∀ {l m : List α}, l.Nodup → m.Nodup → (∀ a, a ∈ l ↔ a ∈ m) → l.Perm m
  | [], m, _, _, h => by
    cases m with
    | nil => exact .refl _
    | cons b m => exact absurd ((h b).mpr List.mem_cons_self) (by simp)
  | a :: l, m, h1, h2, h => by
    obtain ⟨ha, hl⟩ := List.nodup_cons.mp h1
    have hm : a ∈ m := (h a).mp List.mem_cons_self
    have ih := perm_nd (l := l) (m := m.erase a) hl (h2.erase a) fun b => by
      rw [List.Nodup.mem_erase_iff h2]
      constructor
      · intro hb
        exact ⟨fun e => ha (e ▸ hb), (h b).mp (List.mem_cons_of_mem _ hb)⟩
      · intro ⟨hne, hb⟩
        rcases List.mem_cons.mp ((h b).mpr hb) with e | e
        · exact absurd e hne
        · exact e
    exact (ih.cons a).trans (List.perm_cons_erase hm).symm
theorem inj_nodup {α β : Type} {f : α → β} : ∀ {l : List α} {a b : α}, (l.map f).Nodup → a ∈ l → b ∈ l → f a = f b → a = b
  | [], _, _, _, h, _, _ => nomatch h
  | x :: l, a, b, h, ha, hb, e => by
    rw [List.map_cons, List.nodup_cons] at h
    rcases List.mem_cons.mp ha with e1 | ha'
    · rcases List.mem_cons.mp hb with e2 | hb'
      · rw [e1, e2]
      · exact absurd (by rw [← e1, e]; exact List.mem_map_of_mem hb') h.1
    · rcases List.mem_cons.mp hb with e2 | hb'
      · exact absurd (by rw [← e2, ← e]; exact List.mem_map_of_mem ha') h.1
      · exact inj_nodup h.2 ha' hb' e
abbrev Fnd := Nat × Addr × List (Addr × Row)
def fKV (G : List Fnd) : List (L2.Key × V) := G.map fun g => (Sum.inl (g.1 : Int), V.ref g.2.1)
theorem fkv_get {G : List Fnd} {c : Nat} {v : V} (h : valV (fKV G) (Sum.inl (c : Int)) = some v) : ∃ g ∈ G, g.1 = c ∧ v = .ref g.2.1 := by
  induction G with
  | nil => cases h
  | cons g G ih =>
    by_cases e : g.1 = c
    · rw [show fKV (g :: G) = (Sum.inl (g.1 : Int), V.ref g.2.1) :: fKV G from rfl, valV_pos (by rw [e])] at h
      exact ⟨g, List.mem_cons_self, e, (Option.some.inj h).symm⟩
    · have h1 : ¬ (Sum.inl (g.1 : Int) : L2.Key) = Sum.inl (c : Int) := fun z => e (Int.ofNat.inj (Sum.inl.inj z))
      rw [show fKV (g :: G) = (Sum.inl (g.1 : Int), V.ref g.2.1) :: fKV G from rfl, valV_neg h1] at h
      obtain ⟨k, hk, r⟩ := ih h
      exact ⟨k, List.mem_cons_of_mem _ hk, r⟩
theorem fkv_none {G : List Fnd} {c : Nat} (h : valV (fKV G) (Sum.inl (c : Int)) = none) : c ∉ G.map (·.1) := by
  induction G with
  | nil => exact fun z => nomatch z
  | cons g G ih =>
    by_cases e : g.1 = c
    · rw [show fKV (g :: G) = (Sum.inl (g.1 : Int), V.ref g.2.1) :: fKV G from rfl, valV_pos (by rw [e])] at h
      cases h
    · have h1 : ¬ (Sum.inl (g.1 : Int) : L2.Key) = Sum.inl (c : Int) := fun z => e (Int.ofNat.inj (Sum.inl.inj z))
      rw [show fKV (g :: G) = (Sum.inl (g.1 : Int), V.ref g.2.1) :: fKV G from rfl, valV_neg h1] at h
      intro z
      rcases List.mem_cons.mp z with z | z
      · exact e z.symm
      · exact ih h z
/-- the groups of the first i pairs -/
structure FndI (H0 H : Hp) (D : List (Row × Nat)) (i : Nat) (G : List Fnd) : Prop where
  nk : (G.map (·.1)).Nodup
  na : (G.map (·.2.1)).Nodup
  at_ : ∀ g ∈ G, H g.2.1 = some (.lst (rV g.2.2)) ∧ RwL H g.2.2 ∧ rR g.2.2 = ((D.take i).filter fun p => decide (p.2 = g.1)).map (·.1) ∧ H0 g.2.1 = none
  all : ∀ p ∈ D.take i, p.2 ∈ G.map (·.1)
  wit : ∀ g ∈ G, ∃ p ∈ D.take i, p.2 = g.1
theorem FndI.fr {H0 H H' : Hp} {D : List (Row × Nat)} {i : Nat} {G : List Fnd} (h : FndI H0 H D i G) {ds : List Addr} (f : Fr ds H H') (hd : ∀ g ∈ G, g.2.1 ∉ ds) : FndI H0 H' D i G :=
  ⟨h.nk, h.na, fun g hg => ⟨f.keep _ _ (hd g hg) (h.at_ g hg).1, (h.at_ g hg).2.1.fr f, (h.at_ g hg).2.2⟩, h.all, h.wit⟩
def addTo (c : Nat) (q : Addr × Row) (g : Fnd) : Fnd := if g.1 = c then (g.1, g.2.1, g.2.2 ++ [q]) else g
theorem addTo_k {c : Nat} {q : Addr × Row} {g : Fnd} : (addTo c q g).1 = g.1 := by
  unfold addTo
  split <;> rfl
theorem addTo_a {c : Nat} {q : Addr × Row} {g : Fnd} : (addTo c q g).2.1 = g.2.1 := by
  unfold addTo
  split <;> rfl
theorem FndI.add {H0 H : Hp} {D : List (Row × Nat)} {i : Nat} {G : List Fnd} {g0 : Fnd} {q : Addr} {r : Row} {c : Nat} (h : FndI H0 H D i G) (hg : g0 ∈ G) (hc : g0.1 = c) (hD : D[i]? = some (r, c)) (hq : H q = some (.tup (iV r))) :
    FndI H0 (upd H g0.2.1 (.lst (rV g0.2.2 ++ [.ref q]))) D (i + 1) (G.map (addTo c (q, r))) ∧ fKV (G.map (addTo c (q, r))) = fKV G := by
  have et : D.take (i + 1) = D.take i ++ [(r, c)] := take_snoc hD
  have f : Fr [g0.2.1] H (upd H g0.2.1 (.lst (rV g0.2.2 ++ [.ref q]))) := .set (by simp) (h.at_ g0 hg).1 (fun _ z => nomatch z)
  have nkey : ∀ g ∈ G, g.1 = c → g = g0 := fun g hgm e => inj_nodup h.nk hgm hg (e.trans hc.symm)
  have naddr : ∀ g ∈ G, g.1 ≠ c → g.2.1 ≠ g0.2.1 := fun g hgm e z => e (by rw [inj_nodup (f := fun g : Fnd => g.2.1) h.na hgm hg z, hc])
  refine ⟨⟨by rw [List.map_map]; simpa [Function.comp_def, addTo_k] using h.nk, by rw [List.map_map]; simpa [Function.comp_def, addTo_a] using h.na, fun g' hg' => ?_, fun p hp => ?_, fun g' hg' => ?_⟩, ?_⟩
  · obtain ⟨g, hgm, rfl⟩ := List.mem_map.mp hg'
    obtain ⟨a1, a2, a3, a4⟩ := h.at_ g hgm
    rw [addTo_a, addTo_k, et, List.filter_append]
    by_cases e : g.1 = c
    · obtain rfl := nkey g hgm e
      have e2 : addTo c (q, r) g = (g.1, g.2.1, g.2.2 ++ [(q, r)]) := by unfold addTo; rw [if_pos e]
      rw [e2]
      refine ⟨by rw [upd_same, rV_snoc], (a2.fr f).snoc (f.tup _ _ hq), ?_, a4⟩
      rw [rR_snoc, a3]
      simp [e]
    · have e2 : addTo c (q, r) g = g := by unfold addTo; rw [if_neg e]
      rw [e2]
      refine ⟨f.keep _ _ (by simpa using naddr g hgm e) a1, a2.fr f, ?_, a4⟩
      rw [a3]
      have : ¬ c = g.1 := fun z => e z.symm
      simp [this]
  · rw [et] at hp
    have hk : (G.map (addTo c (q, r))).map (·.1) = G.map (·.1) := by rw [List.map_map]; simp [Function.comp_def, addTo_k]
    rw [hk]
    rcases List.mem_append.mp hp with hp | hp
    · exact h.all p hp
    · obtain rfl : p = (r, c) := by simpa using hp
      exact List.mem_map.mpr ⟨g0, hg, hc⟩
  · obtain ⟨g, hgm, rfl⟩ := List.mem_map.mp hg'
    obtain ⟨p, hp, e⟩ := h.wit g hgm
    exact ⟨p, by rw [et]; exact List.mem_append_left _ hp, by rw [addTo_k]; exact e⟩
  · unfold fKV
    rw [List.map_map]
    simp [Function.comp_def, addTo_k, addTo_a]
theorem FndI.new {H0 H H2 : Hp} {D : List (Row × Nat)} {i : Nat} {G : List Fnd} {z q : Addr} {r : Row} {c : Nat} (h : FndI H0 H D i G) (hz0 : H0 z = none) (hn : c ∉ G.map (·.1)) (hz : ∀ g ∈ G, g.2.1 ≠ z) (hD : D[i]? = some (r, c)) (f : Fr [] H H2 ∨ ∃ ds, Fr ds H H2 ∧ ∀ g ∈ G, g.2.1 ∉ ds)
    (hzl : H2 z = some (.lst (rV [(q, r)]))) (hq : H2 q = some (.tup (iV r))) : FndI H0 H2 D (i + 1) (G ++ [(c, z, [(q, r)])]) := by
  have et : D.take (i + 1) = D.take i ++ [(r, c)] := take_snoc hD
  obtain ⟨ds, f, hds⟩ : ∃ ds, Fr ds H H2 ∧ ∀ g ∈ G, g.2.1 ∉ ds := f.elim (fun f => ⟨[], f, fun _ _ z => nomatch z⟩) id
  have nomem : (D.take i).filter (fun p => decide (p.2 = c)) = [] := by
    rw [List.filter_eq_nil_iff]
    intro p hp e
    exact hn (by rw [← of_decide_eq_true e]; exact h.all p hp)
  refine ⟨by rw [List.map_append]; exact nd_snoc h.nk hn, by rw [List.map_append]; exact nd_snoc h.na (fun m => by obtain ⟨g, hg, e⟩ := List.mem_map.mp m; exact hz g hg e), fun g hg => ?_, fun p hp => ?_, fun g hg => ?_⟩
  · rw [et, List.filter_append]
    rcases List.mem_append.mp hg with hg | hg
    · obtain ⟨a1, a2, a3, a4⟩ := h.at_ g hg
      refine ⟨f.keep _ _ (hds g hg) a1, a2.fr f, ?_, a4⟩
      rw [a3]
      have : ¬ c = g.1 := fun e => hn (by rw [e]; exact List.mem_map_of_mem hg)
      simp [this]
    · obtain rfl : g = (c, z, [(q, r)]) := by simpa using hg
      refine ⟨hzl, fun p hp => ?_, ?_, hz0⟩
      · obtain rfl : p = (q, r) := by simpa using hp
        exact hq
      · rw [nomem]
        simp [rR]
  · rw [et] at hp
    rw [List.map_append]
    rcases List.mem_append.mp hp with hp | hp
    · exact List.mem_append_left _ (h.all p hp)
    · obtain rfl : p = (r, c) := by simpa using hp
      simp
  · rw [et]
    rcases List.mem_append.mp hg with hg | hg
    · obtain ⟨p, hp, e⟩ := h.wit g hg
      exact ⟨p, List.mem_append_left _ hp, e⟩
    · obtain rfl : g = (c, z, [(q, r)]) := by simpa using hg
      exact ⟨(r, c), by simp, rfl⟩
end K13
/-! K13C5 -/
set_option autoImplicit true
set_option Elab.async false
set_option linter.all false
set_option maxRecDepth 100000
set_option maxHeartbeats 4000000
set_option pp.maxSteps 600
namespace K13
open PySem PySem.Spec PyProof.Rows L2
theorem walk_itit {d : Addr} {o : Obj} {kvs : List (List L2.Key × V)} : Walk (Itit d o kvs) kvs.length (fun H => H d = some (.frz o (.dT kvs)))
    (fun i H x H' => ∃ T k v q, x = .ref T ∧ kvs[i]? = some (k, v) ∧ H T = none ∧ H q = some (.tup (k.map kV)) ∧ H' = upd H T (.tup [.ref q, v])) :=
  ⟨fun _ _ hi q => ⟨q, hi⟩, fun _ q => ⟨q, rfl⟩, fun _ _ _ _ _ _ y => y⟩
/-- what was locked is given back -/
theorem Fr.unlock {ds : List Addr} {H H' : Hp} {a : Addr} {o : Obj} {u : HO} (f : Fr ds (upd H a (.frz o u)) H') (h : H a = some u) (hu : ∀ xs, u ≠ .tup xs) : Fr ds H (upd H' a u) := by
  refine ⟨fun b v nd e => ?_, fun b xs e => ?_⟩
  · by_cases hb : b = a
    · subst hb
      rw [upd_same, ← h, e]
    · rw [upd_ne hb]
      exact f.keep b v nd (by rw [upd_ne hb]; exact e)
  · have hb : b ≠ a := fun z => by
      subst z
      rw [h] at e
      exact hu xs (Option.some.inj e)
    rw [upd_ne hb]
    exact f.tup b xs (by rw [upd_ne hb]; exact e)
theorem FrT.thenOwn {ds : List Addr} {H H1 H' : Hp} {fa : Addr} (f : FrT ds H H1) (g : Fr [fa] H1 H') (h : H fa = none) : FrT ds H H' :=
  ⟨fun b u n t e => g.keep b u (fun z => by rw [List.mem_singleton.mp z, h] at e; cases e) (f.keep b u n t e), fun b xs e => g.tup b xs (f.tup b xs e)⟩
theorem asc_rowLe {l : List Row} (h : l.Pairwise fun a b => a < b) : l.Pairwise fun a b => rowLe a b = true := h.imp fun h => decide_eq_true (List.le_of_lt h)
theorem StAt.frK {w : World} {H H' : Hp} {S : Sto} {sizes : List Int} {ps : List (Addr × Row)} {av : List Addr} {kvs : List FEnt} {fa : Addr} {m : List (L2.Key × V)} (f : Fr [fa] H H') (hfa : H fa = some (.dK m)) (h : StAt w H S sizes ps av kvs) : StAt w H' S sizes ps av kvs := by
  have nx : ∀ {a : Addr} {o : HO}, H a = some o → (∀ m, o ≠ .dK m) → a ∉ [fa] := fun {a o} e ne z => by
    rw [List.mem_singleton.mp z, hfa] at e
    exact ne _ (Option.some.inj e).symm
  exact {
    ins := f.keep _ _ (nx h.ins (fun _ z => nomatch z)) h.ins
    hz := f.tup _ _ h.hz
    hs := f.tup _ _ h.hs
    rw := h.rw.fr f
    ix := f.keep _ _ (nx h.ix (fun _ z => nomatch z)) h.ix
    fdo := f.keep _ _ (nx h.fdo (fun _ z => by unfold FdO at z; cases z)) h.fdo
    fdk := fun p hp => (h.fdk p hp).mono f.tup
    fdn := h.fdn
    fdv := fun e he => (h.fdv e he).fr f fun d q => by
      rw [List.mem_singleton.mp q, hfa]
      exact ⟨fun _ z => (nomatch z), .inl fun _ z => (nomatch z)⟩
    tab := tabS_fr f (fun d q u hu => by
      rw [List.mem_singleton.mp q, hfa] at hu
      cases hu
      exact ⟨fun _ z => (nomatch z), fun _ z => (nomatch z)⟩) h.tab
    ava := fun x hx => by
      obtain ⟨xs, e⟩ := h.ava x hx
      exact ⟨xs, f.keep _ _ (nx e (fun _ z => nomatch z)) e⟩ }
section
variable {P : Program} {w : World} {K : PySem.W.Frag} {mg : Str → Option Value} {base : Heap} {f : Addr} {fd : FuncData}
def spIslands (w : World) (C CI P0 : Addr) : Sp := fun vs H Q E => ∃ S sizes ps av kvs x, vs = [.ref S.a, x] ∧ StAt w H S sizes ps av kvs ∧ Shape sizes (rR ps) ∧ S.C = C ∧ S.P = P0 ∧
  ((∃ at_, BadLot H sizes.length x at_ ∧ ∀ H' d, Fr [] H H' → H d = none → H' d = some (.xd [("at", .int at_)]) → E (.ref CI) (some d) H') ∨
   (∃ k v ys lot, x = .ref v ∧ SqB k H v (iV ys) ∧ ys.length ≤ 50 ∧ ys.Perm lot ∧ lot ∈ genL sizes.length ∧ ∀ H' kvs' p gs, StAt w H' S sizes ps av kvs' → Grow homesA kvs kvs' → H' p = some (.tup (gV gs)) → GrL H' gs → gR gs = dueOf (rR ps) lot → FrT [S.fd] H H' → Q (.ref p) H'))
theorem BadLot.fr {H H' : Hp} {n : Nat} {x : V} {a : Int} (h : BadLot H n x a) (f : Fr [] H H') : BadLot H' n x a := by
  cases h with
  | odd h => exact .odd (h.same f.same)
  | seq hs h50 hi hz hb => exact .seq (hs.fr f (fun z => nomatch z)) h50 hi (hz.same f.same) hb
theorem cal_islands {C CI P0 : Addr} (B : Bt mg) (cC : Cal P w K mg base 4 "checked_lot" (spChk w C CI)) (cH : Cal P w K mg base 9 "homes" (spHomes w C P0)) (F : FnP K "islands" s_islands f fd) (hm : mg "islands" = some (.ref f)) : Cal P w K mg base 10 "islands" (spIslands w C CI P0) := by
  refine calE F hm sc_islands (fun _ _ _ _ _ _ us hl => match us, hl with | [_, _], _ => rfl) (fun vs H Q E h => ?_) (fun cdv A outer s H vs Q E hr h => ?_)
  · obtain ⟨S, sizes, ps, av, kvs, x, rfl, _⟩ := h
    rfl
  · obtain ⟨S, sizes, ps, av, kvs, x, rfl, sa, sh, hC, hP, hx⟩ := h
    have nd := sc_islands.nd
    have hu := hu_of hr
    have nn : ∀ {x : Addr}, x ∉ ([] : List Addr) := fun z => nomatch z
    refine ⟨_, pss_cons (ps_set (i := 2) nd rfl (Or.inl rfl) pe_dnewK)
      (pss_cons (ps_open (ps_for (passes_of rfl) rfl (pi_itemsL (pc cH hr (pa_cons (pv 0) (pa_cons (pcE (E := E) cC hr (by decide) (passes_call (takes_of rfl rfl rfl rfl) fun _ _ _ _ h => h) rfl (pa_cons (pv 0) (pa_cons (pv 1) pa_nil))) pa_nil))))
          (pg_tup rfl (pgs_cons (pg_name (i := 3) nd rfl (Or.inl rfl)) (pgs_cons (pg_name (i := 4) nd rfl (Or.inl rfl)) pgs_nil)))
          (pss_one (ps_expr (pe_bm PySem.F.plainAttrs_list PySem.F.slot_list_append PySem.F.type_list_append mt_append (pe_dsetd (pv 2) (pv 4) (pe_lst pa_nil) ⟨rfl, rfl, rfl, rfl⟩) (pa_cons (pv 3) pa_nil))))))
      (pss_one (ps_ret (b_tupOf B (b_sortD B hr (pe_lock (pe_lc (own := [("some", 5)]) (g := gName 5) rfl nd (pi_values (pv 2)) (blkOk_by (N := N_islands) (sc := defScope s_islands) (by decide +kernel))
        (fun _ _ _ _ _ => pg_name (i := 5) nd rfl (Or.inl rfl)) (fun _ _ _ _ _ => pts_nil) (fun _ _ _ _ _ => k_tupOf K B (k_sortD K B hr (pv 5)))))))))), ?_⟩
    intro fa hfa
    have f0 : Fr [] H (upd H fa (.dK [])) := .new hfa
    rcases hx with ⟨at_, hb, hE⟩ | ⟨k, v, ys, lot, rfl, hv, h50, hpm, hlot, q⟩
    · exact ⟨_, rfl, _, rfl, _, rfl, S, sizes, ps, av, kvs, x, rfl, sa.same f0, hC, .inl ⟨at_, hb.fr f0, fun H' d fr hd he => hE H' d (f0.trans fr) (fresh_of f0 hd) he⟩⟩
    · obtain ⟨hlo, hll⟩ := genL_row _ _ hlot
      refine ⟨_, rfl, _, rfl, _, rfl, S, sizes, ps, av, kvs, .ref v, rfl, sa.same f0, hC, .inr ⟨k, v, ys, rfl, hv.fr f0 nn, h50, hlo.inLot.perm hpm, fun Ha p zs fra hp hpm2 hs => ?_⟩⟩
      obtain rfl := sorted_lot hlo hpm hpm2 hs
      refine ⟨S, sizes, ps, av, kvs, p, zs, rfl, (sa.same f0).same fra, sh, hC, hP, hp, hlot, fun H1 kvs1 b sa1 gr1 hh fr1 => ?_⟩
      have E' := cn_eqv (lot := zs) sh.len
      have h24 : ps.length ≤ 24 := by rw [← rR_len]; exact sh.many
      have hfa1 : H1 fa = some (.dK []) := fr1.keep _ _ (fun z => by
        have := (sa.same f0).fdo
        rw [← List.mem_singleton.mp z, upd_same] at this
        unfold FdO at this
        cases this) (fun _ z => nomatch z) (fra.keep _ _ nn upd_same)
      obtain ⟨D, hb, hD1, hD2, hD3⟩ := hh.ex
      have hDst : (keysOf D).Perm (rR ps) := perm_nd hD3 sh.nd hD1
      have hDl : D.length = ps.length := by have := hDst.length_eq; rw [List.length_map, rR_len] at this; exact this
      refine ⟨b, _, rfl, hb, fun o hno => for_it walk_itit (fun i σ H' => ∃ G x3 x4 x5, σ = [some (.ref S.a), some (.ref v), some (.ref fa), x3, x4, x5] ∧ H' fa = some (.dK (fKV G)) ∧ FndI (upd H1 b (.frz o (.dT (homesKV D)))) H' D i G ∧ (∀ g ∈ G, g.2.1 ≠ fa) ∧ Fr [fa] (upd H1 b (.frz o (.dT (homesKV D)))) H')
        ⟨[], _, _, _, rfl, by rw [upd_ne (ne_of hfa1 hb (fun z => nomatch z))]; exact hfa1, ⟨List.nodup_nil, List.nodup_nil, fun _ z => (nomatch z), fun _ z => (nomatch z), fun _ z => (nomatch z)⟩, fun _ z => (nomatch z), .refl⟩ ?_ ?_ ?_⟩
      · rintro i σ H' _ ⟨G, x3, x4, x5, rfl, _, _, _, fr⟩
        exact fr.keep _ _ (fun z => by rw [← List.mem_singleton.mp z, hb] at hfa1; cases hfa1) upd_same
      · rintro i x σ H2 H3 hi ⟨G, x3, x4, x5, rfl, hF, hI, hGf, fr⟩ ⟨T, kk, vv, qa, rfl, hkv, hT, hq, rfl⟩
        have hDi : D[i]? = some ((D[i]'(by simpa [homesKV] using hi)).1, (D[i]'(by simpa [homesKV] using hi)).2) := by simp [List.getElem?_eq_getElem (show i < D.length by simpa [homesKV] using hi)]
        generalize (D[i]'(by simpa [homesKV] using hi)).1 = r at hDi
        generalize (D[i]'(by simpa [homesKV] using hi)).2 = c at hDi
        have hkv2 : (homesKV D)[i]? = some (rowK r, V.int c) := by rw [homesKV, List.getElem?_map, hDi]; rfl
        rw [hkv2] at hkv
        obtain ⟨rfl, rfl⟩ : rowK r = kk ∧ V.int (c : Nat) = vv := by
          have := Option.some.inj hkv
          exact ⟨congrArg Prod.fst this, congrArg Prod.snd this⟩
        rw [rowK_kV] at hq
        have fT : Fr [] H2 (upd H2 T (.tup [.ref qa, .int (c : Nat)])) := .new hT
        have hF2 := fT.keep _ _ nn hF
        have hI2 := hI.fr fT (fun _ _ z => nomatch z)
        have hq2 := fT.tup _ _ hq
        have frT := fr.trans (fT.wider (es := [fa]) fun _ z => nomatch z)
        refine ⟨T, _, rfl, SqT.of upd_same, rfl, _, _, rfl, _, _, rfl, rfl, ?_⟩
        generalize upd H2 T (.tup [.ref qa, .int (c : Nat)]) = H4 at hF2 hI2 hq2 frT
        have hGl : G.length ≤ 24 := by
          have h1 := sub_len (m := (rR ps).map fun r => home (cn (rR ps) zs) (rR ps) r) hI.nk fun c hc => by
            obtain ⟨g, hg, rfl⟩ := List.mem_map.mp hc
            obtain ⟨pp, hpp, e⟩ := hI.wit g hg
            have hpD := List.mem_of_mem_take hpp
            rw [← e, hD2 pp hpD]
            exact List.mem_map_of_mem ((hD1 pp.1).mp (List.mem_map_of_mem hpD))
          simp only [List.length_map, rR_len] at h1
          omega
        refine ⟨_, rfl, fa, rfl, .inl ⟨_, .inl hF2⟩, _, rfl, Nat.zero_le _, fun z hz => ?_⟩
        have fz : Fr [] H4 (upd H4 z (.lst [])) := .new hz
        have hF3 := fz.keep _ _ nn hF2
        refine ⟨fKV G, Sum.inl (c : Int), hF3, rfl, by rw [fKV, List.length_map, sizeLine_eq]; omega, fun v' hv' => ?_, fun hv' => ?_⟩
        · obtain ⟨g, hg, hgc, rfl⟩ := fkv_get hv'
          have hI3 := hI2.fr fz (fun _ _ z => nomatch z)
          obtain ⟨a1, a2, a3, a4⟩ := hI3.at_ g hg
          obtain ⟨hI4, ek⟩ := hI3.add hg hgc hDi (fz.tup _ _ hq2)
          have hgl : g.2.2.length ≤ 24 := by
            have h1 := congrArg List.length a3
            rw [rR_len, List.length_map] at h1
            have h2 := List.length_filter_le (fun p => decide (p.2 = g.1)) (D.take i)
            have h3 := take_len_le2 D i
            omega
          refine ⟨.inl ⟨rfl, _, SqL.of a1⟩, _, rfl, g.2.1, _, _, rfl, rfl, a1, by rw [rV_len, sizeLine_eq]; omega, ?_⟩
          refine ⟨G.map (addTo c (qa, r)), _, _, _, rfl, by rw [ek, upd_ne (fun z => hGf g hg z.symm)]; exact hF3, hI4, fun g' hg' => ?_, (frT.trans (fz.wider fun _ z => nomatch z)).own a4⟩
          obtain ⟨g1, hg1, rfl⟩ := List.mem_map.mp hg'
          rw [addTo_a]
          exact hGf g1 hg1
        · have hnk := fkv_none hv'
          have hzf : z ≠ fa := fun e => by rw [e, hF2] at hz; cases hz
          have eput : putK (fKV G) (Sum.inl (c : Int)) (V.ref z) = fKV G ++ [(Sum.inl (c : Int), V.ref z)] := putK_new hv'
          have hz5 : upd (upd H4 z (.lst [])) fa (.dK (putK (fKV G) (Sum.inl (c : Int)) (V.ref z))) z = some (.lst (rV [])) := by rw [upd_ne hzf, upd_same]; rfl
          have hz0 : upd H1 b (.frz o (.dT (homesKV D))) z = none := by
            cases e : upd H1 b (.frz o (.dT (homesKV D))) z with
            | none => rfl
            | some u => exact absurd (frT.keep z u (by simpa using hzf) e) (by rw [hz]; exact fun z => nomatch z)
          have hzG : ∀ g ∈ G, g.2.1 ≠ z := fun g hg e => by
            have := (hI2.at_ g hg).1
            rw [e, hz] at this
            cases this
          refine ⟨.inl ⟨rfl, _, SqL.of hz5⟩, _, rfl, z, _, _, rfl, rfl, hz5, by rw [rV_len, sizeLine_eq]; simp, ?_⟩
          have f6 : Fr [fa] H4 (upd (upd (upd H4 z (.lst [])) fa (.dK (putK (fKV G) (Sum.inl (c : Int)) (V.ref z)))) z (.lst (rV [] ++ [V.ref qa]))) :=
            ((fz.wider (es := [fa]) fun _ z => nomatch z).trans (.set (by simp) hF3 (fun _ z => nomatch z))).own hz
          refine ⟨G ++ [(c, z, [(qa, r)])], _, _, _, rfl, ?_, hI2.new hz0 hnk hzG hDi (.inr ⟨[fa], f6, fun g hg m => hGf g hg (List.mem_singleton.mp m)⟩) (by rw [upd_same]; rfl) (f6.tup _ _ hq2), fun g hg => ?_, frT.trans f6⟩
          · rw [upd_ne (fun e => hzf e.symm), upd_same, eput]
            simp [fKV]
          · rcases List.mem_append.mp hg with hg | hg
            · exact hGf g hg
            · obtain rfl : g = (c, z, [(qa, r)]) := by simpa using hg
              exact hzf
      · rintro σ H2 ⟨G, x3, x4, x5, rfl, hF, hI, hGf, fr⟩
        have hbf : b ≠ fa := fun e => by rw [e, hfa1] at hb; cases hb
        have hb2 : H2 b = some (.frz o (.dT (homesKV D))) := fr.keep _ _ (by simpa using hbf) upd_same
        refine ⟨b, o, _, hb2, hno, ?_⟩
        have f23 : Fr [b] H2 (upd H2 b (.dT (homesKV D))) := .set (by simp) hb2 (fun _ z => nomatch z)
        have f13 : Fr [fa] H1 (upd H2 b (.dT (homesKV D))) := fr.unlock hb (fun _ z => nomatch z)
        have hF3 := f23.keep _ _ (by simpa using hbf.symm) hF
        have hI3 := hI.fr f23 fun g hg m => by
          have := (hI.at_ g hg).1
          rw [List.mem_singleton.mp m, hb2] at this
          cases this
        generalize upd H2 b (.dT (homesKV D)) = H3 at f13 hF3 hI3
        have etD : D.take (homesKV D).length = D := by rw [homesKV, List.length_map, List.take_length]
        have hkeys : (G.map (·.1)).Perm (List.range (reps (cn (rR ps) zs) (rR ps)).length) := perm_nd hI3.nk List.nodup_range fun c => by
          rw [List.mem_range]
          constructor
          · intro hc
            obtain ⟨g, hg, rfl⟩ := List.mem_map.mp hc
            obtain ⟨pp, hpp, e⟩ := hI3.wit g hg
            rw [etD] at hpp
            rw [← e, hD2 pp hpp]
            exact home_lt E' ((hD1 pp.1).mp (List.mem_map_of_mem hpp))
          · intro hc
            have hr := List.getElem?_eq_getElem hc
            have hrs := reps_mem _ (List.mem_of_getElem? hr)
            obtain ⟨pp, hpp, e⟩ := List.mem_map.mp ((hD1 _).mpr hrs)
            have := hI3.all pp (by rw [etD]; exact hpp)
            rw [hD2 pp hpp, e, reps_get_home E' hr] at this
            exact this
        have hGl : G.length ≤ 24 := by
          have h1 := hkeys.length_eq
          rw [List.length_map, List.length_range] at h1
          have h2 := (reps_sublist (C := cn (rR ps) zs) (rR ps)).length_le
          rw [rR_len] at h2
          omega
        have hgrp : ∀ g ∈ G, srt (rR g.2.2) = (rR ps).filter fun r => decide (home (cn (rR ps) zs) (rR ps) r = g.1) := fun g hg => by
          refine srt_eq ?_ (asc_rowLe (asc_sub List.filter_sublist sh.asc))
          rw [(hI3.at_ g hg).2.2.1, etD]
          refine perm_nd (List.Sublist.nodup (List.Sublist.map _ List.filter_sublist) hD3) (List.Sublist.nodup List.filter_sublist sh.nd) fun r => ?_
          constructor
          · intro hr
            obtain ⟨pp, hpp, rfl⟩ := List.mem_map.mp hr
            obtain ⟨h1, h2⟩ := List.mem_filter.mp hpp
            refine List.mem_filter.mpr ⟨(hD1 pp.1).mp (List.mem_map_of_mem h1), ?_⟩
            rw [← hD2 pp h1]
            exact h2
          · intro hr
            obtain ⟨h1, h2⟩ := List.mem_filter.mp hr
            obtain ⟨pp, hpp, rfl⟩ := List.mem_map.mp ((hD1 r).mpr h1)
            refine List.mem_map.mpr ⟨pp, List.mem_filter.mpr ⟨hpp, ?_⟩, rfl⟩
            rw [hD2 pp hpp]
            exact h2
        refine ⟨fa, _, hF3, True.intro, fun od => ?_⟩
        have hl0 : ∀ g ∈ G, upd H3 fa (.frz od (.dK (fKV G))) g.2.1 = some (.lst (rV g.2.2)) ∧ RwL (upd H3 fa (.frz od (.dK (fKV G)))) g.2.2 := fun g hg => by
          obtain ⟨a1, a2, _⟩ := hI3.at_ g hg
          exact ⟨by rw [upd_ne (hGf g hg)]; exact a1, fun p hp => by rw [upd_ne (ne_of (a2 p hp) hF3 (fun z => nomatch z))]; exact a2 p hp⟩
        refine ⟨_, rfl, fa, od, fKV G, rfl, upd_same, fun Dn hDn => lcG walk_values [] (fun i acc H => ∃ gs : List Grp, acc = gV gs ∧ GrL H gs ∧ gR gs = (G.take i).map fun g => (rR ps).filter fun r => decide (home (cn (rR ps) zs) (rR ps) r = g.1)) hDn (by rw [fKV, List.length_map, sizeLine_eq]; omega) ⟨[], rfl, (fun _ z => nomatch z), rfl⟩
          (fun _ _ _ _ f _ ⟨gs, e1, e2, e3⟩ => ⟨gs, e1, e2.fr f, e3⟩) (fun _ _ _ _ f _ => f.keep _ _ nn upd_same) ?_ ?_⟩
        · rintro i x _ H5 acc hi hD5 fr5 ⟨gs, rfl, hgs, egs⟩ ⟨rfl, kk, hkv⟩ yes no
          simp only [fKV, List.getElem?_map, Option.map_eq_some_iff] at hkv
          obtain ⟨g, hg, he⟩ := hkv
          obtain ⟨rfl, rfl⟩ := Prod.mk.inj he
          have hgm := List.mem_of_getElem? hg
          obtain ⟨a1, a2⟩ := hl0 g hgm
          have hrow : ∀ p ∈ g.2.2, p.2 ≠ [] := fun p hp e => by
            have h1 : p.2 ∈ rR g.2.2 := List.mem_map_of_mem hp
            rw [(hI3.at_ g hgm).2.2.1] at h1
            obtain ⟨pp, hpp, e2⟩ := List.mem_map.mp h1
            have h2 := (hD1 pp.1).mp (List.mem_map_of_mem (List.mem_of_mem_take (List.mem_filter.mp hpp).1))
            rw [e2] at h2
            have h3 := (sh.box p.2 h2).1
            have h4 := sh.pos
            rw [e] at h3
            simp at h3
            omega
          refine ⟨rfl, ?_⟩
          refine ⟨_, rfl, rSort_rows (K := K) (k := true) (Q := fun x H1 => kTup K x H1 _) (fr5.keep _ _ nn a1) (a2.fr fr5) (.inl hrow) fun p ps' hp hpm hs => Or.inl ⟨p, _, rfl, SqL.of upd_same, fun t ht => ?_⟩⟩
          have f7 : Fr [] H5 (upd (upd H5 p (.lst (rV ps'))) t (.tup (rV ps'))) := (Fr.new hp).trans (.new ht)
          refine yes _ _ (f7.keep _ _ nn hD5) (fr5.trans f7) ⟨gs ++ [(t, ps')], by simp [gV], fun k hk => ?_, ?_⟩
          · rcases List.mem_append.mp hk with hk | hk
            · exact hgs.fr f7 k hk
            · obtain rfl : k = (t, ps') := by simpa using hk
              exact ⟨upd_same, ((a2.fr fr5).fr f7).sub fun p hp => hpm.mem_iff.mp hp⟩
          · rw [tm_snoc hg]
            simp only [gR, List.map_append, List.map_cons, List.map_nil]
            rw [show gs.map (fun g => rR g.2) = gR gs from rfl, egs, hs, hgrp g hgm]
        · rintro acc H5 hD5 hl5 fr5 ⟨gs, rfl, hgs, egs⟩
          have hfa5 := fr5.keep _ _ nn (upd_same (H := H3) (a := fa) (o := .frz od (.dK (fKV G))))
          refine ⟨hfa5, ?_⟩
          have f36 : Fr [] H3 (upd H5 fa (.dK (fKV G))) := fr5.unlock hF3 (fun _ z => nomatch z)
          have f56 : Fr [fa] H5 (upd H5 fa (.dK (fKV G))) := .set (by simp) hfa5 (fun _ z => nomatch z)
          have hDf : Dn ≠ fa := fun e => by rw [e, upd_same] at hDn; cases hDn
          have hD6 := f56.keep _ _ (by simpa using hDf) hD5
          have eG : (G.take (fKV G).length) = G := by rw [fKV, List.length_map, List.take_length]
          rw [eG] at egs
          refine rSort_groups (K := K) (st := rR ps) (lot := zs) (Q := fun x H1 => kTup K x H1 Q) E' sh.asc hD6 (hgs.fr f56) ?_ fun p2 gs' hp2 hpm er => ?_
          · rw [egs, dueOf, show (G.map fun g => (rR ps).filter fun r => decide (home (cn (rR ps) zs) (rR ps) r = g.1)) = (G.map (·.1)).map (fun c => (rR ps).filter fun r => decide (home (cn (rR ps) zs) (rR ps) r = c)) by rw [List.map_map]; rfl]
            exact hkeys.map _
          · refine Or.inl ⟨p2, _, rfl, SqL.of upd_same, fun t ht => ?_⟩
            have f7 : Fr [] (upd H5 fa (.dK (fKV G))) (upd (upd (upd H5 fa (.dK (fKV G))) p2 (.lst (gV gs'))) t (.tup (gV gs'))) := (Fr.new hp2).trans (.new ht)
            have f17 : Fr [fa] H1 (upd (upd (upd H5 fa (.dK (fKV G))) p2 (.lst (gV gs'))) t (.tup (gV gs'))) := f13.trans ((f36.trans f7).wider fun _ z => nomatch z)
            refine q _ kvs1 t gs' (sa1.frK f17 hfa1) gr1 upd_same (fun g hg => GrL.fr f7 (GrL.fr f56 hgs) g (hpm.mem_iff.mp hg)) er ?_
            exact FrT.thenOwn (((f0.trans fra).wider (es := [S.fd]) fun _ z => nomatch z).t.trans fr1) f17 hfa
end
end K13
/-! K13C6 -/
set_option autoImplicit true
set_option Elab.async false
set_option linter.all false
set_option maxRecDepth 100000
set_option maxHeartbeats 4000000
set_option pp.maxSteps 600
namespace K13
open PySem PySem.Spec PyProof.Rows L2
section
variable {P : Program} {w : World} {K : PySem.W.Frag} {mg : Str → Option Value} {base : Heap} {f : Addr} {fd : FuncData}
noncomputable def homesOf (st : List Row) (lot : List Int) : List Int := st.map fun r => ((home (cn st lot) st r : Nat) : Int)
def spIQ (w : World) (C CI P0 : Addr) : Sp := fun vs H Q E => ∃ S sizes ps av kvs x, vs = [.ref S.a, x] ∧ StAt w H S sizes ps av kvs ∧ Shape sizes (rR ps) ∧ S.C = C ∧ S.P = P0 ∧
  ((∃ at_, BadLot H sizes.length x at_ ∧ ∀ H' d, Fr [] H H' → H d = none → H' d = some (.xd [("at", .int at_)]) → E (.ref CI) (some d) H') ∨
   (∃ k v ys lot, x = .ref v ∧ SqB k H v (iV ys) ∧ ys.length ≤ 50 ∧ ys.Perm lot ∧ lot ∈ genL sizes.length ∧ ∀ H' kvs' p, StAt w H' S sizes ps av kvs' → Grow homesA kvs kvs' → H' p = some (.tup (iV (homesOf (rR ps) lot))) → FrT [S.fd] H H' → Q (.ref p) H'))
theorem cal_island_question {C CI P0 : Addr} (B : Bt mg) (sc0 : SC K C) (cC : Cal P w K mg base 4 "checked_lot" (spChk w C CI)) (cH : Cal P w K mg base 9 "homes" (spHomes w C P0)) (F : FnP K "island_question" s_island_question f fd) (hm : mg "island_question" = some (.ref f)) :
    Cal P w K mg base 10 "island_question" (spIQ w C CI P0) := by
  refine calE F hm sc_island_question (fun _ _ _ _ _ _ us hl => match us, hl with | [_, _], _ => rfl) (fun vs H Q E h => ?_) (fun cdv A outer s H vs Q E hr h => ?_)
  · obtain ⟨S, sizes, ps, av, kvs, x, rfl, _⟩ := h
    rfl
  · obtain ⟨S, sizes, ps, av, kvs, x, rfl, sa, sh, hC, hP, hx⟩ := h
    have sc : SC K S.C := hC ▸ sc0
    have nd := sc_island_question.nd
    have hu := hu_of hr
    have nn : ∀ {x : Addr}, x ∉ ([] : List Addr) := fun z => nomatch z
    refine ⟨_, pss_cons (ps_set (i := 2) nd rfl (Or.inr rfl) (pc cH hr (pa_cons (pv 0) (pa_cons (pcE (E := E) cC hr (by decide) (passes_call (takes_of rfl rfl rfl rfl) fun _ _ _ _ h => h) rfl (pa_cons (pv 0) (pa_cons (pv 1) pa_nil))) pa_nil))))
      (pss_one (ps_ret (b_tupOf B (pe_lc (own := [("state", 3)]) (g := gName 3) rfl nd (pi_tup (pe_fld (pv 0) rfl)) (blkOk_by (N := N_island_question) (sc := defScope s_island_question) (by decide +kernel))
        (fun _ _ _ _ _ => pg_name (i := 3) nd rfl (Or.inl rfl)) (fun _ _ _ _ _ => pts_nil) (fun _ _ _ _ _ => pe_dget hu (pv 2) (pv 3) (fun _ _ => rfl)))))), ?_⟩
    rcases hx with ⟨at_, hb, hE⟩ | ⟨k, v, ys, lot, rfl, hv, h50, hpm, hlot, q⟩
    · exact ⟨_, rfl, _, rfl, _, rfl, S, sizes, ps, av, kvs, x, rfl, sa, hC, .inl ⟨at_, hb, hE⟩⟩
    · obtain ⟨hlo, hll⟩ := genL_row _ _ hlot
      have h24 : ps.length ≤ 24 := by rw [← rR_len]; exact sh.many
      refine ⟨_, rfl, _, rfl, _, rfl, S, sizes, ps, av, kvs, .ref v, rfl, sa, hC, .inr ⟨k, v, ys, rfl, hv, h50, hlo.inLot.perm hpm, fun Ha p zs fra hp hpm2 hs => ?_⟩⟩
      obtain rfl := sorted_lot hlo hpm hpm2 hs
      refine ⟨S, sizes, ps, av, kvs, p, zs, rfl, sa.same fra, sh, hC, hP, hp, hlot, fun H1 kvs1 b sa1 gr1 hh fr1 => ?_⟩
      obtain ⟨hkv, hb, hval⟩ := homes_val hh
      refine ⟨_, rfl, S.a, S.C, S.dx, _, _, rfl, sa1.ins, sc.cl, sc.nSta, rfl, S.ts, rfl, ⟨_, SqT.of sa1.hs⟩, fun D hD => lcG (walk_tup (xs := rV ps)) [] (fun i acc _ => acc = iV (((rR ps).take i).map fun r => ((home (cn (rR ps) zs) (rR ps) r : Nat) : Int))) hD (by rw [rV_len, sizeLine_eq]; omega) rfl (fun _ _ _ _ _ _ t => t)
        (fun _ _ _ _ f _ => SqT.of (f.tup _ _ sa1.hs)) ?_ ?_⟩
      · rintro i x _ H2 acc hi hD2 fr2 rfl ⟨rfl, hx⟩ yes no
        obtain ⟨pp, hpp, rfl⟩ := rV_get hx
        have hrow : (rR ps)[i]? = some pp.2 := by rw [rR, List.getElem?_map, hpp]; rfl
        have hmem : pp.2 ∈ rR ps := List.mem_of_getElem? hrow
        refine ⟨rfl, ?_⟩
        refine ⟨_, rfl, _, rfl, b, .int (home (cn (rR ps) zs) (rR ps) pp.2 : Nat), rfl, .inr ⟨hkv, rowK pp.2, pp.1, .inl (fr2.keep _ _ nn hb), rfl, by rw [rowK_kV]; exact fr2.tup _ _ (sa1.rw pp (List.mem_of_getElem? hpp)), (hval _ hmem).symm⟩, ?_⟩
        exact yes _ _ hD2 fr2 (by rw [tm_snoc hrow]; simp [iV])
      · rintro acc H2 hD2 hl fr2 rfl
        rw [rV_len, ← rR_len, List.take_length] at hD2
        exact .inl ⟨D, _, rfl, SqL.of hD2, fun t ht => q _ kvs1 t (sa1.same (fr2.trans (.new ht))) gr1 upd_same (((fra.wider fun _ z => nomatch z).t.trans fr1).trans ((fr2.trans (.new ht)).wider fun _ z => nomatch z).t)⟩
/-- unwhole: the lots that are not whole -/
noncomputable def tornOf (n : Nat) (st : List Row) : List (List Int) := (lotsOf n).filter fun lot => !isWhole n st lot
theorem lots_gen {n : Nat} {lot : List Int} (h : lot ∈ lotsOf n) : lot ∈ genL n := (srt_perm _).mem_iff.mp h
theorem lots_len {n : Nat} (h : n ≤ 4) : (lotsOf n).length ≤ 16 := by
  rw [lotsOf, (srt_perm (genL n)).length_eq]
  exact genL_le2 h
def spUnwhole (w : World) (C P0 : Addr) : Sp := fun vs H Q _ => ∃ S sizes ps av kvs, vs = [.ref S.a] ∧ StAt w H S sizes ps av kvs ∧ Shape sizes (rR ps) ∧ S.C = C ∧ S.P = P0 ∧
  ∀ H' kvs' p qs, StAt w H' S sizes ps av kvs' → Grow homesA kvs kvs' → H' p = some (.tup (rV qs)) → RwL H' qs → rR qs = tornOf sizes.length (rR ps) → FrT [S.fd] H H' → Q (.ref p) H'
theorem StAt.more {w : World} {H : Hp} {S : Sto} {sizes : List Int} {ps : List (Addr × Row)} {av : List Addr} {kvs : List FEnt} {D : Addr} {xs : List V} (h : StAt w H S sizes ps av kvs) (hD : H D = none) : StAt w (upd H D (.lst xs)) S sizes ps (D :: av) kvs := by
  have h1 := h.same (.new (o := .lst xs) hD)
  exact { h1 with
    fdv := fun e he => by
      rcases h1.fdv e he with ⟨z, a, ev, hn⟩ | z
      · refine .inl ⟨z, a, ev, ?_⟩
        rcases h.fdv e he with ⟨_, a', ev', hn'⟩ | ⟨_, z', _⟩ | ⟨z', _⟩
        · rw [ev] at ev'
          cases ev'
          obtain ⟨bs, b1, b2, b3⟩ := hn'.ex
          refine ⟨bs, by rw [upd_ne (ne_of_none b1 hD)]; exact b1, b2, fun p hp => ⟨fun m => ?_, (b3 p hp).2.fr (.new (ds := []) hD) (fun z => nomatch z)⟩⟩
          rcases List.mem_cons.mp m with m | m
          · obtain ⟨es, e1, _⟩ := (b3 p hp).2.ex
            rw [m, hD] at e1
            cases e1
          · exact (b3 p hp).1 m
        · rw [z] at z'
          cases z'
        · rw [z] at z'
          exact absurd z' (by decide)
      · exact .inr z
    ava := fun x hx => by
      rcases List.mem_cons.mp hx with rfl | hx
      · exact ⟨_, upd_same⟩
      · exact h1.ava x hx }
theorem StAt.less {w : World} {H : Hp} {S : Sto} {sizes : List Int} {ps : List (Addr × Row)} {av : List Addr} {kvs : List FEnt} {D : Addr} (h : StAt w H S sizes ps (D :: av) kvs) : StAt w H S sizes ps av kvs :=
  { h with
    fdv := fun e he => by
      rcases h.fdv e he with ⟨z, a, ev, hn⟩ | z
      · obtain ⟨bs, b1, b2, b3⟩ := hn.ex
        exact .inl ⟨z, a, ev, bs, b1, b2, fun p hp => ⟨fun m => (b3 p hp).1 (List.mem_cons_of_mem _ m), (b3 p hp).2⟩⟩
      · exact .inr z
    ava := fun x hx => h.ava x (List.mem_cons_of_mem _ hx) }
theorem StAt.ftup {w : World} {H : Hp} {S : Sto} {sizes : List Int} {ps : List (Addr × Row)} {av : List Addr} {kvs : List FEnt} (h : StAt w H S sizes ps av kvs) {D : Addr} {xs : List V} (e : H D = some (.lst xs)) : D ∉ [S.fd] := fun z => by
  rw [List.mem_singleton.mp z, h.fdo] at e
  unfold FdO at e
  cases e
theorem StAt.ftup_of {w : World} {H H1 : Hp} {S : Sto} {sizes : List Int} {ps : List (Addr × Row)} {av av' : List Addr} {kvs kvs' : List FEnt} (h : StAt w H S sizes ps av kvs) {D : Addr} {xs : List V} (f : FrT [S.fd] H1 H) (e : H1 D = some (.lst xs)) (h1 : StAt w H1 S sizes ps av' kvs') : D ∉ [S.fd] := h1.ftup e
/-- a comprehension's state while the store is asked -/
def LsP (w : World) (S : Sto) (sizes : List Int) (ps : List (Addr × Row)) (av : List Addr) (kvs : List FEnt) (D : Addr) (H1 : Hp) (T : Nat → List V → Prop) (i : Nat) (H : Hp) : Prop := ∃ acc kvs', acc.length ≤ i ∧ H D = some (.lst acc) ∧ StAt w H S sizes ps (D :: av) kvs' ∧ Grow homesA kvs kvs' ∧ FrT [S.fd] H1 H ∧ T i acc
theorem LsP.yes {w : World} {S : Sto} {sizes : List Int} {ps : List (Addr × Row)} {av : List Addr} {kvs kvs' : List FEnt} {D : Addr} {H1 H : Hp} {T : Nat → List V → Prop} {i : Nat} {acc : List V} {y : V} (hD0 : H1 D = none) (hl : acc.length ≤ i) (hD : H D = some (.lst acc)) (sa : StAt w H S sizes ps (D :: av) kvs') (gr : Grow homesA kvs kvs') (fr : FrT [S.fd] H1 H) (t : T (i + 1) (acc ++ [y])) :
    LsP w S sizes ps av kvs D H1 T (i + 1) (upd H D (.lst (acc ++ [y]))) := by
  refine ⟨acc ++ [y], kvs', by simp; omega, upd_same, sa.fr (ds := [D]) (.set (by simp) hD fun _ z => nomatch z) (fun d hd => ?_), gr, fr.own hD0, t⟩
  obtain rfl : d = D := by simpa using hd
  exact ⟨List.mem_cons_self, _, upd_same⟩
theorem cal_unwhole {C P0 : Addr} (B : Bt mg) (sc0 : SC K C) (cL : Cal P w K mg base 1 "all_lots" (spLots w C)) (cW : Cal P w K mg base 10 "whole" (spWhole w C P0)) (F : FnP K "unwhole" s_unwhole f fd) (hm : mg "unwhole" = some (.ref f)) : Cal P w K mg base 11 "unwhole" (spUnwhole w C P0) := by
  refine cal0 F hm sc_unwhole (fun _ _ _ _ _ _ us hl => match us, hl with | [_], _ => rfl) (fun vs H Q E h => ?_) (fun cdv A outer s H vs Q E hr h => ?_)
  · obtain ⟨S, sizes, ps, av, kvs, rfl, _⟩ := h
    rfl
  · obtain ⟨S, sizes, ps, av, kvs, rfl, sa, sh, hC, hP, q⟩ := h
    have nd := sc_unwhole.nd
    have nn : ∀ {x : Addr}, x ∉ ([] : List Addr) := fun z => nomatch z
    refine ⟨_, pss_one (ps_ret (b_tupOf B (pe_lc (own := [("lot", 1)]) (g := gName 1) rfl nd (pi_list (pc cL hr (pa_cons (pv 0) pa_nil))) (blkOk_by (N := N_unwhole) (sc := defScope s_unwhole) (by decide +kernel))
      (fun _ _ _ _ _ => pg_name (i := 1) nd rfl (Or.inl rfl)) (fun _ _ _ _ _ => pts_one (pt_not (pt_val (pc cW hr (pa_cons (pv 0) (pa_cons (pv 1) pa_nil)))))) (fun _ _ _ _ _ => pv 1)))), ?_⟩
    refine ⟨_, rfl, S, sizes, ps, av, kvs, rfl, sa, hC, sh.few, fun H1 la ls fr1 hla hla1 hls els => ?_⟩
    have h16 : ls.length ≤ 16 := by rw [← rR_len, els]; exact lots_len sh.few
    refine ⟨la, rfl, ⟨_, SqL.of hla1⟩, fun D hD => lc_it (walk_list (xs := rV ls)) (LsP w S sizes ps av kvs D H1 fun i acc => ∃ qs, acc = rV qs ∧ (∀ p ∈ qs, p ∈ ls) ∧ rR qs = ((rR ls).take i).filter fun lot => !isWhole sizes.length (rR ps) lot)
      ⟨[], kvs, Nat.le_refl _, upd_same, (sa.same fr1).more hD, .refl, FrT.refl.own hD, [], rfl, (fun _ z => nomatch z), rfl⟩ (fun i H _ ⟨acc, k, _, _, sa', _, fr', _⟩ => SqL.of (fr'.keep _ _ (sa'.ftup_of fr' hla1 (sa.same fr1)) (fun _ z => nomatch z) hla1)) ?_ ?_⟩
    · rintro i x _ H2 hi ⟨acc, k2, hl, hD2, sa2, gr2, fr2, qs, rfl, hq, eq⟩ ⟨rfl, hx⟩
      obtain ⟨p, hp, rfl⟩ := rV_get hx
      have hpm := List.mem_of_getElem? hp
      have hrow : (rR ls)[i]? = some p.2 := by rw [rR, List.getElem?_map, hp]; rfl
      have hgen : p.2 ∈ genL sizes.length := lots_gen (by rw [← els]; exact List.mem_of_getElem? hrow)
      refine ⟨rfl, ?_⟩
      refine ⟨_, rfl, _, rfl, S, sizes, ps, D :: av, k2, p.1, p.2, rfl, sa2, sh, hC, hP, fr2.tup _ _ (hls p hpm), hgen, fun H3 k3 sa3 gr3 fr3 => ⟨_, rfl, ?_⟩⟩
      have hD3 : H3 D = some (.lst (rV qs)) := fr3.keep _ _ (sa2.ftup hD2) (fun _ z => nomatch z) hD2
      cases hw : isWhole sizes.length (rR ps) p.2 with
      | true => exact ⟨_, k3, by omega, hD3, sa3, gr2.trans gr3, fr2.trans fr3, qs, rfl, hq, by rw [tf_no hrow (by rw [hw]; rfl)]; exact eq⟩
      | false =>
        refine ⟨_, rfl, _, hD3, by rw [rV_len] at hl ⊢; rw [sizeLine_eq]; rw [rV_len] at hi; omega, LsP.yes hD hl hD3 sa3 (gr2.trans gr3) (fr2.trans fr3) ⟨qs ++ [p], by rw [rV_snoc], fun z hz => ?_, by rw [rR_snoc, tf_yes hrow (by rw [hw]; rfl), eq]⟩⟩
        rcases List.mem_append.mp hz with hz | hz
        · exact hq z hz
        · obtain rfl : z = p := by simpa using hz
          exact hpm
    · rintro H2 ⟨acc, k2, hl, hD2, sa2, gr2, fr2, qs, rfl, hq, eq⟩
      rw [rV_len, ← rR_len, List.take_length, els] at eq
      refine .inl ⟨D, _, rfl, SqL.of hD2, fun t ht => ?_⟩
      exact q _ k2 t qs (sa2.less.same (.new ht)) gr2 upd_same (RwL.new ht fun z hz => fr2.tup _ _ (hls z (hq z hz))) eq (((fr1.wider fun _ z => nomatch z).t.trans fr2).trans (Fr.new ht).t)
def spJoinedW (w : World) (C P0 : Addr) : Sp := fun vs H Q _ => ∃ S sizes ps av kvs, vs = [.ref S.a] ∧ StAt w H S sizes ps av kvs ∧ Shape sizes (rR ps) ∧ S.C = C ∧ S.P = P0 ∧
  ∀ H' kvs', StAt w H' S sizes ps av kvs' → Grow homesA kvs kvs' → FrT [S.fd] H H' → Q (.bl (allWhole sizes.length (rR ps))) H'
theorem cal_find_joined {C P0 : Addr} (B : Bt mg) (sc0 : SC K C) (cL : Cal P w K mg base 1 "all_lots" (spLots w C)) (cW : Cal P w K mg base 10 "whole" (spWhole w C P0)) (F : FnP K "find_joined" s_find_joined f fd) (hm : mg "find_joined" = some (.ref f)) : Cal P w K mg base 11 "find_joined" (spJoinedW w C P0) := by
  refine cal0 F hm sc_find_joined (fun _ _ _ _ _ _ us hl => match us, hl with | [_], _ => rfl) (fun vs H Q E h => ?_) (fun cdv A outer s H vs Q E hr h => ?_)
  · obtain ⟨S, sizes, ps, av, kvs, rfl, _⟩ := h
    rfl
  · obtain ⟨S, sizes, ps, av, kvs, rfl, sa, sh, hC, hP, q⟩ := h
    have nd := sc_find_joined.nd
    have nn : ∀ {x : Addr}, x ∉ ([] : List Addr) := fun z => nomatch z
    refine ⟨_, pss_one (ps_ret (b_all B rfl (pe_lc (own := [("lot", 1)]) (g := gName 1) rfl nd (pi_list (pc cL hr (pa_cons (pv 0) pa_nil))) (blkOk_by (N := N_find_joined) (sc := defScope s_find_joined) (by decide +kernel))
      (fun _ _ _ _ _ => pg_name (i := 1) nd rfl (Or.inl rfl)) (fun _ _ _ _ _ => pts_nil) (fun _ _ _ _ _ => pc cW hr (pa_cons (pv 0) (pa_cons (pv 1) pa_nil)))))), ?_⟩
    refine ⟨_, rfl, S, sizes, ps, av, kvs, rfl, sa, hC, sh.few, fun H1 la ls fr1 hla hla1 hls els => ?_⟩
    have h16 : ls.length ≤ 16 := by rw [← rR_len, els]; exact lots_len sh.few
    refine ⟨la, rfl, ⟨_, SqL.of hla1⟩, fun D hD => lc_it (walk_list (xs := rV ls)) (LsP w S sizes ps av kvs D H1 fun i acc => acc = (((rR ls).take i).map fun lot => isWhole sizes.length (rR ps) lot).map V.bl)
      ⟨[], kvs, Nat.le_refl _, upd_same, (sa.same fr1).more hD, .refl, FrT.refl.own hD, rfl⟩ (fun i H _ ⟨acc, k, _, _, sa', _, fr', _⟩ => SqL.of (fr'.keep _ _ (sa'.ftup_of fr' hla1 (sa.same fr1)) (fun _ z => nomatch z) hla1)) ?_ ?_⟩
    · rintro i x _ H2 hi ⟨acc, k2, hl, hD2, sa2, gr2, fr2, rfl⟩ ⟨rfl, hx⟩
      obtain ⟨p, hp, rfl⟩ := rV_get hx
      have hpm := List.mem_of_getElem? hp
      have hrow : (rR ls)[i]? = some p.2 := by rw [rR, List.getElem?_map, hp]; rfl
      have hgen : p.2 ∈ genL sizes.length := lots_gen (by rw [← els]; exact List.mem_of_getElem? hrow)
      refine ⟨rfl, ?_⟩
      refine ⟨_, rfl, _, rfl, S, sizes, ps, D :: av, k2, p.1, p.2, rfl, sa2, sh, hC, hP, fr2.tup _ _ (hls p hpm), hgen, fun H3 k3 sa3 gr3 fr3 => ?_⟩
      have hD3 := fr3.keep D (.lst _) (sa2.ftup hD2) (fun _ z => nomatch z) hD2
      refine ⟨_, hD3, by rw [sizeLine_eq]; rw [rV_len] at hi; omega, LsP.yes hD hl hD3 sa3 (gr2.trans gr3) (fr2.trans fr3) ?_⟩
      rw [tm_snoc hrow, List.map_append]
      rfl
    · rintro H2 ⟨acc, k2, hl, hD2, sa2, gr2, fr2, rfl⟩
      refine ⟨D, ((rR ls).take (rV ls).length).map (fun lot => isWhole sizes.length (rR ps) lot), rfl, SqL.of hD2, ?_⟩
      rw [rV_len, ← rR_len, List.take_length, els, show ((lotsOf sizes.length).map fun lot => isWhole sizes.length (rR ps) lot).all id = allWhole sizes.length (rR ps) by rw [List.all_map]; rfl]
      exact q _ k2 sa2.less gr2 ((fr1.wider fun _ z => nomatch z).t.trans fr2)
def spIsJoined (w : World) (C P0 : Addr) : Sp := fun vs H Q _ => ∃ S sizes ps av kvs, vs = [.ref S.a] ∧ StAt w H S sizes ps av kvs ∧ Shape sizes (rR ps) ∧ S.C = C ∧ S.P = P0 ∧
  ∀ H' kvs', StAt w H' S sizes ps av kvs' → FrT [S.fd] H H' → Q (.bl (allWhole sizes.length (rR ps))) H'
theorem cal_is_joined {C P0 g : Addr} (sc0 : SC K C) (hg : mg "find_joined" = some (.ref g)) (cF : CalM P w K mg base 12 C "found" (spFound w C g (spJoinedW w C P0))) (F : FnP K "is_joined" s_is_joined f fd) (hm : mg "is_joined" = some (.ref f)) : Cal P w K mg base 13 "is_joined" (spIsJoined w C P0) := by
  refine cal0 F hm sc_is_joined (fun _ _ _ _ _ _ us hl => match us, hl with | [_], _ => rfl) (fun vs H Q E h => ?_) (fun cdv A outer s H vs Q E hr h => ?_)
  · obtain ⟨S, sizes, ps, av, kvs, rfl, _⟩ := h
    rfl
  · obtain ⟨S, sizes, ps, av, kvs, rfl, sa, sh, hC, hP, q⟩ := h
    have sc : SC K S.C := hC ▸ sc0
    subst hC hP
    refine ⟨_, pss_one (ps_ret (pm cF sc.cl hr (pv 0) (pa_cons pe_str (pa_cons (pe_glob (v := .ref g) (by rfl) hg (show L2.RelV (.ref g) (.ref g) from rfl)) pa_nil)))), ?_⟩
    refine ⟨_, rfl, S.a, S.dx, _, rfl, sa.ins, rfl, S, sizes, ps, av, kvs, .text "joined", .str "joined", homesA, FrT [S.fd], rfl, sa, sh.few, rfl, .text _, (fun z => z rfl), rlFrT, fun Q' hq => ⟨S, sizes, ps, av, kvs, rfl, sa, sh, rfl, rfl, fun H' k' sa' gr fr => hq _ H' k' sa' gr (.inr (.inr ⟨rfl, rfl⟩)) fr⟩, fun v H' kvs' sa' gr hv fr => ?_⟩
    rcases hv with ⟨e, _⟩ | ⟨lot, e, _⟩ | ⟨_, rfl⟩
    · exact absurd e (by decide)
    · cases e
    · exact q H' kvs' sa' fr
end
end K13
/-! K13A1 -/
set_option autoImplicit true
set_option Elab.async false
set_option linter.all false
set_option maxRecDepth 100000
set_option maxHeartbeats 4000000
set_option pp.maxSteps 600
namespace K13
open PySem PySem.Spec PyProof.Rows L2
/-! ### f(k = v, ..) of a def without positional arguments -/
def tCallW (sp : Sp) (gV : List V → List V) (m : Nat) (E : L2.St → XK) (t : TA) : TE := fun σ H Q => t σ H fun zs H1 => zs.length = m ∧ sp (gV zs) H1 Q (E σ)
section
variable {X : Cx} {k j : Nat} {x : Str} {sp : Sp} {E : L2.St → XK} {p pos : Pos} {kws : List Keyword} {tk : TA} {st : Stmt} {f0 : Addr} {fd0 : FuncData} {ks ps : List Str}
theorem pcW (c : Cal X.prog X.w X.K X.mg X.base k x sp) (F0 : FnP X.K x st f0 fd0) (h0 : X.mg x = some (.ref f0)) (g : (α : Type) → List α → List α) (hps : (defArgs st).args.map (·.arg) = ps)
    (hb : ∀ (kV doc pm : Value) (an : Option Addr) (cdv ct : Value) (ws : List Value), ws.length = ks.length → bindArgs (PySem.W.fnOf x x (defArgs st) (defBody st) (defScope st) .none kV doc pm an cdv ct) ⟨[], ks.zip ws⟩ = pure (ps.zip (g Value ws)))
    (hg2 : ∀ (zs : List V) (ws : List Value), zs.length = ks.length → Vals zs ws → Vals (g V zs) (g Value ws))
    (hr : Room j X.A) (hk : k ≤ j) (hx : ∀ σ, PassesAt (L2.CX X.prog X.w) X σ (E σ)) (hg : Gl X x) (hkw : PK X kws tk) (hall : (backToKw pos (keywordEach kws X.env)).all (·.1.isSome) = true := by rfl)
    (hks : (backToKw pos (keywordEach kws X.env)).filterMap (·.1) = ks := by rfl) (hdb : (x == ("__debug__" : Str)) = false := by decide)
    (hpl : ((backTo pos (starEach [] X.env)).any (·.1) || (backToKw pos (keywordEach kws X.env)).any (·.1.isNone)) = false := by rfl) :
    PE X (.Call (.Name x p) [] kws pos) (tCallW sp (g V) ks.length E tk) := by
  obtain ⟨f, fd, ps', F, hm, kp, b, oc, od, osl, lk, hp⟩ := c.ex
  obtain ⟨oc0, od0, dV, kV, doc, pm, an, cdv, ct, osl0, e0, lk0, _, hdf, _⟩ := F0.ex
  rcases hdf with ⟨_, rfl⟩ | ⟨z, _⟩
  rotate_left
  · exact absurd rfl z
  obtain rfl : f0 = f := by
    rw [hm] at h0
    cases h0
    rfl
  rw [lk0] at lk
  cases lk
  subst e0
  have hpp : ps' = ps := hp.symm.trans hps
  subst hpp
  refine ⟨fun pins s σ H Q I h => ?_⟩
  refine wpAny_Call_Name_kw (ld_glob I hg hm ?_ hdb)
  refine PySem.W.callWith_KW0 (h₀ := X.base) I.ok.mod.kin kp hall (thn (hkw.run pos pins s σ H _ I h) fun ws s2 ⟨zs, H2, I2, rz, l2, q2⟩ => ⟨I2.kIn, ?_⟩) hpl
  rw [hks]
  have lw : ws.length = ks.length := by rw [← rz.length]; exact l2
  refine wpAny_call (codeAny_mono (F.run X.A X.stack s2 H2 ⟨[], ks.zip ws⟩ (g Value ws) (g V zs) Q (E σ) (hr.mono hk) I2.env0 (.of_eq (hb kV doc pm an cdv ct ws lw)) (hg2 zs ws l2 rz) q2) fun r s' hq => ?_)
  cases r with
  | error e => exact hx σ pins H2 s2 e s' I2 hq
  | ok fl =>
    cases fl with
    | ret u => exact I2.after hq
    | next => exact False.elim hq
    | brk => exact False.elim hq
    | cont => exact False.elim hq
end
/-! ### the error where it is caught -/
structure LotG (K : PySem.W.Frag) (C : Addr) : Prop where
  ga : PySem.W.findIn K (.ref C) "__getattribute__" = some (some (.builtin "BaseException.__getattribute__"))
  gg : PySem.W.findIn K (.ref C) "__getattr__" = some none
  exC : PySem.W.subIn K (.ref C) (.type "BaseException") = some true
  noN : PySem.W.findIn K (.ref C) "at" = some none
  hdC : PySem.W.hasDictIn K C = true
  te : PySem.W.exmOne K (.ref C) (.ref C) = some true
/-- low.at, low the exception that the suite holds (at a; its class cls, its dict d) -/
def tAtLot (C : Addr) (a : Addr) (cls : Value) (d : Option Addr) (te : TE) : TE := fun σ H Q => te σ H fun x H1 => x = .ref a ∧ cls = .ref C ∧ ∃ (dd : Addr) (v : V), d = some dd ∧ H1 dd = some (.xd [("at", v)]) ∧ Q v H1
theorem pe_atLot {X : Cx} {C a : Addr} {oe : Obj} {cls : Value} {d : Option Addr} {pn : List (Addr × Obj)} {e : Expr} {te : TE} {pos : Pos} (T : LotG X.K C) (hz : Zc cls d oe) (hf : ∃ vs, oe.data = .fields vs) (he : PE (X.suite a ((a, oe) :: pn)) e te)
    (hb : attributeBase e "at" X.env (eval e X.env) = eval e X.env := by rfl) : PE (X.suite a ((a, oe) :: pn)) (.Attribute e "at" pos) (tAtLot C a cls d te) := by
  refine ⟨fun pins s σ H Q I h => ?_⟩
  refine attr_of hb (thn (he.run pins s σ H _ I h) fun u s1 hh => ?_)
  obtain ⟨x, H1, I1, rx, rfl, rfl, dd, v, rfl, ea, q⟩ := hh
  obtain rfl : u = Value.ref a := rx
  obtain ⟨ha, _⟩ := I1.pin (a, oe) (List.mem_append_left _ List.mem_cons_self)
  obtain ⟨vs, hd⟩ := hf
  have hx : ObjOk X.prog X.w H1 s1.heap dd (.xd [("at", v)]) := I1.hok dd _ ea
  obtain ⟨mA, hns, hr⟩ := hx
  obtain ⟨od, ho, hl⟩ := lookIn_ns hns
  obtain ⟨u, hu, ru⟩ := RelO.some_of (v := v) (o := mA "at") (hr "at")
  have J : PySem.W.InstAt s1.heap a oe C (some od) := ⟨ha, hz.1, by unfold PySem.W.notCls; rw [hd] <;> rfl, by rw [hz.2]; exact ho⟩
  exact HandSPX.exc_get I1.kIn J T.ga T.gg T.exC (PySem.W.findObj_own T.hdC T.noN rfl (by rw [hl, hu])) (handed_of ru) ⟨v, H1, I1.tok _, ru, q⟩
end K13
/-! K13A2 -/
set_option autoImplicit true
set_option Elab.async false
set_option linter.all false
set_option maxRecDepth 100000
set_option maxHeartbeats 4000000
set_option pp.maxSteps 600
namespace K13
open PySem PySem.Spec PyProof.Rows L2
theorem vals_rev2 {zs : List V} {ws : List Value} (h : zs.length = 2) (r : Vals zs ws) : Vals zs.reverse ws.reverse := by
  match zs, ws, r, h with
  | [_, _], _, .cons a (.cons b .nil), _ => exact .cons b (.cons a .nil)
abbrev TT0 (n : Int) : TT := tTest (tOp rEq (tVar 0) (fun _ H Q => Q (.int n) H))
section
variable {P : Program} {w : World} {K : PySem.W.Frag} {mg : Str → Option Value} {base : Heap} {f : Addr} {fd : FuncData}
def spRefused (w : World) (C P0 : Addr) : Sp := fun vs H Q _ => ∃ fm S sizes ps av kvs x at_, vs = [.int fm, .ref S.a, x] ∧ StAt w H S sizes ps av kvs ∧ Shape sizes (rR ps) ∧ S.C = C ∧ S.P = P0 ∧ BadLot H sizes.length x at_ ∧ ∀ H', Fr [] H H' → Q (.int at_) H'
theorem cal_l_refused {C CI P0 f1 f2 f3 : Addr} {fd1 fd2 fd3 : FuncData} (G : LotG K CI) (hI : mg "InvalidLot" = some (.ref CI)) (c1 : Cal P w K mg base 10 "islands" (spIslands w C CI P0)) (c2 : Cal P w K mg base 10 "island_question" (spIQ w C CI P0)) (c3 : Cal P w K mg base 11 "is_whole" (spIsWhole w C CI P0))
    (F1 : FnP K "islands" s_islands f1 fd1) (h1 : mg "islands" = some (.ref f1)) (F2 : FnP K "island_question" s_island_question f2 fd2) (h2 : mg "island_question" = some (.ref f2)) (F3 : FnP K "is_whole" s_is_whole f3 fd3) (h3 : mg "is_whole" = some (.ref f3))
    (F : FnP K "_law_refused" s_l_refused f fd) (hm : mg "_law_refused" = some (.ref f)) : Cal P w K mg base 12 "_law_refused" (spRefused w C P0) := by
  refine cal0 F hm sc_l_refused (fun _ _ _ _ _ _ us hl => match us, hl with | [_, _, _], _ => rfl) (fun vs H Q E h => ?_) (fun cdv A outer s H vs Q E hr h => ?_)
  · obtain ⟨fm, S, sizes, ps, av, kvs, x, at_, rfl, _⟩ := h
    rfl
  · obtain ⟨fm, S, sizes, ps, av, kvs, x, at_, rfl, sa, sh, hC, hP, hbad, q⟩ := h
    have nd := sc_l_refused.nd
    refine ⟨_, pss_cons (ps_try_as (i := 3) (tb := fun W => tIfS (TT0 0) (tDrop (tCallW (spIslands w C CI P0) (fun l => l.reverse) 2 (WE W) (tCons (tVar 2) (tCons (tVar 1) tNil)))) (tIfS (TT0 1) (tDrop (tCallW (spIQ w C CI P0) (fun l => l.reverse) 2 (WE W) (tCons (tVar 2) (tCons (tVar 1) tNil)))) (tDrop (tCallW (spIsWhole w C CI P0) (fun l => l.reverse) 2 (WE W) (tCons (tVar 2) (tCons (tVar 1) tNil))))))
        (ts := fun a cls d => tRet (tAtLot CI a cls d (tVar 3))) (Wout := fun _ _ _ _ => False) rfl rfl nd rfl rfl ⟨rfl, by decide, .inl hI⟩ takes0
        (fun W pn xe tk _ => pss_one (ps_if (pt_cmpR op_eq (pv 0) pe_int (nomark _)) (pss_one (ps_expr (by exact pcW (ks := ["lot", "store"]) (ps := ["store", "lot"]) c1 F1 h1 (fun _ l => l.reverse) rfl (fun _ _ _ _ _ _ ws hl => match ws, hl with | [_, _], _ => rfl) (fun _ _ hl r => vals_rev2 hl r) hr (by decide) (fun σ => passAt tk σ) (by rfl) (pk_cons (pv 2) (pk_cons (pv 1) pk_nil)))))
          (pss_one (ps_if (pt_cmpR op_eq (pv 0) pe_int (nomark _)) (pss_one (ps_expr (by exact pcW (ks := ["lot", "store"]) (ps := ["store", "lot"]) c2 F2 h2 (fun _ l => l.reverse) rfl (fun _ _ _ _ _ _ ws hl => match ws, hl with | [_, _], _ => rfl) (fun _ _ hl r => vals_rev2 hl r) hr (by decide) (fun σ => passAt tk σ) (by rfl) (pk_cons (pv 2) (pk_cons (pv 1) pk_nil)))))
            (pss_one (ps_expr (by exact pcW (ks := ["lot", "store"]) (ps := ["store", "lot"]) c3 F3 h3 (fun _ l => l.reverse) rfl (fun _ _ _ _ _ _ ws hl => match ws, hl with | [_, _], _ => rfl) (fun _ _ hl r => vals_rev2 hl r) hr (by decide) (fun σ => passAt tk σ) (by rfl) (pk_cons (pv 2) (pk_cons (pv 1) pk_nil)))))))))
        (fun a oe cls d pn hz hf => pss_one (ps_ret (pe_atLot G hz hf (pv 3))))) (pss_one (ps_ret pe_non)), ?_⟩
    have out : ∀ (W : WX) (D : Ends) (σ : L2.St) (H' : Hp) (d : Addr), True := fun _ _ _ _ _ => True.intro
    refine ⟨_, rfl, rfl, _, rfl, ite2 (fun _ => ?_) fun _ => ⟨_, rfl, rfl, _, rfl, ite2 (fun _ => ?_) fun _ => ?_⟩⟩
    · refine ⟨_, rfl, _, rfl, rfl, S, sizes, ps, av, kvs, x, rfl, sa, sh, hC, hP, .inl ⟨at_, hbad, fun H' d fr hd hxd => ?_⟩⟩
      exact ⟨true, G.te, fun _ a ha => ⟨_, rfl, rfl, rfl, d, _, rfl, hxd, q H' fr⟩, fun z => nomatch z⟩
    · refine ⟨_, rfl, _, rfl, rfl, S, sizes, ps, av, kvs, x, rfl, sa, sh, hC, hP, .inl ⟨at_, hbad, fun H' d fr hd hxd => ?_⟩⟩
      exact ⟨true, G.te, fun _ a ha => ⟨_, rfl, rfl, rfl, d, _, rfl, hxd, q H' fr⟩, fun z => nomatch z⟩
    · refine ⟨_, rfl, _, rfl, rfl, S, sizes, ps, av, kvs, x, rfl, sa, sh, hC, hP, .inl ⟨at_, hbad, fun H' d fr hd hxd => ?_⟩⟩
      exact ⟨true, G.te, fun _ a ha => ⟨_, rfl, rfl, rfl, d, _, rfl, hxd, q H' fr⟩, fun z => nomatch z⟩
end
end K13
/-! K13R1 -/
set_option autoImplicit true
set_option Elab.async false
set_option linter.all false
set_option maxRecDepth 100000
set_option maxHeartbeats 2000000
set_option pp.maxSteps 600
namespace K13
open PySem PySem.Spec PyProof.Rows L2
/-! ### repr of tuples of tuples of .. of ints, and of bools -/
structure OkD (m k : Nat) (d : PyData) : Prop where
  sh : d.showable = true
  nd : d.hasDict = false
  dp : d.depth ≤ m
  ln : d.shown.length ≤ k
theorem OkD.mono {m k m' k' : Nat} {d : PyData} (h : OkD m k d) (h1 : m ≤ m') (h2 : k ≤ k') : OkD m' k' d := ⟨h.sh, h.nd, Nat.le_trans h.dp h1, Nat.le_trans h.ln h2⟩
theorem OkD.int {i : Int} (h0 : 0 ≤ i) (h1 : i < 256) : OkD 0 9 (.int i) := by
  have h8 : i.natAbs.log2 < 8 := by
    by_cases z : i.natAbs = 0
    · rw [z]
      decide
    · exact (Nat.log2_lt z).mpr (by omega)
  refine ⟨?_, by simp [PyData.hasDict], by simp [PyData.depth], ?_⟩
  · simp only [PyData.showable, decide_eq_true_eq]
    omega
  · have := int_text_length_le (k := 8) (by decide) h8
    simp only [PyData.shown]
    rw [PySem.ofString_length]
    exact this
theorem OkD.all {m k : Nat} : ∀ {ds : List PyData}, (∀ d ∈ ds, OkD m k d) → PyData.showableAll ds = true ∧ PyData.hasDictAll ds = false ∧ PyData.depthAll ds ≤ m ∧ piled (PyData.shownAll ds) ≤ ds.length * (k + 2)
  | [], _ => ⟨by simp [PyData.showableAll], by simp [PyData.hasDictAll], by simp [PyData.depthAll], by simp [PyData.shownAll, piled]⟩
  | d :: ds, h => by
    obtain ⟨a, b, c, e⟩ := h d List.mem_cons_self
    obtain ⟨a2, b2, c2, e2⟩ := OkD.all (ds := ds) fun x hx => h x (List.mem_cons_of_mem _ hx)
    refine ⟨by simp [PyData.showableAll, a, a2], by simp [PyData.hasDictAll, b, b2], ?_, ?_⟩
    · simp only [PyData.depthAll]
      omega
    · simp only [PyData.shownAll]
      rw [piled_cons, List.length_cons, Nat.succ_mul]
      omega
theorem OkD.tup {m k n : Nat} {ds : List PyData} (h : ∀ d ∈ ds, OkD m k d) (hn : ds.length ≤ n) : OkD (m + 1) (n * (k + 2) + 2) (.tuple ds) := by
  obtain ⟨a, b, c, e⟩ := OkD.all h
  refine ⟨by simp only [PyData.showable]; exact a, by simp only [PyData.hasDict]; exact b, by simp only [PyData.depth]; omega, ?_⟩
  simp only [PyData.shown]
  have := fmt_text (PyData.shownAll ds)
  have := Nat.mul_le_mul_right (k + 2) hn
  omega
theorem okD_row {n : Nat} {r : List Int} (h : ∀ i ∈ r, 0 ≤ i ∧ i < 256) (hn : r.length ≤ n) : OkD 1 (n * 11 + 2) (dI r) := by
  refine OkD.tup (m := 0) (k := 9) (fun d hd => ?_) (by rw [List.length_map]; exact hn)
  obtain ⟨i, hi, rfl⟩ := List.mem_map.mp hd
  exact .int (h i hi).1 (h i hi).2
theorem okD_rows {n l : Nat} {rs : List (List Int)} (h : ∀ r ∈ rs, r.length ≤ l ∧ ∀ i ∈ r, 0 ≤ i ∧ i < 256) (hn : rs.length ≤ n) : OkD 2 (n * (l * 11 + 4) + 2) (dG rs) := by
  refine OkD.tup (m := 1) (k := l * 11 + 2) (fun d hd => ?_) (by rw [List.length_map]; exact hn)
  obtain ⟨r, hr, rfl⟩ := List.mem_map.mp hd
  exact okD_row (h r hr).2 (h r hr).1
/-- a tuple of groups of rows -/
def dGs (gs : List (List Row)) : PyData := .tuple (gs.map dG)
theorem okD_grps {n g l : Nat} {gs : List (List Row)} (h : ∀ rs ∈ gs, rs.length ≤ g ∧ ∀ r ∈ rs, r.length ≤ l ∧ ∀ i ∈ r, 0 ≤ i ∧ i < 256) (hn : gs.length ≤ n) : OkD 3 (n * (g * (l * 11 + 4) + 4) + 2) (dGs gs) := by
  refine OkD.tup (m := 2) (k := g * (l * 11 + 4) + 2) (fun d hd => ?_) (by rw [List.length_map]; exact hn)
  obtain ⟨r, hr, rfl⟩ := List.mem_map.mp hd
  exact okD_rows (h r hr).2 (h r hr).1
def rRepr (K : PySem.W.Frag) : List V → Hp → VK → Prop := fun xs H Q => (∃ b, xs = [.bl b] ∧ Q (.str (PyData.bool b).shown) H) ∨
  ∃ a ds, xs = [.ref a] ∧ Dp K H (.ref a) (.tuple ds) ∧ OkD 10 1000000 (.tuple ds) ∧ Q (.str (PyData.tuple ds).shown) H
theorem cr_repr {X : Cx} (hg : X.A.guards = some []) (hu : X.A.units + 20 < cLine) : CallR X (.builtin "repr") (rRepr X.K) := by
  intro pins s σ H xs us Q I r h
  rcases h with ⟨b, rfl, q⟩ | ⟨a, ds, rfl, hd, ok, q⟩
  · obtain ⟨u, rfl, rfl⟩ := vals1 r
    have e : (PyData.bool b).shown = (if b then "True" else "False" : Str) := by simp only [PyData.shown]
    rw [e] at q
    exact PySem.P.repr_of_bool ⟨.str _, H, I.tok _, ⟨_, by cases b <;> rfl⟩, q⟩
  · obtain ⟨u, rfl, rfl⟩ := vals1 r
    obtain ⟨as, r1⟩ := Dp.reads I _ _ _ hd rfl
    exact repr_of_reads' r1 ok.sh (PyData.noDict_hsm ok.nd) hg (by have := ok.dp; omega) (fun _ _ e => e) (fun h' u tk hk => ⟨.str _, H, I.kept hk, ⟨_, rfl⟩, q⟩) (by have := ok.ln; rw [sizeLine_eq]; omega)
theorem b_repr {X : Cx} {e : Expr} {te : TE} {p pos : Pos} (B : Bt X.mg) (hgd : X.A.guards = some []) (hu : X.A.units + 20 < cLine) (ha : PE X e te) (hg : Gl X "repr" := by rfl) (hs : starEach [e] X.env = (false, eval e X.env) :: starEach [] X.env := by rfl) :
    PE X (.Call (.Name "repr" p) [e] [] pos) (tCB (rRepr X.K) (tCons te tNil)) :=
  pe_callB (cr_repr hgd hu) hg B.repr (by decide +kernel) (pa_cons ha pa_nil hs) (he := hs)
/-! ### what lies in the heap, as data -/
theorem dp_tup {K : PySem.W.Frag} {H : Hp} {a : Addr} {ps : List (Addr × List Int)} (ha : H a = some (.tup (rV ps))) (h : RwL H ps) : Dp K H (.ref a) (dG (rR ps)) := .tup (SqT.of ha) (dp_rows h)
theorem dp_grps {K : PySem.W.Frag} {H : Hp} : ∀ {gs : List Grp}, GrL H gs → DpAll K H (gV gs) ((gR gs).map dG)
  | [], _ => .nil
  | g :: gs, h => .cons (dp_tup (h g List.mem_cons_self).1 (h g List.mem_cons_self).2) (dp_grps fun q hq => h q (List.mem_cons_of_mem _ hq))
theorem dp_gs {K : PySem.W.Frag} {H : Hp} {a : Addr} {gs : List Grp} (ha : H a = some (.tup (gV gs))) (h : GrL H gs) : Dp K H (.ref a) (dGs (gR gs)) := .tup (SqT.of ha) (dp_grps h)
end K13
/-! K13RuleE -/
set_option autoImplicit true
set_option Elab.async false
set_option linter.all false
set_option maxRecDepth 100000
set_option maxHeartbeats 4000000
set_option pp.maxSteps 600
/-! {k: v for ..} whose keys are tuples of ints: first the loop in its block (dcT_loop), then the block in its def (pe_dcT) -/
namespace K13
open PySem PySem.Spec PyProof.Rows L2
theorem setT {X : Cx} {pins : List (Addr × Obj)} {σ : L2.St} {H : Hp} {s : Shared} {E : Value → Shared → Prop} {D b : Addr} {kvs : List (List L2.Key × V)} {k : List L2.Key} {v : V} {r : Value} {Q : Unit → Shared → Prop} {n : Nat} (hr : Room n X.A) (I : Inv X pins σ H s) (hD : H D = some (.dT kvs)) (hz : kvs.length < sizeLine)
    (eb : H b = some (.tup (k.map kV))) (rv : L2.RelV v r) (h : ∀ s', Inv X pins σ (upd H D (.dT (putK kvs k v))) s' → Q () s') : wpAny (model X.prog X.w) X.A (dictSet D (.ref b) r) Q E s := by
  obtain ⟨few, own, xs, rel, dict⟩ := dt_of I.hok hD
  have := length_putK kvs k v
  have room := hr.un
  have len := Paired.length rel
  refine wpAny_dictSet_heap (hsz := (by omega : xs.length ≤ sizeLine)) (show X.A.units < cLine by omega) (key_of I.hok eb) dict fun h' dict' same => h _ ?_
  obtain ⟨o, es, ep, at_D, ex, dat, ents, _, led⟩ := dict'
  refine d_write I (by rw [hD]; exact True.intro) same ⟨o, at_D⟩ ⟨by omega, own, _, (rel.put k eb rv).keeps fun c ys at_c => ?_, o, es, ep, at_D, ex, dat, ents, led⟩
  exact (upd_ne (ne_of at_c hD nofun)).trans at_c
section
variable {X : Cx}
/-- one look at the iterator: it has ended, or one more pair is set -/
abbrev DcTurn (J : It) (g : TG) (tt : TT) (tk tv : TE) (vs : List Nat) (σ : L2.St) (Q : VK) (D : Addr) (W : Nat → Nat → Hp → Prop) : Prop := ∀ i m H, W i m H →
  (J.stop i H ∧ Q (.ref D) H) ∨ (J.go i H ∧ ∃ Nx : Hp → Prop, (∀ H', Nx H' → ∃ m', m' < m ∧ W (i + 1) m' H') ∧ ∀ x H', J.yld i H x H' → g x (wipe σ vs) H' fun σ2 H2 => wipe σ2 vs = wipe σ vs ∧ tt σ2 H2 fun b H3 =>
    if b = true then tk σ2 H3 fun y H4 => tv σ2 H4 fun z H5 => ∃ kvs k kb, y = .ref kb ∧ H5 kb = some (.tup (k.map kV)) ∧ H5 D = some (.dT kvs) ∧ kvs.length < sizeLine ∧ Nx (upd H5 D (.dT (putK kvs k z))) else Nx H3)
def tDcT (wi : TI) (g : TG) (tt : TT) (tk tv : TE) (vs : List Nat) : TE := fun σ H Q => wi σ H fun J H1 => ∀ D, H1 D = none → ∃ W : Nat → Nat → Hp → Prop, (∃ m, W 0 m (upd H1 D (.dT []))) ∧ DcTurn J g tt tk tv vs σ Q D W
/-- p in every block of X -/
abbrev AllBlk (X : Cx) (scope : Scope) (p : Cx → Prop) : Prop := ∀ (s : Shared) (H : Hp) (C : Addr) (cl : List (Str × Addr)) (fp : List Addr), p (X.blk s H scope (compEnvC scope cl C X.env) fp)
section
variable {pins : List (Addr × Obj)} {σ : L2.St} {H : Hp} {s : Shared} {scope : Scope} {ce : Env} {fp : List Addr} {J : It} {tg : Expr} {it : Addr} {tn : Nat → Heap → Prop} {vs : List Nat}
theorem own_in {σ' : L2.St} {H' : Hp} {s' : Shared} (I : Inv (X.blk s H scope ce fp) [] σ' H' s') (no : ∀ b ∈ fp, H' b = none) : ∀ b ∈ fp, FpOk (X.blk s H scope ce fp) [] H' b := fun b m =>
  ⟨no b m, (I.ok.exf b m).1, I.ok.exfs b m, .inl m, (I.ok.exf b m).2, fun p q => by cases q⟩
/-- the loop stands before its i-th look -/
def InLoop (X : Cx) (s : Shared) (H : Hp) (scope : Scope) (ce : Env) (fp : List Addr) (vs : List Nat) (σ : L2.St) (tn : Nat → Heap → Prop) (W : Nat → Nat → Hp → Prop) (n : Nat) (s' : Shared) : Prop :=
  ∃ i H', Inv (X.blk s H scope ce fp) [] (wipe σ vs) H' s' ∧ tn i s'.heap ∧ (∀ b ∈ fp, H' b = none) ∧ W i n H'
/-- a turn's end: the iterator's records were held fast -/
theorem turn_over {i : Nat} {s7 s' : Shared} {H' : Hp} {σ8 : L2.St} (T : Turn X.prog X.w X.K tg J fp it tn) (st : tn i s7.heap) (I' : Inv (X.blk s H scope ce fp) ([] ++ pinsAt fp s7.heap) σ8 H' s') (same : wipe σ8 vs = wipe σ vs) :
    Inv (X.blk s H scope ce fp) [] (wipe σ vs) H' s' ∧ tn i s'.heap ∧ ∀ b ∈ fp, H' b = none := by
  have held := fun b (m : b ∈ fp) o e => I'.pin (b, o) (List.mem_append_right _ (List.mem_append_right _ (mem_pinsAt m e)))
  refine ⟨I'.unpinned.weak (same ▸ wipe_length σ8 vs) fun j v e => ?_, T.keep _ _ _ st fun b m o e => (held b m o e).1, fun b m => ?_⟩
  · rw [← same] at e
    exact (wipe_some e).1
  · exact (T.obj _ _ st b m).elim fun o z => (held b m o z.1).2.1
theorem dcT_loop {D : Addr} {W : Nat → Nat → Hp → Prop} {g : TG} {tt : TT} {tk tv : TE} {Q : VK} {use : Option (Value → Sem Unit)} {Qf : Value → Shared → Prop} {kx vx iter : Expr} {ifs : List Expr} {pos : Pos} {nr m0 : Nat} {s4 : Shared}
    (hr : Room nr X.A) (hc : X.calm = true) (I : Inv X pins σ H s) (loc : ce.locals = s.heap.objs.size) (mine : ∀ b ∈ fp, FpOk X pins H b) (T : Turn X.prog X.w X.K tg J fp it tn)
    (pg : PG (X.blk s H scope ce fp) tg g) (pt : PTs (X.blk s H scope ce fp) ifs tt) (pk : PE (X.blk s H scope ce fp) kx tk) (pv : PE (X.blk s H scope ce fp) vx tv) (turn : DcTurn J g tt tk tv vs σ Q D W)
    (out : ∀ C s' m H', Inv X pins σ H' s' → Q (.ref D) H' → s'.heap.Ns C m → FpOk X pins H' C → compPost (model X.prog X.w) X.A X.xe use Qf (.ref D) C (.ok .next) s') (start : InLoop X s H scope ce fp vs σ tn W m0 s4) :
    codeAny (model X.prog X.w) X.A (.compLoop (.DictComp kx vx [⟨tg, iter, ifs, 0⟩] scope pos) 0 (.ref it) (.ref D) ce) (compPost (model X.prog X.w) X.A X.xe use Qf (.ref D) s.heap.objs.size) s4 := by
  refine compLoop_anyD (InLoop X s H scope ce fp vs σ tn W) (fun n s5 at_n => ?_) m0 start
  obtain ⟨i, H5, I5, st, no, w⟩ := at_n
  obtain ⟨stop, q⟩ | ⟨go, Nx, next, step⟩ := turn i n H5 w
  · refine thnF (T.done (X.blk s H scope ce fp) rfl rfl rfl hc i [] s5 _ H5 _ I5 (own_in I5 no) st stop) ?_
    rintro _ s6 ⟨rfl, I6⟩
    obtain ⟨m, ns, _⟩ := I6.loc
    have free : H5 ce.locals = none := I6.free
    have ns : s6.heap.Ns ce.locals m := ns
    rw [loc] at free ns
    have home := I.call' (ch := fp) I6.os I6.base I6.hok I6.bare fun b mb => (mine b mb).2.elim fun z1 z2 => ⟨z2.2.1, z1, z2.2.2⟩
    exact out _ s6 m H5 home q ns (I.fpOk (Nat.le_refl _) free)
  · refine thnF (T.item (X.blk s H scope ce fp) rfl rfl rfl hc i [] s5 _ H5 _ I5 (own_in I5 no) st go) ?_
    rintro _ s6 ⟨u, rfl, taken⟩
    refine thnF taken ?_
    rintro _ s7 ⟨x, H7, I7, rx, y, st7, no7⟩
    refine thnF (pg.run _ s7 _ H7 x u _ (I7.pinned (own_in I7 no7) (T.obj _ _ st7)) rx (step x H7 y)) ?_
    rintro _ s8 ⟨σ8, H8, I8, same, test⟩
    have again : ∀ (s' : Shared) (H' : Hp), Inv (X.blk s H scope ce fp) ([] ++ pinsAt fp s7.heap) σ8 H' s' → Nx H' → ∃ m, m < n ∧ InLoop X s H scope ce fp vs σ tn W m s' := fun s' H' I' nx => by
      obtain ⟨m, lt, w'⟩ := next H' nx
      obtain ⟨I1, st1, no1⟩ := turn_over T st7 I' same
      exact ⟨m, lt, i + 1, H', I1, st1, no1, w'⟩
    refine thnF (pt.run _ s8 σ8 H8 _ I8 test) ?_
    rintro (_ | _) s9 ⟨H9, I9, q9⟩
    · exact again s9 H9 I9 q9
    · refine thnF (pk.run _ s9 σ8 H9 _ I9 q9) ?_
      rintro _ s10 ⟨_, H10, I10, key, q10⟩
      refine thnF (pv.run _ s10 σ8 H10 _ I10 q10) ?_
      rintro _ s11 ⟨_, H11, I11, val, kvs, k, kb, rfl, at_k, at_D, few, nx⟩
      cases key
      exact setT (X := X.blk s H scope ce fp) (n := nr) hr I11 at_D few at_k val fun s12 I12 => again s12 _ I12 nx
end
theorem pe_dcT {kx vx tg iter : Expr} {ifs : List Expr} {scope : Scope} {own : List (Str × Nat)} {pos : Pos} {wi : TI} {g : TG} {tt : TT} {tk tv : TE} {nr : Nat} (hr : Room nr X.A) (hc : X.calm = true) (hN : X.N.Nodup) (hi : PI X tg iter wi) (ok : BlkOk X.N X.env.scope scope own)
    (hg : AllBlk X scope fun Y => PG Y tg g) (ht : AllBlk X scope fun Y => PTs Y ifs tt)
    (hk : AllBlk X scope fun Y => PE Y kx tk)
    (he : AllBlk X scope fun Y => PE Y vx tv) (hs : ∀ x, foldedSetIterable iter X.env x = pure x := by intro _; rfl) :
    PE X (.DictComp kx vx [⟨tg, iter, ifs, 0⟩] scope pos) (tDcT wi g tt tk tv (own.map (·.2))) := by
  refine ⟨fun pins s σ H Q I h => arm_eval_DictComp .. ▸ ?_⟩
  have seen : ∀ y ∈ scope.names, y.2 = .free → ∃ c, X.env.cells.lookup y.1 = some c := fun y m e => I.ok.has _ (ok.free y m e)
  refine wpAny_comprehension_free rfl hs (closure_ok seen) ok.kind (fun y m e => e ▸ ok.uniq y m) (thn (hi.run pins s σ H _ I h) fun v s1 q1 => thn q1 ?_)
  rintro _ s2 ⟨it, fp, tn, J, H2, rfl, I2, T, st, mine, q⟩
  refine wpAny_newObj_type (newEnv_comp ?_)
  obtain ⟨W, ⟨m0, w0⟩, turn⟩ := q _ (I2.hok.fresh (Nat.le_refl s2.heap.objs.size))
  have I3 := I2.laid (t' := s2.toks) (fun b o e => Heap.get?_push_of_some _ e) (Nat.le_refl _) (dt_empty s2.heap I2.big)
  have small : ∀ b ∈ fp, b < s2.heap.objs.size := fun b m => (T.obj _ _ st b m).elim fun o z => Heap.lt_size z.1
  generalize hs3 : ({ s2 with heap := s2.heap.push { cls := .type "dict", data := .dict #[] } } : Shared) = s3 at I3
  have up : s3.heap = s2.heap.push { cls := .type "dict", data := .dict #[] } := by rw [← hs3]
  have mine3 : ∀ b ∈ fp, FpOk X pins (upd H2 s2.heap.objs.size (.dT [])) b ∧ b < s3.heap.objs.size := fun b m =>
    ⟨⟨(upd_ne (Nat.ne_of_lt (small b m))).trans (mine b m).1, (mine b m).2⟩, by rw [up, Heap.size_push]; exact Nat.lt_succ_of_lt (small b m)⟩
  have I4 := block_start I3 ok hN mine3
  have st3 : tn 0 s3.heap := T.keep _ _ _ st fun b _ o e => up ▸ Heap.get?_push_of_some _ e
  have st4 : tn 0 (pushCells (s3.heap.push { cls := .type "dict", data := .dict #[] }) scope.names) := T.keep _ _ _ st3 fun b _ o e => pushCells_keeps _ _ _ _ (Heap.get?_push_of_some _ e)
  have loop := dcT_loop (use := none) (Qf := EP X pins σ Q) (kx := kx) (vx := vx) (iter := iter) (pos := pos) hr hc I3 rfl (fun b m => (mine3 b m).1) T (hg ..) (ht ..) (hk ..) (he ..) turn
    (fun C s' m H' I' q ns f => (⟨m, ns, fun h sb => ⟨.ref _, H', I'.turned (t' := s'.toks) (fun b o nb e => (sb.2 b nb).trans e) f.1 f.2.1 f.2.2.2.1 f.2.2.2.2.1 f.2.2.2.2.2, rfl, q⟩⟩)) ⟨0, _, I4, st4, fun b m => (mine3 b m).1.1, w0⟩
  subst hs3
  exact codeAny_compStart_dict loop (T.self X.A 0 _ _ _ st4 loop)
end
end K13
/-! K13S0 -/
set_option autoImplicit true
set_option Elab.async false
set_option linter.all false
set_option maxRecDepth 100000
set_option maxHeartbeats 4000000
set_option pp.maxSteps 600
namespace K13
open PySem PySem.Spec PyProof.Rows L2
theorem code_bd {B : Int} (hB : 0 < B) : ∀ {x : List Int}, TS.Bd B x → 0 ≤ TS.code B x ∧ TS.code B x < B ^ x.length
  | [], _ => by simp [TS.code]
  | a :: x, h => by
    obtain ⟨h1, h2⟩ := code_bd hB h.tail
    obtain ⟨a0, a1⟩ := h.head
    have hp : 0 < B ^ x.length := Int.pow_pos hB
    have e : B ^ (a :: x).length = B * B ^ x.length := by rw [List.length_cons, Int.pow_succ, Int.mul_comm]
    rw [e]
    unfold TS.code
    have m1 : a * B ^ x.length ≤ (B - 1) * B ^ x.length := Int.mul_le_mul_of_nonneg_right (by omega) (Int.le_of_lt hp)
    have m2 : 0 ≤ a * B ^ x.length := Int.mul_nonneg a0 (Int.le_of_lt hp)
    rw [Int.sub_mul, Int.one_mul] at m1
    omega
theorem code_lex2 {B : Int} (hB : 0 < B) : ∀ {x y : List Int}, x.length = y.length → TS.Bd B x → TS.Bd B y → TS.code B x ≤ TS.code B y → x ≤ y
  | [], [], _, _, _, _ => List.le_refl _
  | [], _ :: _, h, _, _, _ => by simp at h
  | _ :: _, [], h, _, _, _ => by simp at h
  | a :: x, b :: y, hl, hx, hy, hc => by
    have hl2 : x.length = y.length := by simpa using hl
    have hp : 0 < B ^ x.length := Int.pow_pos hB
    obtain ⟨x0, x1⟩ := code_bd hB hx.tail
    obtain ⟨y0, y1⟩ := code_bd hB hy.tail
    unfold TS.code at hc
    rw [← hl2] at hc y1
    rw [List.cons_le_cons_iff]
    rcases Int.lt_trichotomy a b with h | h | h
    · exact .inl h
    · subst h
      exact .inr ⟨rfl, code_lex2 hB hl2 hx.tail hy.tail (by omega)⟩
    · exfalso
      have m1 : (b + 1) * B ^ x.length ≤ a * B ^ x.length := Int.mul_le_mul_of_nonneg_right (by omega) (Int.le_of_lt hp)
      rw [Int.add_mul, Int.one_mul] at m1
      omega
end K13
/-! K13L1 -/
set_option autoImplicit true
set_option Elab.async false
set_option linter.all false
set_option maxRecDepth 100000
set_option maxHeartbeats 2000000
namespace K13
open PySem PySem.Spec PyProof.Rows L2
/-! ### the law's draws -/
def DX (d l : Addr) (xs : List Int) (b : Int) (H : Hp) : Prop := H d = some (.lst [.ref l, .int b]) ∧ H l = some (.lst (iV xs)) ∧ (∀ x ∈ xs, 0 ≤ x) ∧ xs.length ≤ 48 ∧ 0 ≤ b ∧ b < 2147483647
theorem DX.dl {d l : Addr} {xs : List Int} {b : Int} {H : Hp} (h : DX d l xs b H) : Dl d l H := ⟨xs, b, h⟩
theorem DX.ne {d l : Addr} {xs : List Int} {b : Int} {H : Hp} (h : DX d l xs b H) : d ≠ l := fun e => by
  have h1 := h.1
  have h2 := h.2.1
  rw [e, h2] at h1
  cases xs with
  | nil => simp [iV] at h1
  | cons x xs => simp [iV] at h1
theorem DX.new {d l p : Addr} {o : HO} {xs : List Int} {b : Int} {H : Hp} (h : DX d l xs b H) (hp : H p = none) : DX d l xs b (upd H p o) := by
  obtain ⟨h1, h2, h3⟩ := h
  exact ⟨by rw [upd_ne (ne_of_none h1 hp)]; exact h1, by rw [upd_ne (ne_of_none h2 hp)]; exact h2, h3⟩
theorem DX.setL {d l : Addr} {xs ys : List Int} {b : Int} {H : Hp} (h : DX d l xs b H) (h1 : ∀ x ∈ ys, 0 ≤ x) (h2 : ys.length ≤ 48) : DX d l ys b (upd H l (.lst (iV ys))) :=
  ⟨by rw [upd_ne h.ne]; exact h.1, upd_same, h1, h2, h.2.2.2.2⟩
theorem DX.setB {d l : Addr} {xs : List Int} {b c : Int} {H : Hp} (h : DX d l xs b H) (h1 : 0 ≤ c) (h2 : c < 2147483647) : DX d l xs c (upd H d (.lst [.ref l, .int c])) :=
  ⟨upd_same, by rw [upd_ne (fun e => h.ne e.symm)]; exact h.2.1, h.2.2.1, h.2.2.2.1, h1, h2⟩
theorem DX.frL {d l : Addr} {xs : List Int} {b : Int} {H : Hp} {o : HO} (h : DX d l xs b H) : Fr [d, l] H (upd H l o) := .set (by simp) h.2.1 fun _ z => nomatch z
theorem DX.frD {d l : Addr} {xs : List Int} {b : Int} {H : Hp} {o : HO} (h : DX d l xs b H) : Fr [d, l] H (upd H d o) := .set (by simp) h.1 fun _ z => nomatch z
theorem iV_last {xs : List Int} (h : xs ≠ []) : ∃ ys y, xs = ys ++ [y] := ⟨xs.dropLast, xs.getLast h, (List.dropLast_concat_getLast h).symm⟩
theorem iV_snoc {ys : List Int} {y : Int} : iV (ys ++ [y]) = iV ys ++ [.int y] := by simp [iV]
theorem lastV {ys : List Int} {y : Int} : (iV (ys ++ [y]))[(iV (ys ++ [y])).length - 1]? = some (.int y) := by
  rw [iV_snoc]
  simp
section
variable {P : Program} {w : World} {K : PySem.W.Frag} {mg : Str → Option Value} {base : Heap} {f : Addr} {fd : FuncData}
def spAny : Sp := fun vs H Q _ => ∃ d l n, vs = [.ref d, .int n] ∧ Dl d l H ∧ 1 ≤ n ∧ n < 2 ^ 30 ∧ ∀ r H', 0 ≤ r → r < n → Dl d l H' → Fr [d, l] H H' → Q (.int r) H'
theorem cal_l_any (B : Bt mg) (F : FnP K "_law_any" s_l_any f fd) (hm : mg "_law_any" = some (.ref f)) : Cal P w K mg base 1 "_law_any" spAny := by
  refine cal0 F hm sc_l_any (fun _ _ _ _ _ _ us hl => match us, hl with | [_, _], _ => rfl) (fun vs H Q E h => ?_) (fun cdv A outer s H vs Q E hr h => ?_)
  · obtain ⟨d, l, n, rfl, _⟩ := h
    rfl
  · obtain ⟨d, l, n, rfl, ⟨xs0, b0, hx0⟩, hn, hn2, q⟩ := h
    have hx0 : DX d l xs0 b0 H := hx0
    have nd := sc_l_any.nd
    refine ⟨_, C8.pss_cut (ps_while PassesOwn.never
        (PW.pt (pw_and (pt_cmpR (op_neNil hr) (pe_ix ix_list (pv 0) pe_int (fun _ _ => rfl)) (pe_lst pa_nil) (nomark _)) (pw_and1 (pt_cmpR op_eq (pe_ix ix_list (pe_ix ix_list (pv 0) pe_int (fun _ _ => rfl)) (pe_un un_neg pe_int) (fun _ _ => rfl)) pe_int (nomark _)))))
        (pss_one (ps_expr (pe_bm0 PySem.F.plainAttrs_list PySem.F.slot_list_pop PySem.F.type_list_pop mt_pop (pe_ix ix_list (pv 0) pe_int (fun _ _ => rfl))))))
      (pss_cons (ps_if (pt_cmpR (op_neNil hr) (pe_ix ix_list (pv 0) pe_int (fun _ _ => rfl)) (pe_lst pa_nil) (nomark _))
        (pss_cons (ps_set (i := 2) nd rfl (Or.inl rfl) (b_int B (pe_bm0 PySem.F.plainAttrs_list PySem.F.slot_list_pop PySem.F.type_list_pop mt_pop (pe_ix ix_list (pv 0) pe_int (fun _ _ => rfl)))))
        (pss_cons (ps_expr (pe_bm PySem.F.plainAttrs_list PySem.F.slot_list_append PySem.F.type_list_append mt_append (pe_ix ix_list (pv 0) pe_int (fun _ _ => rfl)) (pa_cons (pe_op op_fdivW (pv 2) (pv 1)) pa_nil)))
        (pss_one (ps_ret (pe_op op_mod (pv 2) (pv 1)))))) pss_nil)
      (pss_cons (ps_asg (b_int B (pe_op op_add (pe_op op_mul (pe_ix ix_list (pv 0) pe_int (fun _ _ => rfl)) pe_int) pe_int) |> fun h => pe_op op_mod h pe_int) (pg_sub (pv 0) pe_int set_list))
      (pss_one (ps_ret (pe_op op_mod (b_int B (pe_op op_fdivW (pe_ix ix_list (pv 0) pe_int (fun _ _ => rfl)) pe_int)) (pv 1)))))), ?_⟩
    have ix0 : ∀ {c : Int}, atI [V.ref l, V.int c] (0 : Int) = some (.ref l) := fun {c} => atI_nat (j := 0) rfl
    have ix1 : ∀ {c : Int}, atI [V.ref l, V.int c] (1 : Int) = some (.int c) := fun {c} => atI_nat (j := 1) rfl
    refine ⟨fun σ H1 => σ = [some (.ref d), some (.int n), none] ∧ ∃ xs b, DX d l xs b H1 ∧ Fr [d, l] H H1, ?_, ?_⟩
    · refine ⟨fun m σ H1 => σ = [some (.ref d), some (.int n), none] ∧ ∃ xs b, m = xs.length ∧ DX d l xs b H1 ∧ Fr [d, l] H H1, ⟨xs0.length, rfl, xs0, b0, rfl, hx0, .refl⟩, ?_⟩
      rintro m σ H1 ⟨rfl, xs, b, rfl, hx, fr⟩
      refine ⟨_, rfl, d, _, _, _, rfl, rfl, SqL.of hx.1, ix0, Nat.zero_le _, fun p hp => ?_⟩
      have hx1 : DX d l xs b (upd H1 p (.lst [])) := hx.new hp
      have fr1 : Fr [d, l] H (upd H1 p (.lst [])) := fr.trans (.new hp)
      refine ⟨l, p, _, rfl, rfl, hx1.2.1, upd_same, _, rfl, ?_⟩
      by_cases hxs : xs = []
      · subst hxs
        exact ⟨rfl, _, _, hx1, fr1⟩
      · obtain ⟨ys, y, rfl⟩ := iV_last hxs
        have e1 : (!(iV (ys ++ [y])).isEmpty) = true := by rw [iV_snoc]; simp
        rw [if_pos rfl, e1]
        refine iteT ?_
        refine ⟨_, rfl, d, _, _, _, rfl, rfl, SqL.of hx1.1, ix0, _, rfl, l, _, _, _, rfl, rfl, SqL.of hx1.2.1, by rw [iV_snoc]; exact atI_last _ _, rfl, _, rfl, ?_⟩
        by_cases hy : y = 0
        · subst hy
          refine iteT ⟨fun σ' H' => σ' = [some (.ref d), some (.int n), none] ∧ ∃ b, DX d l ys b H' ∧ Fr [d, l] H H', fun σ' H' ⟨e, b, h1, h2⟩ => ⟨ys.length, by simp, e, ys, b, rfl, h1, h2⟩, ?_⟩
          refine ⟨_, rfl, d, _, _, _, rfl, rfl, SqL.of hx1.1, ix0, .inl ⟨rfl, _, SqL.of hx1.2.1⟩, l, _, _, rfl, rfl, hx1.2.1, lastV, ?_⟩
          refine ⟨rfl, b, ?_, fr1.trans hx1.frL⟩
          have e2 : (iV (ys ++ [0])).dropLast = iV ys := by rw [iV_snoc]; simp
          rw [e2]
          exact hx1.setL (fun x hx => hx1.2.2.1 x (by simp [hx])) (by have := hx1.2.2.2.1; simp at this; omega)
        · have e2 : decide (V.int y = V.int 0) = false := decide_eq_false fun z => hy (V.int.inj z)
          rw [e2]
          exact ⟨rfl, _, _, hx1, fr1⟩
    · rintro σ H1 ⟨rfl, xs, b, hx, fr⟩
      refine ⟨_, rfl, d, _, _, _, rfl, rfl, SqL.of hx.1, ix0, Nat.zero_le _, fun p hp => ?_⟩
      have hx1 : DX d l xs b (upd H1 p (.lst [])) := hx.new hp
      have fr1 : Fr [d, l] H (upd H1 p (.lst [])) := fr.trans (.new hp)
      refine ⟨l, p, _, rfl, rfl, hx1.2.1, upd_same, _, rfl, ?_⟩
      by_cases hxs : xs = []
      · subst hxs
        refine iteF ?_
        have hb1 := hx1.2.2.2.2.1
        have hb2 := hx1.2.2.2.2.2
        have hm0 : 0 ≤ (b * 40693 + 71) % 2147483647 := Int.emod_nonneg _ (by decide)
        have hm1 : (b * 40693 + 71) % 2147483647 < 2147483647 := Int.emod_lt_of_pos _ (by decide)
        refine ⟨_, rfl, d, _, _, _, rfl, rfl, SqL.of hx1.1, ix1, _, _, rfl, rfl, .inr ⟨by decide, by decide⟩, _, _, rfl, rfl, .inl ⟨_, rfl, _, _, rfl, rfl, (by show (0 : Int) < 2147483647; decide), ?_⟩⟩
        refine ⟨_, rfl, d, _, 1, 1, rfl, rfl, hx1.1, rfl, ?_⟩
        have hx2 := hx1.setB hm0 hm1
        refine ⟨_, rfl, d, _, _, _, rfl, rfl, SqL.of hx2.1, ix1, _, _, rfl, rfl, ⟨by decide, by decide⟩, .inl ⟨_, rfl, _, rfl, _, _, rfl, rfl, (by omega), ?_⟩⟩
        exact q _ _ (Int.emod_nonneg _ (by omega)) (Int.emod_lt_of_pos _ (by omega)) hx2.dl (fr1.trans hx1.frD)
      · obtain ⟨ys, y, rfl⟩ := iV_last hxs
        have e1 : (!(iV (ys ++ [y])).isEmpty) = true := by rw [iV_snoc]; simp
        rw [if_pos rfl, e1]
        refine iteT ?_
        have hy0 : 0 ≤ y := hx1.2.2.1 y (by simp)
        have h48 := hx1.2.2.2.1
        refine ⟨_, rfl, d, _, _, _, rfl, rfl, SqL.of hx1.1, ix0, .inl ⟨rfl, _, SqL.of hx1.2.1⟩, l, _, _, rfl, rfl, hx1.2.1, lastV, .inl ⟨y, rfl, ?_⟩⟩
        have e2 : (iV (ys ++ [y])).dropLast = iV ys := by rw [iV_snoc]; simp
        rw [e2]
        have hx2 : DX d l ys b (upd (upd H1 p (.lst [])) l (.lst (iV ys))) := hx1.setL (fun x hx => hx1.2.2.1 x (by simp [hx])) (by simp at h48; omega)
        refine ⟨_, rfl, d, _, _, _, rfl, rfl, SqL.of hx2.1, ix0, .inl ⟨rfl, _, SqL.of hx2.2.1⟩, _, rfl, _, rfl, _, _, rfl, rfl, wide_div (b := 30) (by omega) (by omega) (by decide) (by decide), l, _, _, rfl, rfl, hx2.2.1, ?_, ?_⟩
        · rw [iV_len]
          have := hx2.2.2.2.1
          exact Nat.lt_of_le_of_lt this (by decide)
        · rw [show iV ys ++ [V.int (y / n)] = iV (ys ++ [y / n]) by simp [iV]]
          have hx3 := hx2.setL (ys := ys ++ [y / n]) (fun x hx => by
            rcases List.mem_append.mp hx with h | h
            · exact hx2.2.2.1 x h
            · obtain rfl : x = y / n := by simpa using h
              exact Int.ediv_nonneg hy0 (by omega)) (by simp at h48 ⊢; omega)
          refine ⟨_, rfl, _, rfl, _, _, rfl, rfl, (by omega), ?_⟩
          exact q _ _ (Int.emod_nonneg _ (by omega)) (Int.emod_lt_of_pos _ (by omega)) hx3.dl ((fr1.trans hx1.frL).trans hx2.frL)
end
end K13
/-! K13L2 -/
set_option autoImplicit true
set_option Elab.async false
set_option linter.all false
set_option maxRecDepth 100000
set_option maxHeartbeats 2000000
namespace K13
open PySem PySem.Spec PyProof.Rows L2
theorem Dl.ne {d l u : Addr} {H : Hp} (h : Dl d l H) (hu : H u = none) : u ∉ [d, l] := fun q => by
  obtain ⟨xs, b, h1, h2, _⟩ := h
  rcases List.mem_cons.mp q with e | q
  · rw [e, h1] at hu
    cases hu
  · rw [List.mem_singleton.mp q, h2] at hu
    cases hu
theorem Dl.new {d l p : Addr} {o : HO} {H : Hp} (h : Dl d l H) (hp : H p = none) : Dl d l (upd H p o) := h.same (.new hp)
theorem perm_erase {α : Type} : ∀ (l : List α) (n : Nat) (h : n < l.length), (l[n] :: l.eraseIdx n).Perm l
  | [], n, h => absurd h (by simp)
  | a :: l, 0, _ => .refl _
  | a :: l, n + 1, h => by
    have ih := perm_erase l n (by simpa using h)
    exact (List.Perm.swap a _ _).trans (ih.cons a)
theorem Dl.upd {d l u : Addr} {o : HO} {H : Hp} (h : Dl d l H) (n : u ∉ [d, l]) : Dl d l (upd H u o) := by
  obtain ⟨xs, b, h1, h2, h3⟩ := h
  exact ⟨xs, b, by rw [upd_ne (fun e => n (by rw [← e]; simp))]; exact h1, by rw [upd_ne (fun e => n (by rw [← e]; simp))]; exact h2, h3⟩
theorem Fr.dl {d l : Addr} {H H' : Hp} (f : Fr [] H H') : Fr [d, l] H H' := f.wider fun _ q => nomatch q
section
variable {P : Program} {w : World} {K : PySem.W.Frag} {mg : Str → Option Value} {base : Heap} {f : Addr} {fd : FuncData}
def spOf : Sp := fun vs H Q _ => ∃ d l a xs, vs = [.ref d, .ref a] ∧ Dl d l H ∧ H a = some (.lst xs) ∧ a ∉ [d, l] ∧ 1 ≤ xs.length ∧ xs.length ≤ 1000 ∧ ∀ (i : Nat) x H', xs[i]? = some x → Dl d l H' → Fr [d, l] H H' → Q x H'
theorem cal_l_of (B : Bt mg) (c1 : Cal P w K mg base 1 "_law_any" spAny) (F : FnP K "_law_of" s_l_of f fd) (hm : mg "_law_of" = some (.ref f)) : Cal P w K mg base 2 "_law_of" spOf := by
  refine cal0 F hm sc_l_of (fun _ _ _ _ _ _ us hl => match us, hl with | [_, _], _ => rfl) (fun vs H Q E h => ?_) (fun cdv A outer s H vs Q E hr h => ?_)
  · obtain ⟨d, l, a, xs, rfl, _⟩ := h
    rfl
  · obtain ⟨d, l, a, xs, rfl, hd, ha, hn, h1, h2, q⟩ := h
    refine ⟨_, pss_one (ps_ret (pe_ix ix_list (pv 1) (pc c1 hr (pa_cons (pv 0) (pa_cons (b_len B (pv 1)) pa_nil))) (fun _ _ => rfl))), ?_⟩
    refine ⟨_, rfl, _, rfl, _, rfl, a, _, rfl, .inl (SqL.of ha), d, l, _, rfl, hd, by omega, by omega, fun r H' r0 r1 hd' fr => ?_⟩
    obtain ⟨n, rfl⟩ := Int.eq_ofNat_of_zero_le r0
    have hn2 : n < xs.length := by omega
    exact ⟨a, xs, _, xs[n], rfl, rfl, SqL.of (fr.keep _ _ hn ha), atI_nat (List.getElem?_eq_getElem hn2), q n _ H' (List.getElem?_eq_getElem hn2) hd' fr⟩
def spMixed : Sp := fun vs H Q _ => ∃ d l a xs, vs = [.ref d, .ref a] ∧ Dl d l H ∧ H a = some (.lst xs) ∧ xs.length ≤ 1000 ∧ ∀ ys p H', ys.Perm xs → H p = none → H' p = some (.lst ys) → Dl d l H' → Fr [d, l] H H' → Q (.ref p) H'
theorem cal_l_mixed (B : Bt mg) (c1 : Cal P w K mg base 1 "_law_any" spAny) (F : FnP K "_law_mixed" s_l_mixed f fd) (hm : mg "_law_mixed" = some (.ref f)) : Cal P w K mg base 2 "_law_mixed" spMixed := by
  refine cal0 F hm sc_l_mixed (fun _ _ _ _ _ _ us hl => match us, hl with | [_, _], _ => rfl) (fun vs H Q E h => ?_) (fun cdv A outer s H vs Q E hr h => ?_)
  · obtain ⟨d, l, a, xs, rfl, _⟩ := h
    rfl
  · obtain ⟨d, l, a, xs, rfl, hd, ha, h2, q⟩ := h
    have nd := sc_l_mixed.nd
    refine ⟨_, pss_cons (ps_par (i := 2) (j := 3) rfl nd rfl rfl (by decide) rfl rfl (pa_cons (b_listOf B (pv 1)) (pa_cons (pe_lst pa_nil) pa_nil)) rfl)
      (pss_cons (ps_while PassesOwn.never (pt_cmpR (op_neNil hr) (pv 2) (pe_lst pa_nil) (nomark _))
        (pss_one (ps_expr (pe_bm PySem.F.plainAttrs_list PySem.F.slot_list_append PySem.F.type_list_append mt_append (pv 3)
          (pa_cons (pe_bm PySem.F.plainAttrs_list PySem.F.slot_list_pop PySem.F.type_list_pop mt_popAt (pv 2) (pa_cons (pc c1 hr (pa_cons (pv 0) (pa_cons (b_len B (pv 2)) pa_nil))) pa_nil)) pa_nil)))))
      (pss_one (ps_ret (pv 3)))), ?_⟩
    refine ⟨_, rfl, a, _, rfl, .inl (SqL.of ha), fun u hu => ⟨Nat.zero_le _, fun v hv => ⟨_, _, rfl, ?_⟩⟩⟩
    have hv0 : H v = none := fresh_of (.new hu) hv
    have hvu : v ≠ u := fun e => by rw [e, upd_same] at hv; cases hv
    refine ⟨fun m σ H1 => σ = [some (.ref d), some (.ref a), some (.ref u), some (.ref v)] ∧ ∃ left found, m = left.length ∧ H1 u = some (.lst left) ∧ H1 v = some (.lst found) ∧ (found ++ left).Perm xs ∧ Dl d l H1 ∧ Fr [d, l] H H1,
      ⟨xs.length, rfl, xs, [], rfl, by rw [upd_ne (fun e => hvu e.symm), upd_same], upd_same, .refl _, (hd.new hu).new hv, ((Fr.new hu).trans (.new hv)).dl⟩, ?_⟩
    rintro m σ H1 ⟨rfl, left, found, rfl, h3, h4, h5, h6, fr⟩
    refine ⟨_, rfl, Nat.zero_le _, fun p hp => ?_⟩
    have k3 : upd H1 p (.lst []) u = some (.lst left) := by rw [upd_ne (ne_of_none h3 hp)]; exact h3
    have k4 : upd H1 p (.lst []) v = some (.lst found) := by rw [upd_ne (ne_of_none h4 hp)]; exact h4
    have hlen := h5.length_eq
    rw [List.length_append] at hlen
    refine ⟨u, p, _, rfl, rfl, k3, upd_same, _, rfl, ?_⟩
    cases left with
    | nil =>
      refine iteF ⟨_, rfl, q found v _ (by simpa using h5) hv0 k4 (h6.new hp) (fr.trans (.new hp))⟩
    | cons z left =>
      refine iteT ⟨fun σ' H' => σ' = [some (.ref d), some (.ref a), some (.ref u), some (.ref v)] ∧ ∃ left' found', left'.length < (z :: left).length ∧ H' u = some (.lst left') ∧ H' v = some (.lst found') ∧ (found' ++ left').Perm xs ∧ Dl d l H' ∧ Fr [d, l] H H', ?_, ?_⟩
      · rintro σ' H' ⟨e, left', found', g0, g⟩
        exact ⟨_, g0, e, left', found', rfl, g⟩
      · refine ⟨_, rfl, .inl ⟨rfl, _, SqL.of k4⟩, _, rfl, .inl ⟨rfl, _, SqL.of k3⟩, _, rfl, _, rfl, u, _, rfl, .inl (SqL.of k3), d, l, _, rfl, h6.new hp, by simp; omega, by simp at hlen ⊢; omega, fun r H' r0 r1 hd' fr' => ?_⟩
        obtain ⟨n, rfl⟩ := Int.eq_ofNat_of_zero_le r0
        have hn2 : n < (z :: left).length := by omega
        have m3 := fr'.keep _ _ (hd.ne hu) k3
        have m4 := fr'.keep _ _ (hd.ne hv0) k4
        have e1 : seqIndex? (n : Int) (z :: left).length = some n := by
          unfold seqIndex?
          simp at hn2 ⊢
          omega
        refine ⟨u, _, _, n, _, rfl, rfl, m3, by omega, by simp at hn2 hlen; omega, e1, List.getElem?_eq_getElem hn2, ?_⟩
        refine ⟨v, _, _, rfl, rfl, by rw [upd_ne hvu]; exact m4, by rw [sizeLine_eq]; simp at hlen; omega, ?_⟩
        refine ⟨rfl, (z :: left).eraseIdx n, found ++ [(z :: left)[n]], ?_, ?_, upd_same, ?_, ?_, ?_⟩
        · rw [List.length_eraseIdx, if_pos hn2]
          simp
        · rw [upd_ne (fun e => hvu e.symm), upd_same]
        · refine List.Perm.trans ?_ h5
          rw [List.append_assoc]
          exact List.Perm.append_left found (perm_erase _ n hn2)
        · exact (hd'.upd (hd.ne hu)).upd (hd.ne hv0)
        · exact (((fr.trans (.new hp)).trans fr').own hu).own hv0
end
end K13
/-! K13L3 -/
set_option autoImplicit true
set_option Elab.async false
set_option linter.all false
set_option maxRecDepth 100000
set_option maxHeartbeats 2000000
namespace K13
open PySem PySem.Spec PyProof.Rows L2
def ext1 (s : Int) (r : List Int) : List (List Int) := (List.range s.toNat).map fun (v : Nat) => r ++ [(v : Int)]
def rowsOf (sizes : List Int) : List (List Int) := sizes.foldl (fun acc s => acc.flatMap (ext1 s)) [[]]
theorem rowsOf_snoc (l : List Int) (s : Int) : rowsOf (l ++ [s]) = (rowsOf l).flatMap (ext1 s) := by simp [rowsOf, List.foldl_append]
theorem flatMap_len {α β : Type} (f : α → List β) (b : Nat) : ∀ l : List α, (∀ a ∈ l, (f a).length ≤ b) → (l.flatMap f).length ≤ l.length * b
  | [], _ => by simp
  | a :: l, h => by
    have h1 := h a List.mem_cons_self
    have h2 := flatMap_len f b l fun x hx => h x (List.mem_cons_of_mem _ hx)
    simp only [List.flatMap_cons, List.length_append, List.length_cons, Nat.add_mul]
    omega
theorem ext1_len (s : Int) (r : List Int) : (ext1 s r).length = s.toNat := by simp [ext1]
theorem snoc_ind2 {α : Type} {P : List α → Prop} (h0 : P []) (h1 : ∀ l s, P l → P (l ++ [s])) (l : List α) : P l := by
  rw [← List.reverse_reverse l]
  generalize l.reverse = m
  induction m with
  | nil => exact h0
  | cons x m ih =>
    rw [List.reverse_cons]
    exact h1 _ _ ih
theorem rowsOf_len (l : List Int) : (∀ s ∈ l, s ≤ 4) → (rowsOf l).length ≤ 4 ^ l.length := by
  induction l using snoc_ind2 with
  | h0 => simp [rowsOf]
  | h1 l s ih =>
    intro h
    have ih := ih fun x hx => h x (by simp [hx])
    have hs := h s (by simp)
    rw [rowsOf_snoc, List.length_append]
    have := flatMap_len (ext1 s) 4 (rowsOf l) fun a _ => by rw [ext1_len]; omega
    have e : 4 ^ (l.length + [s].length) = 4 ^ l.length * 4 := by simp [Nat.pow_succ]
    omega
theorem rowsOf_box (l : List Int) : ∀ r ∈ rowsOf l, InBox l r := by
  induction l using snoc_ind2 with
  | h0 =>
    intro r hr
    obtain rfl : r = [] := by simpa [rowsOf] using hr
    exact ⟨rfl, fun i s x h => by simp at h⟩
  | h1 l s ih =>
    intro r hr
    rw [rowsOf_snoc, List.mem_flatMap] at hr
    obtain ⟨q, hq, hr⟩ := hr
    obtain ⟨v, hv, rfl⟩ := List.mem_map.mp hr
    obtain ⟨h1, h2⟩ := ih q hq
    refine ⟨by simp [h1], fun i s' x hs hx => ?_⟩
    by_cases hi : i < l.length
    · rw [List.getElem?_append_left hi] at hs
      rw [List.getElem?_append_left (by omega)] at hx
      exact h2 i s' x hs hx
    · rw [List.getElem?_append_right (by omega)] at hs hx
      have e : i - l.length = 0 := by
        cases q0 : i - l.length with
        | zero => rfl
        | succ n => rw [q0] at hs; simp at hs
      rw [h1, e] at hx
      rw [e] at hs
      simp at hs hx
      subst hs hx
      have := List.mem_range.mp hv
      omega
theorem take_len_le {α : Type} (l : List α) (i : Nat) : (l.take i).length ≤ l.length := by simp; omega
section
variable {P : Program} {w : World} {K : PySem.W.Frag} {mg : Str → Option Value} {base : Heap} {f : Addr} {fd : FuncData}
def spAll : Sp := fun vs H Q _ => ∃ a sizes, vs = [.ref a] ∧ H a = some (.lst (iV sizes)) ∧ sizes.length ≤ 4 ∧ (∀ s ∈ sizes, 1 ≤ s ∧ s ≤ 4) ∧ ∀ H' p ps, Fr [] H H' → H p = none → H' p = some (.lst (rV ps)) → RwL H' ps → rR ps = rowsOf sizes → Q (.ref p) H'
theorem cal_l_all (B : Bt mg) (F : FnP K "_law_all" s_l_all f fd) (hm : mg "_law_all" = some (.ref f)) : Cal P w K mg base 1 "_law_all" spAll := by
  refine cal0 F hm sc_l_all (fun _ _ _ _ _ _ us hl => match us, hl with | [_], _ => rfl) (fun vs H Q E h => ?_) (fun cdv A outer s H vs Q E hr h => ?_)
  · obtain ⟨a, sizes, rfl, _⟩ := h
    rfl
  · obtain ⟨a, sizes, rfl, ha, h4, hs, q⟩ := h
    have nd := sc_l_all.nd
    refine ⟨_, pss_cons (ps_set (i := 1) nd rfl (Or.inl rfl) (pe_lst (pa_cons (pe_tup pa_nil) pa_nil)))
      (pss_cons (ps_for PassesOwn.never rfl (pi_list (pv 0)) (pg_name (i := 2) nd rfl (Or.inl rfl))
        (pss_cons (ps_set (i := 3) nd rfl (Or.inl rfl) (pe_lst pa_nil))
        (pss_cons (ps_for PassesOwn.never rfl (pi_list (pv 1)) (pg_name (i := 4) nd rfl (Or.inr rfl))
          (pss_one (ps_set (i := 3) nd rfl (Or.inl rfl) (pe_op op_cat (pv 3) (pe_lc (own := [("_law_value", 5)]) (g := gName 5) rfl nd (pi_range1 rfl B.range (pa_cons (pv 2) pa_nil)) (blkOk_by (N := N_l_all) (sc := defScope s_l_all) (by decide +kernel))
            (fun _ _ _ _ _ => pg_name (i := 5) nd rfl (Or.inl rfl)) (fun _ _ _ _ _ => pts_nil) (fun _ _ _ _ _ => pe_op (catA K) (pv 4) (pe_tup (pa_cons (pv 5) pa_nil))))))))
        (pss_one (ps_set (i := 1) nd rfl (Or.inl rfl) (pv 3))))))
      (pss_one (ps_ret (pv 1)))), ?_⟩
    refine ⟨Nat.zero_le _, fun t ht => ⟨by show 1 ≤ sizeLine; decide, fun f0 hf0 => ?_⟩⟩
    have hf00 : H f0 = none := fresh_of (.new ht) hf0
    refine ⟨_, rfl, a, rfl, ⟨_, SqL.of (by rw [upd_ne (ne_of_none ha hf00), upd_ne (ne_of_none ha ht)]; exact ha)⟩, for_list (xs := iV sizes) (fun i σ H' => ∃ fa ps x2 x3 x4 x5, σ = [some (.ref a), some (.ref fa), x2, x3, x4, x5] ∧ H fa = none ∧ H' fa = some (.lst (rV ps)) ∧ RwL H' ps ∧ rR ps = rowsOf (sizes.take i) ∧ Fr [] H H')
      ⟨f0, [(t, [])], _, _, _, _, rfl, hf00, upd_same, fun p hp => ?_, rfl, (Fr.new ht).trans (.new hf0)⟩ ?_ ?_ ?_⟩
    · obtain rfl : p = (t, []) := by simpa using hp
      show upd (upd H t (.tup [])) f0 (.lst [.ref t]) t = _
      rw [upd_ne (ne_of_none upd_same hf0), upd_same]
      rfl
    · rintro i σ H' _ ⟨fa, ps, x2, x3, x4, x5, rfl, _, hL, hR, hg, fr⟩
      exact SqL.of (fr.keep _ _ (fun z => nomatch z) ha)
    · rintro i x σ H1 hx ⟨fa, ps, x2, x3, x4, x5, rfl, hfa, hL, hR, hg, fr⟩
      obtain ⟨sz, hsz, rfl⟩ := iV_get hx
      have hsb := hs sz (List.mem_of_getElem? hsz)
      have hps : ps.length ≤ 256 := by
        have h1 := rowsOf_len (sizes.take i) fun s h => (hs s (List.mem_of_mem_take h)).2
        have h2 := take_len_le sizes i
        have h3 : 4 ^ (sizes.take i).length ≤ 4 ^ 4 := Nat.pow_le_pow_right (by decide) (by omega)
        rw [← hg, rR_len] at h1
        omega
      refine ⟨Nat.zero_le _, fun g0 hg0 => ?_⟩
      have hL0 : upd H1 g0 (.lst []) fa = some (.lst (rV ps)) := by rw [upd_ne (ne_of_none hL hg0)]; exact hL
      refine ⟨_, rfl, fa, rfl, ⟨_, SqL.of hL0⟩, for_list (xs := rV ps) (fun j σ H' => ∃ ga qs x4 x5, σ = [some (.ref a), some (.ref fa), some (.int sz), some (.ref ga), x4, x5] ∧ H ga = none ∧ H' ga = some (.lst (rV qs)) ∧ RwL H' qs ∧ rR qs = ((rR ps).take j).flatMap (ext1 sz) ∧ H' fa = some (.lst (rV ps)) ∧ RwL H' ps ∧ Fr [] H H')
        ⟨g0, [], _, _, rfl, fresh_of fr hg0, upd_same, .nil, rfl, hL0, hR.new hg0, fr.trans (.new hg0)⟩ ?_ ?_ ?_⟩
      · rintro j σ H' _ ⟨ga, qs, x4, x5, rfl, _, _, _, _, k, _⟩
        exact SqL.of k
      · rintro j x σ H2 hx2 ⟨ga, qs, x4, x5, rfl, hga, hG, hQ, eQ, hL2, hR2, fr2⟩
        obtain ⟨p, hp, rfl⟩ := rV_get hx2
        have hp2 := hR2 p (List.mem_of_getElem? hp)
        have hqs : qs.length ≤ 1024 := by
          have h1 := flatMap_len (ext1 sz) 4 ((rR ps).take j) fun a _ => by rw [ext1_len]; omega
          have h2 := take_len_le (rR ps) j
          rw [← eQ, rR_len] at h1
          rw [rR_len] at h2
          omega
        have hpl : p.2.length ≤ 4 := by
          have := (rowsOf_box (sizes.take i) p.2 (by rw [← hg]; exact List.mem_map_of_mem (List.mem_of_getElem? hp))).1
          have h2 := take_len_le sizes i
          omega
        refine ⟨_, rfl, _, rfl, sz, rfl, by omega, by omega, fun D hD => lcG walk_range [] (fun m acc H3 => ∃ rs, acc = rV rs ∧ RwL H3 rs ∧ rR rs = (List.range m).map fun (v : Nat) => p.2 ++ [(v : Int)]) hD (Nat.lt_of_le_of_lt (show sz.toNat ≤ 4 by omega) (by decide)) ⟨[], rfl, .nil, rfl⟩
          (fun _ _ _ _ f _ ⟨qs, e1, e2, e3⟩ => ⟨qs, e1, e2.fr f, e3⟩) (fun _ _ _ _ _ _ => True.intro) ?_ ?_⟩
        · rintro m x1 _ H3 acc hi hD2 fr3 ⟨rs, rfl, hrs, ers⟩ ⟨rfl, rfl⟩ yes no
          refine ⟨rfl, ?_⟩
          refine ⟨_, rfl, _, rfl, by show 1 ≤ sizeLine; decide, fun u hu => ?_⟩
          have f3 : Fr [] H3 (upd H3 u (.tup [.int (0 + (m : Nat))])) := .new hu
          have hj2 : (0 + (m : Int)) = (m : Int) := by omega
          refine cat_row (r := p.2) (t := [(m : Int)]) (f3.tup _ _ (fr3.tup _ _ hp2)) (by rw [upd_same]; show some (HO.tup [V.int (0 + (m : Int))]) = _; rw [hj2]; rfl) (by show p.2.length + 1 ≤ 1000; omega) (by simp) fun H4 c f4 hc => ?_
          have f5 := f3.trans f4
          refine yes _ _ (f5.keep _ _ (fun z => nomatch z) hD2) (fr3.trans f5) ⟨rs ++ [(c, p.2 ++ [(m : Int)])], by rw [rV_snoc], (hrs.fr f5).snoc hc, ?_⟩
          rw [rR_snoc, ers, List.range_succ, List.map_append]
          rfl
        · rintro acc H3 hD3 hl3 fr3 ⟨rs, rfl, hrs, ers⟩
          have hl4 : rs.length ≤ 4 := by
            rw [rV_len] at hl3
            omega
          refine ⟨ga, D, _, _, rfl, rfl, fr3.keep _ _ (fun z => nomatch z) hG, hD3, ?_, fun c hc => ?_⟩
          · rw [rV_len, rV_len, sizeLine_eq]
            omega
          · refine ⟨c, qs ++ rs, _, _, rfl, fresh_of (fr2.trans fr3) hc, ?_, ?_, ?_, ?_, ?_, (fr2.trans fr3).trans (.new hc)⟩
            · rw [upd_same, rV_app]
            · exact ((hQ.fr fr3).app hrs).new hc
            · rw [rR_app, eQ, ers, take_snoc (l := rR ps) (x := p.2) (by rw [rR, List.getElem?_map, hp]; rfl), List.flatMap_append]
              simp [ext1]
            · rw [upd_ne (ne_of_none (fr3.keep _ _ (fun z => nomatch z) hL2) hc)]
              exact fr3.keep _ _ (fun z => nomatch z) hL2
            · exact (hR2.fr fr3).new hc
      · rintro σ H2 ⟨ga, qs, x4, x5, rfl, hga, hG, hQ, eQ, hL2, hR2, fr2⟩
        refine ⟨_, rfl, ga, qs, _, _, _, _, rfl, hga, hG, hQ, ?_, fr2⟩
        rw [eQ, rV_len, ← rR_len, List.take_length, hg, take_snoc hsz, rowsOf_snoc]
    · rintro σ H1 ⟨fa, ps, x2, x3, x4, x5, rfl, hfa, hL, hR, hg, fr⟩
      refine ⟨_, rfl, q H1 fa ps fr hfa hL hR ?_⟩
      rw [hg, iV_len, List.take_length]
end
end K13
/-! K13L4 -/
set_option autoImplicit true
set_option Elab.async false
set_option linter.all false
set_option maxRecDepth 100000
set_option maxHeartbeats 2000000
namespace K13
open PySem PySem.Spec PyProof.Rows L2
theorem sIx_lit (n : Nat) (k : Int) (h : 0 ≤ k) : HT.sIx n n (some k) ≤ k.toNat := by
  unfold HT.sIx
  simp only
  split <;> omega
theorem cut_to {ns : List Int} {k : Int} (h : 0 ≤ k) : ∃ ms, cutV (iV ns) none (some k) = iV ms ∧ ms.length ≤ k.toNat := by
  refine ⟨(ns.drop (HT.sIx (iV ns).length 0 none)).take (HT.sIx (iV ns).length (iV ns).length (some k) - HT.sIx (iV ns).length 0 none), ?_, ?_⟩
  · simp only [cutV, iV, List.map_take, List.map_drop]
  · have := sIx_lit (iV ns).length k h
    rw [List.length_take]
    omega
section
variable {P : Program} {w : World} {K : PySem.W.Frag} {mg : Str → Option Value} {base : Heap} {f : Addr} {fd : FuncData}
def spDraw (K : PySem.W.Frag) : Sp := fun vs H Q _ => ∃ a ns, vs = [.ref a, .int 13] ∧ SqL K H a (iV ns) ∧ ∀ d l H', H d = none → H l = none → Dl d l H' → Fr [] H H' → Q (.ref d) H'
theorem cal_l_draw (B : Bt mg) (F : FnP K "_law_draw" s_l_draw f fd) (hm : mg "_law_draw" = some (.ref f)) : Cal P w K mg base 1 "_law_draw" (spDraw K) := by
  refine cal0 F hm sc_l_draw (fun _ _ _ _ _ _ us hl => match us, hl with | [_, _], _ => rfl) (fun vs H Q E h => ?_) (fun cdv A outer s H vs Q E hr h => ?_)
  · obtain ⟨a, ns, rfl, _⟩ := h
    rfl
  · obtain ⟨a, ns, rfl, ha, q⟩ := h
    have nd := sc_l_draw.nd
    refine ⟨_, pss_cons (ps_setLc (i := 2) (own := [("_law_cell", 3)]) (g := gName 3) rfl nd rfl rfl (sw_true rfl rfl rfl (by decide +kernel)) (pi_list (pe_slice sl_list (pv 0) po_none (po_some pe_int)))
        (blkOk_by (N := N_l_draw) (sc := defScope s_l_draw) (by decide +kernel)) (fun _ _ _ _ _ => pg_name (i := 3) nd rfl (Or.inl rfl)) (fun _ _ _ _ _ => pts_nil) (fun _ _ _ _ _ => b_abs B (b_int B (pv 3))))
      (pss_cons (ps_set (i := 4) nd rfl (Or.inl rfl) (pe_op op_add pe_int (pe_op op_mul pe_int (pv 1))))
      (pss_cons (ps_for PassesOwn.never rfl (pi_list (pv 2)) (pg_name (i := 3) nd rfl (Or.inl rfl))
        (pss_one (ps_set (i := 4) nd rfl (Or.inl rfl) (pe_op op_mod (b_int B (pe_op op_add (pe_op op_add (pe_op op_mul (pv 4) pe_int) (pe_op op_mod (pv 3) pe_int)) pe_int)) pe_int))))
      (pss_one (ps_ret (pe_lst (pa_cons (pe_revL (pe_lc (own := [("_law_cell", 3)]) (g := gName 3) rfl nd (pi_list (pv 2)) (blkOk_by (N := N_l_draw) (sc := defScope s_l_draw) (by decide +kernel))
        (fun _ _ _ _ _ => pg_name (i := 3) nd rfl (Or.inl rfl)) (fun _ _ _ _ _ => pts_one (pt_cmpR op_ge (pv 3) (pe_op op_pow pe_int pe_int) (nomark _))) (fun _ _ _ _ _ => pv 3))) (pa_cons (pv 4) pa_nil))))))), ?_⟩
    obtain ⟨ms, em, lm⟩ := cut_to (ns := ns) (k := 48) (by decide)
    refine ⟨_, rfl, _, rfl, a, _, rfl, ha, fun p hp => ?_⟩
    rw [em]
    refine ⟨p, rfl, ⟨_, SqL.of upd_same⟩, fun D hD => lcG (walk_list (xs := iV ms)) [] (fun i acc H3 => ∃ cs, acc = iV cs ∧ ∀ c ∈ cs, 0 ≤ c) hD (by rw [iV_len, sizeLine_eq]; omega) ⟨[], rfl, fun _ z => nomatch z⟩
          (fun _ _ _ _ _ _ t => t) (fun _ _ _ _ f _ => SqL.of (f.keep _ _ (fun z => nomatch z) upd_same)) ?_ ?_⟩
    · rintro i x _ H3 acc hi hD2 fr3 ⟨cs, rfl, hc⟩ ⟨rfl, hx⟩ yes no
      obtain ⟨c, hc', rfl⟩ := iV_get hx
      refine ⟨rfl, ?_⟩
      refine ⟨_, rfl, .inl ⟨c, rfl, c, rfl, ?_⟩⟩
      refine yes _ _ hD2 fr3 ⟨cs ++ [if c < 0 then -c else c], by rw [iV_snoc], fun z hz => ?_⟩
      rcases List.mem_append.mp hz with hz | hz
      · exact hc z hz
      · obtain rfl : z = if c < 0 then -c else c := by simpa using hz
        split <;> omega
    · rintro acc H1 hD1 hl fr1 ⟨cs, rfl, hc⟩
      rw [iV_len, iV_len] at hl
      have fr0 : Fr [] H H1 := (Fr.new hp).trans fr1
      have hD0 : H D = none := fresh_of (Fr.new hp) hD
      refine ⟨_, rfl, _, _, rfl, rfl, .inl ⟨by decide, by decide⟩, _, _, rfl, rfl, ?_⟩
      refine ⟨_, rfl, D, rfl, ⟨_, SqL.of hD1⟩, for_list (xs := iV cs) (fun i σ H' => ∃ x3 b, σ = [some (.ref a), some (.int 13), some (.ref D), x3, some (.int b)] ∧ 0 ≤ b ∧ b < 2147483647 ∧ H' = H1) ⟨_, _, rfl, by decide, by decide, rfl⟩ ?_ ?_ ?_⟩
      · rintro i σ H' _ ⟨x3, b, rfl, _, _, rfl⟩
        exact SqL.of hD1
      · rintro i x σ H' hx ⟨x3, b, rfl, h0, h1, rfl⟩
        obtain ⟨c, hc', rfl⟩ := iV_get hx
        refine ⟨_, rfl, _, _, rfl, rfl, .inr ⟨by decide, by decide⟩, _, rfl, _, _, rfl, rfl, (by show (0 : Int) < 2147483549; decide), _, _, rfl, rfl, _, _, rfl, rfl, .inl ⟨_, rfl, _, _, rfl, rfl, (by show (0 : Int) < 2147483647; decide), ?_⟩⟩
        exact ⟨_, _, rfl, Int.emod_nonneg _ (by decide), Int.emod_lt_of_pos _ (by decide), rfl⟩
      · rintro σ H' ⟨x3, b, rfl, h0, h1, rfl⟩
        refine ⟨_, rfl, D, rfl, ⟨_, SqL.of hD1⟩, fun D2 hD2 => lcG (walk_list (xs := iV cs)) [] (fun i acc H3 => ∃ es, acc = iV es ∧ (∀ c ∈ es, 0 ≤ c) ∧ es.length ≤ i) hD2 (by rw [iV_len, sizeLine_eq]; omega) ⟨[], rfl, (fun _ z => nomatch z), Nat.le_refl _⟩
          (fun _ _ _ _ _ _ t => t) (fun _ _ _ _ f _ => SqL.of (f.keep _ _ (fun z => nomatch z) hD1)) ?_ ?_⟩
        · rintro i x _ H3 acc hi hD3 fr3 ⟨es, rfl, he, hle⟩ ⟨rfl, hx⟩ yes no
          obtain ⟨c, hc', rfl⟩ := iV_get hx
          refine ⟨rfl, ?_⟩
          refine ⟨_, rfl, _, _, rfl, rfl, ⟨by decide, by decide, by decide⟩, _, _, rfl, rfl, _, rfl, ?_⟩
          refine ite2 (fun _ => ?_) fun _ => ?_
          · refine ⟨_, rfl, yes _ _ hD3 fr3 ⟨es ++ [c], by rw [iV_snoc], fun z hz => ?_, by simp; omega⟩⟩
            rcases List.mem_append.mp hz with hz | hz
            · exact he z hz
            · obtain rfl : z = c := by simpa using hz
              exact hc _ (List.mem_of_getElem? hc')
          · exact no _ hD3 fr3 ⟨es, rfl, he, by omega⟩
        · rintro acc H3 hD3 hl3 fr3 ⟨es, rfl, he, hle⟩
          refine ⟨D2, _, rfl, SqL.of hD3, fun l hl0 => ⟨_, rfl, by show 2 ≤ sizeLine; decide, fun d hd0 => ?_⟩⟩
          have fr4 : Fr [] H H3 := fr0.trans fr3
          have e : (iV es).reverse = iV es.reverse := by simp [iV]
          refine q d l _ (fresh_of (fr4.trans (.new hl0)) hd0) (fresh_of fr4 hl0) ⟨es.reverse, b, upd_same, ?_, fun x hx => he x (by simpa using hx), ?_, h0, h1⟩ ((fr4.trans (.new hl0)).trans (.new hd0))
          · rw [upd_ne (ne_of_none upd_same hd0), upd_same, e]
          · rw [List.length_reverse]
            rw [iV_len] at hle
            have : (48 : Int).toNat = 48 := rfl
            omega
end
end K13
/-! K13L5 -/
set_option autoImplicit true
set_option Elab.async false
set_option linter.all false
set_option maxRecDepth 100000
set_option maxHeartbeats 2000000
namespace K13
open PySem PySem.Spec PyProof.Rows L2
theorem flatMap_len_eq {α β : Type} (f : α → List β) (b : Nat) : ∀ l : List α, (∀ a ∈ l, (f a).length = b) → (l.flatMap f).length = l.length * b
  | [], _ => by simp
  | a :: l, h => by
    have h1 := h a List.mem_cons_self
    have h2 := flatMap_len_eq f b l fun x hx => h x (List.mem_cons_of_mem _ hx)
    simp only [List.flatMap_cons, List.length_append, List.length_cons, Nat.add_mul]
    omega
theorem rowsOf_len_snoc (l : List Int) (s : Int) : (rowsOf (l ++ [s])).length = (rowsOf l).length * s.toNat := by
  rw [rowsOf_snoc]
  exact flatMap_len_eq _ _ _ fun a _ => ext1_len s a
structure SzOk (sizes : List Int) : Prop where
  pos : 1 ≤ sizes.length
  few : sizes.length ≤ 4
  small : ∀ s ∈ sizes, 1 ≤ s ∧ s ≤ 4
  many : (rowsOf sizes).length ≤ 24
section
variable {P : Program} {w : World} {K : PySem.W.Frag} {mg : Str → Option Value} {base : Heap} {f : Addr} {fd : FuncData}
def spSizes : Sp := fun vs H Q _ => ∃ d l, vs = [.ref d, .int 24] ∧ Dl d l H ∧ ∀ sizes p H', SzOk sizes → H p = none → H' p = some (.lst (iV sizes)) → Dl d l H' → Fr [d, l] H H' → Q (.ref p) H'
theorem small_of {xs : List V} {i : Nat} {x : V} (h : xs[i]? = some x) (ha : ∀ y ∈ xs, ∃ k : Int, y = .int k ∧ 1 ≤ k ∧ k ≤ 4) : ∃ k : Int, x = .int k ∧ 1 ≤ k ∧ k ≤ 4 := ha x (List.mem_of_getElem? h)
theorem fresh_dl {d l p : Addr} {H H' : Hp} (f : Fr [d, l] H H') (hd : Dl d l H') (h : H' p = none) : H p = none := by
  cases e : H p with
  | none => rfl
  | some o => exact absurd (f.keep p o (hd.ne h) e) (by rw [h]; exact fun z => nomatch z)
theorem cal_l_sizes (B : Bt mg) (c1 : Cal P w K mg base 2 "_law_of" spOf) (F : FnP K "_law_sizes" s_l_sizes f fd) (hm : mg "_law_sizes" = some (.ref f)) : Cal P w K mg base 3 "_law_sizes" spSizes := by
  refine cal0 F hm sc_l_sizes (fun _ _ _ _ _ _ us hl => match us, hl with | [_, _], _ => rfl) (fun vs H Q E h => ?_) (fun cdv A outer s H vs Q E hr h => ?_)
  · obtain ⟨d, l, rfl, _⟩ := h
    rfl
  · obtain ⟨d, l, rfl, hd, q⟩ := h
    have nd := sc_l_sizes.nd
    refine ⟨_, pss_cons (ps_par (i := 2) (j := 3) rfl nd rfl rfl (by decide) rfl rfl (pa_cons (pe_lst pa_nil) (pa_cons pe_int pa_nil)) rfl)
      (pss_cons (ps_for PassesOwn.never rfl (pi_range1 rfl B.range (pa_cons (pc c1 hr (pa_cons (pv 0) (pa_cons (pe_lst (pa_cons pe_int (pa_cons pe_int (pa_cons pe_int (pa_cons pe_int (pa_cons pe_int (pa_cons pe_int (pa_cons pe_int pa_nil)))))))) pa_nil))) pa_nil)) (pg_name (i := 4) nd rfl (Or.inl rfl))
        (pss_cons (ps_set (i := 5) nd rfl (Or.inl rfl) (pc c1 hr (pa_cons (pv 0) (pa_cons (pe_lst (pa_cons pe_int (pa_cons pe_int (pa_cons pe_int (pa_cons pe_int (pa_cons pe_int (pa_cons pe_int (pa_cons pe_int pa_nil)))))))) pa_nil))))
        (pss_one (ps_if (pt_cmpR op_le (pe_op op_mul (pv 3) (pv 5)) (pv 1) (nomark _))
          (pss_cons (ps_expr (pe_bm PySem.F.plainAttrs_list PySem.F.slot_list_append PySem.F.type_list_append mt_append (pv 2) (pa_cons (pv 5) pa_nil)))
          (pss_one (ps_set (i := 3) nd rfl (Or.inl rfl) (pe_op op_mul (pv 3) (pv 5))))) pss_nil))))
      (pss_one (ps_ret (pe_ifExp (pt_cmpR (op_neNil hr) (pv 2) (pe_lst pa_nil) (nomark _)) (pv 2) (pe_lst (pa_cons pe_int pa_nil)))))), ?_⟩
    refine ⟨Nat.zero_le _, fun u hu => ⟨_, _, rfl, ?_⟩⟩
    have hd1 := hd.new (o := .lst []) hu
    refine ⟨_, rfl, by show 7 ≤ sizeLine; decide, fun t ht => ⟨d, l, t, _, rfl, hd1.new ht, upd_same, hd1.ne ht, by show 1 ≤ 7; decide, by show 7 ≤ 1000; decide, fun i x H1 hx hd2 fr1 => ?_⟩⟩
    obtain ⟨n, rfl, n1, n4⟩ := small_of hx (by
      intro y hy
      simp only [List.mem_cons, List.not_mem_nil, or_false] at hy
      rcases hy with rfl | rfl | rfl | rfl | rfl | rfl | rfl <;> exact ⟨_, rfl, by decide, by decide⟩)
    have fr2 : Fr [d, l] H H1 := ((Fr.new hu).trans (.new ht)).trans fr1
    have hu1 : H1 u = some (.lst (iV [])) := by
      refine fr1.keep _ _ (hd.ne hu) ?_
      rw [upd_ne (ne_of_none upd_same ht), upd_same]
      rfl
    refine ⟨_, rfl, by omega, by omega, for_range (n := n.toNat) (fun i σ H' => ∃ found x4 x5, σ = [some (.ref d), some (.int 24), some (.ref u), some (.int ((rowsOf found).length : Nat)), x4, x5] ∧ H' u = some (.lst (iV found)) ∧ found.length ≤ i ∧ (∀ s ∈ found, 1 ≤ s ∧ s ≤ 4) ∧ (rowsOf found).length ≤ 24 ∧ Dl d l H' ∧ Fr [d, l] H H')
      ⟨[], _, _, rfl, hu1, Nat.le_refl _, fun _ z => (nomatch z), by decide, hd2, fr2⟩ ?_ ?_⟩
    · rintro i σ H2 hi ⟨found, x4, x5, rfl, hU, hl, hs, hr24, hd3, fr3⟩
      refine ⟨_, rfl, by show 7 ≤ sizeLine; decide, fun t ht => ⟨d, l, t, _, rfl, hd3.new ht, upd_same, hd3.ne ht, by show 1 ≤ 7; decide, by show 7 ≤ 1000; decide, fun i x H3 hx hd4 fr4 => ?_⟩⟩
      obtain ⟨k, rfl, k1, k4⟩ := small_of hx (by
        intro y hy
        simp only [List.mem_cons, List.not_mem_nil, or_false] at hy
        rcases hy with rfl | rfl | rfl | rfl | rfl | rfl | rfl <;> exact ⟨_, rfl, by decide, by decide⟩)
      have fr5 : Fr [d, l] H H3 := (fr3.trans (.new ht)).trans fr4
      have hU3 : H3 u = some (.lst (iV found)) := by
        refine fr4.keep _ _ (hd.ne hu) ?_
        rw [upd_ne (ne_of_none hU ht)]
        exact hU
      have emul : (((rowsOf found).length : Nat) : Int) * k = (((rowsOf (found ++ [k])).length : Nat) : Int) := by
        rw [rowsOf_len_snoc, Int.natCast_mul, Int.toNat_of_nonneg (by omega)]
      refine ⟨_, rfl, _, rfl, _, _, rfl, rfl, .inl ⟨by omega, by omega⟩, _, rfl, _, _, rfl, rfl, _, rfl, ?_⟩
      rw [emul]
      refine ite2 (fun hle => ?_) fun _ => ?_
      · have hle := of_decide_eq_true hle
        refine ⟨_, rfl, .inl ⟨rfl, _, SqL.of hU3⟩, _, rfl, u, _, _, rfl, rfl, hU3, by rw [iV_len, sizeLine_eq]; omega, ?_⟩
        refine ⟨_, rfl, _, rfl, _, _, rfl, rfl, .inl ⟨by omega, by omega⟩, ?_⟩
        refine ⟨found ++ [k], _, _, by rw [← emul]; rfl, by rw [upd_same, iV_snoc], by simp; omega, fun s hs' => ?_, by omega, hd4.upd (hd.ne hu), fr5.own hu⟩
        rcases List.mem_append.mp hs' with hs' | hs'
        · exact hs s hs'
        · obtain rfl : s = k := by simpa using hs'
          exact ⟨k1, k4⟩
      · exact ⟨found, _, _, rfl, hU3, by omega, hs, hr24, hd4, fr5⟩
    · rintro σ H2 ⟨found, x4, x5, rfl, hU, hl, hs, hr24, hd3, fr3⟩
      refine ⟨_, rfl, Nat.zero_le _, fun p hp => ?_⟩
      have hU2 : upd H2 p (.lst []) u = some (.lst (iV found)) := by rw [upd_ne (ne_of_none hU hp)]; exact hU
      refine ⟨u, p, _, rfl, rfl, hU2, upd_same, _, rfl, ?_⟩
      cases found with
      | nil =>
        refine iteF ⟨by show 1 ≤ sizeLine; decide, fun r hr => ?_⟩
        exact q [2] r _ ⟨by decide, by decide, by decide, by decide⟩ (fresh_dl (fr3.trans (.new hp)) (hd3.new hp) hr) upd_same ((hd3.new hp).new hr) ((fr3.trans (.new hp)).trans (.new hr))
      | cons k found =>
        refine iteT ⟨_, rfl, q _ u _ ⟨by simp, by omega, hs, hr24⟩ hu hU2 (hd3.new hp) (fr3.trans (.new hp))⟩
end
end K13
/-! K13L6a -/
set_option autoImplicit true
set_option Elab.async false
set_option linter.all false
set_option maxRecDepth 100000
set_option maxHeartbeats 2000000
namespace K13
open PySem PySem.Spec PyProof.Rows L2
/-- [row for row in rows if ..], whatever is asked of the row, draws and all -/
theorem lcFilt {K : PySem.W.Frag} {d l ra D : Addr} {ps : List (Addr × List Int)} {tt : TT} {vs : List Nat} {n9 : Nat} {σ : L2.St} {H1 : Hp} {Qd : Hp → Prop}
    (hL : H1 ra = some (.lst (rV ps))) (hR : RwL H1 ps) (hd : Dl d l H1) (hra : ra ∉ [d, l]) (hlen : ps.length ≤ 1000) (hD : H1 D = none)
    (hw : ∀ v, wipe ((wipe σ vs).set n9 (some v)) vs = wipe σ vs) (hget : ∀ v, ((wipe σ vs).set n9 (some v))[n9]? = some (some v))
    (hc : ∀ p ∈ ps, ∀ H Z, Dl d l H → RwL H ps → H ra = some (.lst (rV ps)) → Fr [d, l] H1 H → (∀ b H', Dl d l H' → Fr [d, l] H H' → Z b H') → tt ((wipe σ vs).set n9 (some (.ref p.1))) H Z)
    (q : ∀ H' qs, qs.Sublist ps → H' D = some (.lst (rV qs)) → RwL H' ps → H' ra = some (.lst (rV ps)) → Dl d l H' → Fr [d, l] H1 H' → Qd H') :
    ∃ W : Nat → Nat → Hp → Prop, (∃ m, W 0 m (upd H1 D (.lst []))) ∧ ∀ i m H, W i m H →
      ((Itl K ra).stop i H ∧ Qd H) ∨ ((Itl K ra).go i H ∧ ∃ Nx : Hp → Prop, (∀ H', Nx H' → ∃ m', m' < m ∧ W (i + 1) m' H') ∧ ∀ x H', (Itl K ra).yld i H x H' → gName n9 x (wipe σ vs) H' fun σ2 H2 => wipe σ2 vs = wipe σ vs ∧ tt σ2 H2 fun b H3 =>
        if b = true then tVar n9 σ2 H3 fun y H4 => ∃ acc, H4 D = some (.lst acc) ∧ acc.length < sizeLine ∧ Nx (upd H4 D (.lst (acc ++ [y]))) else Nx H3) := by
  have hDn : D ∉ [d, l] := hd.ne hD
  refine lcG (walk_list (xs := rV ps)) [d, l] (fun i acc H => ∃ qs, acc = rV qs ∧ qs.Sublist (ps.take i) ∧ Dl d l H) hD (by rw [rV_len, sizeLine_eq]; omega) ⟨[], rfl, List.nil_sublist _, hd⟩
    (fun i acc H H' f _ ⟨qs, e, hs, h⟩ => ⟨qs, e, hs, h.fr f (fun z => hDn (by rw [← List.mem_singleton.mp z]; simp)) (fun z => hDn (by rw [← List.mem_singleton.mp z]; simp))⟩)
    (fun i acc H _ f _ => SqL.of (f.keep _ _ hra hL)) ?_ ?_
  · rintro i x _ H acc hi hD2 fr ⟨qs, rfl, hs, hd2⟩ ⟨rfl, hx⟩ yes no
    obtain ⟨p, hp, rfl⟩ := rV_get hx
    refine ⟨hw _, hc p (List.mem_of_getElem? hp) H _ hd2 (hR.fr fr) (fr.keep _ _ hra hL) fr fun b H' hd3 f3 => ?_⟩
    have k := f3.keep _ _ hDn hD2
    have ht : ps.take (i + 1) = ps.take i ++ [p] := take_snoc hp
    cases b with
    | false => exact no H' k (fr.trans f3) ⟨qs, rfl, by rw [ht]; exact hs.trans (List.sublist_append_left _ _), hd3⟩
    | true =>
      refine ⟨_, hget _, yes _ _ k (fr.trans f3) ⟨qs ++ [p], by rw [rV_snoc], by rw [ht]; exact hs.append (List.Sublist.refl _), hd3⟩⟩
  · rintro acc H hD2 hl fr ⟨qs, rfl, hs, hd2⟩
    rw [rV_len, List.take_length] at hs
    exact q H qs hs hD2 (hR.fr fr) (fr.keep _ _ hra hL) hd2 fr
theorem cut_rows {ps : List (Addr × List Int)} {k : Int} : ∃ ms, cutV (rV ps) none (some k) = rV ms ∧ ∀ p ∈ ms, p ∈ ps := by
  refine ⟨(ps.drop (HT.sIx (rV ps).length 0 none)).take (HT.sIx (rV ps).length (rV ps).length (some k) - HT.sIx (rV ps).length 0 none), ?_, fun p hp => List.mem_of_mem_drop (List.mem_of_mem_take hp)⟩
  simp only [cutV, rV, List.map_take, List.map_drop]
def spStore : Sp := fun vs H Q _ => ∃ d l, vs = [.ref d, .int 24] ∧ Dl d l H ∧ ∀ sizes z p T qs H', SzOk sizes → qs ≠ [] → (rR qs).Sublist (rowsOf sizes) → H z = none → H p = none → H T = none → H' z = some (.lst (iV sizes)) → H' p = some (.lst (rV qs)) → RwL H' qs → H' T = some (.tup [.ref z, .ref p]) →
  Dl d l H' → Fr [d, l] H H' → Q (.ref T) H'
/-- what stands while the states are chosen -/
structure SB (d l z ra ka : Addr) (sizes : List Int) (ps : List (Addr × List Int)) (H : Hp) : Prop where
  z : H z = some (.lst (iV sizes))
  r : H ra = some (.lst (rV ps))
  w : RwL H ps
  k : H ka = some (.lst (rgV 0 sizes.length))
  dl : Dl d l H
structure SN (d l z ra ka : Addr) (H0 : Hp) : Prop where
  z : H0 z = none
  r : H0 ra = none
  k : H0 ka = none
  dl : Dl d l H0
theorem SB.fr {d l z ra ka : Addr} {sizes : List Int} {ps : List (Addr × List Int)} {H H' H0 : Hp} (h : SB d l z ra ka sizes ps H) (n : SN d l z ra ka H0) (f : Fr [d, l] H H') (hd : Dl d l H') : SB d l z ra ka sizes ps H' where
  z := f.keep _ _ (n.dl.ne n.z) h.z
  r := f.keep _ _ (n.dl.ne n.r) h.r
  w := h.w.fr f
  k := f.keep _ _ (n.dl.ne n.k) h.k
  dl := hd
theorem SB.new {d l z ra ka p : Addr} {o : HO} {sizes : List Int} {ps : List (Addr × List Int)} {H H0 : Hp} (h : SB d l z ra ka sizes ps H) (ne : SN d l z ra ka H0) (hp : H p = none) : SB d l z ra ka sizes ps (upd H p o) := h.fr ne (.new hp) (h.dl.new hp)
def MidS (d l z ra ka : Addr) (sizes : List Int) (ps : List (Addr × List Int)) (H0 : Hp) (σ : L2.St) (H' : Hp) : Prop := ∃ p qs, σ[8]? = some (some (.ref p)) ∧ σ[0]? = some (some (.ref d)) ∧ σ[2]? = some (some (.ref z)) ∧ σ[3]? = some (some (.ref ra)) ∧
  qs.Sublist ps ∧ H' p = some (.lst (rV qs)) ∧ H0 p = none ∧ SB d l z ra ka sizes ps H' ∧ Fr [d, l] H0 H'
theorem sum_ge : ∀ l : List Int, (∀ s ∈ l, 1 ≤ s ∧ s ≤ 4) → (l.length : Int) ≤ l.sum ∧ l.sum ≤ 4 * l.length
  | [], _ => by simp
  | a :: l, h => by
    have h1 := h a List.mem_cons_self
    have h2 := sum_ge l fun x hx => h x (List.mem_cons_of_mem _ hx)
    simp only [List.sum_cons, List.length_cons]
    omega
theorem rowsOf_len_pos (l : List Int) : (∀ s ∈ l, 1 ≤ s ∧ s ≤ 4) → 1 ≤ (rowsOf l).length := by
  induction l using snoc_ind2 with
  | h0 => simp [rowsOf]
  | h1 l s ih =>
    intro h
    have ih := ih fun x hx => h x (by simp [hx])
    have hs := h s (by simp)
    rw [rowsOf_len_snoc]
    have h1 : 1 ≤ s.toNat := by omega
    have := Nat.mul_le_mul ih h1
    omega
theorem rg_get {n i : Nat} {x : V} (h : (rgV 0 (n : Int))[i]? = some x) : x = .int i ∧ i < n := by
  unfold rgV at h
  simp only [List.getElem?_map, Option.map_eq_some_iff] at h
  obtain ⟨j, hj, rfl⟩ := h
  obtain ⟨h1, h2⟩ := List.getElem?_eq_some_iff.mp hj
  simp at h1 h2
  subst h2
  exact ⟨by simp, by omega⟩
theorem rg_len {n : Nat} : (rgV 0 (n : Int)).length = n := by
  unfold rgV
  simp
end K13
/-! K13L6 -/
set_option autoImplicit true
set_option Elab.async false
set_option linter.all false
set_option maxRecDepth 100000
set_option maxHeartbeats 4000000
namespace K13
open PySem PySem.Spec PyProof.Rows L2
section
variable {P : Program} {w : World} {K : PySem.W.Frag} {mg : Str → Option Value} {base : Heap} {f : Addr} {fd : FuncData}
theorem cal_l_store (B : Bt mg) (cA : Cal P w K mg base 1 "_law_any" spAny) (cO : Cal P w K mg base 2 "_law_of" spOf) (cR : Cal P w K mg base 1 "_law_all" spAll) (cS : Cal P w K mg base 3 "_law_sizes" spSizes)
    (F : FnP K "_law_store" s_l_store f fd) (hm : mg "_law_store" = some (.ref f)) : Cal P w K mg base 4 "_law_store" spStore := by
  refine cal0 F hm sc_l_store (fun _ _ _ _ _ _ us hl => match us, hl with | [_, _], _ => rfl) (fun vs H Q E h => ?_) (fun cdv A outer s H vs Q E hr h => ?_)
  · obtain ⟨d, l, rfl, _⟩ := h
    rfl
  · obtain ⟨d, l, rfl, hd, q⟩ := h
    have nd := sc_l_store.nd
    refine ⟨_, pss_cons (ps_set (i := 2) nd rfl (Or.inr rfl) (pc cS hr (pa_cons (pv 0) (pa_cons (pv 1) pa_nil))))
      (pss_cons (ps_par (i := 3) (j := 4) rfl nd rfl rfl (by decide) rfl rfl (pa_cons (pc cR hr (pa_cons (pv 2) pa_nil)) (pa_cons (pc cA hr (pa_cons (pv 0) (pa_cons pe_int pa_nil))) pa_nil)) rfl)
      (pss_cons (ps_asg (pe_tup (pa_cons (b_len B (pv 2)) (pa_cons (pe_listRg rfl (by rfl) B.list (prg_1 (by rfl) B.range (b_len B (pv 2)))) pa_nil))) (pg_tup rfl (pgs_cons (pg_name (i := 5) nd rfl (Or.inr rfl)) (pgs_cons (pg_name (i := 6) nd rfl (Or.inl rfl)) pgs_nil))))
      (pss_cons (ps_if (pt_cmpR op_eq (pv 4) pe_int (nomark _)) (pss_one (ps_ret (pe_tup (pa_cons (pv 2) (pa_cons (pv 3) pa_nil))))) pss_nil)
      (C8.pss_cut (ps_if (pt_cmpR op_eq (pv 4) pe_int (nomark _))
          -- 1
          (pss_cons (ps_set (i := 7) nd rfl (Or.inr rfl) (pc cA hr (pa_cons (pv 0) (pa_cons (pe_op op_add (pe_op op_sub (b_sum B rfl (pv 2)) (pv 5)) pe_int) pa_nil))))
          (pss_one (ps_setLc (i := 8) (own := [("_law_row", 9)]) (g := gName 9) rfl nd rfl rfl (sw_true rfl rfl rfl (by decide +kernel)) (pi_list (pv 3)) (blkOk_by (N := N_l_store) (sc := defScope s_l_store) (by decide +kernel))
            (fun _ _ _ _ _ => pg_name (i := 9) nd rfl (Or.inl rfl)) (fun _ _ _ _ _ => pts_one (pt_cmpR op_eq (b_sumT B rfl (pv 9)) (pv 7) (nomark _))) (fun _ _ _ _ _ => pv 9))))
        (pss_one (ps_if (pt_cmpR op_eq (pv 4) pe_int (nomark _))
          -- 2
          (pss_cons (ps_set (i := 10) nd rfl (Or.inr rfl) (pc cA hr (pa_cons (pv 0) (pa_cons (pe_op op_add (pe_op op_sub (b_sum B rfl (pv 2)) (pv 5)) pe_int) pa_nil))))
          (pss_cons (ps_set (i := 11) nd rfl (Or.inr rfl) (pe_op op_add (pe_op op_add (pv 10) pe_int) (pc cA hr (pa_cons (pv 0) (pa_cons pe_int pa_nil)))))
          (pss_one (ps_setLc (i := 8) (own := [("_law_row", 9)]) (g := gName 9) rfl nd rfl rfl (sw_true rfl rfl rfl (by decide +kernel)) (pi_list (pv 3)) (blkOk_by (N := N_l_store) (sc := defScope s_l_store) (by decide +kernel))
            (fun _ _ _ _ _ => pg_name (i := 9) nd rfl (Or.inl rfl)) (fun _ _ _ _ _ => pts_one (pt_chain op_le op_le (pv 10) (b_sumT B rfl (pv 9)) (pv 11))) (fun _ _ _ _ _ => pv 9)))))
        (pss_one (ps_if (pt_cmpR op_eq (pv 4) pe_int (nomark _))
          -- 3
          (pss_cons (ps_asg (pe_tup (pa_cons (pc cO hr (pa_cons (pv 0) (pa_cons (pv 6) pa_nil))) (pa_cons (pc cO hr (pa_cons (pv 0) (pa_cons (pv 6) pa_nil))) (pa_cons (pe_op op_add pe_int (pc cA hr (pa_cons (pv 0) (pa_cons pe_int pa_nil)))) (pa_cons (pe_op op_add pe_int (pc cA hr (pa_cons (pv 0) (pa_cons pe_int pa_nil)))) pa_nil)))))
            (pg_tup rfl (pgs_cons (pg_name (i := 12) nd rfl (Or.inr rfl)) (pgs_cons (pg_name (i := 13) nd rfl (Or.inr rfl)) (pgs_cons (pg_name (i := 14) nd rfl (Or.inr rfl)) (pgs_cons (pg_name (i := 15) nd rfl (Or.inr rfl)) pgs_nil))))))
          (pss_one (ps_setLc (i := 8) (own := [("_law_row", 9)]) (g := gName 9) rfl nd rfl rfl (sw_true rfl rfl rfl (by decide +kernel)) (pi_list (pv 3)) (blkOk_by (N := N_l_store) (sc := defScope s_l_store) (by decide +kernel))
            (fun _ _ _ _ _ => pg_name (i := 9) nd rfl (Or.inl rfl)) (fun _ _ _ _ _ => pts_one (PW.pt (pw_or (pt_cmpR op_lt (pe_ix (ixT K) (pv 9) (pv 12) (fun _ _ => rfl)) (pv 14) (nomark _)) (pw_or1 (pt_cmpR op_ge (pe_ix (ixT K) (pv 9) (pv 13) (fun _ _ => rfl))
              (pe_callB (call_min2 rfl) (by rfl) B.min (by decide +kernel) (pa_cons (pv 15) (pa_cons (pe_op op_sub (pe_ix (ixL K) (pv 2) (pv 13) (fun _ _ => rfl)) pe_int) pa_nil))) (nomark _)))))) (fun _ _ _ _ _ => pv 9))))
        (pss_one (ps_if (pt_cmpR op_eq (pv 4) pe_int (nomark _))
          -- 4
          (pss_cons (ps_asg (pe_tup (pa_cons (pc cO hr (pa_cons (pv 0) (pa_cons (pe_lst (pa_cons pe_int (pa_cons pe_int (pa_cons pe_int pa_nil)))) pa_nil))) (pa_cons
              (pe_lc (own := [("_law_key", 18)]) (g := gName 18) rfl nd (pi_list (pv 6)) (blkOk_by (N := N_l_store) (sc := defScope s_l_store) (by decide +kernel)) (fun _ _ _ _ _ => pg_name (i := 18) nd rfl (Or.inl rfl)) (fun _ _ _ _ _ => pts_nil)
                (fun _ _ _ _ _ => pc cA hr (pa_cons (pv 0) (pa_cons pe_int pa_nil)))) pa_nil)))
            (pg_tup rfl (pgs_cons (pg_name (i := 16) nd rfl (Or.inr rfl)) (pgs_cons (pg_name (i := 17) nd rfl (Or.inr rfl)) pgs_nil))))
          (pss_one (ps_setLc (i := 8) (own := [("_law_row", 9)]) (g := gName 9) rfl nd rfl rfl (sw_true rfl rfl rfl (by decide +kernel)) (pi_list (pv 3)) (blkOk_by (N := N_l_store) (sc := defScope s_l_store) (by decide +kernel))
            (fun _ _ _ _ _ => pg_name (i := 9) nd rfl (Or.inl rfl)) (fun _ _ _ _ _ => pts_one (pt_cmpR op_eq (pe_op op_mod (b_int B (k_sum K B rfl
              (pe_lc (own := [("_law_w", 19), ("_law_x", 20)]) (g := g2 K 19 20) rfl nd (pi_zipB B (pv 17) (pv 9)) (blkOk_by (N := N_l_store) (sc := { kind := .function, names := [(".0", .local), ("_law_row", .local), ("int", .globalImplicit), ("sum", .globalImplicit), ("zip", .globalImplicit), ("_law_prime", .cell), ("_law_weights", .cell)], isGenerator := false, isCoroutine := false }) (by decide +kernel))
                (fun _ _ _ _ _ => pg_tup rfl (pgs_cons (pg_name (i := 19) nd rfl (Or.inl rfl)) (pgs_cons (pg_name (i := 20) nd rfl (Or.inl rfl)) pgs_nil))) (fun _ _ _ _ _ => pts_nil) (fun _ _ _ _ _ => pe_op op_mul (pv 19) (pv 20))))) (pv 16)) pe_int (nomark _))) (fun _ _ _ _ _ => pv 9))))
        (pss_one (ps_if (pt_cmpR op_eq (pv 4) pe_int (nomark _))
          -- 5
          (pss_cons (ps_asg (pe_tup (pa_cons (pc cO hr (pa_cons (pv 0) (pa_cons (pv 6) pa_nil))) (pa_cons (pc cO hr (pa_cons (pv 0) (pa_cons (pv 6) pa_nil))) pa_nil)))
            (pg_tup rfl (pgs_cons (pg_name (i := 12) nd rfl (Or.inr rfl)) (pgs_cons (pg_name (i := 13) nd rfl (Or.inr rfl)) pgs_nil))))
          (pss_one (ps_setLc (i := 8) (own := [("_law_row", 9)]) (g := gName 9) rfl nd rfl rfl (sw_true rfl rfl rfl (by decide +kernel)) (pi_list (pv 3)) (blkOk_by (N := N_l_store) (sc := defScope s_l_store) (by decide +kernel))
            (fun _ _ _ _ _ => pg_name (i := 9) nd rfl (Or.inl rfl)) (fun _ _ _ _ _ => pts_one (pt_cmpR op_eq (pe_op op_mod (b_int B (pe_op op_sub (pe_ix (ixT K) (pv 9) (pv 12) (fun _ _ => rfl)) (pe_ix (ixT K) (pv 9) (pv 13) (fun _ _ => rfl)))) pe_int) pe_int (nomark _))) (fun _ _ _ _ _ => pv 9))))
        (pss_one (ps_if (pt_cmpR op_eq (pv 4) pe_int (nomark _))
          -- 6
          (pss_one (ps_setLc (i := 8) (own := [("_law_row", 9)]) (g := gName 9) rfl nd rfl rfl (sw_true rfl rfl rfl (by decide +kernel)) (pi_list (pv 3)) (blkOk_by (N := N_l_store) (sc := defScope s_l_store) (by decide +kernel))
            (fun _ _ _ _ _ => pg_name (i := 9) nd rfl (Or.inl rfl)) (fun _ _ _ _ _ => pts_one (pt_cmpR op_gt (pc cA hr (pa_cons (pv 0) (pa_cons pe_int pa_nil))) pe_int (nomark _))) (fun _ _ _ _ _ => pv 9)))
        (pss_one (ps_if (pt_cmpR op_eq (pv 4) pe_int (nomark _))
          -- 7
          (pss_one (ps_setLc (i := 8) (own := [("_law_row", 9)]) (g := gName 9) rfl nd rfl rfl (sw_true rfl rfl rfl (by decide +kernel)) (pi_list (pv 3)) (blkOk_by (N := N_l_store) (sc := defScope s_l_store) (by decide +kernel))
            (fun _ _ _ _ _ => pg_name (i := 9) nd rfl (Or.inl rfl)) (fun _ _ _ _ _ => pts_one (pt_cmpR op_eq (pc cA hr (pa_cons (pv 0) (pa_cons pe_int pa_nil))) pe_int (nomark _))) (fun _ _ _ _ _ => pv 9)))
        (pss_one (ps_if (pt_cmpR op_eq (pv 4) pe_int (nomark _))
          -- 8
          (pss_one (ps_setLc (i := 8) (own := [("_law_row", 9)]) (g := gName 9) rfl nd rfl rfl (sw_true rfl rfl rfl (by decide +kernel)) (pi_list (pv 3)) (blkOk_by (N := N_l_store) (sc := defScope s_l_store) (by decide +kernel))
            (fun _ _ _ _ _ => pg_name (i := 9) nd rfl (Or.inl rfl)) (fun _ _ _ _ _ => pts_one (pt_cmpR op_eq (pc cA hr (pa_cons (pv 0) (pa_cons pe_int pa_nil))) pe_int (nomark _))) (fun _ _ _ _ _ => pv 9)))
          -- 9
          (pss_cons (ps_set (i := 21) nd rfl (Or.inr rfl) (pe_lc (own := [("_law_row", 9)]) (g := gName 9) rfl nd (pi_list (pv 3)) (blkOk_by (N := N_l_store) (sc := defScope s_l_store) (by decide +kernel))
            (fun _ _ _ _ _ => pg_name (i := 9) nd rfl (Or.inl rfl)) (fun _ _ _ _ _ => pts_nil) (fun _ _ _ _ _ => pe_slice (slA K) (pv 9) po_none (po_some (pe_op op_fdivW (pv 5) pe_int)))))
          (pss_cons (ps_set (i := 22) nd rfl (Or.inr rfl) (pe_lc (own := [("_law_at", 23), ("_law_one", 12)]) (g := g2 K 23 12) rfl nd (pi_enumB B (pv 21)) (blkOk_by (N := N_l_store) (sc := defScope s_l_store) (by decide +kernel))
            (fun _ _ _ _ _ => pg_tup rfl (pgs_cons (pg_name (i := 23) nd rfl (Or.inl rfl)) (pgs_cons (pg_name (i := 12) nd rfl (Or.inl rfl)) pgs_nil))) (fun _ _ _ _ _ => pts_one (PW.pt (pw_and (pt_cmpR (ninD K (hr := hr)) (pv 12) (pe_slice (slL K) (pv 21) po_none (po_some (pv 23))) rfl)
              (pw_and1 (pt_cmpR op_gt (pc cA hr (pa_cons (pv 0) (pa_cons pe_int pa_nil))) pe_int (nomark _)))))) (fun _ _ _ _ _ => pv 12)))
          (pss_one (ps_setLc (i := 8) (own := [("_law_row", 9)]) (g := gName 9) rfl nd rfl rfl (sw_true rfl rfl rfl (by decide +kernel)) (pi_list (pv 3)) (blkOk_by (N := N_l_store) (sc := defScope s_l_store) (by decide +kernel))
            (fun _ _ _ _ _ => pg_name (i := 9) nd rfl (Or.inl rfl)) (fun _ _ _ _ _ => pts_one (pt_cmpR (inD K (hr := hr)) (pe_slice (slA K) (pv 9) po_none (po_some (pe_op op_fdivW (pv 5) pe_int))) (pv 22) rfl)) (fun _ _ _ _ _ => pv 9))))))))))))))))))))
      (pss_one (ps_ret (pe_tup (pa_cons (pv 2) (pa_cons (pe_ifExp (pt_cmpR (op_neNil hr) (pv 8) (pe_lst pa_nil) (nomark _)) (pv 8) (pe_lst (pa_cons (pc cO hr (pa_cons (pv 0) (pa_cons (pv 3) pa_nil))) pa_nil))) pa_nil))))))))), ?_⟩
    refine ⟨_, rfl, _, rfl, d, l, rfl, hd, fun sizes z H1 ok hz0 hz1 hd1 fr1 => ?_⟩
    refine ⟨_, rfl, z, sizes, rfl, hz1, ok.few, ok.small, fun H2 ra ps fr2 hra1 hra hps eps => ⟨_, rfl, d, l, _, rfl, hd1.same fr2, by decide, by decide, fun form H3 f0 f1 hd3 fr3 => ⟨_, _, rfl, ?_⟩⟩⟩
    have fr13 : Fr [d, l] H H3 := (fr1.trans fr2.dl).trans fr3
    have hra0 : H ra = none := fresh_dl fr1 hd1 hra1
    have hz3 : H3 z = some (.lst (iV sizes)) := fr3.keep _ _ (hd.ne hz0) (fr2.keep _ _ (fun q => nomatch q) hz1)
    have hra3 : H3 ra = some (.lst (rV ps)) := fr3.keep _ _ (hd.ne hra0) hra
    have hps3 : RwL H3 ps := hps.fr fr3
    have h4 := ok.few
    have hpl : ps.length ≤ 24 := by rw [← rR_len, eps]; exact ok.many
    refine ⟨_, rfl, z, _, rfl, .inl (SqL.of hz3), _, rfl, z, _, rfl, .inl (SqL.of hz3), _, rfl, ⟨by decide, by decide, by rw [iV_len]; omega, by rw [iV_len]; omega, by rw [iV_len]; omega⟩, fun ka hka => ⟨by show 2 ≤ sizeLine; decide, fun T0 hT0 => ?_⟩⟩
    refine ⟨T0, _, rfl, SqT.of upd_same, rfl, _, _, rfl, _, _, rfl, rfl, ?_⟩
    rw [show (iV sizes).length = sizes.length from iV_len]
    rw [show (iV sizes).length = sizes.length from iV_len] at hT0
    have hka0 : H ka = none := fresh_dl fr13 hd3 hka
    have N : SN d l z ra ka H := ⟨hz0, hra0, hka0, hd⟩
    have hT00 : H T0 = none := fresh_dl (fr13.trans (.new hka)) (hd3.new hka) hT0
    have fr5 := (fr13.trans (.new (o := .lst (rgV 0 sizes.length)) hka)).trans (.new (o := .tup [.int sizes.length, .ref ka]) hT0)
    have sb : SB d l z ra ka sizes ps (upd (upd H3 ka (.lst (rgV 0 sizes.length))) T0 (.tup [.int sizes.length, .ref ka])) :=
      SB.new (ne := N) ⟨by rw [upd_ne (ne_of_none hz3 hka)]; exact hz3, by rw [upd_ne (ne_of_none hra3 hka)]; exact hra3, hps3.new hka, upd_same, hd3.new hka⟩ hT0
    generalize upd (upd H3 ka (.lst (rgV 0 sizes.length))) T0 (.tup [.int sizes.length, .ref ka]) = H4 at sb fr5
    have hpos := ok.pos
    have hsum := sum_ge sizes ok.small
    have nra : ra ∉ [d, l] := hd.ne hra0
    have nka : ka ∉ [d, l] := hd.ne hka0
    have nz : z ∉ [d, l] := hd.ne hz0
    have hlen : ∀ p ∈ ps, p.2.length = sizes.length := fun p hp => (rowsOf_box sizes p.2 (by rw [← eps]; exact List.mem_map_of_mem hp)).1
    have pne : ps ≠ [] := fun e => by
      have := rowsOf_len_pos sizes ok.small
      rw [← eps, rR_len, e] at this
      exact absurd this (by decide)
    refine ⟨_, rfl, rfl, _, rfl, ite2 (fun _ => ?_) fun _ => ?_⟩
    · refine ⟨_, rfl, _, rfl, by show 2 ≤ sizeLine; decide, fun T hT => ?_⟩
      exact q sizes z ra T ps _ ok pne (by rw [eps]; exact List.Sublist.refl _) hz0 hra0 (fresh_dl fr5 sb.dl hT) (sb.new N hT).z (sb.new N hT).r (sb.new N hT).w upd_same (sb.new N hT).dl (fr5.trans (.new hT))
    · refine ⟨MidS d l z ra ka sizes ps H, ?_, ?_⟩
      · have fin : ∀ {σ : L2.St} {Hx H' : Hp} {D : Addr} {qs : List (Addr × List Int)}, SB d l z ra ka sizes ps Hx → Fr [d, l] H Hx → Hx D = none → qs.Sublist ps → H' D = some (.lst (rV qs)) → Dl d l H' → Fr [d, l] Hx H' →
            σ[8]? = some (some (.ref D)) → σ[0]? = some (some (.ref d)) → σ[2]? = some (some (.ref z)) → σ[3]? = some (some (.ref ra)) → MidS d l z ra ka sizes ps H σ H' :=
          fun {σ Hx H' D qs} b f hD hs hD' hd' f' e8 e0 e2 e3 => ⟨D, qs, e8, e0, e2, e3, hs, hD', fresh_dl f b.dl hD, b.fr N f' hd', f.trans f'⟩
        have kget : ∀ {i : Nat} {x : V}, (rgV 0 (sizes.length : Int))[i]? = some x → ∃ k : Int, x = .int k ∧ 0 ≤ k ∧ k < sizes.length := fun {i x} h => by
          obtain ⟨e, hi⟩ := rg_get h
          exact ⟨i, e, by omega, by omega⟩
        refine ⟨_, rfl, rfl, _, rfl, ite2 (fun _ => ?_) fun _ => ?_⟩
        · -- 1
          refine ⟨_, rfl, _, rfl, z, sizes, rfl, SqL.of sb.z, _, rfl, _, _, rfl, rfl, _, _, rfl, rfl, d, l, _, rfl, sb.dl, by omega, by omega, fun tot H5 _ _ hd5 f5 => ?_⟩
          have sb5 := sb.fr N f5 hd5
          refine ⟨_, rfl, ra, rfl, ⟨_, SqL.of sb5.r⟩, fun D hD => lcFilt sb5.r sb5.w hd5 nra (by omega) hD (fun _ => rfl) (fun _ => rfl) (fun p hp H2 Z hd2 hR2 _ _ zk => ?_) fun H' qs hs hD' _ _ hd' fr' => fin sb5 (fr5.trans f5) hD hs hD' hd' fr' rfl rfl rfl rfl⟩
          exact ⟨_, rfl, p.1, p.2, rfl, hR2 p hp, _, rfl, rfl, _, rfl, zk _ _ hd2 .refl⟩
        refine ⟨_, rfl, rfl, _, rfl, ite2 (fun _ => ?_) fun _ => ?_⟩
        · -- 2
          refine ⟨_, rfl, _, rfl, z, sizes, rfl, SqL.of sb.z, _, rfl, _, _, rfl, rfl, _, _, rfl, rfl, d, l, _, rfl, sb.dl, by omega, by omega, fun low H5 _ _ hd5 f5 => ?_⟩
          refine ⟨_, rfl, _, _, rfl, rfl, _, rfl, d, l, _, rfl, hd5, by decide, by decide, fun wid H6 _ _ hd6 f6 => ⟨_, _, rfl, rfl, ?_⟩⟩
          have sb6 := (sb.fr N f5 hd5).fr N f6 hd6
          refine ⟨_, rfl, ra, rfl, ⟨_, SqL.of sb6.r⟩, fun D hD => lcFilt sb6.r sb6.w hd6 nra (by omega) hD (fun _ => rfl) (fun _ => rfl) (fun p hp H2 Z hd2 hR2 _ _ zk => ?_) fun H' qs hs hD' _ _ hd' fr' => fin sb6 ((fr5.trans f5).trans f6) hD hs hD' hd' fr' rfl rfl rfl rfl⟩
          refine ⟨_, rfl, _, rfl, p.1, p.2, rfl, hR2 p hp, _, _, rfl, rfl, _, rfl, ite2 (fun _ => ?_) fun _ => ?_⟩
          · exact ⟨_, rfl, _, _, rfl, rfl, _, rfl, zk _ _ hd2 .refl⟩
          · exact ⟨_, rfl, zk _ _ hd2 .refl⟩
        refine ⟨_, rfl, rfl, _, rfl, ite2 (fun _ => ?_) fun _ => ?_⟩
        · -- 3
          refine ⟨_, rfl, _, rfl, d, l, ka, _, rfl, sb.dl, sb.k, nka, by rw [rg_len]; omega, by rw [rg_len]; omega, fun i1 x1 H5 hx1 hd5 f5 => ?_⟩
          have sb5 := sb.fr N f5 hd5
          refine ⟨_, rfl, _, rfl, d, l, ka, _, rfl, sb5.dl, sb5.k, nka, by rw [rg_len]; omega, by rw [rg_len]; omega, fun i2 x2 H6 hx2 hd6 f6 => ?_⟩
          have sb6 := sb5.fr N f6 hd6
          obtain ⟨one, rfl, o0, o1⟩ := kget hx1
          obtain ⟨oth, rfl, t0, t1⟩ := kget hx2
          refine ⟨_, rfl, d, l, _, rfl, hd6, by decide, by decide, fun pp H7 _ _ hd7 f7 => ⟨_, _, rfl, rfl, _, rfl, d, l, _, rfl, hd7, by decide, by decide, fun qq H8 _ _ hd8 f8 => ⟨_, _, rfl, rfl, by show 4 ≤ sizeLine; decide, fun T hT => ?_⟩⟩⟩
          have sb8 := ((sb6.fr N f7 hd7).fr N f8 hd8).new (o := .tup [.int one, .int oth, .int (1 + pp), .int (1 + qq)]) N hT
          have f9 := ((((fr5.trans f5).trans f6).trans f7).trans f8).trans (.new (o := .tup [.int one, .int oth, .int (1 + pp), .int (1 + qq)]) hT)
          refine ⟨T, _, rfl, SqT.of upd_same, rfl, _, _, rfl, _, _, rfl, _, _, rfl, _, _, rfl, rfl, ?_⟩
          refine ⟨_, rfl, ra, rfl, ⟨_, SqL.of sb8.r⟩, fun D hD => lcFilt sb8.r sb8.w sb8.dl nra (by omega) hD (fun _ => rfl) (fun _ => rfl) (fun p hp H2 Z hd2 hR2 _ f2 zk => ?_) fun H' qs hs hD' _ _ hd' fr' => fin sb8 f9 hD hs hD' hd' fr' rfl rfl rfl rfl⟩
          have hl := hlen p hp
          have z2 := f2.keep _ _ nz sb8.z
          refine ⟨_, rfl, _, rfl, p.1, _, _, _, rfl, rfl, SqT.of (hR2 p hp), getD_of o0 (by omega), _, rfl, _, _, rfl, rfl, _, rfl, ite2 (fun _ => zk _ _ hd2 .refl) fun _ => ?_⟩
          exact ⟨_, rfl, _, rfl, p.1, _, _, _, rfl, rfl, SqT.of (hR2 p hp), getD_of t0 (by omega), _, rfl, _, rfl, _, rfl, z, _, _, _, rfl, rfl, SqL.of z2, getD_of t0 (by omega), _, _, rfl, rfl, _, _, rfl, _, _, rfl, rfl, _, rfl, zk _ _ hd2 .refl⟩
        refine ⟨_, rfl, rfl, _, rfl, ite2 (fun _ => ?_) fun _ => ?_⟩
        · -- 4
          refine ⟨_, rfl, by show 3 ≤ sizeLine; decide, fun t ht => ⟨d, l, t, _, rfl, sb.dl.new ht, upd_same, sb.dl.ne ht, by show 1 ≤ 3; decide, by show 3 ≤ 1000; decide, fun i x H5 hx hd5 f5 => ?_⟩⟩
          have sb5 := (sb.new (o := .lst [.int 2, .int 2, .int 3]) N ht).fr N f5 hd5
          have f6 := (fr5.trans (.new (o := .lst [.int 2, .int 2, .int 3]) ht)).trans f5
          obtain ⟨pr, rfl, pr1, _⟩ := small_of hx (by
            intro y hy
            simp only [List.mem_cons, List.not_mem_nil, or_false] at hy
            rcases hy with rfl | rfl | rfl <;> exact ⟨_, rfl, by decide, by decide⟩)
          refine ⟨_, rfl, ka, rfl, ⟨_, SqL.of sb5.k⟩, fun D hD => lcG (walk_list (xs := rgV 0 sizes.length)) [d, l] (fun i acc H => ∃ ws, acc = iV ws ∧ ws.length = i ∧ (∀ x ∈ ws, 0 ≤ x ∧ x < 3) ∧ Dl d l H) hD (by rw [rg_len, sizeLine_eq]; omega) ⟨[], rfl, rfl, (fun _ z => nomatch z), hd5⟩
            (fun i acc H H' f _ ⟨ws, e, h1, h2, h⟩ => ⟨ws, e, h1, h2, h.fr f (fun z => hd5.ne hD (by rw [← List.mem_singleton.mp z]; simp)) (fun z => hd5.ne hD (by rw [← List.mem_singleton.mp z]; simp))⟩)
            (fun i acc H _ f _ => SqL.of (f.keep _ _ nka sb5.k)) ?_ ?_⟩
          · rintro i x _ H acc hi hD2 fr ⟨ws, rfl, h1, h2, hd2⟩ ⟨rfl, hx⟩ yes no
            refine ⟨rfl, ?_⟩
            refine ⟨_, rfl, d, l, _, rfl, hd2, by decide, by decide, fun r H' r0 r1 hd' f' => ?_⟩
            refine yes _ _ (f'.keep _ _ (hd5.ne hD) hD2) (fr.trans f') ⟨ws ++ [r], by rw [iV_snoc], by simp [h1], fun x hx => ?_, hd'⟩
            rcases List.mem_append.mp hx with hx | hx
            · exact h2 x hx
            · obtain rfl : x = r := by simpa using hx
              exact ⟨r0, r1⟩
          · rintro acc H6 hD6 hl6 f7 ⟨ws, rfl, h1, h2, hd6⟩
            rw [rg_len] at h1
            have sb6 := sb5.fr N f7 hd6
            refine ⟨by show 2 ≤ sizeLine; decide, fun T hT => ?_⟩
            refine ⟨T, _, rfl, SqT.of upd_same, rfl, _, _, rfl, _, _, rfl, rfl, ?_⟩
            have sb7 := sb6.new (o := .tup [.int pr, .ref D]) N hT
            have w7 : upd H6 T (.tup [.int pr, .ref D]) D = some (.lst (iV ws)) := by rw [upd_ne (ne_of_none hD6 hT)]; exact hD6
            refine ⟨_, rfl, ra, rfl, ⟨_, SqL.of sb7.r⟩, fun D3 hD3 => lcFilt sb7.r sb7.w sb7.dl nra (by omega) hD3 (fun _ => rfl) (fun _ => rfl) (fun p hp H2 Z hd2 hR2 _ f2 zk => ?_) fun H' qs hs hD' _ _ hd' fr' => fin sb7 ((f6.trans f7).trans (.new hT)) hD3 hs hD' hd' fr' rfl rfl rfl rfl⟩
            have w2 := f2.keep _ _ (hd5.ne hD) w7
            have el : (iV ws).length = (iV p.2).length := by rw [iV_len, iV_len, h1, hlen p hp]
            refine ⟨_, rfl, _, rfl, true, false, D, p.1, _, _, rfl, SqB.l w2, SqB.t (hR2 p hp), fun D4 hD4 => lcG (walk_zipB el) [] (fun i acc H => ∃ zs, acc = iV zs) hD4 (by rw [iV_len, h1, sizeLine_eq]; omega) ⟨[], rfl⟩
              (fun _ _ _ _ _ _ t => t) (fun i acc H _ f _ => ⟨SqB.l (f.keep _ _ (fun z => nomatch z) w2), SqB.t (f.tup _ _ (hR2 p hp))⟩) ?_ ?_⟩
            · rintro i x H9 H8 acc hi hD5 fr ⟨zs, rfl⟩ ⟨T2, u, v, rfl, hT2, rfl, hu, hv⟩ yes no
              obtain ⟨m, hm', rfl⟩ := iV_get hu
              obtain ⟨n, hn', rfl⟩ := iV_get hv
              have hb := h2 m (List.mem_of_getElem? hm')
              refine ⟨T2, _, rfl, SqT.of upd_same, rfl, _, _, rfl, _, _, rfl, rfl, rfl, ?_⟩
              refine ⟨_, rfl, _, rfl, _, _, rfl, rfl, .inl ⟨by omega, by omega⟩, ?_⟩
              exact yes _ _ (by rw [upd_ne (ne_of_none hD5 hT2)]; exact hD5) (fr.trans (.new hT2)) ⟨zs ++ [m * n], by rw [iV_snoc]⟩
            · rintro acc H9 hD5 hl5 fr ⟨zs, rfl⟩
              exact ⟨D4, zs, rfl, SqL.of hD5, .inl ⟨_, rfl, _, rfl, _, _, rfl, rfl, (by omega), rfl, _, rfl, zk _ _ (hd2.same fr) fr.dl⟩⟩
        refine ⟨_, rfl, rfl, _, rfl, ite2 (fun _ => ?_) fun _ => ?_⟩
        · -- 5
          refine ⟨_, rfl, _, rfl, d, l, ka, _, rfl, sb.dl, sb.k, nka, by rw [rg_len]; omega, by rw [rg_len]; omega, fun i1 x1 H5 hx1 hd5 f5 => ?_⟩
          have sb5 := sb.fr N f5 hd5
          refine ⟨_, rfl, _, rfl, d, l, ka, _, rfl, sb5.dl, sb5.k, nka, by rw [rg_len]; omega, by rw [rg_len]; omega, fun i2 x2 H6 hx2 hd6 f6 => ?_⟩
          have sb6 := sb5.fr N f6 hd6
          obtain ⟨one, rfl, o0, o1⟩ := kget hx1
          obtain ⟨oth, rfl, t0, t1⟩ := kget hx2
          refine ⟨by show 2 ≤ sizeLine; decide, fun T hT => ?_⟩
          have sb8 := sb6.new (o := .tup [.int one, .int oth]) N hT
          have f9 := ((fr5.trans f5).trans f6).trans (.new (o := .tup [.int one, .int oth]) hT)
          refine ⟨T, _, rfl, SqT.of upd_same, rfl, _, _, rfl, _, _, rfl, rfl, ?_⟩
          refine ⟨_, rfl, ra, rfl, ⟨_, SqL.of sb8.r⟩, fun D hD => lcFilt sb8.r sb8.w sb8.dl nra (by omega) hD (fun _ => rfl) (fun _ => rfl) (fun p hp H2 Z hd2 hR2 _ f2 zk => ?_) fun H' qs hs hD' _ _ hd' fr' => fin sb8 f9 hD hs hD' hd' fr' rfl rfl rfl rfl⟩
          have hl := hlen p hp
          exact ⟨_, rfl, _, rfl, p.1, _, _, _, rfl, rfl, SqT.of (hR2 p hp), getD_of o0 (by omega), _, rfl, _, rfl, p.1, _, _, _, rfl, rfl, SqT.of (hR2 p hp), getD_of t0 (by omega), _, _, rfl, rfl, .inl ⟨_, rfl, _, _, rfl, rfl, (by show (0 : Int) < 2; decide), rfl, _, rfl, zk _ _ hd2 .refl⟩⟩
        refine ⟨_, rfl, rfl, _, rfl, ite2 (fun _ => ?_) fun _ => ?_⟩
        · -- 6
          refine ⟨_, rfl, ra, rfl, ⟨_, SqL.of sb.r⟩, fun D hD => lcFilt sb.r sb.w sb.dl nra (by omega) hD (fun _ => rfl) (fun _ => rfl) (fun p hp H2 Z hd2 hR2 _ f2 zk => ?_) fun H' qs hs hD' _ _ hd' fr' => fin sb fr5 hD hs hD' hd' fr' rfl rfl rfl rfl⟩
          exact ⟨_, rfl, d, l, _, rfl, hd2, by decide, by decide, fun r H' _ _ hd' f' => ⟨_, _, rfl, rfl, _, rfl, zk _ _ hd' f'⟩⟩
        refine ⟨_, rfl, rfl, _, rfl, ite2 (fun _ => ?_) fun _ => ?_⟩
        · -- 7
          refine ⟨_, rfl, ra, rfl, ⟨_, SqL.of sb.r⟩, fun D hD => lcFilt sb.r sb.w sb.dl nra (by omega) hD (fun _ => rfl) (fun _ => rfl) (fun p hp H2 Z hd2 hR2 _ f2 zk => ?_) fun H' qs hs hD' _ _ hd' fr' => fin sb fr5 hD hs hD' hd' fr' rfl rfl rfl rfl⟩
          exact ⟨_, rfl, d, l, _, rfl, hd2, by decide, by decide, fun r H' _ _ hd' f' => ⟨rfl, _, rfl, zk _ _ hd' f'⟩⟩
        refine ⟨_, rfl, rfl, _, rfl, ite2 (fun _ => ?_) fun _ => ?_⟩
        · -- 8
          refine ⟨_, rfl, ra, rfl, ⟨_, SqL.of sb.r⟩, fun D hD => lcFilt sb.r sb.w sb.dl nra (by omega) hD (fun _ => rfl) (fun _ => rfl) (fun p hp H2 Z hd2 hR2 _ f2 zk => ?_) fun H' qs hs hD' _ _ hd' fr' => fin sb fr5 hD hs hD' hd' fr' rfl rfl rfl rfl⟩
          exact ⟨_, rfl, d, l, _, rfl, hd2, by decide, by decide, fun r H' _ _ hd' f' => ⟨rfl, _, rfl, zk _ _ hd' f'⟩⟩
        · -- 9
          refine ⟨_, rfl, ra, rfl, ⟨_, SqL.of sb.r⟩, fun D hD => lcG (walk_list (xs := rV ps)) [] (fun i acc H => ∃ qs, acc = rV qs ∧ RwL H qs ∧ qs.length = i) hD (by rw [rV_len, sizeLine_eq]; omega) ⟨[], rfl, .nil, rfl⟩
            (fun i acc H H' f _ ⟨qs, e, h1, h2⟩ => ⟨qs, e, h1.fr f, h2⟩) (fun i acc H _ f _ => SqL.of (f.keep _ _ (fun z => nomatch z) sb.r)) ?_ ?_⟩
          · rintro i x _ H5 acc hi hD2 fr ⟨qs, rfl, h1, h2⟩ ⟨rfl, hx⟩ yes no
            obtain ⟨p, hp, rfl⟩ := rV_get hx
            have hp2 := fr.tup _ _ (sb.w p (List.mem_of_getElem? hp))
            refine ⟨rfl, ?_⟩
            obtain ⟨ms, em, _⟩ := cut_to (ns := p.2) (k := (sizes.length : Int) / 2) (by omega)
            refine ⟨_, rfl, _, rfl, _, _, rfl, rfl, ⟨by decide, by decide⟩, _, rfl, p.1, _, rfl, SqT.of hp2, fun _ => ?_, fun _ c hc => ?_⟩
            · exact yes _ _ hD2 fr ⟨qs ++ [(p.1, p.2)], by rw [rV_snoc], h1.snoc hp2, by simp [h2]⟩
            · rw [em]
              exact yes _ _ (by rw [upd_ne (ne_of_none hD2 hc)]; exact hD2) (fr.trans (.new hc)) ⟨qs ++ [(c, ms)], by rw [rV_snoc], (h1.new hc).snoc upd_same, by simp [h2]⟩
          · rintro acc H5 hD5 hl5 f6 ⟨parts, rfl, hparts, _⟩
            rw [rV_len, rV_len] at hl5
            have sb5 := sb.fr N f6.dl (sb.dl.same f6)
            have nD : D ∉ [d, l] := sb.dl.ne hD
            refine ⟨_, rfl, true, D, rV parts, rfl, SqB.l hD5, fun D2 hD2 => lcG (walk_enumB (k := true) (a := D) (xs := rV parts)) [d, l] (fun i acc H => ∃ qs, acc = rV qs ∧ RwL H qs ∧ qs.length ≤ i ∧ Dl d l H) hD2 (by rw [rV_len, sizeLine_eq]; omega) ⟨[], rfl, .nil, Nat.le_refl _, sb5.dl⟩
              (fun i acc H H' f _ ⟨qs, e, h1, h2, h⟩ => ⟨qs, e, h1.fr f, h2, h.fr f (fun z => sb5.dl.ne hD2 (by rw [← List.mem_singleton.mp z]; simp)) (fun z => sb5.dl.ne hD2 (by rw [← List.mem_singleton.mp z]; simp))⟩)
              (fun i acc H _ f _ => SqB.l (f.keep _ _ nD hD5)) ?_ ?_⟩
            · rintro i x H9 H8 acc hi hD3 fr ⟨qs, rfl, h1, h2, hd2⟩ ⟨T2, u, v, rfl, hT2, rfl, hu, hv⟩ yes no
              obtain rfl : V.int (i : Nat) = u := Option.some.inj hu
              obtain ⟨p, hp, rfl⟩ := rV_get hv
              have hp2 := fr.tup _ _ (hparts p (List.mem_of_getElem? hp))
              have ft : Fr [d, l] H9 (upd H9 T2 (.tup [.int (i : Nat), .ref p.1])) := .new hT2
              obtain ⟨ms, em, hms⟩ := cut_rows (ps := parts) (k := (i : Nat))
              refine ⟨T2, _, rfl, SqT.of upd_same, rfl, _, _, rfl, _, _, rfl, rfl, rfl, ?_⟩
              refine ⟨_, rfl, _, rfl, _, rfl, _, rfl, D, _, rfl, SqL.of (ft.keep _ _ nD (fr.keep _ _ nD hD5)), fun c hc => ?_⟩
              rw [em]
              have fc : Fr [d, l] H9 (upd (upd H9 T2 (.tup [.int (i : Nat), .ref p.1])) c (.lst (rV ms))) := ft.trans (.new hc)
              refine nin_rows (p := p) (ps := ms) (fc.tup _ _ hp2) upd_same ((hparts.fr (fr.trans fc)).sub hms) ⟨_, rfl, ite2 (fun _ => ?_) fun _ => ?_⟩
              · refine ⟨_, rfl, d, l, _, rfl, (hd2.new hT2).new hc, by decide, by decide, fun r H' _ _ hd' f' => ⟨_, _, rfl, rfl, _, rfl, ite2 (fun _ => ?_) fun _ => ?_⟩⟩
                · exact ⟨_, rfl, yes _ _ (f'.keep _ _ (sb5.dl.ne hD2) (fc.keep _ _ (sb5.dl.ne hD2) hD3)) (fr.trans (fc.trans f')) ⟨qs ++ [p], by rw [rV_snoc], (h1.fr (fc.trans f')).snoc ((fc.trans f').tup _ _ hp2), by simp; omega, hd'⟩⟩
                · exact no _ (f'.keep _ _ (sb5.dl.ne hD2) (fc.keep _ _ (sb5.dl.ne hD2) hD3)) (fr.trans (fc.trans f')) ⟨qs, rfl, h1.fr (fc.trans f'), by omega, hd'⟩
              · exact no _ (fc.keep _ _ (sb5.dl.ne hD2) hD3) (fr.trans fc) ⟨qs, rfl, h1.fr fc, by omega, (hd2.new hT2).new hc⟩
            · rintro acc H7 hD7 hl7 f7 ⟨kept, rfl, hkept, _, hd7⟩
              have sb7 := sb5.fr N f7 hd7
              refine ⟨_, rfl, ra, rfl, ⟨_, SqL.of sb7.r⟩, fun D3 hD3 => lcFilt sb7.r sb7.w sb7.dl nra (by omega) hD3 (fun _ => rfl) (fun _ => rfl) (fun p hp H2 Z hd2 hR2 _ f2 zk => ?_) fun H' qs hs hD' _ _ hd' fr' => fin sb7 ((fr5.trans f6.dl).trans f7) hD3 hs hD' hd' fr' rfl rfl rfl rfl⟩
              obtain ⟨ms, em, _⟩ := cut_to (ns := p.2) (k := (sizes.length : Int) / 2) (by omega)
              have hk2 := f2.keep _ _ (sb5.dl.ne hD2) hD7
              refine ⟨_, rfl, _, rfl, _, _, rfl, rfl, ⟨by decide, by decide⟩, _, rfl, p.1, _, rfl, SqT.of (hR2 p hp), fun _ => ?_, fun _ c hc => ?_⟩
              · exact ⟨_, rfl, in_rows (p := p) (hR2 p hp) hk2 (hkept.fr f2) ⟨_, rfl, zk _ _ hd2 .refl⟩⟩
              · rw [em]
                have fc : Fr [d, l] H2 (upd H2 c (.tup (iV ms))) := .new hc
                exact ⟨_, rfl, in_rows (p := (c, ms)) upd_same (fc.keep _ _ (sb5.dl.ne hD2) hk2) ((hkept.fr f2).fr fc) ⟨_, rfl, zk _ _ (hd2.new hc) fc⟩⟩
      · rintro σ H5 ⟨p, qs, e8, e0, e2, e3, hs, hp, hp0, sb5, f5⟩
        refine ⟨_, e2, _, e8, Nat.zero_le _, fun c hc => ⟨p, c, _, rfl, rfl, by rw [upd_ne (ne_of_none hp hc)]; exact hp, upd_same, _, rfl, ?_⟩⟩
        have sb6 := sb5.new (o := .lst []) N hc
        have f6 := f5.trans (.new (o := .lst []) hc)
        have hp6 : upd H5 c (.lst []) p = some (.lst (rV qs)) := by rw [upd_ne (ne_of_none hp hc)]; exact hp
        cases qs with
        | nil =>
          refine iteF ?_
          refine ⟨_, e0, _, e3, d, l, ra, _, rfl, sb6.dl, sb6.r, nra, ?_, by rw [rV_len]; omega, fun i x H7 hx hd7 f7 => ⟨by show 1 ≤ sizeLine; decide, fun r hr => ⟨by show 2 ≤ sizeLine; decide, fun T hT => ?_⟩⟩⟩
          · rw [rV_len]
            exact List.length_pos_iff.mpr pne
          · obtain ⟨p1, hp1, rfl⟩ := rV_get hx
            have sb8 := (sb6.fr N f7 hd7).new (o := .lst [.ref p1.1]) N hr
            have sb9 := sb8.new (o := .tup [.ref z, .ref r]) N hT
            have f8 := ((f6.trans f7).trans (.new (o := .lst [.ref p1.1]) hr))
            have hm := List.mem_of_getElem? hp1
            refine q sizes z r T [p1] _ ok (by simp) ?_ hz0 (fresh_dl (f6.trans f7) hd7 hr) (fresh_dl f8 sb8.dl hT) sb9.z ?_ (sb9.w.sub fun x hx => ?_) upd_same sb9.dl (f8.trans (.new hT))
            · rw [← eps]
              exact List.singleton_sublist.mpr (List.mem_map_of_mem hm)
            · rw [upd_ne (ne_of_none upd_same hT), upd_same]
              rfl
            · obtain rfl : x = p1 := by simpa using hx
              exact hm
        | cons q0 qs =>
          refine iteT ⟨_, e8, by show 2 ≤ sizeLine; decide, fun T hT => ?_⟩
          have sb9 := sb6.new (o := .tup [.ref z, .ref p]) N hT
          refine q sizes z p T (q0 :: qs) _ ok (by simp) ?_ hz0 hp0 (fresh_dl f6 sb6.dl hT) sb9.z ?_ (sb9.w.sub fun x hx => hs.subset hx) upd_same sb9.dl (f6.trans (.new hT))
          · rw [← eps]
            exact hs.map _
          · rw [upd_ne (ne_of_none hp6 hT)]
            exact hp6
end
end K13
/-! K13L10 -/
set_option autoImplicit true
set_option Elab.async false
set_option linter.all false
set_option maxRecDepth 100000
set_option maxHeartbeats 2000000
set_option pp.maxSteps 600
namespace K13
open PySem PySem.Spec PyProof.Rows L2
/-- rows that lie in the heap as lists or as tuples -/
structure GvE where
  k : Bool
  a : Addr
  r : Row
def gvV (es : List GvE) : List V := es.map fun e => V.ref e.a
def GvL (d l : Addr) (H : Hp) (es : List GvE) : Prop := ∀ e ∈ es, SqB e.k H e.a (iV e.r) ∧ e.a ∉ [d, l]
theorem GvL.fr {d l : Addr} {H H' : Hp} {es : List GvE} (f : Fr [d, l] H H') (h : GvL d l H es) : GvL d l H' es := fun e he => ⟨(h e he).1.fr f (h e he).2, (h e he).2⟩
section
variable {P : Program} {w : World} {K : PySem.W.Frag} {mg : Str → Option Value} {base : Heap} {f : Addr} {fd : FuncData}
def spGiven : Sp := fun vs H Q _ => ∃ d l ra ps, vs = [.ref d, .ref ra] ∧ Dl d l H ∧ H ra = some (.lst (rV ps)) ∧ RwL H ps ∧ ra ∉ [d, l] ∧ ps ≠ [] ∧ ps.length ≤ 24 ∧ ∀ p es H', H p = none → H' p = some (.lst (gvV es)) → GvL d l H' es → (∀ e ∈ es, e.r ∈ rR ps) → (∀ r ∈ rR ps, ∃ e ∈ es, e.r = r) → es.length ≤ 25 → Dl d l H' → Fr [d, l] H H' → Q (.ref p) H'
theorem Dl.tup_ne {d l a : Addr} {H : Hp} {xs : List V} (h : Dl d l H) (ha : H a = some (.tup xs)) : a ∉ [d, l] := fun q => by
  obtain ⟨ys, b, h1, h2, _⟩ := h
  rcases List.mem_cons.mp q with e | q
  · rw [e, h1] at ha
    cases ha
  · rw [List.mem_singleton.mp q, h2] at ha
    cases ha
theorem gv_perm {es : List GvE} {ys : List V} (h : ys.Perm (gvV es)) : ∃ es', ys = gvV es' ∧ es'.Perm es := by
  have : ∀ (zs ys : List V), zs.Perm ys → ∀ es, zs = gvV es → ∃ es', ys = gvV es' ∧ es'.Perm es := by
    clear h
    intro zs ys hp
    induction hp with
    | nil =>
      intro es he
      cases es with
      | nil => exact ⟨[], rfl, .refl _⟩
      | cons a es => exact absurd he (by simp [gvV])
    | cons x p ih =>
      intro es he
      cases es with
      | nil => exact absurd he (by simp [gvV])
      | cons a es =>
        simp only [gvV, List.map_cons, List.cons.injEq] at he
        obtain ⟨es', e1, e2⟩ := ih es he.2
        exact ⟨a :: es', by rw [e1, he.1]; rfl, e2.cons a⟩
    | swap x y l =>
      intro es he
      match es, he with
      | [], he => exact absurd he (by simp [gvV])
      | [a], he => exact absurd he (by simp [gvV])
      | a :: b :: es, he =>
        simp only [gvV, List.map_cons, List.cons.injEq] at he
        exact ⟨b :: a :: es, by rw [he.1, he.2.1, he.2.2]; rfl, .swap _ _ _⟩
    | trans p q ih1 ih2 =>
      intro es he
      obtain ⟨e1, a1, b1⟩ := ih1 es he
      obtain ⟨e2, a2, b2⟩ := ih2 e1 a1
      exact ⟨e2, a2, b2.trans b1⟩
  exact this _ _ h.symm es rfl
theorem gvV_len {es : List GvE} : (gvV es).length = es.length := by simp [gvV]
theorem cal_l_given (B : Bt mg) (cA : Cal P w K mg base 1 "_law_any" spAny) (cO : Cal P w K mg base 2 "_law_of" spOf) (cM : Cal P w K mg base 2 "_law_mixed" spMixed)
    (F : FnP K "_law_given" s_l_given f fd) (hm : mg "_law_given" = some (.ref f)) : Cal P w K mg base 3 "_law_given" spGiven := by
  refine cal0 F hm sc_l_given (fun _ _ _ _ _ _ us hl => match us, hl with | [_, _], _ => rfl) (fun vs H Q E h => ?_) (fun cdv A outer s H vs Q E hr h => ?_)
  · obtain ⟨d, l, ra, ps, rfl, _⟩ := h
    rfl
  · obtain ⟨d, l, ra, ps, rfl, hd, hra, hps, nra, pne, hpl, q⟩ := h
    have nd := sc_l_given.nd
    refine ⟨_, pss_cons (ps_setLc (i := 2) (own := [("_law_row", 3)]) (g := gName 3) rfl nd rfl rfl (sw_true rfl rfl rfl (by decide +kernel)) (pi_list (pv 1)) (blkOk_by (N := N_l_given) (sc := defScope s_l_given) (by decide +kernel))
        (fun _ _ _ _ _ => pg_name (i := 3) nd rfl (Or.inl rfl)) (fun _ _ _ _ _ => pts_nil) (fun _ _ _ _ _ => pe_ifExp (pt_cmpR op_eq (pc cA hr (pa_cons (pv 0) (pa_cons pe_int pa_nil))) pe_int (nomark _)) (k_listOf K B (pv 3)) (pv 3)))
      (pss_one (ps_ret (pc cM hr (pa_cons (pv 0) (pa_cons (pe_op op_cat (pv 2) (pe_slice sl_list (pe_lst (pa_cons (b_listOf B (pc cO hr (pa_cons (pv 0) (pa_cons (pv 1) pa_nil)))) pa_nil)) po_none (po_some (pc cA hr (pa_cons (pv 0) (pa_cons pe_int pa_nil)))))) pa_nil))))), ?_⟩
    refine ⟨_, rfl, ra, rfl, ⟨_, SqL.of hra⟩, fun D hD => lcG (walk_list (xs := rV ps)) [d, l] (fun i acc H => ∃ es, acc = gvV es ∧ GvL d l H es ∧ D ∉ es.map (·.a) ∧ es.map (·.r) = (rR ps).take i ∧ Dl d l H) hD (by rw [rV_len, sizeLine_eq]; omega) ⟨[], rfl, (fun _ z => nomatch z), (fun z => nomatch z), rfl, hd⟩
      (fun i acc H1 H' f _ ⟨es, e, h1, h2, h3, h⟩ => ⟨es, e, fun e he => ⟨(h1 e he).1.fr f fun z => h2 (by rw [← List.mem_singleton.mp z]; exact List.mem_map_of_mem he), (h1 e he).2⟩, h2, h3, h.fr f (fun z => hd.ne hD (by rw [← List.mem_singleton.mp z]; simp)) (fun z => hd.ne hD (by rw [← List.mem_singleton.mp z]; simp))⟩)
      (fun i acc H _ f _ => SqL.of (f.keep _ _ nra hra)) ?_ ?_⟩
    · rintro i x _ H1 acc hi hD2 fr ⟨es, rfl, h1, h2, h3, hd2⟩ ⟨rfl, hx⟩ yes no
      obtain ⟨p, hp, rfl⟩ := rV_get hx
      have hrow : (rR ps)[i]? = some p.2 := by rw [rR, List.getElem?_map, hp]; rfl
      have et : (rR ps).take (i + 1) = (rR ps).take i ++ [p.2] := take_snoc hrow
      have hp0 := hps p (List.mem_of_getElem? hp)
      have hp1 := fr.tup _ _ hp0
      refine ⟨rfl, ?_⟩
      refine ⟨_, rfl, d, l, _, rfl, hd2, by decide, by decide, fun r H' _ _ hd' f' => ⟨rfl, _, rfl, ite2 (fun _ => ?_) fun _ => ?_⟩⟩
      · refine ⟨_, rfl, p.1, _, rfl, .inr (SqT.of (f'.tup _ _ hp1)), fun c hc => ?_⟩
        have fc := f'.trans (.new (o := .lst (iV p.2)) hc)
        have kD := fc.keep _ _ (hd.ne hD) hD2
        refine yes _ _ kD (fr.trans fc) ⟨es ++ [⟨true, c, p.2⟩], by simp [gvV], fun e he => ?_, ?_, by simp [h3, et], hd'.new hc⟩
        · rcases List.mem_append.mp he with he | he
          · exact h1.fr fc e he
          · obtain rfl : e = ⟨true, c, p.2⟩ := by simpa using he
            exact ⟨SqB.l upd_same, hd'.ne hc⟩
        · intro z
          rw [List.map_append] at z
          rcases List.mem_append.mp z with z | z
          · exact h2 z
          · obtain rfl : D = c := by simpa using z
            have := f'.keep _ _ (hd.ne hD) hD2
            rw [hc] at this
            cases this
      · refine ⟨_, rfl, ?_⟩
        refine yes _ _ (f'.keep _ _ (hd.ne hD) hD2) (fr.trans f') ⟨es ++ [⟨false, p.1, p.2⟩], by simp [gvV], fun e he => ?_, ?_, by simp [h3, et], hd'⟩
        · rcases List.mem_append.mp he with he | he
          · exact h1.fr f' e he
          · obtain rfl : e = ⟨false, p.1, p.2⟩ := by simpa using he
            exact ⟨SqB.t (f'.tup _ _ hp1), hd.tup_ne hp0⟩
        · intro z
          rw [List.map_append] at z
          rcases List.mem_append.mp z with z | z
          · exact h2 z
          · obtain rfl : D = p.1 := by simpa using z
            rw [hD] at hp0
            cases hp0
    · rintro acc H1 hD1 hl1 f1 ⟨es, rfl, h1, h2, h3, hd1⟩
      have nD := hd.ne hD
      rw [rV_len, ← rR_len, List.take_length] at h3
      rw [gvV_len, rV_len] at hl1
      have hra1 := f1.keep _ _ nra hra
      refine ⟨_, rfl, _, rfl, _, rfl, _, rfl, ?_⟩
      refine ⟨d, l, ra, _, rfl, hd1, hra1, nra, by rw [rV_len]; cases ps with | nil => exact absurd rfl pne | cons => simp, by rw [rV_len]; omega, fun i x H2 hx hd2 f2 => ?_⟩
      obtain ⟨p, hp, rfl⟩ := rV_get hx
      have hpm := List.mem_of_getElem? hp
      have hp2 := (f1.trans f2).tup _ _ (hps p hpm)
      refine ⟨p.1, _, rfl, .inr (SqT.of hp2), fun c hc => ⟨by show 1 ≤ sizeLine; decide, fun t ht => ?_⟩⟩
      have f4 : Fr [d, l] H1 (upd (upd H2 c (.lst (iV p.2))) t (.lst [.ref c])) := (f2.trans (.new hc)).trans (.new ht)
      have hd4 : Dl d l (upd (upd H2 c (.lst (iV p.2))) t (.lst [.ref c])) := (hd2.new hc).new ht
      have hc4 : upd (upd H2 c (.lst (iV p.2))) t (.lst [.ref c]) c = some (.lst (iV p.2)) := by rw [upd_ne (ne_of_none upd_same ht), upd_same]
      have ht4 : upd (upd H2 c (.lst (iV p.2))) t (.lst [.ref c]) t = some (.lst [.ref c]) := upd_same
      have nc := hd2.ne hc
      have nt := (hd2.new hc).ne ht
      generalize upd (upd H2 c (.lst (iV p.2))) t (.lst [.ref c]) = H4 at f4 hd4 hc4 ht4
      refine ⟨_, rfl, d, l, _, rfl, hd4, by decide, by decide, fun r H5 r0 r1 hd5 f5 => ?_⟩
      refine ⟨_, rfl, t, _, rfl, SqL.of (f5.keep _ _ nt ht4), fun s hs => ?_⟩
      have f6 := f5.trans (.new (o := .lst (cutV [V.ref c] none (some r))) hs)
      have hc6 := f6.keep _ _ nc hc4
      have hD6 := (f4.trans f6).keep _ _ nD hD1
      have ex : ∃ xs : List GvE, cutV [V.ref c] none (some r) = gvV xs ∧ (∀ e ∈ xs, e = ⟨true, c, p.2⟩) ∧ xs.length ≤ 1 := by
        have : r = 0 ∨ r = 1 := by omega
        rcases this with rfl | rfl
        · exact ⟨[], rfl, (fun _ z => nomatch z), by simp⟩
        · exact ⟨[⟨true, c, p.2⟩], rfl, (fun e he => by simpa using he), by simp⟩
      obtain ⟨xs, ex, hxs, hxl⟩ := ex
      rw [ex] at f6 hc6 hD6 ⊢
      have hs6 : upd H5 s (.lst (gvV xs)) s = some (.lst (gvV xs)) := upd_same
      have hd6 : Dl d l (upd H5 s (.lst (gvV xs))) := hd5.new hs
      generalize upd H5 s (.lst (gvV xs)) = H6 at f6 hc6 hD6 hs6 hd6
      refine ⟨D, s, _, _, rfl, rfl, hD6, hs6, by rw [gvV_len, gvV_len, sizeLine_eq]; omega, fun g hg => ?_⟩
      have ec : gvV es ++ gvV xs = gvV (es ++ xs) := by simp [gvV]
      rw [ec]
      have fA := (f1.trans f4).trans f6
      have f7 := f6.trans (.new (o := .lst (gvV (es ++ xs))) hg)
      have hd7 := hd6.new (o := .lst (gvV (es ++ xs))) hg
      refine ⟨d, l, g, _, rfl, hd7, upd_same, by rw [gvV_len, List.length_append]; omega, fun ys p2 H8 hp hp0 hpH hd8 f8 => ?_⟩
      obtain ⟨zs, rfl, hz⟩ := gv_perm hp
      have fB : Fr [d, l] H H8 := (fA.trans (.new hg)).trans f8
      have f9 : Fr [d, l] H1 H8 := ((f4.trans f6).trans (.new hg)).trans f8
      refine q p2 zs H8 (fresh_dl (fA.trans (.new hg)) hd7 hp0) hpH (fun e he => ?_) (fun e he => ?_) (fun r hr => ?_) ?_ hd8 fB
      · rcases List.mem_append.mp (hz.mem_iff.mp he) with z | z
        · exact h1.fr f9 e z
        · rw [hxs e z]
          exact ⟨SqB.l (((Fr.new hg).trans f8).keep _ _ nc hc6), nc⟩
      · rcases List.mem_append.mp (hz.mem_iff.mp he) with z | z
        · rw [← h3]
          exact List.mem_map_of_mem z
        · rw [hxs e z]
          exact List.mem_map_of_mem hpm
      · rw [← h3] at hr
        obtain ⟨e, he, rfl⟩ := List.mem_map.mp hr
        exact ⟨e, hz.mem_iff.mpr (List.mem_append.mpr (.inl he)), rfl⟩
      · rw [hz.length_eq, List.length_append]
        omega
end
end K13
/-! K13L11 -/
set_option autoImplicit true
set_option Elab.async false
set_option linter.all false
set_option maxRecDepth 100000
set_option maxHeartbeats 2000000
set_option pp.maxSteps 600
namespace K13
open PySem PySem.Spec PyProof.Rows L2
def toI : V → Int
  | .int i => i
  | _ => 0
theorem iV_perm {ys : List V} {l : List Int} (h : ys.Perm (iV l)) : ∃ zs, ys = iV zs ∧ zs.Perm l := by
  refine ⟨ys.map toI, ?_, ?_⟩
  · rw [iV, List.map_map]
    have : ∀ y ∈ ys, (V.int ∘ toI) y = y := fun y hy => by
      obtain ⟨i, _, rfl⟩ := List.mem_map.mp (h.mem_iff.mp hy)
      rfl
    exact (List.map_congr_left (g := id) this ▸ (List.map_id ys).symm)
  · have := h.map toI
    rw [iV, List.map_map] at this
    have e : l.map (toI ∘ V.int) = l := by
      rw [show (toI ∘ V.int) = id from rfl, List.map_id]
    rwa [e] at this
theorem rgV_iV (n : Nat) : rgV 0 (n : Int) = iV ((List.range n).map Int.ofNat) := by
  refine List.ext_getElem? fun i => ?_
  by_cases h : i < n
  · have h1 : i < (rgV 0 (n : Int)).length := by rw [rg_len]; exact h
    have h2 := rg_get (List.getElem?_eq_getElem h1)
    rw [List.getElem?_eq_getElem h1, h2.1]
    simp [iV, List.getElem?_range h]
  · rw [List.getElem?_eq_none (by rw [rg_len]; omega), List.getElem?_eq_none (by simp [iV]; omega)]
section
variable {P : Program} {w : World} {K : PySem.W.Frag} {mg : Str → Option Value} {base : Heap} {f : Addr} {fd : FuncData}
def spBad : Sp := fun vs H Q _ => ∃ d l n, vs = [.ref d, .int (n : Nat)] ∧ Dl d l H ∧ 1 ≤ n ∧ n ≤ 4 ∧ ∀ H' T x at_, H' T = some (.tup [x, .int at_]) → BadLot H' n x at_ → Dl d l H' → Fr [d, l] H H' → Q (.ref T) H'
theorem cal_l_bad_lot (B : Bt mg) (cA : Cal P w K mg base 1 "_law_any" spAny) (cO : Cal P w K mg base 2 "_law_of" spOf) (cM : Cal P w K mg base 2 "_law_mixed" spMixed)
    (F : FnP K "_law_bad_lot" s_l_bad_lot f fd) (hm : mg "_law_bad_lot" = some (.ref f)) : Cal P w K mg base 3 "_law_bad_lot" spBad := by
  refine cal0 F hm sc_l_bad_lot (fun _ _ _ _ _ _ us hl => match us, hl with | [_, _], _ => rfl) (fun vs H Q E h => ?_) (fun cdv A outer s H vs Q E hr h => ?_)
  · obtain ⟨d, l, n, rfl, _⟩ := h
    rfl
  · obtain ⟨d, l, n, rfl, hd, hn1, hn4, q⟩ := h
    have nd := sc_l_bad_lot.nd
    refine ⟨_, pss_cons (ps_if (pt_cmpR op_eq (pc cA hr (pa_cons (pv 0) (pa_cons pe_int pa_nil))) pe_int (nomark _))
        (pss_one (ps_ret (pe_tup (pa_cons (pc cO hr (pa_cons (pv 0) (pa_cons (pe_lst (pa_cons pe_non (pa_cons pe_int (pa_cons pe_str (pa_cons pe_dnewK pa_nil))))) pa_nil))) (pa_cons pe_int pa_nil))))) pss_nil)
      (pss_cons (ps_set (i := 2) nd rfl (Or.inl rfl) (pe_slice sl_list (pc cM hr (pa_cons (pv 0) (pa_cons (pe_listRg rfl (by rfl) B.list (prg_1 (by rfl) B.range (pv 1))) pa_nil))) po_none (po_some (pc cA hr (pa_cons (pv 0) (pa_cons (pe_op op_add (pv 1) pe_int) pa_nil))))))
      (pss_cons (ps_set (i := 3) nd rfl (Or.inl rfl) (pc cA hr (pa_cons (pv 0) (pa_cons (pe_op op_add (b_len B (pv 2)) pe_int) pa_nil))))
      (pss_cons (ps_set (i := 4) nd rfl (Or.inl rfl) (pe_op op_cat (pe_lst (pa_cons (pv 1) (pa_cons (pe_un un_neg pe_int) (pa_cons pe_non (pa_cons pe_bl (pa_cons pe_str pa_nil))))))
        (pe_op op_rep (pe_slice sl_list (pe_slice sl_list (pv 2) po_none (po_some (pv 3))) po_none (po_some pe_int)) pe_int)))
      (pss_one (ps_ret (pe_tup (pa_cons (pe_op op_cat (pe_op op_cat (pe_op op_cat (pe_slice sl_list (pv 2) po_none (po_some (pv 3))) (pe_lst (pa_cons (pc cO hr (pa_cons (pv 0) (pa_cons (pv 4) pa_nil))) pa_nil)))
        (pe_slice sl_list (pv 2) (po_some (pv 3)) po_none)) (pe_lst (pa_cons pe_non pa_nil))) (pa_cons (pv 3) pa_nil)))))))), ?_⟩
    refine ⟨_, rfl, d, l, _, rfl, hd, by decide, by decide, fun r0 H1 _ _ hd1 f1 => ⟨rfl, _, rfl, ite2 (fun _ => ?_) fun _ => ?_⟩⟩
    · refine ⟨_, rfl, fun u hu => ⟨by show 4 ≤ sizeLine; decide, fun t ht => ?_⟩⟩
      have f3 : Fr [d, l] H1 (upd (upd H1 u (.dK [])) t (.lst [.non, .int 0, .str "0", .ref u])) := (Fr.new hu).trans (.new ht)
      have hd3 : Dl d l (upd (upd H1 u (.dK [])) t (.lst [.non, .int 0, .str "0", .ref u])) := (hd1.new hu).new ht
      have hu3 : upd (upd H1 u (.dK [])) t (.lst [.non, .int 0, .str "0", .ref u]) u = some (.dK []) := by rw [upd_ne (ne_of_none upd_same ht), upd_same]
      have ht3 : upd (upd H1 u (.dK [])) t (.lst [.non, .int 0, .str "0", .ref u]) t = some (.lst [.non, .int 0, .str "0", .ref u]) := upd_same
      have nu := hd1.ne hu
      have nt := (hd1.new (o := .dK []) hu).ne ht
      generalize upd (upd H1 u (.dK [])) t (.lst [.non, .int 0, .str "0", .ref u]) = H3 at f3 hd3 hu3 ht3
      refine ⟨d, l, t, _, rfl, hd3, ht3, nt, by show 1 ≤ 4; decide, by show 4 ≤ 1000; decide, fun i x H4 hx hd4 f4 => ?_⟩
      refine ⟨by show 2 ≤ sizeLine; decide, fun T hT => ?_⟩
      have hu5 : upd H4 T (.tup [x, .int 0]) u = some (.dK []) := by
        have := f4.keep _ _ nu hu3
        rw [upd_ne (ne_of_none this hT)]
        exact this
      refine q _ T x 0 upd_same ?_ (hd4.new hT) (((f1.trans f3).trans f4).trans (.new hT))
      have hx := List.mem_of_getElem? hx
      simp only [List.mem_cons, List.not_mem_nil, or_false] at hx
      rcases hx with rfl | rfl | rfl | rfl
      · exact .odd .non
      · exact .odd (.int 0)
      · exact .odd (.str _)
      · exact .odd (.dct hu5)
    · refine ⟨_, rfl, _, rfl, _, rfl, ⟨by decide, by decide, by omega, by omega, by omega⟩, fun ka hka => ?_⟩
      refine ⟨d, l, ka, _, rfl, hd1.new hka, upd_same, by rw [rg_len]; omega, fun ys pm H2 hperm hpm0 hpm hd2 f2 => ?_⟩
      rw [rgV_iV] at hperm
      obtain ⟨zs, rfl, hz⟩ := iV_perm hperm
      have f12 : Fr [d, l] H H2 := (f1.trans (.new hka)).trans f2
      refine ⟨_, rfl, _, rfl, _, _, rfl, rfl, d, l, _, rfl, hd2, by omega, by omega, fun m H3 m0 m1 hd3 f3 => ?_⟩
      have npm := (hd1.new (o := .lst (rgV 0 n)) hka).ne hpm0
      have hpm3 := f3.keep _ _ npm hpm
      have hzl : zs.length = n := by rw [hz.length_eq]; simp
      obtain ⟨m, rfl⟩ := Int.eq_ofNat_of_zero_le m0
      refine ⟨_, rfl, pm, _, rfl, SqL.of hpm3, fun ro hro => ?_⟩
      rw [cut_take (r := zs) (k := m) (by omega)]
      have hnd : (zs.take m).Nodup ∧ ∀ k ∈ zs.take m, 0 ≤ k ∧ k < n := by
        refine ⟨((hz.nodup_iff).mpr ?_).sublist (List.take_sublist _ _), fun k hk => ?_⟩
        · rw [List.nodup_iff_pairwise_ne, List.pairwise_map]
          exact List.pairwise_lt_range.imp fun h e => by
            have := Int.ofNat.inj e
            omega
        · obtain ⟨i, hi, rfl⟩ := List.mem_map.mp (hz.mem_iff.mp (List.mem_of_mem_take hk))
          have := List.mem_range.mp hi
          exact ⟨Int.natCast_nonneg _, by show (i : Int) < n; omega⟩
      have hrl : (zs.take m).length ≤ 4 := by rw [List.length_take]; omega
      generalize zs.take m = row at hnd hrl
      have f34 : Fr [d, l] H2 (upd H3 ro (.lst (iV row))) := f3.trans (.new hro)
      have nro := hd3.ne hro
      have hro4 : upd H3 ro (.lst (iV row)) ro = some (.lst (iV row)) := upd_same
      have hd4 := hd3.new (o := .lst (iV row)) hro
      generalize upd H3 ro (.lst (iV row)) = H4 at f34 hro4 hd4
      refine ⟨_, rfl, _, rfl, ro, _, rfl, .inl (SqL.of hro4), _, _, rfl, rfl, d, l, _, rfl, hd4, by omega, by rw [iV_len]; omega, fun at_ H5 a0 a1 hd5 f5 => ?_⟩
      rw [iV_len] at a1
      obtain ⟨at_, rfl⟩ := Int.eq_ofNat_of_zero_le a0
      have hro5 := f5.keep _ _ nro hro4
      refine ⟨_, rfl, ⟨_, rfl, by show 5 ≤ sizeLine; decide, fun t ht => ?_⟩⟩
      have t6 : upd H5 t (.lst [.int n, .int (-1), .non, .bl true, .str "0"]) t = some (.lst [.int n, .int (-1), .non, .bl true, .str "0"]) := upd_same
      have f6 : Fr [d, l] H4 (upd H5 t (.lst [.int n, .int (-1), .non, .bl true, .str "0"])) := f5.trans (.new ht)
      have hd6 : Dl d l (upd H5 t (.lst [.int n, .int (-1), .non, .bl true, .str "0"])) := hd5.new ht
      have nt := hd5.ne ht
      change tOp rRep _ _ _ (upd H5 t (.lst [.int n, .int (-1), .non, .bl true, .str "0"])) _
      generalize upd H5 t (.lst [.int n, .int (-1), .non, .bl true, .str "0"]) = H6 at t6 f6 hd6
      have hro6 := f6.keep _ _ nro hro4
      refine ⟨_, rfl, _, rfl, _, rfl, ro, _, rfl, SqL.of hro6, fun s1 hs1 => ⟨_, rfl, s1, _, rfl, SqL.of upd_same, fun s2 hs2 => ?_⟩⟩
      rw [cut_take (r := row) (k := at_) (by omega)] at hs2 ⊢
      have cut1 : cutV (iV (row.take at_)) none (some 1) = iV ((row.take at_).take 1) := by
        cases h : row.take at_ with
        | nil => rfl
        | cons a b => exact cut_take (r := a :: b) (k := 1) (by simp)
      rw [cut1]
      have tl : ((row.take at_).take 1).length ≤ 1 := by simp; omega
      have tm : ∀ k ∈ (row.take at_).take 1, k ∈ row.take at_ := fun k hk => List.mem_of_mem_take hk
      generalize (row.take at_).take 1 = ab at tl tm
      refine ⟨s2, 3, _, rfl, rfl, upd_same, by decide, by decide, by rw [iV_len, sizeLine_eq]; show ab.length * 3 ≤ _; omega, fun g hg => ?_⟩
      have fg : Fr [d, l] H6 (upd (upd (upd H6 s1 (.lst (iV (row.take at_)))) s2 (.lst (iV ab))) g (.lst (List.replicate (3 : Int).toNat (iV ab)).flatten)) := ((Fr.new hs1).trans (.new hs2)).trans (.new hg)
      have hd7 : Dl d l (upd (upd (upd H6 s1 (.lst (iV (row.take at_)))) s2 (.lst (iV ab))) g (.lst (List.replicate (3 : Int).toNat (iV ab)).flatten)) := ((hd6.new hs1).new hs2).new hg
      have hg7 : upd (upd (upd H6 s1 (.lst (iV (row.take at_)))) s2 (.lst (iV ab))) g (.lst (List.replicate (3 : Int).toNat (iV ab)).flatten) g = some (.lst (List.replicate (3 : Int).toNat (iV ab)).flatten) := upd_same
      generalize upd (upd (upd H6 s1 (.lst (iV (row.take at_)))) s2 (.lst (iV ab))) g (.lst (List.replicate (3 : Int).toNat (iV ab)).flatten) = H7 at fg hd7 hg7
      have frl : ((List.replicate (3 : Int).toNat (iV ab)).flatten).length ≤ 3 := by
        rw [List.length_flatten]
        show (List.map List.length (List.replicate 3 (iV ab))).sum ≤ 3
        rw [List.map_replicate, List.sum_replicate_nat, iV_len]
        omega
      have frm : ∀ z ∈ (List.replicate (3 : Int).toNat (iV ab)).flatten, ∃ k : Int, z = .int k ∧ k ∈ row.take at_ := fun z hz => by
        obtain ⟨l2, h1, h2⟩ := List.mem_flatten.mp hz
        rw [List.eq_of_mem_replicate h1] at h2
        obtain ⟨k, hk, rfl⟩ := List.mem_map.mp h2
        exact ⟨k, rfl, tm k hk⟩
      generalize (List.replicate (3 : Int).toNat (iV ab)).flatten = trip at hg7 frl frm
      refine ⟨t, g, _, _, rfl, rfl, fg.keep _ _ nt t6, hg7, by show 5 + trip.length ≤ _; rw [sizeLine_eq]; omega, fun od hod => ?_⟩
      have hod8 : upd H7 od (.lst ([.int n, .int (-1), .non, .bl true, .str "0"] ++ trip)) od = some (.lst ([.int n, .int (-1), .non, .bl true, .str "0"] ++ trip)) := upd_same
      have f8 : Fr [d, l] H4 (upd H7 od (.lst ([.int n, .int (-1), .non, .bl true, .str "0"] ++ trip))) := (f6.trans fg).trans (.new hod)
      have hd8 : Dl d l (upd H7 od (.lst ([.int n, .int (-1), .non, .bl true, .str "0"] ++ trip))) := hd7.new hod
      have nod := hd7.ne hod
      have odm : ∀ z ∈ [V.int n, .int (-1), .non, .bl true, .str "0"] ++ trip, (∃ T, ∀ H, Odd H z T) ∧ (ixB n z = false ∨ ∃ i, z = .int i ∧ i ∈ row.take at_) := fun z hz => by
        rcases List.mem_append.mp hz with hz | hz
        · simp only [List.mem_cons, List.not_mem_nil, or_false] at hz
          rcases hz with rfl | rfl | rfl | rfl | rfl
          · exact ⟨⟨_, fun _ => .int _⟩, .inl (by simp [ixB])⟩
          · exact ⟨⟨_, fun _ => .int _⟩, .inl (by simp [ixB])⟩
          · exact ⟨⟨_, fun _ => .non⟩, .inl rfl⟩
          · exact ⟨⟨_, fun _ => .bl _⟩, .inl rfl⟩
          · exact ⟨⟨_, fun _ => .str _⟩, .inl rfl⟩
        · obtain ⟨k, rfl, hk⟩ := frm z hz
          exact ⟨⟨_, fun _ => .int _⟩, .inr ⟨k, rfl, hk⟩⟩
      generalize eod : [V.int n, .int (-1), .non, .bl true, .str "0"] ++ trip = odd at hod8 f8 hd8 odm
      have ol : 1 ≤ odd.length ∧ odd.length ≤ 1000 := by
        rw [← eod, List.length_append]
        refine ⟨?_, ?_⟩
        · show 1 ≤ 5 + trip.length
          omega
        · show 5 + trip.length ≤ 1000
          omega
      generalize upd H7 od (.lst odd) = H8 at f8 hd8 hod8
      have hro8 := f8.keep _ _ nro hro4
      refine ⟨_, rfl, _, rfl, _, rfl, ro, _, rfl, SqL.of hro8, fun c1 hc1 => ?_⟩
      rw [cut_take (r := row) (k := at_) (by omega)]
      have hc19 : upd H8 c1 (.lst (iV (row.take at_))) c1 = some (.lst (iV (row.take at_))) := upd_same
      have f9 : Fr [d, l] H8 (upd H8 c1 (.lst (iV (row.take at_)))) := .new hc1
      have hd9 : Dl d l (upd H8 c1 (.lst (iV (row.take at_)))) := hd8.new hc1
      have nc1 := hd8.ne hc1
      generalize upd H8 c1 (.lst (iV (row.take at_))) = H9 at f9 hd9 hc19
      refine ⟨_, rfl, _, rfl, d, l, od, _, rfl, hd9, f9.keep _ _ nod hod8, nod, ol.1, ol.2, fun i z H10 hx hd10 f10 => ?_⟩
      obtain ⟨⟨T0, hodd⟩, hbad⟩ := odm z (List.mem_of_getElem? hx)
      refine ⟨by show 1 ≤ sizeLine; decide, fun t2 ht2 => ⟨c1, t2, _, _, rfl, rfl, ((f10.trans (.new ht2)).keep _ _ nc1 hc19), upd_same, by rw [iV_len, List.length_take, sizeLine_eq]; show _ + 1 ≤ _; omega, fun c2 hc2 => ?_⟩⟩
      have f11 : Fr [d, l] H9 (upd (upd H10 t2 (.lst [z])) c2 (.lst (iV (row.take at_) ++ [z]))) := (f10.trans (.new ht2)).trans (.new hc2)
      have hd11 : Dl d l (upd (upd H10 t2 (.lst [z])) c2 (.lst (iV (row.take at_) ++ [z]))) := (hd10.new ht2).new hc2
      have hc211 : upd (upd H10 t2 (.lst [z])) c2 (.lst (iV (row.take at_) ++ [z])) c2 = some (.lst (iV (row.take at_) ++ [z])) := upd_same
      have nc2 := (hd10.new (o := .lst [z]) ht2).ne hc2
      generalize upd (upd H10 t2 (.lst [z])) c2 (.lst (iV (row.take at_) ++ [z])) = H11 at f11 hd11 hc211
      refine ⟨_, rfl, _, rfl, _, rfl, ro, _, rfl, SqL.of ((f9.trans f11).keep _ _ nro hro8), fun c3 hc3 => ?_⟩
      rw [cut_drop (r := row) (k := at_) (by omega)]
      refine ⟨c2, c3, _, _, rfl, rfl, by rw [upd_ne (ne_of_none hc211 hc3)]; exact hc211, upd_same, by rw [List.length_append, iV_len, iV_len, List.length_take, List.length_drop, sizeLine_eq]; show _ + 1 + _ ≤ _; omega, fun c4 hc4 => ⟨by show 1 ≤ sizeLine; decide, fun t3 ht3 => ?_⟩⟩
      refine ⟨c4, t3, _, _, rfl, rfl, by rw [upd_ne (ne_of_none upd_same ht3), upd_same], upd_same, by rw [List.length_append, List.length_append, iV_len, iV_len, List.length_take, List.length_drop, sizeLine_eq]; show _ + 1 + _ + 1 ≤ _; omega, fun c5 hc5 => ⟨_, rfl, by show 2 ≤ sizeLine; decide, fun T hT => ?_⟩⟩
      have f12b := ((((f11.trans (.new (o := .lst (iV (row.drop at_))) hc3)).trans (.new hc4)).trans (.new ht3)).trans (.new hc5)).trans (.new (o := .tup [.ref c5, .int (at_ : Nat)]) hT)
      have hdZ := ((((hd11.new (o := .lst (iV (row.drop at_))) hc3).new hc4).new ht3).new hc5).new (o := .tup [.ref c5, .int (at_ : Nat)]) hT
      have epre : (row.take at_).length = at_ := by rw [List.length_take]; omega
      have key : ∀ Hx : Hp, Hx c5 = some (.lst (iV (row.take at_) ++ z :: (iV (row.drop at_) ++ [V.non]))) → BadLot Hx n (.ref c5) at_ := fun Hx hs => by
        have := BadLot.seq (n := n) (SqB.l hs) (by rw [List.length_append, List.length_cons, List.length_append, iV_len, iV_len, List.length_take, List.length_drop]; simp only [List.length_cons, List.length_nil]; omega) ⟨hnd.1.sublist (List.take_sublist _ _), fun k hk => hnd.2 k (List.mem_of_mem_take hk)⟩ (hodd _) hbad
        rw [epre] at this
        exact this
      refine q _ T (.ref c5) at_ upd_same (key _ ?_) hdZ (((f12.trans f34).trans f8).trans (f9.trans f12b))
      rw [upd_ne (ne_of_none upd_same hT), upd_same]
      simp
end
end K13
/-! K13L9 -/
set_option autoImplicit true
set_option Elab.async false
set_option linter.all false
set_option maxRecDepth 100000
set_option maxHeartbeats 4000000
namespace K13
open PySem PySem.Spec PyProof.Rows L2
section
variable {P : Program} {w : World} {K : PySem.W.Frag} {mg : Str → Option Value} {base : Heap} {f : Addr} {fd : FuncData}
def spLHomes : Sp := fun vs H Q _ => ∃ a b c ps av lot, vs = [.ref a, .ref b, .ref c] ∧ H a = some (.lst (rV ps)) ∧ RwL H ps ∧ ps.length ≤ 100 ∧ NearAt H (rR ps) av b ∧ H c = some (.tup (iV lot)) ∧ (∀ s ∈ rR ps, ∀ t ∈ rR ps, s.length = t.length) ∧ (rR ps).Nodup ∧
  ∀ H' n, Fr [] H H' → H n = none → HomesAt H' (rR ps) lot n → Q (.ref n) H'
theorem cal_l_homes (B : Bt mg) (F : FnP K "_law_homes" s_l_homes f fd) (hm : mg "_law_homes" = some (.ref f)) : Cal P w K mg base 1 "_law_homes" spLHomes := by
  refine cal0 F hm sc_l_homes (fun _ _ _ _ _ _ us hl => match us, hl with | [_, _, _], _ => rfl) (fun vs H Q E h => ?_) (fun cdv A outer s H vs Q E hr h => ?_)
  · obtain ⟨a, b, c, ps, av, lot, rfl, _⟩ := h
    rfl
  · obtain ⟨a, b, c, ps, av, lot, rfl, ha, hR, h100, hb, hc, hln, hnd, q⟩ := h
    have nd := sc_l_homes.nd
    have hu := hu_of hr
    obtain ⟨bs, hb, ebs, hnb⟩ := hb.ex
    have E' := cn_eqv (lot := lot) hln
    refine ⟨_, pss_cons (ps_par (i := 3) (j := 4) rfl nd rfl rfl (by decide) rfl rfl (pa_cons pe_dnewT (pa_cons pe_int pa_nil)) rfl)
      (pss_cons (ps_for PassesOwn.never rfl (pi_list (pv 0)) (pg_name (i := 5) nd rfl (Or.inl rfl))
        (pss_one (ps_if (pt_cmp (pc_dnotin hu (pv 5) (pv 3)))
          (pss_cons (ps_asg (pe_tup (pa_cons (pe_lst (pa_cons (pv 5) pa_nil)) (pa_cons (pv 4) pa_nil))) (pg_tup rfl (pgs_cons (pg_name (i := 6) nd rfl (Or.inl rfl)) (pgs_cons (pg_sub (pv 3) (pv 5) (set_dict hu)) pgs_nil))))
          (C8.pss_cut (ps_while PassesOwn.never (pt_cmpR (op_neNil hr) (pv 6) (pe_lst pa_nil) (nomark _))
            (pss_cons (ps_set (i := 7) nd rfl (Or.inl rfl) (pe_lst pa_nil))
            (pss_cons (ps_for PassesOwn.never rfl (pi_list (pe_dget hu (pv 1) (pe_bm0 PySem.F.plainAttrs_list PySem.F.slot_list_pop PySem.F.type_list_pop mt_pop (pv 6)) (fun _ _ => rfl))) (pg_tup rfl (pgs_cons (pg_name (i := 8) nd rfl (Or.inl rfl)) (pgs_cons (pg_name (i := 9) nd rfl (Or.inl rfl)) pgs_nil)))
              (pss_one (ps_if (PW.pt (pw_and (pt_cmpR op_in_seq (pv 8) (pv 2) rfl) (pw_and1 (pt_cmp (pc_dnotin hu (pv 9) (pv 3))))))
                (pss_cons (ps_dput hu (pv 3) (pv 9) (pv 4) rfl)
                (pss_one (ps_expr (pe_bm PySem.F.plainAttrs_list PySem.F.slot_list_append PySem.F.type_list_append mt_append (pv 7) (pa_cons (pv 9) pa_nil))))) pss_nil)))
            (pss_one (ps_set (i := 6) nd rfl (Or.inl rfl) (pe_op op_cat (pv 6) (pv 7)))))))
          (pss_one (ps_set (i := 4) nd rfl (Or.inl rfl) (pe_op op_add (pv 4) pe_int))))) pss_nil)))
      (pss_one (ps_ret (pv 3)))), ?_⟩
    intro hd hhd
    refine ⟨_, _, rfl, ?_⟩
    have ha1 : upd H hd (.dT []) a = some (.lst (rV ps)) := by rw [upd_ne (ne_of_none ha hhd)]; exact ha
    have nn : ∀ {x : Addr}, x ∉ ([] : List Addr) := fun z => nomatch z
    refine ⟨_, rfl, a, rfl, ⟨_, SqL.of ha1⟩, for_list (xs := rV ps) (fun i σ H' => ∃ D x5 x6 x7 x8 x9, σ = [some (.ref a), some (.ref b), some (.ref c), some (.ref hd), some (.int ((reps (cn (rR ps) lot) ((rR ps).take i)).length : Nat)), x5, x6, x7, x8, x9] ∧
        H' hd = some (.dT (homesKV D)) ∧ Outer (cn (rR ps) lot) (rR ps) ((rR ps).take i) D ∧ Fr [] H H')
      ⟨[], _, _, _, _, _, rfl, upd_same, .init, .new hhd⟩ ?_ ?_ ?_⟩
    · rintro i σ H' _ ⟨D, x5, x6, x7, x8, x9, rfl, _, _, fr⟩
      exact SqL.of (fr.keep _ _ nn ha)
    · rintro i x σ H1 hx ⟨D, x5, x6, x7, x8, x9, rfl, hD, O, fr⟩
      obtain ⟨p, hp, rfl⟩ := rV_get hx
      have hpm := List.mem_of_getElem? hp
      have hrow : (rR ps)[i]? = some p.2 := by rw [rR, List.getElem?_map, hp]; rfl
      have hst : p.2 ∈ rR ps := List.mem_of_getElem? hrow
      have et : (rR ps).take (i + 1) = (rR ps).take i ++ [p.2] := take_snoc hrow
      have esp : rR ps = (rR ps).take i ++ p.2 :: (rR ps).drop (i + 1) := by
        obtain ⟨hi, e⟩ := List.getElem?_eq_some_iff.mp hrow
        rw [← e, List.getElem_cons_drop]
        exact (List.take_append_drop i (rR ps)).symm
      have kp : ∀ {H' : Hp}, Fr [] H H' → H' p.1 = some (.tup ((rowK p.2).map kV)) := fun f => by rw [rowK_kV]; exact f.tup _ _ (hR p hpm)
      refine ⟨_, rfl, _, rfl, hd, _, rfl, .inr ⟨_, _, p.1, .inl hD, rfl, kp fr, rfl⟩, _, rfl, ?_⟩
      by_cases hk : p.2 ∈ keysOf D
      · rw [hk_some hk]
        refine ⟨D, some (.ref p.1), x6, x7, x8, x9, ?_, hD, by rw [et]; exact O.skip hk, fr⟩
        rw [et, reps_len_yes ((O.keys p.2).mp hk).2]
        rfl
      · rw [hk_none hk]
        have hno := O.no hst hk
        refine ⟨_, rfl, by show 1 ≤ sizeLine; decide, fun fa hfa => ⟨_, rfl, by show 2 ≤ sizeLine; decide, fun T hT => ⟨T, _, rfl, SqT.of upd_same, rfl, _, _, rfl, _, _, rfl, _, rfl, _, rfl, ?_⟩⟩⟩
        have f1 : Fr [] H1 (upd (upd H1 fa (.lst [.ref p.1])) T (.tup [.ref fa, .int ((reps (cn (rR ps) lot) ((rR ps).take i)).length : Nat)])) := (Fr.new hfa).trans (.new hT)
        have hfa1 : upd (upd H1 fa (.lst [.ref p.1])) T (.tup [.ref fa, .int ((reps (cn (rR ps) lot) ((rR ps).take i)).length : Nat)]) fa = some (.lst (rV [p])) := by rw [upd_ne (ne_of_none upd_same hT), upd_same]; rfl
        have hfa0 : H fa = none := fresh_of fr hfa
        have hhfa : hd ≠ fa := ne_of_none hD hfa
        generalize upd (upd H1 fa (.lst [.ref p.1])) T (.tup [.ref fa, .int ((reps (cn (rR ps) lot) ((rR ps).take i)).length : Nat)]) = H2 at f1 hfa1
        have hD2 := f1.keep _ _ nn hD
        have fr2 := fr.trans f1
        have hDl : D.length ≤ 100 := by
          have h1 := sub_len O.nd fun r hr => ((O.keys r).mp hr).1
          rw [List.length_map, rR_len] at h1
          omega
        have hkl : (homesKV D).length < sizeLine := by rw [homesKV, List.length_map, sizeLine_eq]; omega
        refine ⟨hd, _, rfl, .inr ⟨_, _, p.1, hD2, rfl, kp fr2, hkl, rfl⟩, rfl, ?_⟩
        rw [hk_put hk]
        have I0 := O.start (ed := Edge (rR ps) lot) E' esp hk
        have fa3 : upd H2 hd (.dT (homesKV (D ++ [(p.2, (reps (cn (rR ps) lot) ((rR ps).take i)).length)]))) fa = some (.lst (rV [p])) := by rw [upd_ne (fun e => hhfa e.symm)]; exact hfa1
        have fr3 : Fr [] H (upd H2 hd (.dT (homesKV (D ++ [(p.2, (reps (cn (rR ps) lot) ((rR ps).take i)).length)])))) := fr2.own hhd
        refine ⟨fun σ H' => ∃ D' x6 x7 x8 x9, σ = [some (.ref a), some (.ref b), some (.ref c), some (.ref hd), some (.int ((reps (cn (rR ps) lot) ((rR ps).take i)).length : Nat)), some (.ref p.1), x6, x7, x8, x9] ∧ H' hd = some (.dT (homesKV D')) ∧ Outer (cn (rR ps) lot) (rR ps) ((rR ps).take i ++ [p.2]) D' ∧ Fr [] H H', ?_, ?_⟩
        · refine ⟨fun m σ H' => ∃ fb D' qs v x7 x8 x9, σ = [some (.ref a), some (.ref b), some (.ref c), some (.ref hd), some (.int ((reps (cn (rR ps) lot) ((rR ps).take i)).length : Nat)), some (.ref p.1), some (.ref fb), x7, x8, x9] ∧ H fb = none ∧
              H' fb = some (.lst (rV qs)) ∧ RwL H' qs ∧ H' hd = some (.dT (homesKV D')) ∧ Inner (cn (rR ps) lot) (rR ps) (Edge (rR ps) lot) ((rR ps).take i) p.2 v [] D' (rR qs) ∧ Fr [] H H' ∧ m = 1000 + qs.length - 2 * D'.length ∧ qs.length ≤ D'.length,
            ⟨_, fa, _, [p], _, _, _, _, rfl, hfa0, fa3, fun z hz => ?_, upd_same, I0, fr3, rfl, by simp⟩, ?_⟩
          · obtain rfl : z = p := by simpa using hz
            exact fr3.tup _ _ (hR _ hpm)
          · rintro m σ H3 ⟨fb, D', qs, v, x7, x8, x9, rfl, hfb0, hfb, hQ, hD3, I, fr3, rfl, hql⟩
            have hDl3 := I.len
            rw [rR_len] at hDl3
            refine ⟨_, rfl, Nat.zero_le _, fun e he => ⟨fb, e, _, rfl, rfl, by rw [upd_ne (ne_of_none hfb he)]; exact hfb, upd_same, _, rfl, ?_⟩⟩
            have fe : Fr [] H3 (upd H3 e (.lst [])) := .new he
            have hfb4 := fe.keep _ _ nn hfb
            have hD4 := fe.keep _ _ nn hD3
            have fr4 := fr3.trans fe
            have hQ4 := hQ.fr fe
            generalize upd H3 e (.lst []) = H4 at hfb4 hD4 fr4 hQ4
            by_cases hqs : qs = []
            · subst hqs
              exact iteF ⟨D', _, _, _, _, rfl, hD4, Inner.done E' I hno, fr4⟩
            · obtain ⟨qs, tt, rfl⟩ := rV_snoc2 hqs
              have e1 : (!(rV (qs ++ [tt])).isEmpty) = true := by rw [rV_snoc]; simp
              rw [if_pos rfl, e1]
              refine iteT ⟨_, fun σ' H' h => h, ?_⟩
              refine ⟨Nat.zero_le _, fun la hla => ?_⟩
              have fl : Fr [] H4 (upd H4 la (.lst [])) := .new hla
              have hla0 : H la = none := fresh_of fr4 hla
              have hnfl : fb ≠ la := ne_of_none hfb4 hla
              have hndl : hd ≠ la := ne_of_none hD4 hla
              have hndf : hd ≠ fb := ne_of hD4 hfb4 (fun z => nomatch z)
              have hla5 : upd H4 la (.lst []) la = some (.lst (rV [])) := upd_same
              have hfb5 := fl.keep _ _ nn hfb4
              have hD5 := fl.keep _ _ nn hD4
              have fr5 := fr4.trans fl
              have hQ5 := hQ4.fr fl
              generalize upd H4 la (.lst []) = H5 at hla5 hfb5 hD5 fr5 hQ5
              have htm : tt.2 ∈ rR ps := (I.sub tt.2 (I.fr tt.2 (by rw [rR_snoc]; simp)).1).1
              obtain ⟨ln, hln1, hln2⟩ := near_val (bs := bs) (r := tt.2) (by rw [ebs]; exact htm)
              obtain ⟨es, es1, es2, es3, es4⟩ := (hnb _ hln2).2.ex
              have fr6 : Fr [] H (upd H5 fb (.lst (rV qs))) := fr5.own hfb0
              have hla6 : upd H5 fb (.lst (rV qs)) la = some (.lst (rV [])) := by rw [upd_ne (fun z => hnfl z.symm)]; exact hla5
              have hD6 : upd H5 fb (.lst (rV qs)) hd = some (.dT (homesKV D')) := by rw [upd_ne hndf]; exact hD5
              have hQ6 : RwL (upd H5 fb (.lst (rV qs))) qs := fun z hz => by rw [upd_ne (ne_of (hQ5 z (by simp [hz])) hfb5 (fun z => nomatch z))]; exact hQ5 z (by simp [hz])
              have ht6 : upd H5 fb (.lst (rV qs)) tt.1 = some (.tup ((rowK tt.2).map kV)) := by rw [rowK_kV, upd_ne (ne_of (hQ5 tt (by simp)) hfb5 (fun z => nomatch z))]; exact hQ5 tt (by simp)
              have hb6 := fr6.keep _ _ nn hb
              have es6 := fr6.keep _ _ nn es1
              have I6 : Inner (cn (rR ps) lot) (rR ps) (Edge (rR ps) lot) ((rR ps).take i) p.2 tt.2 (todoAt lot es 0) D' (rR (qs ++ [])) := by
                rw [List.append_nil]
                rw [rR_snoc] at I
                exact I.popN hln es4
              refine ⟨_, rfl, _, rfl, .inl ⟨rfl, _, SqL.of hfb5⟩, fb, _, _, rfl, rfl, hfb5, rV_last, ?_⟩
              rw [rV_dropLast]
              refine ⟨b, .ref ln, rfl, .inr ⟨_, _, tt.1, .inl hb6, rfl, ht6, hln1.symm⟩, ln, rfl, ⟨_, SqL.of es6⟩, for_list (xs := es.map fun e => V.ref e.1) (fun j σ H' => ∃ D2 ls x8 x9, σ = [some (.ref a), some (.ref b), some (.ref c), some (.ref hd), some (.int ((reps (cn (rR ps) lot) ((rR ps).take i)).length : Nat)), some (.ref p.1), some (.ref fb), some (.ref la), x8, x9] ∧
                  H' la = some (.lst (rV ls)) ∧ RwL H' ls ∧ H' fb = some (.lst (rV qs)) ∧ RwL H' qs ∧ H' hd = some (.dT (homesKV D2)) ∧ Inner (cn (rR ps) lot) (rR ps) (Edge (rR ps) lot) ((rR ps).take i) p.2 tt.2 (todoAt lot es j) D2 (rR (qs ++ ls)) ∧ Fr [] H H' ∧ D2.length = D'.length + ls.length)
                ⟨D', [], _, _, rfl, hla6, .nil, upd_same, hQ6, hD6, I6, fr6, rfl⟩ ?_ ?_ ?_⟩
              · rintro j σ H' _ ⟨D2, ls, x8, x9, rfl, _, _, _, _, _, _, fr', _⟩
                exact SqL.of (fr'.keep _ _ nn es1)
              · rintro j x σ H7 hx ⟨D2, ls, x8, x9, rfl, hla7, hL7, hfb7, hQ7, hD7, I7, fr7, hl7⟩
                simp only [List.getElem?_map, Option.map_eq_some_iff] at hx
                obtain ⟨en, hen, rfl⟩ := hx
                obtain ⟨en1, en2⟩ := es2 en (List.mem_of_getElem? hen)
                have hDl7 := I7.len
                rw [rR_len] at hDl7
                have hkey : H7 en.2.2.1 = some (.tup ((rowK en.2.2.2).map kV)) := by rw [rowK_kV]; exact fr7.tup _ _ en2
                refine ⟨en.1, _, rfl, SqT.of (fr7.tup _ _ en1), rfl, _, _, rfl, _, _, rfl, rfl, ?_⟩
                refine ⟨_, rfl, _, rfl, c, _, rfl, .inr (SqT.of (fr7.tup _ _ hc)), rfl, flat_ints lot, _, rfl, ?_⟩
                rw [if_neg (show ¬ (false = true) from Bool.false_ne_true), inV_int]
                by_cases hin : lot.contains en.2.1 = true
                · rw [hin]
                  rw [todo_take hen hin] at I7
                  refine iteT ⟨_, rfl, _, rfl, hd, _, rfl, .inr ⟨_, _, en.2.2.1, .inl hD7, rfl, hkey, rfl⟩, _, rfl, ?_⟩
                  by_cases hk2 : en.2.2.2 ∈ keysOf D2
                  · rw [hk_some hk2]
                    exact ⟨D2, ls, _, _, rfl, hla7, hL7, hfb7, hQ7, hD7, I7.known hk2, fr7, hl7⟩
                  · rw [hk_none hk2]
                    have hkl2 : (homesKV D2).length < sizeLine := by rw [homesKV, List.length_map, sizeLine_eq]; omega
                    refine iteT ⟨_, rfl, _, rfl, _, rfl, hd, _, rfl, .inr ⟨_, _, en.2.2.1, hD7, rfl, hkey, hkl2, rfl⟩, ?_⟩
                    rw [hk_put hk2]
                    have I8 := I7.add E' esp hno hk2
                    have n1 : la ≠ hd := fun z => hndl z.symm
                    have hla8 : upd H7 hd (.dT (homesKV (D2 ++ [(en.2.2.2, (reps (cn (rR ps) lot) ((rR ps).take i)).length)]))) la = some (.lst (rV ls)) := by rw [upd_ne n1]; exact hla7
                    have hfb8 : upd H7 hd (.dT (homesKV (D2 ++ [(en.2.2.2, (reps (cn (rR ps) lot) ((rR ps).take i)).length)]))) fb = some (.lst (rV qs)) := by rw [upd_ne (fun z => hndf z.symm)]; exact hfb7
                    have f8 : Fr [hd] H7 (upd H7 hd (.dT (homesKV (D2 ++ [(en.2.2.2, (reps (cn (rR ps) lot) ((rR ps).take i)).length)])))) := .set (by simp) hD7 (fun _ z => nomatch z)
                    have hD8 : upd H7 hd (.dT (homesKV (D2 ++ [(en.2.2.2, (reps (cn (rR ps) lot) ((rR ps).take i)).length)]))) hd = some (.dT (homesKV (D2 ++ [(en.2.2.2, (reps (cn (rR ps) lot) ((rR ps).take i)).length)]))) := upd_same
                    have fr8 : Fr [] H (upd H7 hd (.dT (homesKV (D2 ++ [(en.2.2.2, (reps (cn (rR ps) lot) ((rR ps).take i)).length)])))) := fr7.own hhd
                    generalize upd H7 hd (.dT (homesKV (D2 ++ [(en.2.2.2, (reps (cn (rR ps) lot) ((rR ps).take i)).length)]))) = H8 at hla8 hfb8 f8 hD8 fr8
                    refine ⟨_, rfl, .inl ⟨rfl, _, SqL.of hla8⟩, _, rfl, la, _, _, rfl, rfl, hla8, by rw [rV_len, sizeLine_eq]; omega, ?_⟩
                    have f9 : Fr [la] H8 (upd H8 la (.lst (rV ls ++ [.ref en.2.2.1]))) := .set (by simp) hla8 (fun _ z => nomatch z)
                    refine ⟨_, ls ++ [(en.2.2.1, en.2.2.2)], _, _, rfl, by rw [upd_same, rV_snoc], ((hL7.fr f8).fr f9).snoc (f9.tup _ _ (fr8.tup _ _ en2)), by rw [upd_ne hnfl]; exact hfb8, (hQ7.fr f8).fr f9, by rw [upd_ne hndl]; exact hD8, ?_, fr8.own hla0, by simp; omega⟩
                    rw [← List.append_assoc, rR_snoc]
                    exact I8
                · have hin : lot.contains en.2.1 = false := by simpa using hin
                  rw [hin]
                  rw [todo_skip hen hin] at I7
                  exact ⟨D2, ls, _, _, rfl, hla7, hL7, hfb7, hQ7, hD7, I7, fr7, hl7⟩
              · rintro σ H7 ⟨D2, ls, x8, x9, rfl, hla7, hL7, hfb7, hQ7, hD7, I7, fr7, hl7⟩
                rw [List.length_map, todo_end] at I7
                have hDl7 := I7.len
                rw [rR_len] at hDl7
                simp at hql
                refine ⟨_, rfl, _, rfl, fb, la, _, _, rfl, rfl, hfb7, hla7, by rw [rV_len, rV_len, sizeLine_eq]; omega, fun g hg => ?_⟩
                rw [← rV_app]
                refine ⟨_, ?_, g, D2, qs ++ ls, _, _, _, _, rfl, fresh_of fr7 hg, upd_same, (hQ7.app hL7).new hg, by rw [upd_ne (ne_of_none hD7 hg)]; exact hD7, I7, fr7.trans (.new hg), rfl, ?_⟩
                · simp
                  omega
                · simp
                  omega
        · rintro σ H' ⟨D', x6, x7, x8, x9, rfl, hD', O', fr'⟩
          refine ⟨_, rfl, _, _, rfl, rfl, ?_⟩
          refine ⟨D', some (.ref p.1), x6, x7, x8, x9, ?_, hD', by rw [et]; exact O', fr'⟩
          rw [et, reps_len_no hno]
          rfl
    · rintro σ H1 ⟨D, x5, x6, x7, x8, x9, rfl, hD, O, fr⟩
      rw [rV_len, ← rR_len, List.take_length] at O
      obtain ⟨o1, o2, o3⟩ := O.fin E'
      exact ⟨_, rfl, q H1 hd fr hhd ⟨D, hD, o1, o2, o3⟩⟩
end
end K13
/-! K13L12 -/
set_option autoImplicit true
set_option Elab.async false
set_option linter.all false
set_option maxRecDepth 100000
set_option maxHeartbeats 2000000
set_option pp.maxSteps 600
namespace K13
open PySem PySem.Spec PyProof.Rows L2
def nb1 (r t : Row) : Option (Int × Row) := if (apart r t).length = 1 then some ((apart r t).getD 0 0, t) else none
theorem one_of {l : List Int} (h : l.length = 1) : l = [l.getD 0 0] := by
  match l, h with
  | [a], _ => rfl
theorem nb1_yes {r t : Row} {k : Int} (h : apart r t = [k]) : nb1 r t = some (k, t) := by
  unfold nb1
  rw [h]
  rfl
theorem nb1_no {r t : Row} (h : (apart r t).length ≠ 1) : nb1 r t = none := if_neg h
theorem nb1_iff {r t : Row} {k : Int} {u : Row} : nb1 r t = some (k, u) ↔ u = t ∧ apart r t = [k] := by
  constructor
  · intro h
    by_cases e : (apart r t).length = 1
    · have h2 : nb1 r t = some ((apart r t).getD 0 0, t) := if_pos e
      rw [h2] at h
      have h := Option.some.inj h
      refine ⟨(congrArg Prod.snd h).symm, ?_⟩
      rw [one_of e]
      exact congrArg (fun z => [z]) (congrArg Prod.fst h)
    · rw [nb1_no e] at h
      exact absurd h (fun z => nomatch z)
  · intro h
    rw [h.1]
    exact nb1_yes h.2
abbrev BEnt := Addr × Int × Addr × Row
def BsE (H : Hp) (L : List (Int × Row)) (l : Addr) : Prop := ∃ es : List BEnt, H l = some (.lst (es.map fun e => V.ref e.1)) ∧ (∀ e ∈ es, H e.1 = some (.tup [.int e.2.1, .ref e.2.2.1]) ∧ H e.2.2.1 = some (.tup (iV e.2.2.2))) ∧ es.map (fun e => (e.2.1, e.2.2.2)) = L
theorem BsE.fr {ds : List Addr} {H H' : Hp} {L : List (Int × Row)} {l : Addr} (f : Fr ds H H') (h : BsE H L l) (n : l ∉ ds) : BsE H' L l := by
  obtain ⟨es, h1, h2, h3⟩ := h
  exact ⟨es, f.keep _ _ n h1, fun e he => ⟨f.tup _ _ (h2 e he).1, f.tup _ _ (h2 e he).2⟩, h3⟩
def PB (st : List Row) (i j x : Nat) : List Row := if x < j then st.take (i + 1) else if x < i then st.take i else st.take j
theorem BsE.at {H : Hp} {st : List Row} {r : Row} {l : Addr} (h : BsE H (st.filterMap (nb1 r)) l) (hn : st.length ≤ 400) : NbAt H st r l := by
  obtain ⟨es, h1, h2, h3⟩ := h
  have hlen : es.length ≤ 400 := by
    have e := congrArg List.length h3
    rw [List.length_map] at e
    have := List.length_filterMap_le (nb1 r) st
    omega
  have hiff : ∀ k t, (∃ e ∈ es, e.2.1 = k ∧ e.2.2.2 = t) ↔ t ∈ st ∧ apart r t = [k] := by
    intro k t
    constructor
    · intro ⟨e, he, hk, ht⟩
      have hm : (e.2.1, e.2.2.2) ∈ st.filterMap (nb1 r) := by rw [← h3]; exact List.mem_map_of_mem (f := fun e : BEnt => (e.2.1, e.2.2.2)) he
      rw [hk, ht] at hm
      obtain ⟨u, hu, e2⟩ := List.mem_filterMap.mp hm
      have h := nb1_iff.mp e2
      rw [h.1]
      exact ⟨hu, h.2⟩
    · intro ⟨ht, ha⟩
      have hm : (k, t) ∈ st.filterMap (nb1 r) := List.mem_filterMap.mpr ⟨t, ht, nb1_yes ha⟩
      rw [← h3] at hm
      obtain ⟨e, he, e2⟩ := List.mem_map.mp hm
      exact ⟨e, he, congrArg Prod.fst e2, congrArg Prod.snd e2⟩
  exact ⟨es, h1, h2, hlen, hiff⟩
theorem cut_rowsT {ps : List (Addr × List Int)} {k : Nat} (h : k ≤ ps.length) : cutV (rV ps) none (some (k : Int)) = rV (ps.take k) := by
  unfold cutV
  rw [HT.sIx_nat, HT.sIx_none, rV_len, Nat.min_eq_left h]
  simp [rV]
theorem PB_len {st : List Row} {i j x : Nat} : (PB st i j x).length ≤ st.length := by
  unfold PB
  split
  · simp; omega
  · split <;> simp <;> omega
theorem BsE.app {H : Hp} {L : List (Int × Row)} {l T b : Addr} {k : Int} {t : Row} (h : BsE H L l) (hT : H T = none) (hb : H b = some (.tup (iV t))) :
    ∃ xs, H l = some (.lst xs) ∧ xs.length = L.length ∧ BsE (upd (upd H T (.tup [.int k, .ref b])) l (.lst (xs ++ [.ref T]))) (L ++ [(k, t)]) l := by
  obtain ⟨es, h1, h2, h3⟩ := h
  refine ⟨_, h1, by rw [List.length_map, ← h3, List.length_map], es ++ [(T, k, b, t)], by rw [upd_same, List.map_append]; rfl, fun e he => ?_, by rw [List.map_append, h3]; rfl⟩
  have f : Fr [l] H (upd (upd H T (.tup [.int k, .ref b])) l (.lst (es.map (fun e => V.ref e.1) ++ [.ref T]))) := (Fr.new hT).trans (.set (u := .lst (es.map fun e => V.ref e.1)) (by simp) (by rw [upd_ne (ne_of_none h1 hT)]; exact h1) (fun _ z => nomatch z))
  rcases List.mem_append.mp he with he | he
  · exact ⟨f.tup _ _ (h2 e he).1, f.tup _ _ (h2 e he).2⟩
  · obtain rfl : e = (T, k, b, t) := by simpa using he
    refine ⟨?_, f.tup _ _ hb⟩
    rw [upd_ne (fun e => by rw [← e] at h1; rw [show T = T from rfl] at h1; simp [hT] at h1), upd_same]
theorem nk_at {r : Row} {l : Addr} : ∀ {bs : List (Row × Addr)} {x : Nat}, (bs.map (·.1)).Nodup → bs[x]? = some (r, l) → valV (nearKV bs) (rowK r) = some (.ref l)
  | [], x, _, h => by simp at h
  | q :: bs, 0, _, h => by
    obtain rfl : q = (r, l) := by simpa using h
    exact valV_pos rfl
  | q :: bs, x + 1, hn, h => by
    have hn : (q.1 :: bs.map (·.1)).Nodup := hn
    rw [List.nodup_cons] at hn
    have h : bs[x]? = some (r, l) := by simpa using h
    have : ¬ rowK q.1 = rowK r := fun e => hn.1 (rowK_inj e ▸ List.mem_map_of_mem (f := fun z : Row × Addr => z.1) (List.mem_of_getElem? h))
    rw [show nearKV (q :: bs) = (rowK q.1, V.ref q.2) :: nearKV bs from rfl, valV_neg this]
    exact nk_at hn.2 h
section
variable {P : Program} {w : World} {K : PySem.W.Frag} {mg : Str → Option Value} {base : Heap} {f : Addr} {fd : FuncData}
/-- what stands within _law_beside: i outer turns are made, j inner ones -/
def BsI (H0 H' : Hp) (st : List Row) (n : Addr) (m i j : Nat) (bs : List (Row × Addr)) : Prop :=
  H' n = some (.dT (nearKV bs)) ∧ bs.map (·.1) = st.take m ∧ (bs.map (·.2)).Nodup ∧ n ∉ bs.map (·.2) ∧ (∀ p ∈ bs, H0 p.2 = none) ∧ (∀ (x : Nat) p, bs[x]? = some p → BsE H' ((PB st i j x).filterMap (nb1 p.1)) p.2) ∧ Fr [] H0 H'
theorem BsI.fr {H0 H1 H' : Hp} {st : List Row} {n : Addr} {m i j : Nat} {bs : List (Row × Addr)} (h : BsI H0 H1 st n m i j bs) (f : Fr [] H1 H') : BsI H0 H' st n m i j bs :=
  ⟨f.keep _ _ (fun z => nomatch z) h.1, h.2.1, h.2.2.1, h.2.2.2.1, h.2.2.2.2.1, fun x p hx => (h.2.2.2.2.2.1 x p hx).fr f (fun z => nomatch z), h.2.2.2.2.2.2.trans f⟩
theorem BsI.len {H0 H1 : Hp} {st : List Row} {n : Addr} {m i j : Nat} {bs : List (Row × Addr)} (h : BsI H0 H1 st n m i j bs) (hm : m ≤ st.length) : bs.length = m := by
  have := congrArg List.length h.2.1
  rw [List.length_map, List.length_take] at this
  omega
theorem BsI.at {H0 H1 : Hp} {st : List Row} {n : Addr} {m i j x : Nat} {bs : List (Row × Addr)} {r : Row} (h : BsI H0 H1 st n m i j bs) (hx : x < m) (hr : st[x]? = some r) : ∃ l, bs[x]? = some (r, l) := by
  have := congrArg (fun z => z[x]?) h.2.1
  simp only [List.getElem?_map, List.getElem?_take, if_pos hx, hr, Option.map_eq_some_iff] at this
  obtain ⟨p, hp, rfl⟩ := this
  exact ⟨p.2, hp⟩
theorem BsI.ne {H0 H1 : Hp} {st : List Row} {n : Addr} {m i j x y : Nat} {bs : List (Row × Addr)} {p q : Row × Addr} (h : BsI H0 H1 st n m i j bs) (hx : bs[x]? = some p) (hy : bs[y]? = some q) (hne : x ≠ y) : p.2 ≠ q.2 := by
  have hx2 : (bs.map (·.2))[x]? = some p.2 := by rw [List.getElem?_map, hx]; rfl
  have hy2 : (bs.map (·.2))[y]? = some q.2 := by rw [List.getElem?_map, hy]; rfl
  rcases Nat.lt_or_gt_of_ne hne with z | z
  · exact pw_get (R := fun a b => a ≠ b) h.2.2.1 z hx2 hy2
  · exact fun e => pw_get (R := fun a b => a ≠ b) h.2.2.1 z hy2 hx2 e.symm
theorem BsI.skip {H0 H1 : Hp} {st : List Row} {n : Addr} {i j : Nat} {bs : List (Row × Addr)} {r t : Row} (h : BsI H0 H1 st n (i + 1) i j bs) (hji : j < i) (hr : st[i]? = some r) (ht : st[j]? = some t) (e1 : nb1 r t = none) (e2 : nb1 t r = none) : BsI H0 H1 st n (i + 1) i (j + 1) bs := by
  have hil := (List.getElem?_eq_some_iff.mp hr).1
  have hlen := h.len (by omega)
  obtain ⟨li, hli⟩ := h.at (Nat.lt_succ_self i) hr
  obtain ⟨lj, hlj⟩ := h.at (by omega) ht
  refine ⟨h.1, h.2.1, h.2.2.1, h.2.2.2.1, h.2.2.2.2.1, fun x p hx => ?_, h.2.2.2.2.2.2⟩
  have g := h.2.2.2.2.2.1 x p hx
  have hxl := (List.getElem?_eq_some_iff.mp hx).1
  by_cases c1 : x < j
  · unfold PB at g ⊢
    rw [if_pos c1] at g
    rwa [if_pos (by omega)]
  · by_cases c2 : x = j
    · subst c2
      rw [hlj] at hx
      obtain rfl := Option.some.inj hx
      unfold PB at g ⊢
      rw [if_neg (by omega), if_pos hji] at g
      rw [if_pos (by omega), take_snoc hr, List.filterMap_append, show List.filterMap (nb1 t) [r] = [] from by simp [e2], List.append_nil]
      exact g
    · by_cases c3 : x < i
      · unfold PB at g ⊢
        rw [if_neg c1, if_pos c3] at g
        rwa [if_neg (by omega), if_pos c3]
      · obtain rfl : x = i := by omega
        rw [hli] at hx
        obtain rfl := Option.some.inj hx
        unfold PB at g ⊢
        rw [if_neg c1, if_neg c3] at g
        rw [if_neg (by omega), if_neg c3, take_snoc ht, List.filterMap_append, show List.filterMap (nb1 r) [t] = [] from by simp [e1], List.append_nil]
        exact g
/-- two neighbours: each is put to the other's list -/
theorem BsI.put {H0 H1 : Hp} {st : List Row} {n : Addr} {i j : Nat} {bs : List (Row × Addr)} {r t : Row} {k : Int} {a b li lj T1 : Addr} (h : BsI H0 H1 st n (i + 1) i j bs) (hji : j < i) (hr : st[i]? = some r) (ht : st[j]? = some t) (e1 : nb1 r t = some (k, t)) (e2 : nb1 t r = some (k, r))
    (hli : bs[i]? = some (r, li)) (hlj : bs[j]? = some (t, lj)) (ha : H1 a = some (.tup (iV r))) (hb : H1 b = some (.tup (iV t))) (hT1 : H1 T1 = none) :
    ∃ xs, H1 li = some (.lst xs) ∧ xs.length ≤ st.length ∧ ∀ H2, H2 = upd (upd H1 T1 (.tup [.int k, .ref b])) li (.lst (xs ++ [.ref T1])) → Fr [li] H1 H2 ∧ ∀ T2, H2 T2 = none →
      ∃ ys, H2 lj = some (.lst ys) ∧ ys.length ≤ st.length ∧ ∀ H3, H3 = upd (upd H2 T2 (.tup [.int k, .ref a])) lj (.lst (ys ++ [.ref T2])) → Fr [lj] H2 H3 ∧ BsI H0 H3 st n (i + 1) i (j + 1) bs := by
  have hil := (List.getElem?_eq_some_iff.mp hr).1
  have hlen := h.len (by omega)
  have nn : ∀ {x : Addr}, x ∉ ([] : List Addr) := fun z => nomatch z
  have gi := h.2.2.2.2.2.1 i _ hli
  have gj := h.2.2.2.2.2.1 j _ hlj
  obtain ⟨xs, x1, x2, x3⟩ := gi.app (k := k) hT1 hb
  have hij : li ≠ lj := h.ne hli hlj (by omega)
  refine ⟨xs, x1, ?_, fun H2 eH2 => ?_⟩
  · have x2 : xs.length = ((PB st i j i).filterMap (nb1 r)).length := x2
    have := List.length_filterMap_le (nb1 r) (PB st i j i)
    have := PB_len (st := st) (i := i) (j := j) (x := i)
    omega
  have f12 : Fr [li] H1 H2 := by
    rw [eH2]
    exact (Fr.new hT1).trans (.set (u := .lst xs) (by simp) (by rw [upd_ne (ne_of_none x1 hT1)]; exact x1) (fun _ z => nomatch z))
  rw [← eH2] at x3
  refine ⟨f12, fun T2 hT2 => ?_⟩
  have gj2 := gj.fr f12 (by simpa using fun e => hij e.symm)
  obtain ⟨ys, y1, y2, y3⟩ := gj2.app (k := k) hT2 (f12.tup _ _ ha)
  refine ⟨ys, y1, ?_, fun H3 eH3 => ?_⟩
  · have y2 : ys.length = ((PB st i j j).filterMap (nb1 t)).length := y2
    have := List.length_filterMap_le (nb1 t) (PB st i j j)
    have := PB_len (st := st) (i := i) (j := j) (x := j)
    omega
  have f23 : Fr [lj] H2 H3 := by
    rw [eH3]
    exact (Fr.new hT2).trans (.set (u := .lst ys) (by simp) (by rw [upd_ne (ne_of_none y1 hT2)]; exact y1) (fun _ z => nomatch z))
  rw [← eH3] at y3
  refine ⟨f23, ?_⟩
  have hli0 : H0 li = none := h.2.2.2.2.1 _ (List.mem_of_getElem? hli)
  have hlj0 : H0 lj = none := h.2.2.2.2.1 _ (List.mem_of_getElem? hlj)
  have hn2 : n ≠ li := fun e => h.2.2.2.1 (by rw [e]; exact List.mem_map_of_mem (f := fun z : Row × Addr => z.2) (List.mem_of_getElem? hli))
  have hn3 : n ≠ lj := fun e => h.2.2.2.1 (by rw [e]; exact List.mem_map_of_mem (f := fun z : Row × Addr => z.2) (List.mem_of_getElem? hlj))
  have fr : Fr [] H0 H3 := by
    have e : Fr [li, lj] H0 H3 := (h.2.2.2.2.2.2.wider (fun _ z => nomatch z)).trans ((f12.wider (by simp)).trans (f23.wider (by simp)))
    exact (e.drop hli0).drop hlj0
  refine ⟨f23.keep _ _ (by simpa using hn3) (f12.keep _ _ (by simpa using hn2) h.1), h.2.1, h.2.2.1, h.2.2.2.1, h.2.2.2.2.1, fun x p hx => ?_, fr⟩
  have g := h.2.2.2.2.2.1 x p hx
  have hxl := (List.getElem?_eq_some_iff.mp hx).1
  by_cases c2 : x = j
  · subst c2
    rw [hlj] at hx
    obtain rfl := Option.some.inj hx
    have e : (PB st i (x + 1) x).filterMap (nb1 t) = (PB st i x x).filterMap (nb1 t) ++ [(k, r)] := by
      unfold PB
      rw [if_pos (by omega), if_neg (by omega), if_pos hji, take_snoc hr, List.filterMap_append, show List.filterMap (nb1 t) [r] = [(k, r)] from by simp [e2]]
    rw [e]
    exact y3
  · by_cases c3 : x = i
    · subst c3
      rw [hli] at hx
      obtain rfl := Option.some.inj hx
      have e : (PB st x (j + 1) x).filterMap (nb1 r) = (PB st x j x).filterMap (nb1 r) ++ [(k, t)] := by
        unfold PB
        rw [if_neg (by omega), if_neg (by omega), if_neg (by omega), if_neg (by omega), take_snoc ht, List.filterMap_append, show List.filterMap (nb1 r) [t] = [(k, t)] from by simp [e1]]
      rw [e]
      exact x3.fr f23 (by simpa using hij)
    · have e : PB st i (j + 1) x = PB st i j x := by
        unfold PB
        by_cases c1 : x < j
        · rw [if_pos c1, if_pos (by omega)]
        · rw [if_neg c1, if_neg (by omega), if_pos (by omega), if_pos (by omega)]
      rw [e]
      exact (g.fr f12 (by simpa using h.ne hx hli c3)).fr f23 (by simpa using h.ne hx hlj c2)
def spBeside : Sp := fun vs H Q _ => ∃ a ps av, vs = [.ref a] ∧ H a = some (.lst (rV ps)) ∧ RwL H ps ∧ (rR ps).Nodup ∧ (∀ s ∈ rR ps, ∀ t ∈ rR ps, s.length = t.length) ∧ (∀ s ∈ rR ps, s.length ≤ 100) ∧ ps.length ≤ 24 ∧ (∀ x ∈ av, H x ≠ none) ∧ ∀ H' n, H n = none → Fr [] H H' → NearAt H' (rR ps) av n → Q (.ref n) H'
theorem cal_l_beside (B : Bt mg) (F : FnP K "_law_beside" s_l_beside f fd) (hm : mg "_law_beside" = some (.ref f)) : Cal P w K mg base 1 "_law_beside" spBeside := by
  refine cal0 F hm sc_l_beside (fun _ _ _ _ _ _ us hl => match us, hl with | [_], _ => rfl) (fun vs H Q E h => ?_) (fun cdv A outer s H vs Q E hr h => ?_)
  · obtain ⟨a, ps, av, rfl, _⟩ := h
    rfl
  · obtain ⟨a, ps, av, rfl, ha, hps, hnd, hln, h100, h24, hav, q⟩ := h
    have nd := sc_l_beside.nd
    have hu := hu_of hr
    have nn : ∀ {x : Addr}, x ∉ ([] : List Addr) := fun z => nomatch z
    refine ⟨_, pss_cons (ps_set (i := 1) nd rfl (Or.inl rfl) pe_dnewT)
      (pss_cons (ps_for PassesOwn.never rfl (pi_enumB B (pv 0)) (pg_tup rfl (pgs_cons (pg_name (i := 2) nd rfl (Or.inl rfl)) (pgs_cons (pg_name (i := 3) nd rfl (Or.inr rfl)) pgs_nil)))
        (pss_cons (ps_dput hu (pv 1) (pv 3) (pe_lst pa_nil) rfl)
        (pss_one (ps_for PassesOwn.never rfl (pi_list (pe_slice sl_list (pv 0) po_none (po_some (pv 2)))) (pg_name (i := 4) nd rfl (Or.inr rfl))
          (pss_cons (ps_setLc (i := 5) (own := [("_law_key", 6)]) (g := gName 6) rfl nd rfl rfl (sw_true rfl rfl rfl (by decide +kernel)) (pi_range1 rfl B.range (pa_cons (b_len B (pv 3)) pa_nil)) (blkOk_by (N := N_l_beside) (sc := defScope s_l_beside) (by decide +kernel))
            (fun _ _ _ _ _ => pg_name (i := 6) nd rfl (Or.inl rfl)) (fun _ _ _ _ _ => pts_one (pt_cmpR op_ne (pe_ix (ixT K) (pv 3) (pv 6) (fun _ _ => rfl)) (pe_ix (ixT K) (pv 4) (pv 6) (fun _ _ => rfl)) (nomark _))) (fun _ _ _ _ _ => pv 6))
          (pss_one (ps_if (pt_cmpR op_eq (b_len B (pv 5)) pe_int (nomark _))
            (pss_cons (ps_expr (pe_bm PySem.F.plainAttrs_list PySem.F.slot_list_append PySem.F.type_list_append mt_append (pe_dget hu (pv 1) (pv 3) (fun _ _ => rfl)) (pa_cons (pe_tup (pa_cons (pe_ix ix_list (pv 5) pe_int (fun _ _ => rfl)) (pa_cons (pv 4) pa_nil))) pa_nil)))
            (pss_one (ps_expr (pe_bm PySem.F.plainAttrs_list PySem.F.slot_list_append PySem.F.type_list_append mt_append (pe_dget hu (pv 1) (pv 4) (fun _ _ => rfl)) (pa_cons (pe_tup (pa_cons (pe_ix ix_list (pv 5) pe_int (fun _ _ => rfl)) (pa_cons (pv 3) pa_nil))) pa_nil)))))
            pss_nil)))))))
      (pss_one (ps_ret (pv 1)))), ?_⟩
    intro n hn
    have f0 : Fr [] H (upd H n (.dT [])) := .new hn
    refine ⟨_, rfl, true, a, _, rfl, SqB.l (f0.keep _ _ nn ha), for_it walk_enumB (fun i σ H' => ∃ bs x2 x3 x4 x5 x6, σ = [some (.ref a), some (.ref n), x2, x3, x4, x5, x6] ∧ BsI H H' (rR ps) n i i 0 bs)
      ⟨[], _, _, _, _, _, rfl, upd_same, rfl, List.nodup_nil, (fun z => nomatch z), (fun _ z => nomatch z), (fun x p hx => nomatch hx), f0⟩ ?_ ?_ ?_⟩
    · rintro i σ H' _ ⟨bs, x2, x3, x4, x5, x6, rfl, I⟩
      exact SqB.l (I.2.2.2.2.2.2.keep _ _ nn ha)
    · rintro i u σ H1 H2 hi ⟨bs, x2, x3, x4, x5, x6, rfl, I⟩ ⟨T, ui, ux, rfl, hT, rfl, hui, hux⟩
      obtain rfl : V.int (i : Nat) = ui := Option.some.inj hui
      obtain ⟨p, hp, rfl⟩ := rV_get hux
      have I := I.fr (.new (o := .tup [.int (i : Nat), .ref p.1]) hT)
      refine ⟨T, _, rfl, SqT.of upd_same, rfl, _, _, rfl, _, _, rfl, rfl, ?_⟩
      generalize upd H1 T (.tup [.int (i : Nat), .ref p.1]) = H2 at I
      clear hT
      have hpm := List.mem_of_getElem? hp
      have hrow : (rR ps)[i]? = some p.2 := by rw [rR, List.getElem?_map, hp]; rfl
      have hst : p.2 ∈ rR ps := List.mem_of_getElem? hrow
      have hil : i < ps.length := (List.getElem?_eq_some_iff.mp hp).1
      refine ⟨Nat.zero_le _, fun li hli => ?_⟩
      have f3 : Fr [] H2 (upd H2 li (.lst [])) := .new hli
      have I3 := I.fr f3
      have hl3 : upd H2 li (.lst []) li = some (.lst []) := upd_same
      have hli0 : H li = none := fresh_of I.2.2.2.2.2.2 hli
      have hp3 : upd H2 li (.lst []) p.1 = some (.tup (iV p.2)) := I3.2.2.2.2.2.2.tup _ _ (hps p hpm)
      have hlib : li ∉ bs.map (·.2) := fun z => by
        obtain ⟨q, hq, e⟩ := List.mem_map.mp z
        obtain ⟨x, hx⟩ := List.getElem?_of_mem hq
        obtain ⟨es, e1, _⟩ := I.2.2.2.2.2.1 x q hx
        rw [e, hli] at e1
        cases e1
      have hnli : n ≠ li := fun e => by rw [← e, I.1] at hli; cases hli
      generalize upd H2 li (.lst []) = H3 at I3 hl3 hp3 f3
      have hbl := I3.len (by rw [rR_len]; omega)
      have hkl : (nearKV bs).length < sizeLine := by rw [nearKV, List.length_map, hbl, sizeLine_eq]; omega
      have hkey : H3 p.1 = some (.tup ((rowK p.2).map kV)) := by rw [rowK_kV]; exact hp3
      have hnm : p.2 ∉ bs.map (·.1) := by rw [I.2.1]; exact take_not_mem hnd hrow
      refine ⟨_, rfl, _, rfl, n, _, rfl, .inr ⟨_, _, p.1, I3.1, rfl, hkey, hkl, rfl⟩, ?_⟩
      rw [nk_put hnm]
      have f4 : Fr [n] H3 (upd H3 n (.dT (nearKV (bs ++ [(p.2, li)])))) := .set (u := .dT (nearKV bs)) (by simp) I3.1 (fun _ z => nomatch z)
      have hD4 : upd H3 n (.dT (nearKV (bs ++ [(p.2, li)]))) n = some (.dT (nearKV (bs ++ [(p.2, li)]))) := upd_same
      generalize upd H3 n (.dT (nearKV (bs ++ [(p.2, li)]))) = H4 at f4 hD4
      have hapr : apart p.2 p.2 = [] := by simp [apart]
      have I4 : BsI H H4 (rR ps) n (i + 1) i 0 (bs ++ [(p.2, li)]) := by
        refine ⟨hD4, by rw [List.map_append, I.2.1, take_snoc hrow]; rfl, ?_, ?_, ?_, ?_, ?_⟩
        · rw [List.map_append]
          exact nd_snoc I.2.2.1 hlib
        · rw [List.map_append]
          intro z
          rcases List.mem_append.mp z with z | z
          · exact I.2.2.2.1 z
          · exact hnli (by simpa using z)
        · intro q hq
          rcases List.mem_append.mp hq with hq | hq
          · exact I.2.2.2.2.1 q hq
          · obtain rfl : q = (p.2, li) := by simpa using hq
            exact hli0
        · intro x q hx
          by_cases hxi : x < i
          · rw [List.getElem?_append_left (by omega)] at hx
            refine (I3.2.2.2.2.2.1 x q hx).fr f4 ?_
            intro z
            exact I.2.2.2.1 (by rw [← List.mem_singleton.mp z]; exact List.mem_map_of_mem (f := fun z : Row × Addr => z.2) (List.mem_of_getElem? hx))
          · rw [List.getElem?_append_right (by omega)] at hx
            obtain ⟨e0, e⟩ : x - bs.length = 0 ∧ q = (p.2, li) := by
              cases c : x - bs.length with
              | zero => rw [c] at hx; exact ⟨rfl, (Option.some.inj hx).symm⟩
              | succ m => rw [c] at hx; simp at hx
            subst e
            unfold PB
            rw [if_neg (by omega), if_neg hxi]
            exact ⟨[], f4.keep _ _ (by simpa using fun e => hnli e.symm) hl3, (fun _ z => nomatch z), rfl⟩
        · exact (I3.2.2.2.2.2.2.wider (fun _ z => nomatch z)).trans f4 |>.drop hn
      have f34 : Fr [] H H4 := I4.2.2.2.2.2.2
      generalize ebs : bs ++ [(p.2, li)] = bs4 at I4
      have hbi : bs4[i]? = some (p.2, li) := by rw [← ebs, List.getElem?_append_right (by omega)]; simp [hbl]
      clear hD4 f4 hkey hp3 hl3 f3 I3
      refine ⟨_, rfl, _, rfl, _, rfl, a, _, rfl, SqL.of (f34.keep _ _ nn ha), fun c hc => ?_⟩
      rw [cut_rowsT (by omega)]
      have I5 := I4.fr (.new (o := .lst (rV (ps.take i))) hc)
      have hc0 : H c = none := fresh_of f34 hc
      have hcb : c ∉ bs4.map (·.2) := fun z => by
        obtain ⟨q, hq, e⟩ := List.mem_map.mp z
        obtain ⟨x, hx⟩ := List.getElem?_of_mem hq
        obtain ⟨es, e1, _⟩ := I4.2.2.2.2.2.1 x q hx
        rw [e, hc] at e1
        cases e1
      refine ⟨c, rfl, ⟨_, SqL.of upd_same⟩, for_list (xs := rV (ps.take i)) (fun j σ H' => ∃ x4 x5 x6, σ = [some (.ref a), some (.ref n), some (.int (i : Nat)), some (.ref p.1), x4, x5, x6] ∧ H' c = some (.lst (rV (ps.take i))) ∧ BsI H H' (rR ps) n (i + 1) i j bs4) ⟨_, _, _, rfl, upd_same, I5⟩ ?_ ?_ ?_⟩
      · rintro j σ H' _ ⟨x4, x5, x6, rfl, hc', _⟩
        exact SqL.of hc'
      · rintro j x σ H6 hx ⟨x4, x5, x6, rfl, hc6, I6⟩
        obtain ⟨t, ht, rfl⟩ := rV_get hx
        rw [List.getElem?_take] at ht
        have hji : j < i := by
          by_cases z : j < i
          · exact z
          · rw [if_neg z] at ht
            cases ht
        rw [if_pos hji] at ht
        have htm := List.mem_of_getElem? ht
        have htr : (rR ps)[j]? = some t.2 := by rw [rR, List.getElem?_map, ht]; rfl
        have htst : t.2 ∈ rR ps := List.mem_of_getElem? htr
        have fr6 := I6.2.2.2.2.2.2
        have hp6 := fr6.tup _ _ (hps p hpm)
        have ht6 := fr6.tup _ _ (hps t htm)
        have hl := hln p.2 hst t.2 htst
        have hl100 := h100 p.2 hst
        have er : (((iV p.2).length : Int).toNat) = p.2.length := by rw [iV_len]; omega
        refine ⟨_, rfl, p.1, _, rfl, .inr (SqT.of hp6), _, rfl, by omega, by rw [iV_len]; omega, fun D hD => lcG walk_range [] (fun i acc _ => acc = iV (((List.range i).filter fun j => decide (p.2.getD j 0 ≠ t.2.getD j 0)).map Int.ofNat)) hD (by rw [er]; exact Nat.lt_of_le_of_lt hl100 (by decide)) rfl (fun _ _ _ _ _ _ t => t) (fun i acc H2 _ fr _ => True.intro) ?_ ?_⟩
        · rintro i2 x H2 _ acc hi2 hD2 fr rfl ⟨rfl, rfl⟩ yes no
          rw [er] at hi2
          refine ⟨rfl, ?_⟩
          refine ⟨_, rfl, _, rfl, p.1, _, _, _, rfl, rfl, SqT.of (fr.tup _ _ hp6), getD_nat hi2, ?_⟩
          refine ⟨_, rfl, _, rfl, t.1, _, _, _, rfl, rfl, SqT.of (fr.tup _ _ ht6), getD_nat (by omega), ?_⟩
          refine ⟨rfl, _, rfl, ?_⟩
          by_cases hx : p.2.getD i2 0 = t.2.getD i2 0
          · have e : (!decide (V.int (p.2.getD i2 0) = V.int (t.2.getD i2 0))) = false := by rw [hx]; simp
            rw [e]
            refine no _ hD2 fr ?_
            rw [rf_no (decide_eq_false fun z => z hx)]
          · have e : (!decide (V.int (p.2.getD i2 0) = V.int (t.2.getD i2 0))) = true := by rw [decide_eq_false (fun z => hx (V.int.inj z))]; rfl
            rw [e]
            refine ⟨_, rfl, ?_⟩
            refine yes _ _ hD2 fr ?_
            rw [rf_yes (decide_eq_true hx)]
            simp [iV]
        · rintro acc H7 hD7 hl7 fr7 rfl
          rw [er] at hD7
          change H7 D = some (.lst (iV (apart p.2 t.2))) at hD7
          have hap := apart_symm hl
          have I7 := I6.fr fr7
          have hc7 := fr7.keep _ _ nn hc6
          have hp7 := fr7.tup _ _ hp6
          have ht7 := fr7.tup _ _ ht6
          refine ⟨_, rfl, D, _, rfl, .inl (SqL.of hD7), rfl, _, rfl, ?_⟩
          rw [iV_len]
          refine ite2 (fun h1 => ?_) fun h1 => ?_
          · have h1 : (apart p.2 t.2).length = 1 := by
              have := V.int.inj (of_decide_eq_true h1)
              omega
            obtain ⟨k, hk⟩ : ∃ k, apart p.2 t.2 = [k] := ⟨_, one_of h1⟩
            have hk2 : apart t.2 p.2 = [k] := by rw [← hap]; exact hk
            rw [hk] at hD7
            obtain ⟨lj, hbj⟩ := I7.at (by omega) htr
            have hnd4 : (bs4.map (·.1)).Nodup := by rw [I7.2.1]; exact hnd.sublist (List.take_sublist _ _)
            have nki : n ≠ li := fun e => I7.2.2.2.1 (by rw [e]; exact List.mem_map_of_mem (f := fun z : Row × Addr => z.2) (List.mem_of_getElem? hbi))
            have nkj : n ≠ lj := fun e => I7.2.2.2.1 (by rw [e]; exact List.mem_map_of_mem (f := fun z : Row × Addr => z.2) (List.mem_of_getElem? hbj))
            have nci : c ≠ li := fun e => hcb (by rw [e]; exact List.mem_map_of_mem (f := fun z : Row × Addr => z.2) (List.mem_of_getElem? hbi))
            have ncj : c ≠ lj := fun e => hcb (by rw [e]; exact List.mem_map_of_mem (f := fun z : Row × Addr => z.2) (List.mem_of_getElem? hbj))
            obtain ⟨es0, eL, _⟩ := I6.2.2.2.2.2.1 i _ hbi
            obtain ⟨es7, e7, _⟩ := I7.2.2.2.2.2.1 i _ hbi
            obtain ⟨es8, e8', _⟩ := I7.2.2.2.2.2.1 j _ hbj
            have nij : lj ≠ li := I7.ne hbj hbi (by omega)
            have nDi : D ≠ li := fun e => by
              rw [e] at hD
              rw [hD] at eL
              cases eL
            have hkp : H7 p.1 = some (.tup ((rowK p.2).map kV)) := by rw [rowK_kV]; exact hp7
            refine ⟨_, rfl, _, rfl, n, .ref li, rfl, .inr ⟨_, _, p.1, .inl I7.1, rfl, hkp, (nk_at hnd4 hbi).symm⟩, .inl ⟨rfl, _, SqL.of e7⟩, _, rfl, D, _, 0, _, rfl, rfl, SqL.of hD7, (atI_nat (j := 0) rfl : atI (iV [k]) 0 = some (.int k)), _, rfl, by show 2 ≤ sizeLine; decide, fun T1 hT1 => ?_⟩
            obtain ⟨xs, x1, x2, x3⟩ := I7.put hji hrow htr (nb1_yes hk) (nb1_yes hk2) hbi hbj hp7 ht7 hT1
            rw [rR_len] at x2
            refine ⟨li, _, _, rfl, rfl, by rw [upd_ne (ne_of_none x1 hT1)]; exact x1, by rw [sizeLine_eq]; omega, ?_⟩
            obtain ⟨f78, x4⟩ := x3 _ rfl
            generalize upd (upd H7 T1 (.tup [.int k, .ref t.1])) li (.lst (xs ++ [.ref T1])) = H8 at f78 x4
            have hD8 := f78.keep _ _ (by simpa using nDi) hD7
            have hn8 := f78.keep _ _ (by simpa using nki) I7.1
            have e8 := f78.keep _ _ (by simpa using nij) e8'
            have hkt : H8 t.1 = some (.tup ((rowK t.2).map kV)) := by rw [rowK_kV]; exact f78.tup _ _ ht7
            refine ⟨_, rfl, _, rfl, n, .ref lj, rfl, .inr ⟨_, _, t.1, .inl hn8, rfl, hkt, (nk_at hnd4 hbj).symm⟩, .inl ⟨rfl, _, SqL.of e8⟩, _, rfl, D, _, 0, _, rfl, rfl, SqL.of hD8, (atI_nat (j := 0) rfl : atI (iV [k]) 0 = some (.int k)), _, rfl, by show 2 ≤ sizeLine; decide, fun T2 hT2 => ?_⟩
            obtain ⟨ys, y1, y2, y3⟩ := x4 T2 hT2
            rw [rR_len] at y2
            refine ⟨lj, _, _, rfl, rfl, by rw [upd_ne (ne_of_none y1 hT2)]; exact y1, by rw [sizeLine_eq]; omega, ?_⟩
            obtain ⟨f89, I9⟩ := y3 _ rfl
            exact ⟨_, _, _, rfl, f89.keep _ _ (by simpa using ncj) (f78.keep _ _ (by simpa using nci) hc7), I9⟩
          · have h1 : (apart p.2 t.2).length ≠ 1 := fun e => by
              rw [e] at h1
              exact absurd h1 (by decide)
            exact ⟨_, _, _, rfl, hc7, I7.skip hji hrow htr (nb1_no h1) (nb1_no (by rw [← hap]; exact h1))⟩
      · rintro σ H6 ⟨x4, x5, x6, rfl, hc6, I6⟩
        rw [rV_len, List.length_take, Nat.min_eq_left (by omega)] at I6
        refine ⟨bs4, _, _, _, _, _, rfl, I6.1, I6.2.1, I6.2.2.1, I6.2.2.2.1, I6.2.2.2.2.1, fun x q hx => ?_, I6.2.2.2.2.2.2⟩
        have g := I6.2.2.2.2.2.1 x q hx
        have hbl4 := I6.len (by rw [rR_len]; omega)
        have hxl := (List.getElem?_eq_some_iff.mp hx).1
        unfold PB at g ⊢
        rw [if_neg (by omega), if_pos (by omega)]
        by_cases hxi : x < i
        · rw [if_pos hxi] at g
          exact g
        · obtain rfl : x = i := by omega
          rw [hbi] at hx
          obtain rfl := Option.some.inj hx
          rw [if_neg hxi, if_neg hxi] at g
          rw [take_snoc hrow, List.filterMap_append, show List.filterMap (nb1 p.2) [p.2] = [] from by simp [nb1_no (r := p.2) (t := p.2) (by rw [hapr]; decide)], List.append_nil]
          exact g
    · rintro σ H1 ⟨bs, x2, x3, x4, x5, x6, rfl, I⟩
      rw [rV_len, ← rR_len] at I
      obtain ⟨h1, h2, h3, h3b, h4, h5, h6⟩ := I
      refine ⟨_, rfl, q H1 n hn h6 ⟨bs, h1, by rw [h2, List.take_length], fun z hz => ⟨fun m => hav _ m (h4 z hz), ?_⟩⟩⟩
      obtain ⟨x, hx⟩ := List.getElem?_of_mem hz
      have := h5 x z hx
      have hxl : x < (rR ps).length := by
        have := (List.getElem?_eq_some_iff.mp hx).1
        have e := congrArg List.length h2
        rw [List.length_map, List.take_length] at e
        omega
      unfold PB at this
      rw [if_neg (by omega), if_pos hxl, List.take_length] at this
      exact this.at (by rw [rR_len]; omega)
end
end K13
/-! K13L13 -/
set_option autoImplicit true
set_option Elab.async false
set_option linter.all false
set_option maxRecDepth 100000
set_option maxHeartbeats 2000000
set_option pp.maxSteps 600
namespace K13
open PySem PySem.Spec PyProof.Rows L2
theorem piL {X : Cx} (K : PySem.W.Frag) {tg l : Expr} {tl : TE} (hl : PE X l tl) (hK : X.K = K := by rfl) : PI X tg l (iList K tl) := hK ▸ pi_list hl
def AllInt (kvs : List (List L2.Key × V)) : Prop := ∀ ks v, valV kvs ks = some v → ∃ i, v = .int i
section
variable {P : Program} {w : World} {K : PySem.W.Frag} {mg : Str → Option Value} {base : Heap} {f : Addr} {fd : FuncData}
def spQuest : Sp := fun vs H Q _ => ∃ d l ra ps n, vs = [.ref d, .ref ra] ∧ Dl d l H ∧ H ra = some (.lst (rV ps)) ∧ RwL H ps ∧ ra ∉ [d, l] ∧ ps ≠ [] ∧ ps.length ≤ 24 ∧ n ≤ 4 ∧ (∀ r ∈ rR ps, r.length = n) ∧ ∀ p qs H', H p = none → H' p = some (.lst (iV qs)) → qs.length = ps.length → Dl d l H' → Fr [d, l] H H' → Q (.ref p) H'
theorem cal_l_question (B : Bt mg) (cA : Cal P w K mg base 1 "_law_any" spAny) (cO : Cal P w K mg base 2 "_law_of" spOf)
    (F : FnP K "_law_question" s_l_question f fd) (hm : mg "_law_question" = some (.ref f)) : Cal P w K mg base 3 "_law_question" spQuest := by
  refine cal0 F hm sc_l_question (fun _ _ _ _ _ _ us hl => match us, hl with | [_, _], _ => rfl) (fun vs H Q E h => ?_) (fun cdv A outer s H vs Q E hr h => ?_)
  · obtain ⟨d, l, ra, ps, n, rfl, _⟩ := h
    rfl
  · obtain ⟨d, l, ra, ps, n, rfl, hd, hra, hps, nra, pne, hpl, hn4, hln, q⟩ := h
    have nd := sc_l_question.nd
    have hu := hu_of hr
    refine ⟨_, pss_cons (ps_asg (pe_tup (pa_cons (pc cA hr (pa_cons (pv 0) (pa_cons pe_int pa_nil))) (pa_cons (pc cO hr (pa_cons (pv 0) (pa_cons (pe_lst (pa_cons pe_int (pa_cons pe_int (pa_cons pe_int (pa_cons pe_int (pa_cons pe_int pa_nil)))))) pa_nil))) pa_nil))) (pg_tup rfl (pgs_cons (pg_name (i := 2) nd rfl (Or.inl rfl)) (pgs_cons (pg_name (i := 3) nd rfl (Or.inr rfl)) pgs_nil))))
      (pss_cons (ps_if (pt_cmpR op_eq (pv 2) pe_int (nomark _))
        (pss_one (ps_ret (pe_lc (own := [("_law_state", 4)]) (g := gName 4) rfl nd (pi_list (pv 1)) (blkOk_by (N := N_l_question) (sc := defScope s_l_question) (by decide +kernel))
          (fun _ _ _ _ _ => pg_name (i := 4) nd rfl (Or.inl rfl)) (fun _ _ _ _ _ => pts_nil) (fun _ _ _ _ _ => pc cA hr (pa_cons (pv 0) (pa_cons (pv 3) pa_nil)))))) pss_nil)
      (pss_cons (ps_set (i := 5) nd rfl (Or.inr rfl) (pe_lc (own := [("_law_key", 6)]) (g := gName 6) rfl nd (pi_range1 rfl B.range (pa_cons (b_len B (pe_ix ix_list (pv 1) pe_int (fun _ _ => rfl))) pa_nil)) (blkOk_by (N := N_l_question) (sc := defScope s_l_question) (by decide +kernel))
          (fun _ _ _ _ _ => pg_name (i := 6) nd rfl (Or.inl rfl)) (fun _ _ _ _ _ => pts_one (pt_cmpR op_eq (pc cA hr (pa_cons (pv 0) (pa_cons pe_int pa_nil))) pe_int (nomark _))) (fun _ _ _ _ _ => pv 6)))
      (pss_cons (ps_if (pt_cmpR op_eq (pv 2) pe_int (nomark _))
        (pss_one (ps_ret (pe_lc (own := [("_law_state", 4)]) (g := gName 4) rfl nd (pi_list (pv 1)) (blkOk_by (N := N_l_question) (sc := defScope s_l_question) (by decide +kernel))
          (fun _ _ _ _ _ => pg_name (i := 4) nd rfl (Or.inr rfl)) (fun _ _ _ _ _ => pts_nil) (fun _ _ _ _ _ => k_sum K B rfl
            (pe_lc (own := [("_law_key", 6)]) (g := gName 6) rfl nd (piL K (pv 5)) (blkOk_by (N := N_l_question) (sc := { kind := .function, names := [(".0", .local), ("_law_state", .cell), ("sum", .globalImplicit), ("_law_keys", .cell)], isGenerator := false, isCoroutine := false }) (by decide +kernel))
              (fun _ _ _ _ _ => pg_name (i := 6) nd rfl (Or.inl rfl)) (fun _ _ _ _ _ => pts_nil) (fun _ _ _ _ _ => pe_ix (ixT K) (pv 4) (pv 6) (fun _ _ => rfl))))))) pss_nil)
      (pss_cons (ps_par (i := 7) (j := 8) rfl nd rfl rfl (by decide) rfl rfl (pa_cons pe_dnewT (pa_cons (pe_lst pa_nil) pa_nil)) rfl)
      (pss_cons (ps_for PassesOwn.never rfl (pi_list (pv 1)) (pg_name (i := 4) nd rfl (Or.inr rfl))
        (pss_cons (ps_set (i := 9) nd rfl (Or.inl rfl) (b_tupOf B (pe_lc (own := [("_law_key", 6)]) (g := gName 6) rfl nd (pi_list (pv 5)) (blkOk_by (N := N_l_question) (sc := defScope s_l_question) (by decide +kernel))
            (fun _ _ _ _ _ => pg_name (i := 6) nd rfl (Or.inl rfl)) (fun _ _ _ _ _ => pts_nil) (fun _ _ _ _ _ => pe_ix (ixT K) (pv 4) (pv 6) (fun _ _ => rfl)))))
        (pss_cons (ps_if (pt_cmp (pc_dnotin hu (pv 9) (pv 7))) (pss_one (ps_dput hu (pv 7) (pv 9) (pc cA hr (pa_cons (pv 0) (pa_cons (pv 3) pa_nil))) rfl)) pss_nil)
        (pss_one (ps_expr (pe_bm PySem.F.plainAttrs_list PySem.F.slot_list_append PySem.F.type_list_append mt_append (pv 8) (pa_cons (pe_dget hu (pv 7) (pv 9) (fun _ _ => rfl)) pa_nil)))))))
      (pss_one (ps_ret (pv 8)))))))), ?_⟩
    refine ⟨_, rfl, d, l, _, rfl, hd, by decide, by decide, fun form H1 _ _ hd1 f1 => ⟨_, rfl, by show 5 ≤ sizeLine; decide, fun t ht => ⟨d, l, t, _, rfl, hd1.new ht, upd_same, hd1.ne ht, by show 1 ≤ 5; decide, by show 5 ≤ 1000; decide, fun i x H2 hx hd2 f2 => ?_⟩⟩⟩
    obtain ⟨m, rfl, m1, m9⟩ : ∃ m : Int, x = .int m ∧ 1 ≤ m ∧ m ≤ 9 := by
      have hx := List.mem_of_getElem? hx
      simp only [List.mem_cons, List.not_mem_nil, or_false] at hx
      rcases hx with rfl | rfl | rfl | rfl | rfl <;> exact ⟨_, rfl, by decide, by decide⟩
    refine ⟨by show 2 ≤ sizeLine; decide, fun T hT => ⟨T, _, rfl, SqT.of upd_same, rfl, _, _, rfl, _, _, rfl, rfl, ?_⟩⟩
    have fr := (f1.trans ((Fr.new ht).trans f2)).trans (.new (o := .tup [.int form, .int m]) hT)
    have hd3 := hd2.new (o := .tup [.int form, .int m]) hT
    generalize upd H2 T (.tup [.int form, .int m]) = H3 at fr hd3
    clear hd2 hd1 f1 f2 ht hT
    have hra3 := fr.keep _ _ nra hra
    have hps3 := hps.fr fr
    refine ⟨_, rfl, rfl, _, rfl, ite2 (fun _ => ?_) fun _ => ?_⟩
    · refine ⟨_, rfl, ra, rfl, ⟨_, SqL.of hra3⟩, fun D hD => lcG (walk_list (xs := rV ps)) [d, l] (fun i acc H => ∃ ws, acc = iV ws ∧ ws.length = i ∧ Dl d l H) hD (by rw [rV_len, sizeLine_eq]; omega) ⟨[], rfl, rfl, hd3⟩
        (fun i acc H H' f _ ⟨ws, e, h1, h⟩ => ⟨ws, e, h1, h.fr f (fun z => hd3.ne hD (by rw [← List.mem_singleton.mp z]; simp)) (fun z => hd3.ne hD (by rw [← List.mem_singleton.mp z]; simp))⟩)
        (fun i acc H _ f _ => SqL.of (f.keep _ _ nra hra3)) ?_ ?_⟩
      · rintro i x _ H4 acc hi hD2 fr4 ⟨ws, rfl, h1, hd4⟩ ⟨rfl, hx⟩ yes no
        refine ⟨rfl, ?_⟩
        refine ⟨_, rfl, _, rfl, d, l, _, rfl, hd4, by omega, by omega, fun r H' r0 r1 hd' f' => ?_⟩
        exact yes _ _ (f'.keep _ _ (hd3.ne hD) hD2) (fr4.trans f') ⟨ws ++ [r], by rw [iV_snoc], by simp [h1], hd'⟩
      · rintro acc H4 hD4 hl4 f4 ⟨ws, rfl, h1, hd4⟩
        exact q D ws H4 (fresh_dl fr hd3 hD) hD4 (by rw [h1, rV_len]) hd4 (fr.trans f4)
    · obtain ⟨p0, hp0⟩ := rowsAt (ps := ps) (i := 0) (by cases ps with | nil => exact absurd rfl pne | cons => simp)
      have hp0m := List.mem_of_getElem? hp0
      have hp03 := hps3 p0 hp0m
      have hl0 : p0.2.length = n := hln _ (List.mem_map_of_mem hp0m)
      have er : (((iV p0.2).length : Int).toNat) = n := by rw [iV_len]; omega
      refine ⟨_, rfl, ra, _, 0, _, rfl, rfl, SqL.of hra3, (atI_nat (j := 0) (by rw [rV, List.getElem?_map, hp0]; rfl) : atI (rV ps) 0 = some (.ref p0.1)), p0.1, _, rfl, .inr (SqT.of hp03), _, rfl, by omega, by rw [iV_len]; omega, fun D hD => lcG walk_range [d, l] (fun i acc H => ∃ ws, acc = iV ws ∧ ws.length ≤ i ∧ (∀ k ∈ ws, 0 ≤ k ∧ k < (n : Int)) ∧ Dl d l H) hD (by rw [er, sizeLine_eq]; omega) ⟨[], rfl, Nat.le_refl _, (fun _ z => nomatch z), hd3⟩
        (fun i acc H H' f _ ⟨ws, e, h1, h2, h⟩ => ⟨ws, e, h1, h2, h.fr f (fun z => hd3.ne hD (by rw [← List.mem_singleton.mp z]; simp)) (fun z => hd3.ne hD (by rw [← List.mem_singleton.mp z]; simp))⟩) (fun i acc H2 _ fr _ => True.intro) ?_ ?_⟩
      · rintro i x H4 _ acc hi hD2 fr4 ⟨ws, rfl, h1, h2, hd4⟩ ⟨rfl, rfl⟩ yes no
        rw [er] at hi
        refine ⟨rfl, ?_⟩
        refine ⟨_, rfl, d, l, _, rfl, hd4, by decide, by decide, fun r H' _ _ hd' f' => ⟨rfl, _, rfl, ite2 (fun _ => ⟨_, rfl, ?_⟩) fun _ => ?_⟩⟩
        · refine yes _ _ (f'.keep _ _ (hd3.ne hD) hD2) (fr4.trans f') ⟨ws ++ [0 + (i : Int)], by rw [iV_snoc], by simp; omega, fun k hk => ?_, hd'⟩
          rcases List.mem_append.mp hk with hk | hk
          · exact h2 k hk
          · obtain rfl : k = 0 + (i : Int) := by simpa using hk
            omega
        · exact no _ (f'.keep _ _ (hd3.ne hD) hD2) (fr4.trans f') ⟨ws, rfl, by omega, h2, hd'⟩
      · rintro acc H4 hD4 hl4 f4 ⟨ks, rfl, hk1, hks, hd4⟩
        rw [er] at hk1
        have fr4 := fr.trans f4
        have nD := hd3.ne hD
        have hra4 := f4.keep _ _ nra hra3
        have hps4 := hps3.fr f4
        refine ⟨_, rfl, rfl, _, rfl, ite2 (fun _ => ?_) fun _ => ?_⟩
        · refine ⟨_, rfl, ra, rfl, ⟨_, SqL.of hra4⟩, fun D2 hD2 => lcG (walk_list (xs := rV ps)) [] (fun i acc H => ∃ ws, acc = iV ws ∧ ws.length = i) hD2 (by rw [rV_len, sizeLine_eq]; omega) ⟨[], rfl, rfl⟩
            (fun i acc H H' f _ t => t) (fun i acc H _ f _ => SqL.of (f.keep _ _ (fun z => nomatch z) hra4)) ?_ ?_⟩
          · rintro i x _ H5 acc hi hD5 fr5 ⟨ws, rfl, h1⟩ ⟨rfl, hx⟩ yes no
            obtain ⟨p, hp, rfl⟩ := rV_get hx
            have hpm := List.mem_of_getElem? hp
            have hpl2 : p.2.length = n := hln _ (List.mem_map_of_mem hpm)
            have hkl5 := fr5.keep _ _ (fun z => nomatch z) hD4
            have hp5 := fr5.tup _ _ (hps4 p hpm)
            refine ⟨rfl, ?_⟩
            refine ⟨_, rfl, D, rfl, ⟨_, SqL.of hkl5⟩, fun D4 hD4 => lcG (walk_list (xs := iV ks)) [] (fun i acc H => ∃ zs, acc = iV zs) hD4 (by rw [iV_len, sizeLine_eq]; omega) ⟨[], rfl⟩
              (fun _ _ _ _ _ _ t => t) (fun i acc H _ f _ => SqL.of (f.keep _ _ (fun z => nomatch z) hkl5)) ?_ ?_⟩
            · rintro j x _ H6 acc hj hD6 fr6 ⟨zs, rfl⟩ ⟨rfl, hx⟩ yes2 no2
              obtain ⟨kk, hk', rfl⟩ := iV_get hx
              have hb2 := hks kk (List.mem_of_getElem? hk')
              refine ⟨rfl, ?_⟩
              refine ⟨_, rfl, _, rfl, p.1, _, _, _, rfl, rfl, SqT.of (fr6.tup _ _ hp5), getD_of hb2.1 (by omega), ?_⟩
              exact yes2 _ _ hD6 fr6 ⟨zs ++ [p.2.getD kk.toNat 0], by rw [iV_snoc]⟩
            · rintro acc H6 hD6 hl6 fr6 ⟨zs, rfl⟩
              exact ⟨D4, zs, rfl, SqL.of hD6, yes _ _ (fr6.keep _ _ (fun z => nomatch z) hD5) (fr5.trans fr6) ⟨ws ++ [zs.sum], by rw [iV_snoc], by simp [h1]⟩⟩
          · rintro acc H5 hD5 hl5 f5 ⟨ws, rfl, h1⟩
            exact q D2 ws H5 (fresh_dl fr4 hd4 hD2) hD5 (by rw [h1, rV_len]) (hd4.same f5) (fr4.trans f5.dl)
        · intro sd hsd
          refine ⟨Nat.zero_le _, fun fo hfo => ⟨_, _, rfl, ?_⟩⟩
          have hsd0 : H sd = none := fresh_dl fr4 hd4 hsd
          have hfo0 : H fo = none := fresh_dl (fr4.trans (.new hsd)) (hd4.new hsd) hfo
          have f5 : Fr [] H4 (upd (upd H4 sd (.dT [])) fo (.lst [])) := (Fr.new hsd).trans (.new hfo)
          have hsd5 : upd (upd H4 sd (.dT [])) fo (.lst []) sd = some (.dT []) := by rw [upd_ne (ne_of_none upd_same hfo), upd_same]
          have hfo5 : upd (upd H4 sd (.dT [])) fo (.lst []) fo = some (.lst (iV [])) := upd_same
          have hDs : D ≠ sd := fun e => by rw [e, hsd] at hD4; cases hD4
          have hDf : D ≠ fo := fun e => by rw [e, (fresh_of (.new hsd) hfo : H4 fo = none)] at hD4; cases hD4
          have hd5 := hd4.same f5
          have hrs : ra ≠ sd := fun e => by rw [e, hsd] at hra4; cases hra4
          have hrf : ra ≠ fo := fun e => by rw [e, hfo0] at hra; cases hra
          have hD5 := f5.keep _ _ (fun z => nomatch z) hD4
          generalize upd (upd H4 sd (.dT [])) fo (.lst []) = H5 at f5 hsd5 hfo5 hd5 hD5
          have nsd := hd.ne hsd0
          have nfo := hd.ne hfo0
          refine ⟨_, rfl, ra, rfl, ⟨_, SqL.of (f5.keep _ _ (fun z => nomatch z) hra4)⟩, for_list (xs := rV ps) (fun i σ H' => ∃ kvs qs x4 x6 x9, σ = [some (.ref d), some (.ref ra), some (.int form), some (.int m), x4, some (.ref D), x6, some (.ref sd), some (.ref fo), x9] ∧ H' sd = some (.dT kvs) ∧ AllInt kvs ∧ kvs.length ≤ i ∧ H' fo = some (.lst (iV qs)) ∧ qs.length = i ∧ H' D = some (.lst (iV ks)) ∧ Dl d l H' ∧ Fr [d, l] H H')
            ⟨[], [], _, _, _, rfl, hsd5, (fun _ _ z => nomatch z), Nat.le_refl _, hfo5, rfl, hD5, hd5, fr4.trans f5.dl⟩ ?_ ?_ ?_⟩
          · rintro i σ H' _ ⟨kvs, qs, x4, x6, x9, rfl, _, _, _, _, _, _, _, f⟩
            exact SqL.of (f.keep _ _ nra hra)
          · rintro i x σ H6 hx ⟨kvs, qs, x4, x6, x9, rfl, hs6, hai, hkl, hf6, hql, hD6, hd6, f6⟩
            obtain ⟨p, hp, rfl⟩ := rV_get hx
            have hpm := List.mem_of_getElem? hp
            have hil := (List.getElem?_eq_some_iff.mp hp).1
            have hpl2 : p.2.length = n := hln _ (List.mem_map_of_mem hpm)
            have hp6 := f6.tup _ _ (hps p hpm)
            refine ⟨_, rfl, D, rfl, ⟨_, SqL.of hD6⟩, fun D4 hD4 => lcG (walk_list (xs := iV ks)) [] (fun i acc H => ∃ zs, acc = iV zs) hD4 (by rw [iV_len, sizeLine_eq]; omega) ⟨[], rfl⟩
              (fun _ _ _ _ _ _ t => t) (fun i acc H _ f _ => SqL.of (f.keep _ _ (fun z => nomatch z) hD6)) ?_ ?_⟩
            · rintro j x _ H7 acc hj hD7 fr7 ⟨zs, rfl⟩ ⟨rfl, hx⟩ yes2 no2
              obtain ⟨kk, hk', rfl⟩ := iV_get hx
              have hb2 := hks kk (List.mem_of_getElem? hk')
              refine ⟨rfl, ?_⟩
              refine ⟨_, rfl, _, rfl, p.1, _, _, _, rfl, rfl, SqT.of (fr7.tup _ _ hp6), getD_of hb2.1 (by omega), ?_⟩
              exact yes2 _ _ hD7 fr7 ⟨zs ++ [p.2.getD kk.toNat 0], by rw [iV_snoc]⟩
            · rintro acc H7 hD7 hl7 fr7 ⟨zs, rfl⟩
              refine .inl ⟨D4, _, rfl, SqL.of hD7, fun vw hvw => ?_⟩
              have f8 : Fr [] H6 (upd H7 vw (.tup (iV zs))) := fr7.trans (.new hvw)
              have hw : upd H7 vw (.tup (iV zs)) vw = some (.tup ((rowK zs).map kV)) := by rw [upd_same, rowK_kV]
              generalize upd H7 vw (.tup (iV zs)) = H8 at f8 hw
              have hs8 := f8.keep _ _ (fun z => nomatch z) hs6
              have hf8 := f8.keep _ _ (fun z => nomatch z) hf6
              have hD8 := f8.keep _ _ (fun z => nomatch z) hD6
              have hd8 := hd6.same f8
              have hlen8 : (iV qs).length < sizeLine := by rw [iV_len, sizeLine_eq]; omega
              have hsf : sd ≠ fo := fun e => by rw [e, hf8] at hs8; cases hs8
              refine ⟨_, rfl, _, rfl, sd, _, rfl, .inr ⟨kvs, rowK zs, vw, .inl hs8, rfl, hw, rfl⟩, _, rfl, ?_⟩
              cases e : valV kvs (rowK zs) with
              | none =>
                refine iteT ⟨_, rfl, _, rfl, d, l, _, rfl, hd8, by omega, by omega, fun r H9 _ _ hd9 f9 => ?_⟩
                have hs9 := f9.keep _ _ nsd hs8
                have hf9 := f9.keep _ _ nfo hf8
                have hw9 := f9.tup _ _ hw
                refine ⟨_, rfl, _, rfl, sd, _, rfl, .inr ⟨kvs, _, vw, hs9, rfl, hw9, by rw [sizeLine_eq]; omega, rfl⟩, ?_⟩
                have hw10 : upd H9 sd (.dT (putK kvs (rowK zs) (.int r))) vw = some (.tup ((rowK zs).map kV)) := by rw [upd_ne (ne_of hw9 hs9 (fun z => nomatch z))]; exact hw9
                have hf10 : upd H9 sd (.dT (putK kvs (rowK zs) (.int r))) fo = some (.lst (iV qs)) := by rw [upd_ne (fun e => hsf e.symm)]; exact hf9
                refine ⟨_, rfl, .inl ⟨rfl, _, SqL.of hf10⟩, _, rfl, _, rfl, sd, .int r, rfl, .inr ⟨_, _, vw, .inl upd_same, rfl, hw10, by rw [valV_put, if_pos rfl]⟩, fo, _, _, rfl, rfl, hf10, hlen8, ?_⟩
                refine ⟨putK kvs (rowK zs) (.int r), qs ++ [r], _, _, _, rfl, by rw [upd_ne hsf, upd_same], fun ks2 v hv => ?_, ?_, by rw [upd_same, iV_snoc], by simp [hql], ?_, ?_, ?_⟩
                · rw [valV_put] at hv
                  split at hv
                  · exact ⟨r, (Option.some.inj hv).symm⟩
                  · exact hai ks2 v hv
                · rw [putK_new e, List.length_append]
                  simp
                  omega
                · rw [upd_ne hDf, upd_ne hDs]
                  exact f9.keep _ _ nD hD8
                · exact (hd9.upd nsd).upd nfo
                · exact (((f6.trans f8.dl).trans f9).own hsd0).own hfo0
              | some v =>
                obtain ⟨r, rfl⟩ := hai _ _ e
                refine iteF ?_
                refine ⟨_, rfl, .inl ⟨rfl, _, SqL.of hf8⟩, _, rfl, _, rfl, sd, .int r, rfl, .inr ⟨_, _, vw, .inl hs8, rfl, hw, e.symm⟩, fo, _, _, rfl, rfl, hf8, hlen8, ?_⟩
                exact ⟨kvs, qs ++ [r], _, _, _, rfl, by rw [upd_ne hsf]; exact hs8, hai, by omega, by rw [upd_same, iV_snoc], by simp [hql], by rw [upd_ne hDf]; exact hD8, hd8.upd nfo, (f6.trans f8.dl).own hfo0⟩
          · rintro σ H6 ⟨kvs, qs, x4, x6, x9, rfl, hs6, hai, hkl, hf6, hql, hD6, hd6, f6⟩
            exact ⟨_, rfl, q fo qs H6 hfo0 hf6 (by rw [hql, rV_len]) hd6 f6⟩
end
end K13
/-! K13L14 -/
set_option autoImplicit true
set_option Elab.async false
set_option linter.all false
set_option maxRecDepth 100000
set_option maxHeartbeats 2000000
set_option pp.maxSteps 600
namespace K13
open PySem PySem.Spec PyProof.Rows L2
theorem mt_indexR {X : Cx} {n : Nat} (hr : Room n X.A) : MtR X "list.index" (rIndexD X.K) := mt_indexD (by have := hr.un; omega)
def GoodQ (st : List Row) (lot : List Int) (g : Row → Int) : Prop := ∀ s ∈ st, ∀ t ∈ st, home (cn st lot) st s = home (cn st lot) st t → g s = g t
def TurnQ (st : List Row) (lot : List Int) (g : Row → Int) : Prop := ∃ s ∈ st, ∃ t ∈ st, ∃ k ∈ lot, apart s t = [k] ∧ g s ≠ g t
def OkQ (st : List Row) (lot : List Int) (g : Row → Int) (s : Row) : Prop := ∀ t ∈ st, ∀ k ∈ lot, apart s t = [k] → g s = g t
theorem good_no_turn {st : List Row} {lot : List Int} {g : Row → Int} (hl : ∀ s ∈ st, ∀ t ∈ st, s.length = t.length) (h : GoodQ st lot g) : ¬ TurnQ st lot g := by
  rintro ⟨s, hs, t, ht, k, hk, e, ne⟩
  exact ne (h s hs t ht ((home_iff (cn_eqv hl) hs ht).mpr (cn_iff.mpr (.step (.refl _) ⟨hs, ht, k, hk, e⟩))))
theorem ok_good {st : List Row} {lot : List Int} {g : Row → Int} (hl : ∀ s ∈ st, ∀ t ∈ st, s.length = t.length) (h : ∀ s ∈ st, OkQ st lot g s) : GoodQ st lot g := by
  intro s hs t ht e
  have c := cn_iff.mp ((home_iff (cn_eqv hl) hs ht).mp e)
  clear ht e
  induction c with
  | refl => rfl
  | step c ed ih =>
    obtain ⟨a, b, k, hk, e⟩ := ed
    exact ih.trans (h _ a _ b k hk e)
theorem fun_of {st : List Row} (hn : st.Nodup) {qs : List Int} (h : qs.length = st.length) : ∃ g : Row → Int, qs = st.map g := by
  refine ⟨fun r => qs.getD (st.idxOf r) 0, ?_⟩
  refine List.ext_getElem (by simp [h]) fun i h1 h2 => ?_
  rw [List.getElem_map]
  have hi : i < st.length := by omega
  rw [hn.idxOf_getElem i hi, List.getD_eq_getElem?_getD, List.getElem?_eq_getElem h1]
  rfl
section
variable {P : Program} {w : World} {K : PySem.W.Frag} {mg : Str → Option Value} {base : Heap} {f : Addr} {fd : FuncData}
def spQR : Sp := fun vs H Q _ => ∃ a b qa h c ps av lot g, vs = [.ref a, .ref b, .ref qa, .ref h, .ref c] ∧ H a = some (.lst (rV ps)) ∧ RwL H ps ∧ (rR ps).Nodup ∧ (∀ s ∈ rR ps, ∀ t ∈ rR ps, s.length = t.length) ∧ ps.length ≤ 24 ∧ NearAt H (rR ps) av b ∧ H qa = some (.lst (iV ((rR ps).map g))) ∧
  HomesAt H (rR ps) lot h ∧ H c = some (.tup (iV lot)) ∧ ∀ H', Fr [] H H' → Q (.bl true) H'
def SeenQ (st : List Row) (lot : List Int) (g : Row → Int) (l : List Row) (kvs : List (Key × V)) : Prop :=
  (∀ s ∈ l, valV kvs (.inl (home (cn st lot) st s : Nat)) = some (.int (g s))) ∧ (∀ k v, valV kvs k = some v → ∃ r ∈ l, k = .inl (home (cn st lot) st r : Nat) ∧ v = .int (g r))
theorem cal_l_question_right (B : Bt mg) (F : FnP K "_law_question_right" s_l_question_right f fd) (hm : mg "_law_question_right" = some (.ref f)) : Cal P w K mg base 1 "_law_question_right" spQR := by
  refine cal0 F hm sc_l_question_right (fun _ _ _ _ _ _ us hl => match us, hl with | [_, _, _, _, _], _ => rfl) (fun vs H Q E h => ?_) (fun cdv A outer s H vs Q E hr h => ?_)
  · obtain ⟨a, b, qa, h, c, ps, av, lot, g, rfl, _⟩ := h
    rfl
  · obtain ⟨a, b, qa, hh, c, ps, av, lot, g, rfl, ha, hps, hnd, hln, h24, hb, hqa, hhm, hc, q⟩ := h
    have nd := sc_l_question_right.nd
    have hu := hu_of hr
    have nn : ∀ {x : Addr}, x ∉ ([] : List Addr) := fun z => nomatch z
    refine ⟨_, pss_cons (ps_par3 (i := 5) (j := 6) (l := 7) rfl nd rfl rfl rfl (by decide) (by decide) (by decide) rfl rfl rfl (pa_cons pe_bl (pa_cons pe_dnewK (pa_cons pe_bl pa_nil))) rfl)
      (pss_cons (ps_for PassesOwn.never rfl (pi_zipB B (pv 0) (pv 2)) (pg_tup rfl (pgs_cons (pg_name (i := 8) nd rfl (Or.inl rfl)) (pgs_cons (pg_name (i := 9) nd rfl (Or.inl rfl)) pgs_nil)))
        (C8.pss_cut (ps_set (i := 7) nd rfl (Or.inl rfl) (pe_and (pv 7) (pe_one (pe_cmpR op_eq (pe_dsetd (pv 6) (pe_dget hu (pv 3) (pv 8) (fun _ _ => rfl)) (pv 9) ⟨rfl, rfl, rfl, rfl⟩) (pv 9) (nomark _)))))
        (pss_one (ps_for PassesOwn.never rfl (pi_list (pe_dget hu (pv 1) (pv 8) (fun _ _ => rfl))) (pg_tup rfl (pgs_cons (pg_name (i := 10) nd rfl (Or.inl rfl)) (pgs_cons (pg_name (i := 11) nd rfl (Or.inl rfl)) pgs_nil)))
          (pss_one (ps_set (i := 5) nd rfl (Or.inl rfl) (pe_or (pv 5) (pe_one (pe_and (pe_cmpR op_in_seq (pv 10) (pv 4) rfl) (pe_one (pe_cmpR op_ne (pv 9)
            (pe_ix ix_list (pv 2) (pe_bm PySem.F.plainAttrs_list PySem.F.slot_list_index PySem.F.type_list_index (mt_indexR hr) (pv 0) (pa_cons (pv 11) pa_nil)) (fun _ _ => rfl)) (nomark _))))))))))))
      (pss_one (ps_ret (pe_cmpR op_ne (pv 7) (pv 5) (nomark _))))), ?_⟩
    obtain ⟨hkv, hhd, hval⟩ := homes_val hhm
    obtain ⟨bs, hbd, ebs, hnb⟩ := hb.ex
    intro sd hsd
    refine ⟨_, _, _, rfl, ?_⟩
    have f0 : Fr [] H (upd H sd (.dK [])) := .new hsd
    have el : (rV ps).length = (iV ((rR ps).map g)).length := by rw [rV_len, iV_len, List.length_map, rR_len]
    refine ⟨_, rfl, _, rfl, true, true, a, qa, _, _, rfl, SqB.l (f0.keep _ _ nn ha), SqB.l (f0.keep _ _ nn hqa), for_it (walk_zipB el) (fun i σ H' => ∃ tu on kvs x8 x9 x10 x11, σ = [some (.ref a), some (.ref b), some (.ref qa), some (.ref hh), some (.ref c), some (.bl tu), some (.ref sd), some (.bl on), x8, x9, x10, x11] ∧
        H' sd = some (.dK kvs) ∧ kvs.length ≤ i ∧ (on = true → SeenQ (rR ps) lot g ((rR ps).take i) kvs) ∧ (on = false → ¬ GoodQ (rR ps) lot g) ∧ (tu = true → TurnQ (rR ps) lot g) ∧ (tu = false → ∀ s ∈ (rR ps).take i, OkQ (rR ps) lot g s) ∧ Fr [] H H')
      ⟨false, true, [], _, _, _, _, rfl, upd_same, Nat.le_refl _, fun _ => ⟨fun _ z => (nomatch z), fun _ _ z => (nomatch z)⟩, fun z => (nomatch z), fun z => (nomatch z), fun _ _ z => (nomatch z), f0⟩ ?_ ?_ ?_⟩
    · rintro i σ H' _ ⟨tu, on, kvs, x8, x9, x10, x11, rfl, _, _, _, _, _, _, fr⟩
      exact ⟨SqB.l (fr.keep _ _ nn ha), SqB.l (fr.keep _ _ nn hqa)⟩
    · rintro i x σ H1 H9 hi ⟨tu, on, kvs, x8, x9, x10, x11, rfl, hD, hkl, hon, hoff, htu, hok, fr⟩ ⟨T, u, v, rfl, hT, rfl, hu', hv⟩
      obtain ⟨p, hp, rfl⟩ := rV_get hu'
      obtain ⟨m, hm', rfl⟩ := iV_get hv
      have hpm := List.mem_of_getElem? hp
      have hrow : (rR ps)[i]? = some p.2 := by rw [rR, List.getElem?_map, hp]; rfl
      obtain rfl : g p.2 = m := by rw [List.getElem?_map, hrow] at hm'; exact Option.some.inj hm'
      have hmem : p.2 ∈ rR ps := List.mem_of_getElem? hrow
      have hil : i < ps.length := (List.getElem?_eq_some_iff.mp hp).1
      have fr1 : Fr [] H (upd H1 T (.tup [.ref p.1, .int (g p.2)])) := fr.trans (.new hT)
      refine ⟨T, _, rfl, SqT.of upd_same, rfl, _, _, rfl, _, _, rfl, rfl, ?_⟩
      have hD1 : upd H1 T (.tup [.ref p.1, .int (g p.2)]) sd = some (.dK kvs) := by rw [upd_ne (ne_of_none hD hT)]; exact hD
      generalize upd H1 T (.tup [.ref p.1, .int (g p.2)]) = H2 at fr1 hD1
      have et : (rR ps).take (i + 1) = (rR ps).take i ++ [p.2] := take_snoc hrow
      have hk2 : H2 p.1 = some (.tup ((rowK p.2).map kV)) := by rw [rowK_kV]; exact fr1.tup _ _ (hps p hpm)
      obtain ⟨ln, hln1, hln2⟩ := near_val (bs := bs) (r := p.2) (by rw [ebs]; exact hmem)
      obtain ⟨es, es1, es2, es3, es4⟩ := (hnb _ hln2).2.ex
      refine ⟨fun σ H' => ∃ on kvs, σ = [some (.ref a), some (.ref b), some (.ref qa), some (.ref hh), some (.ref c), some (.bl tu), some (.ref sd), some (.bl on), some (.ref p.1), some (.int (g p.2)), x10, x11] ∧
        H' sd = some (.dK kvs) ∧ kvs.length ≤ i + 1 ∧ (on = true → SeenQ (rR ps) lot g ((rR ps).take (i + 1)) kvs) ∧ (on = false → ¬ GoodQ (rR ps) lot g) ∧ Fr [] H H', ?_, ?_⟩
      · refine ⟨_, rfl, on, rfl, ?_⟩
        cases on with
        | false => exact iteF ⟨false, kvs, rfl, hD1, by omega, (fun z => nomatch z), fun _ => hoff rfl, fr1⟩
        | true =>
          obtain ⟨h1, h2⟩ := hon rfl
          refine iteT ⟨_, rfl, sd, rfl, .inl ⟨_, .inl hD1⟩, _, rfl, _, rfl, hh, .int (home (cn (rR ps) lot) (rR ps) p.2 : Nat), rfl, .inr ⟨hkv, _, p.1, .inl (fr1.keep _ _ nn hhd), rfl, hk2, (hval _ hmem).symm⟩, ?_⟩
          refine ⟨_, rfl, kvs, .inl (home (cn (rR ps) lot) (rR ps) p.2 : Nat), hD1, rfl, by rw [sizeLine_eq]; omega, fun v hv => ?_, fun hn => ?_⟩
          · obtain ⟨r, hr1, hr2, rfl⟩ := h2 _ _ hv
            have hh2 : home (cn (rR ps) lot) (rR ps) p.2 = home (cn (rR ps) lot) (rR ps) r := by
              have := Sum.inl.inj hr2
              omega
            refine ⟨_, rfl, rfl, decide (V.int (g r) = V.int (g p.2)), kvs, rfl, hD1, by omega, fun hd => ?_, fun hd => ?_, fr1⟩
            · have hd := V.int.inj (of_decide_eq_true hd)
              rw [et]
              refine ⟨fun s hs => ?_, fun k v hkv2 => ?_⟩
              · rcases List.mem_append.mp hs with hs | hs
                · exact h1 s hs
                · obtain rfl : s = p.2 := by simpa using hs
                  rw [hv, hd]
              · obtain ⟨r2, a1, a2, a3⟩ := h2 k v hkv2
                exact ⟨r2, List.mem_append.mpr (.inl a1), a2, a3⟩
            · have hd := of_decide_eq_false hd
              exact fun gd => hd (congrArg V.int (gd r (List.mem_of_mem_take hr1) p.2 hmem hh2.symm))
          · refine ⟨_, rfl, rfl, decide (V.int (g p.2) = V.int (g p.2)), _, rfl, upd_same, by rw [putK_new hn, List.length_append]; simp; omega, fun _ => ?_, fun hd => absurd rfl (of_decide_eq_false hd), fr1.own hsd⟩
            rw [et]
            refine ⟨fun s hs => ?_, fun k v hkv2 => ?_⟩
            · rw [valV_put]
              rcases List.mem_append.mp hs with hs | hs
              · split
                · rename_i e
                  rw [← e, h1 s hs] at hn
                  cases hn
                · exact h1 s hs
              · obtain rfl : s = p.2 := by simpa using hs
                rw [if_pos rfl]
            · rw [valV_put] at hkv2
              split at hkv2
              · rename_i e
                exact ⟨p.2, by simp, e, (Option.some.inj hkv2).symm⟩
              · obtain ⟨r2, a1, a2, a3⟩ := h2 k v hkv2
                exact ⟨r2, List.mem_append.mpr (.inl a1), a2, a3⟩
      · rintro σ H3 ⟨on, kvs, rfl, hD3, hkl3, hon3, hoff3, fr3⟩
        have hk3 : H3 p.1 = some (.tup ((rowK p.2).map kV)) := by rw [rowK_kV]; exact fr3.tup _ _ (hps p hpm)
        refine ⟨_, rfl, _, rfl, b, .ref ln, rfl, .inr ⟨_, _, p.1, .inl (fr3.keep _ _ nn hbd), rfl, hk3, hln1.symm⟩, ln, rfl, ⟨_, SqL.of (fr3.keep _ _ nn es1)⟩, for_list (xs := es.map fun e => V.ref e.1) (fun j σ H' => ∃ tu x10 x11, σ = [some (.ref a), some (.ref b), some (.ref qa), some (.ref hh), some (.ref c), some (.bl tu), some (.ref sd), some (.bl on), some (.ref p.1), some (.int (g p.2)), x10, x11] ∧
          (tu = true → TurnQ (rR ps) lot g) ∧ (tu = false → (∀ s ∈ (rR ps).take i, OkQ (rR ps) lot g s) ∧ ∀ e ∈ es.take j, e.2.1 ∈ lot → g p.2 = g e.2.2.2) ∧ H' sd = some (.dK kvs) ∧ Fr [] H H')
          ⟨tu, _, _, rfl, htu, fun z => ⟨hok z, fun _ z => (nomatch z)⟩, hD3, fr3⟩ ?_ ?_ ?_⟩
        · rintro j σ H' _ ⟨tu, x10, x11, rfl, _, _, _, f⟩
          exact SqL.of (f.keep _ _ nn es1)
        · rintro j x σ H4 hx ⟨tu, x10, x11, rfl, htu4, hok4, hD4, fr4⟩
          rw [List.getElem?_map, Option.map_eq_some_iff] at hx
          obtain ⟨e, he, rfl⟩ := hx
          have hem := List.mem_of_getElem? he
          have ete : es.take (j + 1) = es.take j ++ [e] := take_snoc he
          have hT4 := fr4.tup _ _ (es2 e hem).1
          have hO4 := fr4.tup _ _ (es2 e hem).2
          obtain ⟨hes, hap⟩ := (es4 e.2.1 e.2.2.2).mp ⟨e, hem, rfl, rfl⟩
          refine ⟨e.1, _, rfl, SqT.of hT4, rfl, _, _, rfl, _, _, rfl, rfl, ?_⟩
          refine ⟨_, rfl, tu, rfl, ?_⟩
          cases tu with
          | true => exact iteT ⟨true, _, _, rfl, htu4, (fun z => nomatch z), hD4, fr4⟩
          | false =>
            refine iteF ⟨_, rfl, _, rfl, c, _, rfl, .inr (SqT.of (fr4.tup _ _ hc)), rfl, flat_ints lot, _, rfl, ?_⟩
            obtain ⟨hok1, hok2⟩ := hok4 rfl
            rw [inV_int]
            by_cases hin : lot.contains e.2.1 = true
            · rw [hin]
              have hin2 : e.2.1 ∈ lot := by simpa using hin
              obtain ⟨jx, hjx⟩ := List.getElem?_of_mem hes
              have hqj : (iV ((rR ps).map g))[jx]? = some (.int (g e.2.2.2)) := by rw [iV, List.getElem?_map, List.getElem?_map, hjx]; rfl
              have hRl : RwL H4 ps := hps.fr fr4
              refine iteT ⟨_, rfl, _, rfl, _, rfl, .inl ⟨rfl, _, SqL.of (fr4.keep _ _ nn ha)⟩, _, rfl, a, _, dI e.2.2.2, (rR ps).map dI, jx, dI e.2.2.2, rfl, rfl, dp_lst (fr4.keep _ _ nn ha) hRl, dp_row hO4, shaped_rows _, shaped_row _, by rw [List.getElem?_map, hjx]; rfl, by rw [eqv_row]; exact decide_eq_true rfl, fun m z' hm hz => ?_, ?_⟩
              · rw [List.getElem?_map, Option.map_eq_some_iff] at hz
                obtain ⟨r, hr2, rfl⟩ := hz
                rw [eqv_row]
                exact decide_eq_false (pw_get (R := fun a b => a ≠ b) hnd hm hr2 hjx)
              · refine ⟨qa, _, _, _, rfl, rfl, SqL.of (fr4.keep _ _ nn hqa), atI_nat hqj, rfl, ?_⟩
                refine ⟨!decide (V.int (g p.2) = V.int (g e.2.2.2)), _, _, rfl, fun hd => ?_, fun hd => ?_, hD4, fr4⟩
                · have hd : ¬ V.int (g p.2) = V.int (g e.2.2.2) := of_decide_eq_false (by simpa using hd)
                  exact ⟨p.2, hmem, e.2.2.2, hes, e.2.1, hin2, hap, fun z => hd (congrArg V.int z)⟩
                · have hd : V.int (g p.2) = V.int (g e.2.2.2) := of_decide_eq_true (by simpa using hd)
                  refine ⟨hok1, fun e2 h2 h3 => ?_⟩
                  rw [ete] at h2
                  rcases List.mem_append.mp h2 with h2 | h2
                  · exact hok2 e2 h2 h3
                  · obtain rfl : e2 = e := by simpa using h2
                    exact V.int.inj hd
            · have hin : lot.contains e.2.1 = false := by simpa using hin
              rw [hin]
              refine iteF ⟨false, _, _, rfl, fun z => (nomatch z), fun _ => ⟨hok1, fun e2 h2 h3 => ?_⟩, hD4, fr4⟩
              rw [ete] at h2
              rcases List.mem_append.mp h2 with h2 | h2
              · exact hok2 e2 h2 h3
              · obtain rfl : e2 = e := by simpa using h2
                rw [List.contains_iff_mem.mpr h3] at hin
                cases hin
        · rintro σ H4 ⟨tu, x10, x11, rfl, htu4, hok4, hD4, fr4⟩
          rw [List.length_map, List.take_length] at hok4
          refine ⟨tu, on, kvs, _, _, _, _, rfl, hD4, hkl3, hon3, hoff3, htu4, fun z => ?_, fr4⟩
          obtain ⟨h1, h2⟩ := hok4 z
          rw [et]
          intro s hs
          rcases List.mem_append.mp hs with hs | hs
          · exact h1 s hs
          · obtain rfl : s = p.2 := by simpa using hs
            intro t ht k hk hap
            obtain ⟨e, he, e1, e2⟩ := (es4 k t).mpr ⟨ht, hap⟩
            rw [← e2]
            exact h2 e he (by rw [e1]; exact hk)
    · rintro σ H1 ⟨tu, on, kvs, x8, x9, x10, x11, rfl, hD, hkl, hon, hoff, htu, hok, fr⟩
      rw [rV_len, ← rR_len, List.take_length] at hon hok
      refine ⟨_, rfl, _, rfl, rfl, ?_⟩
      have key : (!decide (V.bl on = V.bl tu)) = true := by
        cases on <;> cases tu
        · exact absurd (ok_good hln (hok rfl)) (hoff rfl)
        · rfl
        · rfl
        · refine absurd (htu rfl) (good_no_turn hln fun s hs t ht e => ?_)
          have h1 := (hon rfl).1 s hs
          have h2 := (hon rfl).1 t ht
          rw [e, h2] at h1
          exact (V.int.inj (Option.some.inj h1)).symm
      rw [key]
      exact q H1 fr
end
end K13
/-! K13S1 -/
set_option autoImplicit true
set_option Elab.async false
set_option linter.all false
set_option maxRecDepth 100000
set_option maxHeartbeats 4000000
set_option pp.maxSteps 600
namespace K13
open PySem PySem.Spec PyProof.Rows L2
section
variable {X : Cx} {e : Expr} {te : TE} {p pos : Pos}
theorem b_setT {n : Nat} (B : Bt X.mg) (hc : X.calm = true) (hr : Room n X.A) (ha : PE X e te) (hg : Gl X "set" := by rfl) (hs : starEach [e] X.env = (false, eval e X.env) :: starEach [] X.env := by rfl) : PE X (.Call (.Name "set" p) [e] [] pos) (tCB (rSetOfT X.K X.prog X.w) (tCons te tNil)) :=
  pe_callTy (cr_setOfT hc (by have := hr.un; omega)) hg B.set (by decide +kernel) (pa_cons ha pa_nil hs) (he := hs)
theorem b_sortT (B : Bt X.mg) (hc : X.calm = true) (ha : PE X e te) (hg : Gl X "sorted" := by rfl) (hs : starEach [e] X.env = (false, eval e X.env) :: starEach [] X.env := by rfl) : PE X (.Call (.Name "sorted" p) [e] [] pos) (tCB (rSortedT X.K X.prog X.w) (tCons te tNil)) :=
  pe_callB (cr_sortedT hc) hg B.sorted (by decide +kernel) (pa_cons ha pa_nil hs) (he := hs)
end
section
variable {P : Program} {w : World} {K : PySem.W.Frag} {mg : Str → Option Value} {base : Heap} {f : Addr} {fd : FuncData}
def spStoreI (w : World) (C P0 : Addr) : Sp := fun vs H Q _ => ∃ a dx z p sizes st es av, vs = [.ref a, .ref z, .ref p] ∧ H a = some (.ins C dx []) ∧ H z = some (.lst (iV sizes)) ∧ H p = some (.lst (gvV es)) ∧ (∀ e ∈ es, SqB e.k H e.a (iV e.r)) ∧ (∀ e ∈ es, e.r ∈ st) ∧ (∀ r ∈ st, ∃ e ∈ es, e.r = r) ∧
  es.length ≤ 25 ∧ Shape sizes st ∧ LamX.TabS H P0 lamQ ∧ (∀ x ∈ av, ∃ xs, H x = some (.lst xs)) ∧ ∀ H' S ps, S.a = a → S.C = C → S.P = P0 → rR ps = st → StAt w H' S sizes ps av [] → Fr [a] H H' → Q .non H'
theorem cal_StoreI {C P0 : Addr} (B : Bt mg) (sc : SC K C) (cQ : Cal P w K mg base 1 "is_sequence" spSeq) (cN : Cal P w K mg base 2 "is_number" spNum) (cS : Cal P w K mg base 4 "is_state_of" spStateOf) (F : FunD K "__init__" "Store.__init__" (defArgs s_StoreI) (defBody s_StoreI) (defScope s_StoreI) [] [] f fd) :
    FnOk P w K mg base (L2.CX P w) 5 f fd ["self", "sizes", "states"] (spStoreI w C P0) := by
  refine F.ok sc_StoreI (fun vs H Q E h => ?_) (fun cdv A outer s H vs Q E hr h => ?_)
  · obtain ⟨a, dx, z, p, sizes, st, es, av, rfl, _⟩ := h
    rfl
  · obtain ⟨a, dx, z, p, sizes, st, es, av, rfl, ha, hz, hp, hes, hin, hall, h25, sh, htab, hava, qk⟩ := h
    have nd := sc_StoreI.nd
    have hu := hu_of hr
    have nn : ∀ {x : Addr}, x ∉ ([] : List Addr) := fun z => nomatch z
    refine ⟨_, PSs.nox (pss_cons (ps_if (PW.pt (pw_or (pt_not (pt_val (pc cQ hr (pa_cons (pv 1) pa_nil)))) (pw_or (pt_cmpR op_eq (b_len B (pv 1)) pe_int (nomark _)) (pw_or1 (pt_not (pt_val (b_all B rfl (pe_lc (own := [("size", 3)]) (g := gName 3) rfl nd (pi_list (pv 1)) (blkOk_by (N := N_StoreI) (sc := defScope s_StoreI) (by decide +kernel))
          (fun _ _ _ _ _ => pg_name (i := 3) nd rfl (Or.inl rfl)) (fun _ _ _ _ _ => pts_nil) (fun _ _ _ _ _ => pe_and (pc cN hr (pa_cons (pv 3) pa_nil)) (pe_one (pe_cmpR op_gt (pv 3) pe_int (nomark _)))))))))))) pss_never pss_nil)
      (pss_cons (ps_if (PW.pt (pw_or (pt_not (pt_val (pc cQ hr (pa_cons (pv 2) pa_nil)))) (pw_or1 (pt_cmpR op_eq (b_len B (pv 2)) pe_int (nomark _))))) pss_never pss_nil)
      (pss_cons (ps_for PassesOwn.never rfl (pi_enumB B (pv 2)) (pg_tup rfl (pgs_cons (pg_name (i := 4) nd rfl (Or.inl rfl)) (pgs_cons (pg_name (i := 5) nd rfl (Or.inl rfl)) pgs_nil)))
        (pss_one (ps_if (pt_not (pt_val (pc cS hr (pa_cons (pv 1) (pa_cons (pv 5) pa_nil))))) pss_never pss_nil)))
      (pss_cons (ps_fld (pv 0) (b_len B (pv 1)) rfl)
      (pss_cons (ps_fld (pv 0) (b_tupOf B (pv 1)) rfl)
      (pss_cons (ps_fld (pv 0) (b_tupOf B (b_sortT B rfl (b_setT B rfl hr (pe_lc (own := [("state", 5)]) (g := gName 5) rfl nd (pi_list (pv 2)) (blkOk_by (N := N_StoreI) (sc := defScope s_StoreI) (by decide +kernel))
          (fun _ _ _ _ _ => pg_name (i := 5) nd rfl (Or.inl rfl)) (fun _ _ _ _ _ => pts_nil) (fun _ _ _ _ _ => k_tupOf K B (pv 5)))))) rfl)
      (pss_cons (ps_fld (pv 0) (pe_dcT (own := [("at", 4), ("state", 5)]) (g := g2 K 4 5) hr rfl nd (pi_enumB B (pe_fld (pv 0) rfl)) (blkOk_by (N := N_StoreI) (sc := defScope s_StoreI) (by decide +kernel))
          (fun _ _ _ _ _ => pg_tup rfl (pgs_cons (pg_name (i := 4) nd rfl (Or.inl rfl)) (pgs_cons (pg_name (i := 5) nd rfl (Or.inl rfl)) pgs_nil))) (fun _ _ _ _ _ => pts_nil) (fun _ _ _ _ _ => pv 5) (fun _ _ _ _ _ => pv 4)) rfl)
      (pss_one (ps_fld (pv 0) pe_fdnew rfl))))))))), ?_⟩
    have h4 := sh.few
    have hpos := sh.pos
    have nz : z ≠ a := fun e => by rw [e, ha] at hz; cases hz
    have npp : p ≠ a := fun e => by rw [e, ha] at hp; cases hp
    have esne : es ≠ [] := fun e => by
      obtain ⟨r, hr⟩ := List.exists_mem_of_ne_nil _ sh.ne
      obtain ⟨e2, he2, _⟩ := hall r hr
      rw [e] at he2
      cases he2
    have eslen : 1 ≤ es.length := by cases es with | nil => exact absurd rfl esne | cons => simp
    refine ⟨_, rfl, _, true, rfl, .inr ⟨rfl, _, .lst hz⟩, fun H1 e1 => ⟨true, rfl, iteF ?_⟩⟩
    have f1 : Fr [] H H1 := .of_same e1
    refine ⟨_, rfl, z, _, rfl, .inl (SqL.of (e1 _ _ hz)), rfl, _, rfl, ?_⟩
    rw [decide_eq_false (fun e => by have := V.int.inj e; rw [iV_len] at this; omega)]
    refine iteF ⟨_, rfl, z, rfl, ⟨_, SqL.of (e1 _ _ hz)⟩, fun D hD => lcG (walk_list (xs := iV sizes)) [] (fun i acc _ => acc = List.replicate i (.bl true)) hD (by rw [iV_len, sizeLine_eq]; omega) rfl (fun _ _ _ _ _ _ t => t) (fun i acc H2 _ fr _ => SqL.of ((f1.trans fr).keep _ _ nn hz)) ?_ ?_⟩
    · rintro i x _ H2 acc hi hD2 fr rfl ⟨rfl, hx⟩ yes no
      obtain ⟨m, hm, rfl⟩ := iV_get hx
      have hb := sh.small m (List.mem_of_getElem? hm)
      refine ⟨rfl, ?_⟩
      refine ⟨_, rfl, .int m, "int", rfl, .int m, _, rfl, ?_⟩
      rw [show numB (.int m) = true from decide_eq_true (by omega)]
      refine iteT ⟨_, rfl, _, _, rfl, rfl, ?_⟩
      exact yes (V.bl (decide ((0 : Int) < m))) _ hD2 fr (by rw [decide_eq_true (by omega : (0 : Int) < m), List.replicate_succ'])
    · rintro acc H2 hD2 hl2 f2 rfl
      refine ⟨D, List.replicate (iV sizes).length true, rfl, SqL.of (by rw [List.map_replicate]; exact hD2), ?_⟩
      rw [show (List.replicate (iV sizes).length true).all id = true by simp]
      refine ⟨true, rfl, iteF ?_⟩
      have f02 := f1.trans f2
      refine ⟨_, rfl, _, true, rfl, .inr ⟨rfl, _, .lst (f02.keep _ _ nn hp)⟩, fun H3 e3 => ⟨true, rfl, iteF ?_⟩⟩
      have f03 : Fr [] H H3 := f02.trans (.of_same e3)
      refine ⟨_, rfl, p, _, rfl, .inl (SqL.of (f03.keep _ _ nn hp)), rfl, _, rfl, ?_⟩
      rw [decide_eq_false (fun e => by have := V.int.inj e; rw [gvV_len] at this; omega)]
      refine iteF ?_
      have gvg : ∀ {i : Nat} {x : V}, (gvV es)[i]? = some x → ∃ e, es[i]? = some e ∧ x = .ref e.a := fun {i x} h => by
        rw [gvV, List.getElem?_map, Option.map_eq_some_iff] at h
        obtain ⟨e, he, rfl⟩ := h
        exact ⟨e, he, rfl⟩
      refine ⟨_, rfl, true, p, _, rfl, SqB.l (f03.keep _ _ nn hp), for_it walk_enumB (fun i σ H' => ∃ x3 x4 x5, σ = [some (.ref a), some (.ref z), some (.ref p), x3, x4, x5] ∧ Fr [] H H') ⟨_, _, _, rfl, f03⟩ ?_ ?_ ?_⟩
      · rintro i σ H' _ ⟨x3, x4, x5, rfl, fr⟩
        exact SqB.l (fr.keep _ _ nn hp)
      · rintro i x σ H4 H5 hi ⟨x3, x4, x5, rfl, fr⟩ ⟨T, u, v, rfl, hT, rfl, hu', hv⟩
        obtain ⟨e, he, rfl⟩ := gvg hv
        have hem := List.mem_of_getElem? he
        refine ⟨T, _, rfl, SqT.of upd_same, rfl, _, _, rfl, _, _, rfl, rfl, ?_⟩
        have fr5 := fr.trans (.new (o := .tup [u, .ref e.a]) hT)
        refine ⟨_, rfl, _, rfl, true, e.k, z, e.a, sizes, e.r, rfl, SqB.l (fr5.keep _ _ nn hz), (hes e hem).fr fr5 nn, sh.box _ (hin e hem), by omega, fun H6 f6 => ⟨true, rfl, iteF ⟨_, _, _, rfl, fr5.trans f6⟩⟩⟩
      · rintro σ H4 ⟨x3, x4, x5, rfl, f4⟩
        -- key_count
        refine ⟨_, rfl, z, _, rfl, .inl (SqL.of (f4.keep _ _ nn hz)), _, rfl, a, C, dx, _, rfl, f4.keep _ _ nn ha, sc.cl, sc.nKey, by decide, ?_⟩
        have f5 : Fr [a] H (upd H4 a (.ins C dx (putF "key_count" (.int ((iV sizes).length : Nat)) []))) := (f4.wider fun _ z => nomatch z).trans (.set (u := .ins C dx []) (by simp) (f4.keep _ _ nn ha) (fun _ z => nomatch z))
        have a5 : upd H4 a (.ins C dx (putF "key_count" (.int ((iV sizes).length : Nat)) [])) a = some (.ins C dx (putF "key_count" (.int ((iV sizes).length : Nat)) [])) := upd_same
        generalize upd H4 a (.ins C dx (putF "key_count" (.int ((iV sizes).length : Nat)) [])) = H5 at f5 a5
        have z5 := f5.keep _ _ (by simpa using nz) hz
        have p5 := f5.keep _ _ (by simpa using npp) hp
        -- sizes
        refine ⟨_, rfl, .inl ⟨z, _, rfl, SqL.of z5, fun tz htz => ⟨_, rfl, a, C, dx, _, rfl, by rw [upd_ne (ne_of_none a5 htz)]; exact a5, sc.cl, sc.nSiz, by show 1 < 1000; decide, ?_⟩⟩⟩
        have ntz : tz ≠ a := fun e => by rw [e, a5] at htz; cases htz
        have f6 : Fr [a] H (upd (upd H5 tz (.tup (iV sizes))) a (.ins C dx (putF "sizes" (.ref tz) (putF "key_count" (.int ((iV sizes).length : Nat)) [])))) := (f5.trans (.new htz)).trans (.set (u := .ins C dx (putF "key_count" (.int ((iV sizes).length : Nat)) [])) (by simp) (by rw [upd_ne (ne_of_none a5 htz)]; exact a5) (fun _ z => nomatch z))
        have a6 : upd (upd H5 tz (.tup (iV sizes))) a (.ins C dx (putF "sizes" (.ref tz) (putF "key_count" (.int ((iV sizes).length : Nat)) []))) a = some (.ins C dx (putF "sizes" (.ref tz) (putF "key_count" (.int ((iV sizes).length : Nat)) []))) := upd_same
        have tz6 : upd (upd H5 tz (.tup (iV sizes))) a (.ins C dx (putF "sizes" (.ref tz) (putF "key_count" (.int ((iV sizes).length : Nat)) []))) tz = some (.tup (iV sizes)) := by rw [upd_ne ntz, upd_same]
        generalize upd (upd H5 tz (.tup (iV sizes))) a (.ins C dx (putF "sizes" (.ref tz) (putF "key_count" (.int ((iV sizes).length : Nat)) []))) = H6 at f6 a6 tz6
        have p6 := f6.keep _ _ (by simpa using npp) hp
        have nea : ∀ e ∈ es, e.a ∉ [a] := fun e he z => by
          have := (hes e he)
          rw [List.mem_singleton.mp z] at this
          unfold SqB at this
          rw [ha] at this
          split at this <;> cases this
        -- states
        refine ⟨_, rfl, p, rfl, ⟨_, SqL.of p6⟩, fun D2 hD2 => lcG (walk_list (xs := gvV es)) [] (fun i acc H => ∃ ks, acc = rV ks ∧ RwL H ks ∧ rR ks = (es.take i).map (·.r)) hD2 (by rw [gvV_len, sizeLine_eq]; omega) ⟨[], rfl, .nil, rfl⟩
          (fun i acc H H' f _ ⟨ks, e, h1, h2⟩ => ⟨ks, e, h1.fr f, h2⟩) (fun i acc H2 _ fr _ => SqL.of (fr.keep _ _ nn p6)) ?_ ?_⟩
        · rintro i x _ H7 acc hi hD7 fr7 ⟨ks, rfl, h1, h2⟩ ⟨rfl, hx⟩ yes no
          obtain ⟨e, he, rfl⟩ := gvg hx
          have hem := List.mem_of_getElem? he
          have he7 := ((hes e hem).fr f6 (nea e hem)).fr fr7 nn
          refine ⟨rfl, ?_⟩
          have tk : es.take (i + 1) = es.take i ++ [e] := take_snoc he
          cases hk : e.k with
          | true =>
            rw [hk] at he7
            refine ⟨_, rfl, .inl ⟨e.a, _, rfl, SqL.of he7, fun c hc => ?_⟩⟩
            refine yes _ _ (by rw [upd_ne (ne_of_none hD7 hc)]; exact hD7) (fr7.trans (.new hc)) ⟨ks ++ [(c, e.r)], by rw [rV_snoc], (h1.new hc).snoc upd_same, by rw [rR_snoc, h2, tk, List.map_append]; rfl⟩
          | false =>
            rw [hk] at he7
            refine ⟨_, rfl, .inr ⟨e.a, _, rfl, SqT.of he7, ?_⟩⟩
            exact yes _ _ hD7 fr7 ⟨ks ++ [(e.a, e.r)], by rw [rV_snoc], h1.snoc he7, by rw [rR_snoc, h2, tk, List.map_append]; rfl⟩
        · rintro acc H7 hD7 hl7 f7 ⟨ks, rfl, hks, hkr⟩
          rw [gvV_len, List.take_length] at hkr
          have hkl : ks.length = es.length := by have := congrArg List.length hkr; rw [rR_len, List.length_map] at this; exact this
          have hkm : ∀ r, r ∈ rR ks ↔ r ∈ st := fun r => by
            rw [hkr]
            constructor
            · intro h
              obtain ⟨e, he, rfl⟩ := List.mem_map.mp h
              exact hin e he
            · intro h
              obtain ⟨e, he, rfl⟩ := hall r h
              exact List.mem_map_of_mem he
          refine ⟨D2, ks, rfl, SqL.of hD7, fun q hq => SqT.of (hks q hq), by omega, fun sa L hsa hL1 hL2 => ?_⟩
          have fs : Fr [] H7 (upd H7 sa (SetTO P w sa L)) := .new hsa
          refine ⟨sa, L, sizes.length, 4, rfl, upd_same, fun q hq => SqT.of (fs.tup _ _ (hks q (hL1 q hq))), hpos, fun q hq => ?_, fun L' q hperm hnd hlen hpw hq => ?_⟩
          · have hm : q.2 ∈ st := (hkm _).mp (List.mem_map_of_mem (hL1 q hq))
            have hb := sh.box _ hm
            refine ⟨hb.1, fun m hmm => ?_⟩
            obtain ⟨i, hi⟩ := List.getElem?_of_mem hmm
            have hil := (List.getElem?_eq_some_iff.mp hi).1
            obtain ⟨sz, hsz⟩ : ∃ sz, sizes[i]? = some sz := ⟨_, List.getElem?_eq_getElem (show i < sizes.length by rw [← hb.1]; exact hil)⟩
            have h1 := hb.2 i _ m hsz hi
            have h2 := sh.small _ (List.mem_of_getElem? hsz)
            omega
          · have hL'm : ∀ r, r ∈ rR L' ↔ r ∈ st := fun r => by
              rw [← hkm]
              constructor
              · intro h
                obtain ⟨x, hx, rfl⟩ := List.mem_map.mp h
                exact List.mem_map_of_mem (hL1 x (hperm.mem_iff.mp hx))
              · intro h
                obtain ⟨x, hx, rfl⟩ := List.mem_map.mp h
                obtain ⟨y, hy, e⟩ := List.mem_map.mp (hL2 x hx)
                exact List.mem_map.mpr ⟨y, hperm.mem_iff.mpr hy, e⟩
            have hst : rR L' = st := by
              have hbd : ∀ r ∈ st, TS.Bd 4 r := fun r hr m hmm => by
                have hb := sh.box _ hr
                obtain ⟨i, hi⟩ := List.getElem?_of_mem hmm
                have hil := (List.getElem?_eq_some_iff.mp hi).1
                obtain ⟨sz, hsz⟩ : ∃ sz, sizes[i]? = some sz := ⟨_, List.getElem?_eq_getElem (show i < sizes.length by rw [← hb.1]; exact hil)⟩
                have h1 := hb.2 i _ m hsz hi
                have h2 := sh.small _ (List.mem_of_getElem? hsz)
                omega
              refine List.Perm.eq_of_pairwise (le := fun a b : Row => a ≤ b) (fun a b _ _ h g => List.le_antisymm h g) ?_ (List.Pairwise.imp (fun {a b} h => List.le_of_lt h) sh.asc) (perm_nd hnd sh.nd hL'm)
              rw [rR, List.pairwise_map]
              refine List.Pairwise.imp_of_mem (fun {x y} hx hy h => ?_) hpw
              have mx := (hL'm x.2).mp (List.mem_map_of_mem hx)
              have my := (hL'm y.2).mp (List.mem_map_of_mem hy)
              exact code_lex2 (by decide) ((sh.box _ mx).1.trans (sh.box _ my).1.symm) (hbd _ mx) (hbd _ my) h
            have hL'w : RwL H7 L' := fun x hx => hks x (hL1 x (hperm.mem_iff.mp hx))
            have fq : Fr [] H7 (upd (upd H7 sa (SetTO P w sa L)) q (.lst (L'.map fun q => V.ref q.1))) := fs.trans (.new hq)
            have a7 := f7.keep _ _ nn a6
            refine .inl ⟨q, _, rfl, SqL.of upd_same, fun ts hts => ⟨_, rfl, a, C, dx, _, rfl, by rw [upd_ne (ne_of_none (fq.keep _ _ nn a7) hts)]; exact fq.keep _ _ nn a7, sc.cl, sc.nSta, by show 2 < 1000; decide, ?_⟩⟩
            have f8 : Fr [] H6 (upd (upd (upd H7 sa (SetTO P w sa L)) q (.lst (L'.map fun q => V.ref q.1))) ts (.tup (rV L'))) := (f7.trans fq).trans (.new hts)
            have w8 := hL'w.fr (fq.trans (.new (o := .tup (rV L')) hts))
            have ts8 : upd (upd (upd H7 sa (SetTO P w sa L)) q (.lst (L'.map fun q => V.ref q.1))) ts (.tup (rV L')) ts = some (.tup (rV L')) := upd_same
            have hts' : upd (upd H7 sa (SetTO P w sa L)) q (.lst (L'.map fun q => V.ref q.1)) ts = none := hts
            have nts : ts ≠ a := fun e => by rw [e, fq.keep _ _ nn a7] at hts'; cases hts'
            generalize hH8 : upd (upd (upd H7 sa _) q _) ts _ = H8
            have f8 : Fr [] H6 H8 := by rw [← hH8]; exact f8
            have w8 : RwL H8 L' := by rw [← hH8]; exact w8
            have ts8 : H8 ts = some (.tup (rV L')) := by rw [← hH8]; exact ts8
            clear hH8 hts hts' fq fs a7 hD7
            have a8 := f8.keep _ _ nn a6
            have hl' : ((iV sizes).length : Nat) = sizes.length := iV_len
            rw [hl'] at a8 ⊢
            have f9 : Fr [a] H8 (upd H8 a (.ins C dx [("key_count", .int sizes.length), ("sizes", .ref tz), ("states", .ref ts)])) := .set (by simp) a8 (fun _ z => nomatch z)
            have a9 : upd H8 a (.ins C dx [("key_count", .int sizes.length), ("sizes", .ref tz), ("states", .ref ts)]) a = some (.ins C dx [("key_count", .int sizes.length), ("sizes", .ref tz), ("states", .ref ts)]) := upd_same
            have f69 : Fr [a] H6 (upd H8 a (.ins C dx [("key_count", .int sizes.length), ("sizes", .ref tz), ("states", .ref ts)])) := (f8.wider fun _ z => nomatch z).trans f9
            have w9 := w8.fr f9
            have ts9 := f9.tup _ _ ts8
            generalize hH9 : upd H8 a _ = H9
            rw [show upd H8 a (.ins C dx [("key_count", .int sizes.length), ("sizes", .ref tz), ("states", .ref ts)]) = H9 from hH9] at a9 f69 w9 ts9
            clear hH9 f9
            have n9 : ∀ {x : Addr} {u : HO}, H9 x = some u → (∀ fs, u ≠ .ins C dx fs) → x ≠ a := fun {x u} hx hu e => by
              rw [e, a9] at hx
              exact hu _ (Option.some.inj hx).symm
            have hlen24 : L'.length ≤ 24 := by rw [← rR_len, hst]; exact sh.many
            have ixl : ∀ i, (ixKV (L'.take i)).length ≤ 24 := fun i => by simp [ixKV]; omega
            refine ⟨_, rfl, a, C, dx, _, _, rfl, a9, sc.cl, sc.nSta, rfl, false, ts, _, rfl, SqB.t ts9, fun D3 hD3 => ⟨fun i m H => m = L'.length - i ∧ i ≤ L'.length ∧ H D3 = some (.dT (ixKV (L'.take i))) ∧ Fr [] H9 H, ⟨_, rfl, Nat.zero_le _, upd_same, .new hD3⟩, fun i m H10 hW => ?_⟩⟩
            obtain ⟨rfl, hi, hD10, f10⟩ := hW
            have ts10 := f10.tup _ _ ts9
            by_cases hlt : i < L'.length
            · have hltV : i < (rV L').length := by rw [rV_len]; exact hlt
              refine .inr ⟨(walk_enumB (k := false) (a := ts) (xs := rV L')).goes i H10 hltV (SqB.t ts10), fun H => i + 1 ≤ L'.length ∧ H D3 = some (.dT (ixKV (L'.take (i + 1)))) ∧ Fr [] H9 H, fun H' ⟨h1, h2, h3⟩ => ⟨L'.length - (i + 1), by omega, rfl, h1, h2, h3⟩, fun x H' hy => ?_⟩
              obtain ⟨T, u, v, rfl, hT, rfl, hu', hv⟩ := (walk_enumB (k := false) (a := ts) (xs := rV L')).yields i H10 x H' hltV (SqB.t ts10) hy
              obtain rfl : V.int (i : Nat) = u := Option.some.inj hu'
              obtain ⟨y, hy2, rfl⟩ := rV_get hv
              have hym := List.mem_of_getElem? hy2
              have f11 := f10.trans (.new (o := .tup [.int (i : Nat), .ref y.1]) hT)
              have hyr : (rR L')[i]? = some y.2 := by rw [rR, List.getElem?_map, hy2]; rfl
              have hno : y.2 ∉ rR (L'.take i) := by
                have : y.2 ∉ (rR L').take i := take_not_mem hnd hyr
                rwa [rR, ← List.map_take] at this
              refine ⟨T, _, rfl, SqT.of upd_same, rfl, _, _, rfl, _, _, rfl, rfl, rfl, ?_⟩
              refine ⟨_, rfl, _, rfl, ixKV (L'.take i), rowK y.2, y.1, rfl, by rw [rowK_kV]; exact f11.tup _ _ (w9 y hym), by rw [upd_ne (ne_of_none hD10 hT)]; exact hD10, by rw [sizeLine_eq]; have := ixl i; omega, hlt, ?_, f11.own hD3⟩
              have hvn : valV (ixKV (L'.take i)) (rowK y.2) = none := (ix_val (L'.take i) 0 y.2).2 hno
              rw [upd_same, putK_new hvn, take_snoc hy2]
              simp [ixKV, List.zipIdx_append, Nat.min_eq_left hi]
            · obtain rfl : i = L'.length := by omega
              refine .inl ⟨by rw [← rV_len (ps := L')]; exact (walk_enumB (k := false) (a := ts) (xs := rV L')).stops H10 (SqB.t ts10), ?_⟩
              rw [List.take_length] at hD10
              have a10 := f10.keep _ _ nn a9
              refine ⟨_, rfl, a, C, dx, _, rfl, a10, sc.cl, sc.nIdx, by show 3 < 1000; decide, ?_⟩
              intro fdA hfd
              have aB : upd H10 a (.ins C dx (putF "_index" (.ref D3) [("key_count", .int sizes.length), ("sizes", .ref tz), ("states", .ref ts)])) a = some (.ins C dx [("key_count", .int sizes.length), ("sizes", .ref tz), ("states", .ref ts), ("_index", .ref D3)]) := upd_same
              have f11 : Fr [a] H10 (upd H10 a (.ins C dx (putF "_index" (.ref D3) [("key_count", .int sizes.length), ("sizes", .ref tz), ("states", .ref ts)]))) := .set (by simp) a10 (fun _ z => nomatch z)
              have nfd : fdA ≠ a := fun e => by rw [e, aB] at hfd; cases hfd
              have nD3 : D3 ≠ a := ne_of hD10 a10 (fun z => nomatch z)
              have hD11 := f11.keep _ _ (by simpa using nD3) hD10
              generalize hH11 : upd H10 a _ = H11 at hfd
              rw [show upd H10 a (.ins C dx (putF "_index" (.ref D3) [("key_count", .int sizes.length), ("sizes", .ref tz), ("states", .ref ts)])) = H11 from hH11] at aB f11 hD11
              refine ⟨_, rfl, a, C, dx, _, rfl, by rw [upd_ne (ne_of_none aB hfd)]; exact aB, sc.cl, sc.nFnd, by show 4 < 1000; decide, ?_⟩
              have f12 : Fr [a] H11 (upd (upd H11 fdA (FdO w fdA [])) a (.ins C dx [("key_count", .int sizes.length), ("sizes", .ref tz), ("states", .ref ts), ("_index", .ref D3), ("_found", .ref fdA)])) := (Fr.new hfd).trans (.set (u := .ins C dx [("key_count", .int sizes.length), ("sizes", .ref tz), ("states", .ref ts), ("_index", .ref D3)]) (by simp) (by rw [upd_ne (ne_of_none aB hfd)]; exact aB) (fun _ z => nomatch z))
              have f6Z := f69.trans ((f10.wider fun _ z => nomatch z).trans (f11.trans f12))
              have fZ := f6.trans f6Z
              refine qk _ ⟨a, C, dx, tz, ts, D3, fdA, P0⟩ L' rfl rfl rfl hst ?_ fZ
              have nlst : ∀ {x : Addr} {xs : List V}, H x = some (.lst xs) → x ∉ [a] := fun {x xs} hx z => by
                rw [List.mem_singleton.mp z, ha] at hx
                cases hx
              exact {
                ins := upd_same
                hz := f6Z.tup _ _ tz6
                hs := (((f10.wider fun _ z => nomatch z).trans (f11.trans f12)) : Fr [a] H9 _).tup _ _ ts9
                rw := w9.fr ((f10.wider fun _ z => nomatch z).trans (f11.trans f12))
                ix := f12.keep _ _ (by simpa using nD3) hD11
                fdo := by
                  show upd (upd H11 fdA (FdO w fdA [])) a _ fdA = _
                  rw [upd_ne nfd, upd_same]
                fdk := fun _ z => nomatch z
                fdn := List.nodup_nil
                fdv := fun _ z => nomatch z
                tab := tabS_fr fZ (fun d hd u hu2 => by
                  rw [List.mem_singleton.mp hd, ha] at hu2
                  cases hu2
                  exact ⟨fun _ z => (nomatch z), fun _ z => (nomatch z)⟩) htab
                ava := fun x hx => by
                  obtain ⟨xs, hxs⟩ := hava x hx
                  exact ⟨xs, fZ.keep _ _ (nlst hxs) hxs⟩ }
end
end K13
/-! K13W0 -/
set_option autoImplicit true
set_option Elab.async false
set_option linter.all false
set_option maxRecDepth 100000
set_option maxHeartbeats 4000000
set_option pp.maxSteps 600
namespace K13
open PySem PySem.Spec PyProof.Rows L2
/-! ### the plain laws that the law's walk leans on -/
theorem lt_app : ∀ {a b : List Int} (x y : List Int), a.length = b.length → a < b → a ++ x < b ++ y
  | [], [], _, _, _, h => absurd h (List.lt_irrefl _)
  | [], _ :: _, _, _, h, _ => by simp at h
  | _ :: _, [], _, _, h, _ => by simp at h
  | a :: as, b :: bs, x, y, hl, h => by
    rw [List.cons_lt_cons_iff] at h
    rw [List.cons_append, List.cons_append, List.cons_lt_cons_iff]
    rcases h with h | ⟨e, h⟩
    · exact .inl h
    · exact .inr ⟨e, lt_app x y (by simpa using hl) h⟩
theorem lt_last : ∀ (a : List Int) {v w : Int}, v < w → a ++ [v] < a ++ [w]
  | [], v, w, h => by
    rw [List.nil_append, List.nil_append, List.cons_lt_cons_iff]
    exact .inl h
  | a :: as, v, w, h => by
    rw [List.cons_append, List.cons_append, List.cons_lt_cons_iff]
    exact .inr ⟨rfl, lt_last as h⟩
theorem rowsOf_asc (l : List Int) : (rowsOf l).Pairwise fun a b => a < b := by
  induction l using snoc_ind2 with
  | h0 => simp [rowsOf]
  | h1 l s ih =>
    rw [rowsOf_snoc, List.pairwise_flatMap]
    refine ⟨fun a _ => ?_, ?_⟩
    · unfold ext1
      rw [List.pairwise_map]
      exact List.pairwise_lt_range.imp fun h => lt_last a (by omega)
    · refine ih.imp_of_mem fun {a b} ha hb h x hx y hy => ?_
      obtain ⟨v, _, rfl⟩ := List.mem_map.mp hx
      obtain ⟨u, _, rfl⟩ := List.mem_map.mp hy
      exact lt_app _ _ ((rowsOf_box l a ha).1.trans (rowsOf_box l b hb).1.symm) h
theorem shape_of {sizes : List Int} {st : List Row} (z : SzOk sizes) (hs : st.Sublist (rowsOf sizes)) (hn : st ≠ []) : Shape sizes st :=
  ⟨z.few, z.pos, z.small, fun r hr => rowsOf_box sizes r (hs.subset hr), (rowsOf_asc sizes).sublist hs, hn, Nat.le_trans hs.length_le z.many⟩
theorem box_small {sizes : List Int} {st : List Row} (h : Shape sizes st) {r : Row} (hr : r ∈ st) : r.length ≤ 4 ∧ ∀ i ∈ r, 0 ≤ i ∧ i < 256 := by
  obtain ⟨h1, h2⟩ := h.box r hr
  refine ⟨by rw [h1]; exact h.few, fun i hi => ?_⟩
  obtain ⟨j, hj⟩ := List.getElem?_of_mem hi
  have hlt : j < sizes.length := by rw [← h1]; exact (List.getElem?_eq_some_iff.mp hj).1
  have q := h2 j _ _ (List.getElem?_eq_getElem hlt) hj
  have := (h.small _ (List.getElem_mem hlt)).2
  omega
theorem reps_len {C : Row → Row → Bool} (st : List Row) : (reps C st).length ≤ st.length := (reps_sublist st).length_le
/-- the greatest of the indexes -/
theorem homes_max {st : List Row} {lot : List Int} (E : Eqv (cn st lot)) (hne : st ≠ []) {m : Int} (hm : m ∈ homesOf st lot) (hx : ∀ y ∈ homesOf st lot, y ≤ m) : m + 1 = ((reps (cn st lot) st).length : Nat) := by
  obtain ⟨s, hs, rfl⟩ := List.mem_map.mp hm
  have h1 := home_lt E hs
  have hc : (reps (cn st lot) st).length - 1 < (reps (cn st lot) st).length := by omega
  have e := reps_get_home E (List.getElem?_eq_getElem hc)
  have hr := reps_mem st (List.getElem_mem hc)
  have := hx _ (List.mem_map_of_mem (f := fun r => ((home (cn st lot) st r : Nat) : Int)) hr)
  rw [e] at this
  omega
theorem torn_nil {n : Nat} {st : List Row} : (tornOf n st).isEmpty = allWhole n st := by
  unfold tornOf allWhole
  rw [Bool.eq_iff_iff, List.isEmpty_iff, List.filter_eq_nil_iff, List.all_eq_true]
  simp
/-! the empty lot: each state is an island of its own -/
theorem conn_nil {st : List Row} {s t : Row} (h : Conn st [] s t) : s = t := by
  induction h with
  | refl => rfl
  | step _ e _ =>
    obtain ⟨_, _, k, hk, _⟩ := e
    cases hk
theorem cn_nil {st : List Row} {s t : Row} : cn st [] s t = decide (s = t) := by
  rw [Bool.eq_iff_iff, cn_iff, decide_eq_true_iff]
  exact ⟨conn_nil, fun e => e ▸ .refl _⟩
theorem reps_self {C : Row → Row → Bool} (hC : ∀ s t, C s t = decide (s = t)) : ∀ l : List Row, l.Nodup → reps C l = l := by
  refine snoc_ind (fun _ => rfl) fun l s ih h => ?_
  rw [List.nodup_append] at h
  obtain ⟨h1, _, h3⟩ := h
  rw [reps_snoc, ih h1, repStep_no]
  rintro ⟨r, hr, e⟩
  rw [hC] at e
  exact h3 r hr s (by simp) (of_decide_eq_true e)
theorem filter_one {α : Type} {l : List α} {p : α → Bool} {a : α} (hn : l.Nodup) (ha : a ∈ l) (h : ∀ b ∈ l, p b = true ↔ b = a) : l.filter p = [a] := by
  induction l with
  | nil => cases ha
  | cons x l ih =>
    obtain ⟨h1, h2⟩ := List.nodup_cons.mp hn
    by_cases e : x = a
    · subst e
      rw [List.filter_cons, if_pos ((h x List.mem_cons_self).mpr rfl)]
      congr 1
      rw [List.filter_eq_nil_iff]
      intro b hb q
      exact h1 ((h b (List.mem_cons_of_mem _ hb)).mp q ▸ hb)
    · rw [List.filter_cons, if_neg (fun q => e ((h x List.mem_cons_self).mp q))]
      refine ih h2 ?_ fun b hb => h b (List.mem_cons_of_mem _ hb)
      rcases List.mem_cons.mp ha with q | q
      · exact absurd q.symm e
      · exact q
theorem due_nil {st : List Row} (hn : st.Nodup) (hl : ∀ s ∈ st, ∀ t ∈ st, s.length = t.length) : dueOf st [] = st.map fun r => [r] := by
  have E := cn_eqv (lot := []) hl
  have er : reps (cn st []) st = st := reps_self (fun _ _ => cn_nil) st hn
  unfold dueOf
  rw [er]
  refine List.ext_getElem (by simp) fun i h1 h2 => ?_
  have hi : i < st.length := by simpa using h2
  rw [List.getElem_map, List.getElem_map, List.getElem_range]
  have hg : (reps (cn st []) st)[i]? = some st[i] := by rw [er]; exact List.getElem?_eq_getElem hi
  refine filter_one hn (List.getElem_mem hi) fun b hb => ?_
  rw [decide_eq_true_iff]
  constructor
  · intro e
    obtain ⟨r, hr, hc⟩ := home_rep E hb
    rw [e, hg] at hr
    cases hr
    exact (conn_nil (cn_iff.mp hc)).symm
  · intro e
    rw [e]
    exact home_of E hg (E.refl _)
/-! ### what stays of a heap that the law's defs leave -/
structure Kp (d l : Addr) (H H' : Hp) : Prop where
  tup : ∀ b xs, H b = some (.tup xs) → H' b = some (.tup xs)
  lst : ∀ b xs, b ∉ [d, l] → H b = some (.lst xs) → H' b = some (.lst xs)
  dT : ∀ b m, H b = some (.dT m) → H' b = some (.dT m)
section
variable {d l : Addr} {H H1 H' : Hp} {w : World} {S : Sto} {sizes : List Int} {ps : List (Addr × Row)} {av : List Addr} {kvs : List FEnt}
theorem Kp.refl : Kp d l H H := ⟨fun _ _ e => e, fun _ _ _ e => e, fun _ _ e => e⟩
theorem Kp.trans (f : Kp d l H H1) (g : Kp d l H1 H') : Kp d l H H' := ⟨fun b xs e => g.tup b xs (f.tup b xs e), fun b xs n e => g.lst b xs n (f.lst b xs n e), fun b m e => g.dT b m (f.dT b m e)⟩
theorem Kp.same (f : Fr [] H H') : Kp d l H H' := ⟨f.tup, fun b xs _ e => f.keep b _ (fun z => nomatch z) e, fun b m e => f.keep b _ (fun z => nomatch z) e⟩
theorem Dl.not_dT (h : Dl d l H) {b : Addr} {m : List (List L2.Key × V)} (e : H b = some (.dT m)) : b ∉ [d, l] := fun q => by
  obtain ⟨ys, b', h1, h2, _⟩ := h
  rcases List.mem_cons.mp q with z | q
  · rw [z, h1] at e
    cases e
  · rw [List.mem_singleton.mp q, h2] at e
    cases e
theorem Kp.deal (f : Fr [d, l] H H') (h : Dl d l H) : Kp d l H H' := ⟨f.tup, fun b xs n e => f.keep b _ n e, fun b m e => f.keep b _ (h.not_dT e) e⟩
theorem Kp.store (f : FrT [S.fd] H H') (h : StAt w H S sizes ps av kvs) : Kp d l H H' := by
  refine ⟨f.tup, fun b xs _ e => f.keep b _ (h.ftup e) (fun _ z => nomatch z) e, fun b m e => f.keep b _ (fun z => ?_) (fun _ z => nomatch z) e⟩
  rw [List.mem_singleton.mp z, h.fdo] at e
  have := Option.some.inj e
  unfold FdO at this
  cases this
theorem RwL.kp {qs : List (Addr × List Int)} (k : Kp d l H H') (h : RwL H qs) : RwL H' qs := fun p hp => k.tup _ _ (h p hp)
theorem NearAt.kp {st : List Row} {n : Addr} (k : Kp d l H H') (h : NearAt H st [d, l] n) : NearAt H' st [d, l] n := by
  obtain ⟨bs, h1, h2, h3⟩ := h.ex
  refine ⟨bs, k.dT _ _ h1, h2, fun p hp => ⟨(h3 p hp).1, ?_⟩⟩
  obtain ⟨es, e1, e2, e3⟩ := (h3 p hp).2.ex
  exact ⟨es, k.lst _ _ (h3 p hp).1 e1, fun e he => ⟨k.tup _ _ (e2 e he).1, k.tup _ _ (e2 e he).2⟩, e3⟩
theorem HomesAt.kp {st : List Row} {lot : List Int} {n : Addr} (k : Kp d l H H') (h : HomesAt H st lot n) : HomesAt H' st lot n := by
  obtain ⟨D, h1, h2⟩ := h.ex
  exact ⟨D, k.dT _ _ h1, h2⟩
end
/-- the deal and the store, side by side -/
structure LI (w : World) (d l : Addr) (S : Sto) (sizes : List Int) (ps : List (Addr × Row)) (kvs : List FEnt) (H : Hp) : Prop where
  dl : Dl d l H
  sa : StAt w H S sizes ps [d, l] kvs
section
variable {d l : Addr} {H H1 H' : Hp} {w : World} {S : Sto} {sizes : List Int} {ps : List (Addr × Row)} {kvs kvs' : List FEnt}
theorem LI.same (h : LI w d l S sizes ps kvs H) (f : Fr [] H H') : LI w d l S sizes ps kvs H' := ⟨h.dl.same f, h.sa.same f⟩
theorem LI.new {p : Addr} {o : HO} (h : LI w d l S sizes ps kvs H) (e : H p = none) : LI w d l S sizes ps kvs (upd H p o) := h.same (.new e)
theorem LI.deal (h : LI w d l S sizes ps kvs H) (f : Fr [d, l] H H') (hd : Dl d l H') : LI w d l S sizes ps kvs H' := by
  refine ⟨hd, h.sa.fr f fun x hx => ⟨hx, ?_⟩⟩
  obtain ⟨xs, b, h1, h2, _⟩ := hd
  rcases List.mem_cons.mp hx with z | hx
  · exact ⟨_, by rw [z]; exact h1⟩
  · exact ⟨_, by rw [List.mem_singleton.mp hx]; exact h2⟩
theorem LI.store (h : LI w d l S sizes ps kvs H) (f : FrT [S.fd] H H') (hs : StAt w H' S sizes ps [d, l] kvs') : LI w d l S sizes ps kvs' H' := by
  refine ⟨?_, hs⟩
  obtain ⟨xs, b, h1, h2, h3⟩ := h.dl
  exact ⟨xs, b, f.keep _ _ (h.sa.ftup h1) (fun _ z => nomatch z) h1, f.keep _ _ (h.sa.ftup h2) (fun _ z => nomatch z) h2, h3⟩
end
end K13
/-! K13W1 -/
set_option autoImplicit true
set_option Elab.async false
set_option linter.all false
set_option maxRecDepth 100000
set_option maxHeartbeats 4000000
set_option pp.maxSteps 900
namespace K13
open PySem PySem.Spec PyProof.Rows L2
/-- the loop's body, and what it does with a lot that is looked at -/
def forBody : Stmt → List Stmt
  | .For _ _ b _ _ => b
  | _ => []
def ifBody : Stmt → List Stmt
  | .If _ b _ _ => b
  | _ => []
def lawFor : List Stmt := forBody ((defBody s_law).getD 5 (.Pass ⟨0, 0, 0, 0⟩))
def lawIf : List Stmt := ifBody (lawFor.getD 3 (.Pass ⟨0, 0, 0, 0⟩))
section
variable (P : Program) (w : World) (K : PySem.W.Frag) (mg : Str → Option Value) (base : Heap)
def spTells2 : Sp := fun vs H Q _ => ∃ k a b c ps g lot bb, vs = [.ref a, .ref b, .ref c] ∧ H a = some (.lst (rV ps)) ∧ RwL H ps ∧ ps.length ≤ 100 ∧ SqB k H b (iV ((rR ps).map g)) ∧ H c = some (.lst (iV lot)) ∧ lot.length ≤ 100 ∧ (∀ r ∈ rR ps, ∀ k ∈ lot, 0 ≤ k ∧ k < r.length) ∧
  (Tell (seenOn lot) g (rR ps) ↔ bb = true) ∧ ∀ H', Fr [] H H' → Q (.bl bb) H'
def spLWhole2 : Sp := fun vs H Q _ => ∃ a b c n ps lot, vs = [.ref a, .ref b, .ref c] ∧ H a = some (.lst (rV ps)) ∧ RwL H ps ∧ ps.length ≤ 100 ∧ HomesAt H (rR ps) lot b ∧ H c = some (.tup (iV lot)) ∧ n ≤ 100 ∧ (∀ r ∈ rR ps, r.length = n) ∧
  ∀ H', Fr [] H H' → Q (.bl (isWhole n (rR ps) lot)) H'
theorem tells2 {P : Program} {w : World} {K : PySem.W.Frag} {mg : Str → Option Value} {base : Heap} {k : Nat} {x : Str} (c : Cal P w K mg base k x spTells) : Cal P w K mg base k x spTells2 := c.imp fun vs H Q E h => by
  obtain ⟨k, a, b, c, ps, g, lot, bb, e, h1, h2, h3, h4, h5, h6, h7, hb, q⟩ := h
  exact ⟨k, a, b, c, ps, g, lot, e, h1, h2, h3, h4, h5, h6, h7, fun z => (hb.mp z) ▸ q, fun z => (show bb = false by cases bb with | true => exact absurd (hb.mpr rfl) z | false => rfl) ▸ q⟩
theorem lwhole2 {P : Program} {w : World} {K : PySem.W.Frag} {mg : Str → Option Value} {base : Heap} {k : Nat} {x : Str} (c : Cal P w K mg base k x spLWhole) : Cal P w K mg base k x spLWhole2 := c.imp fun vs H Q E h => by
  obtain ⟨a, b, c, n, ps, lot, e, h1, h2, h3, h4, h5, h6, h7, q⟩ := h
  exact ⟨a, b, c, n, ps, lot, e, h1, h2, h3, h4, h5, h6, h7, fun z => (isWhole_yes z) ▸ q, fun z => (isWhole_no z) ▸ q⟩
structure LawCals (C CI P0 : Addr) : Prop where
  mixed : Cal P w K mg base 2 "_law_mixed" spMixed
  quest : Cal P w K mg base 3 "_law_question" spQuest
  qr : Cal P w K mg base 1 "_law_question_right" spQR
  tells : Cal P w K mg base 1 "_law_tells" spTells2
  homes : Cal P w K mg base 1 "_law_homes" spLHomes
  whole : Cal P w K mg base 1 "_law_is_whole" spLWhole2
  isl : Cal P w K mg base 10 "islands" (spIslands w C CI P0)
  iq : Cal P w K mg base 10 "island_question" (spIQ w C CI P0)
  isw : Cal P w K mg base 11 "is_whole" (spIsWhole w C CI P0)
/-- the context of the law's body -/
abbrev LX (f : Addr) (cdv : Value) (A : Around) (outer : List Env) (s : Shared) (H : Hp) (E : XK) : Cx := (cxOf (L2.CX P w) P w K mg base N_law "law" (defScope s_law) f cdv A outer s H E).nox
end
section
variable {P : Program} {w : World} {K : PySem.W.Frag} {mg : Str → Option Value} {base : Heap} {f C CI P0 : Addr}
theorem b_maxT {X : Cx} {e : Expr} {te : TE} {p pos : Pos} (B : Bt X.mg) (hc : X.calm = true) (ha : PE X e te) (hg : Gl X "max" := by rfl) (hs : starEach [e] X.env = (false, eval e X.env) :: starEach [] X.env := by rfl) : PE X (.Call (.Name "max" p) [e] [] pos) (tCB (rMaxT X.K) (tCons te tNil)) :=
  pe_callB (cr_maxT hc) hg B.max (by decide +kernel) (pa_cons ha pa_nil hs) (he := hs)
theorem looked_ok (B : Bt mg) (c : LawCals P w K mg base C CI P0) {cdv : Value} {A : Around} {outer : List Env} {s : Shared} {H0 : Hp} {E : XK} (hr : Room 13 (LX P w K mg base f cdv A outer s H0 E).A) (hgd : (LX P w K mg base f cdv A outer s H0 E).A.guards = some []) :
    ∃ t, PSs (LX P w K mg base f cdv A outer s H0 E) lawIf t ∧ ∀ (D : Ends) (H : Hp) (S : Sto) (sizes : List Int) (ps qs : List (Addr × Row)) (kvs : List FEnt) (d l p nb hm cl : Addr) (lot : List Int) (wb : Bool) (y0 y2 y7 y8 y9 y13 y14 y15 y16 y17 y18 y19 y20 y21 : Option V),
      LI w d l S sizes ps kvs H → Shape sizes (rR ps) → S.C = C → S.P = P0 → H p = some (.lst (rV qs)) → p ∉ [d, l] → RwL H qs → rR qs = rR ps → NearAt H (rR ps) [d, l] nb → HomesAt H (rR ps) lot hm → H cl = some (.tup (iV lot)) → lot ∈ genL sizes.length → wb = isWhole sizes.length (rR ps) lot →
      (∀ H' kvs' z13 z14 z15 z16 z17 z18 z19, LI w d l S sizes ps kvs' H' → Kp d l H H' → D.nx [y0, some (.ref d), y2, some (.ref p), some (.ref S.a), some (.ref nb), some (.int sizes.length), y7, y8, y9, some (.ref cl), some (.ref hm), some (.bl wb), z13, z14, z15, z16, z17, z18, z19, y20, y21] H') →
      t D [y0, some (.ref d), y2, some (.ref p), some (.ref S.a), some (.ref nb), some (.int sizes.length), y7, y8, y9, some (.ref cl), some (.ref hm), some (.bl wb), y13, y14, y15, y16, y17, y18, y19, y20, y21] H := by
  have nd := sc_law.nd
  have hu := hu_of hr
  have hu2 : (LX P w K mg base f cdv A outer s H0 E).A.units + 20 < cLine := by have := hr.un; omega
  refine ⟨_, pss_cons (ps_par (i := 13) (j := 14) rfl nd rfl rfl (by decide) rfl rfl (pa_cons (pc c.mixed hr (pa_cons (pv 1) (pa_cons (b_listOf B (pv 10)) pa_nil))) (pa_cons (b_tupOf B (pe_lc (own := [("_law_state", 15)]) (g := gName 15) rfl nd (pi_list (pv 3)) (blkOk_by (N := N_law) (sc := defScope s_law) (by decide +kernel))
        (fun _ _ _ _ _ => pg_name (i := 15) nd rfl (Or.inl rfl)) (fun _ _ _ _ _ => pts_nil) (fun _ _ _ _ _ => pe_dget hu (pv 11) (pv 15) (fun _ _ => rfl)))) pa_nil)) rfl)
    (pss_cons (ps_setLc (i := 16) (own := [("_law_at", 17)]) (g := gName 17) rfl nd rfl rfl (sw_true rfl rfl rfl (by decide +kernel)) (pi_range1 rfl B.range (pa_cons (pe_op op_add (b_maxT B rfl (pv 14)) pe_int) pa_nil)) (blkOk_by (N := N_law) (sc := defScope s_law) (by decide +kernel))
        (fun _ _ _ _ _ => pg_name (i := 17) nd rfl (Or.inr rfl)) (fun _ _ _ _ _ => pts_nil) (fun _ _ _ _ _ => k_tupOf K B
          (pe_lc (own := [("_law_state", 15)]) (g := gName 15) rfl nd (piL K (pv 3)) (blkOk_by (N := N_law) (sc := { kind := .function, names := [(".0", .local), ("_law_at", .cell), ("tuple", .globalImplicit), ("_law_homes_here", .cell), ("_law_states", .cell)], isGenerator := false, isCoroutine := false }) (by decide +kernel))
            (fun _ _ _ _ _ => pg_name (i := 15) nd rfl (Or.inl rfl)) (fun _ _ _ _ _ => pts_one (pt_cmpR op_eq (pe_dget hu (pv 11) (pv 15) (fun _ _ => rfl)) (pv 17) (nomark _))) (fun _ _ _ _ _ => pv 15))))
    (pss_cons (ps_if (PW.pt (pw_or (pt_cmpR op_ne (b_repr B hgd hu2 (pc c.isl hr (pa_cons (pv 4) (pa_cons (pv 13) pa_nil)))) (b_repr B hgd hu2 (b_tupOf B (pv 16))) (nomark _))
        (pw_or1 (pt_cmpR op_ne (b_repr B hgd hu2 (pc c.iq hr (pa_cons (pv 4) (pa_cons (b_tupOf B (pv 13)) pa_nil)))) (b_repr B hgd hu2 (pv 14)) (nomark _))))) (pss_one (ps_ret pe_bl)) pss_nil)
    (pss_cons (ps_if (pt_cmpR op_ne (b_repr B hgd hu2 (pc c.isw hr (pa_cons (pv 4) (pa_cons (pv 13) pa_nil)))) (b_repr B hgd hu2 (pv 12)) (nomark _)) (pss_one (ps_ret pe_bl)) pss_nil)
    (pss_cons (ps_setLc (i := 18) (own := [("_law_key", 19)]) (g := gName 19) rfl nd rfl rfl (sw_true rfl rfl rfl (by decide +kernel)) (pi_range1 rfl B.range (pa_cons (pv 6) pa_nil)) (blkOk_by (N := N_law) (sc := defScope s_law) (by decide +kernel))
        (fun _ _ _ _ _ => pg_name (i := 19) nd rfl (Or.inl rfl)) (fun _ _ _ _ _ => pts_one (pt_cmpR (ninS K) (pv 19) (pv 10) rfl)) (fun _ _ _ _ _ => pv 19))
    (pss_cons (ps_if (pt_cmpR op_ne (pc c.tells hr (pa_cons (pv 3) (pa_cons (pv 14) (pa_cons (pv 18) pa_nil)))) (pv 12) (nomark _)) (pss_one (ps_ret pe_bl)) pss_nil)
    (pss_one (ps_if (pt_not (pt_val (pc c.qr hr (pa_cons (pv 3) (pa_cons (pv 5) (pa_cons (pc c.quest hr (pa_cons (pv 1) (pa_cons (pv 3) pa_nil))) (pa_cons (pv 11) (pa_cons (pv 10) pa_nil)))))))) (pss_one (ps_ret pe_bl)) pss_nil))))))), ?_⟩
  intro D H S sizes ps qs kvs d l p nb hm cl lot wb y0 y2 y7 y8 y9 y13 y14 y15 y16 y17 y18 y19 y20 y21 li sh hC hP hp np hqs eqs hnb hhm hcl hlot hwb q
  have nn : ∀ {x : Addr}, x ∉ ([] : List Addr) := fun z => nomatch z
  obtain ⟨hlo, hll⟩ := genL_row _ _ hlot
  have h24 : qs.length ≤ 24 := by rw [← rR_len, eqs]; exact sh.many
  have hE := cn_eqv (lot := lot) sh.len
  obtain ⟨hkv, hhd, hval⟩ := homes_val hhm
  refine ⟨_, rfl, _, rfl, cl, _, rfl, .inr (SqT.of hcl), fun lo hlo' => ?_⟩
  refine ⟨d, l, lo, iV lot, rfl, li.dl.new hlo', upd_same, by rw [iV_len]; have := sh.few; omega, fun ys g H1 hperm hg0 hg hd1 f1 => ?_⟩
  obtain ⟨zs, rfl, hzs⟩ := iV_perm hperm
  have ng : g ∉ [d, l] := (li.dl.new (o := .lst (iV lot)) hlo').ne hg0
  have li1 : LI w d l S sizes ps kvs H1 := (li.new hlo').deal f1 hd1
  have k1 : Kp d l H H1 := (Kp.same (.new hlo')).trans (.deal f1 (li.dl.new hlo'))
  have hp1 := k1.lst _ _ np hp
  refine ⟨_, rfl, p, rfl, ⟨_, SqL.of hp1⟩, fun D2 hD2 => lcG (walk_list (xs := rV qs)) [] (fun i acc _ => acc = iV (((rR ps).take i).map fun r => ((home (cn (rR ps) lot) (rR ps) r : Nat) : Int))) hD2 (by rw [rV_len, sizeLine_eq]; omega) rfl (fun _ _ _ _ _ _ t => t)
    (fun _ _ _ _ f _ => SqL.of (f.keep _ _ nn hp1)) ?_ ?_⟩
  · rintro i x _ H2 acc hi hD3 fr2 rfl ⟨rfl, hx⟩ yes no
    obtain ⟨pp, hpp, rfl⟩ := rV_get hx
    have hrow : (rR ps)[i]? = some pp.2 := by rw [← eqs, rR, List.getElem?_map, hpp]; rfl
    have hmem : pp.2 ∈ rR ps := List.mem_of_getElem? hrow
    refine ⟨rfl, ?_⟩
    refine ⟨_, rfl, _, rfl, hm, .int (home (cn (rR ps) lot) (rR ps) pp.2 : Nat), rfl, .inr ⟨hkv, rowK pp.2, pp.1, .inl (fr2.keep _ _ nn (k1.dT _ _ hhd)), rfl, by rw [rowK_kV]; exact fr2.tup _ _ (k1.tup _ _ (hqs pp (List.mem_of_getElem? hpp))), (hval _ hmem).symm⟩, ?_⟩
    exact yes _ _ hD3 fr2 (by rw [tm_snoc hrow]; simp [iV])
  rintro acc H2 hD3 hl2 fr2 rfl
  rw [rV_len, ← rR_len, eqs, List.take_length] at hD3
  refine .inl ⟨D2, _, rfl, SqL.of hD3, fun tx htx => ⟨_, _, rfl, ?_⟩⟩
  have k3 : Kp d l H (upd H2 tx (.tup (iV (homesOf (rR ps) lot)))) := k1.trans (Kp.same (fr2.trans (.new htx)))
  have li3 : LI w d l S sizes ps kvs (upd H2 tx (.tup (iV (homesOf (rR ps) lot)))) := li1.same (fr2.trans (.new htx))
  have hg3 : upd H2 tx (.tup (iV (homesOf (rR ps) lot))) g = some (.lst (iV zs)) := (fr2.trans (.new htx)).keep _ _ nn hg
  have htx3 : upd H2 tx (.tup (iV (homesOf (rR ps) lot))) tx = some (.tup (iV (homesOf (rR ps) lot))) := upd_same
  change tSeq _ _ _ _ (upd H2 tx (.tup (iV (homesOf (rR ps) lot))))
  generalize upd H2 tx (.tup (iV (homesOf (rR ps) lot))) = H3 at k3 li3 hg3 htx3
  clear hD2 fr2 hD3 htx hl2 hp1
  have hp3 := k3.lst _ _ np hp
  have hqs3 := hqs.kp k3
  have hhm3 := hhm.kp k3
  have hhd3 := k3.dT _ _ hhd
  have hhn : (homesOf (rR ps) lot).length = (rR ps).length := by simp [homesOf]
  have hrl := reps_len (C := cn (rR ps) lot) (rR ps)
  have h24' := sh.many
  have h4' := sh.few
  refine ⟨_, rfl, tx, homesOf (rR ps) lot, rfl, htx3, by rw [hhn]; exact List.length_pos_iff.mpr sh.ne, fun m hm1 hm2 => ⟨_, _, rfl, rfl, _, rfl, ?_⟩⟩
  have em := homes_max hE sh.ne hm1 hm2
  rw [em]
  refine ⟨by omega, by omega, fun D4 hD4 => lcG walk_range [] (fun i acc H => ∃ gs : List Grp, acc = gV gs ∧ GrL H gs ∧ gR gs = (List.range i).map fun c => (rR ps).filter fun r => decide (home (cn (rR ps) lot) (rR ps) r = c)) hD4 (by rw [sizeLine_eq]; omega) ⟨[], rfl, (fun _ z => nomatch z), rfl⟩
    (fun i acc H H' f _ ⟨gs, e, hg, er⟩ => ⟨gs, e, hg.fr f, er⟩) (fun i acc H2 _ fr _ => True.intro) ?_ ?_⟩
  · rintro i x _ H4 acc hi hD5 fr4 ⟨gs, rfl, hgs, egs⟩ ⟨rfl, rfl⟩ yes no
    refine ⟨rfl, ?_⟩
    refine ⟨_, rfl, p, rfl, ⟨_, SqL.of (fr4.keep _ _ nn hp3)⟩, fun D6 hD6 => lcG (walk_list (xs := rV qs)) [] (fun j acc H => ∃ rs : List (Addr × Row), acc = rV rs ∧ RwL H rs ∧ rR rs = ((rR ps).take j).filter fun r => decide (home (cn (rR ps) lot) (rR ps) r = i)) hD6 (by rw [rV_len, sizeLine_eq]; omega) ⟨[], rfl, (fun _ z => nomatch z), rfl⟩
      (fun i acc H H' f _ ⟨gs, e, hg, er⟩ => ⟨gs, e, hg.fr f, er⟩) (fun _ _ _ _ f _ => SqL.of (f.keep _ _ nn (fr4.keep _ _ nn hp3))) ?_ ?_⟩
    · rintro j x _ H6 acc hj hD7 fr6 ⟨rs, rfl, hrs, ers⟩ ⟨rfl, hx⟩ yes2 no2
      obtain ⟨pp, hpp, rfl⟩ := rV_get hx
      have hrow : (rR ps)[j]? = some pp.2 := by rw [← eqs, rR, List.getElem?_map, hpp]; rfl
      have hmem : pp.2 ∈ rR ps := List.mem_of_getElem? hrow
      have hpp6 := fr6.tup _ _ (fr4.tup _ _ (hqs3 pp (List.mem_of_getElem? hpp)))
      refine ⟨rfl, ?_⟩
      refine ⟨_, rfl, _, rfl, hm, .int (home (cn (rR ps) lot) (rR ps) pp.2 : Nat), rfl, .inr ⟨hkv, rowK pp.2, pp.1, .inl (fr6.keep _ _ nn (fr4.keep _ _ nn hhd3)), rfl, by rw [rowK_kV]; exact hpp6, (hval _ hmem).symm⟩, ?_⟩
      refine ⟨_, rfl, rfl, _, rfl, ?_⟩
      by_cases hx2 : home (cn (rR ps) lot) (rR ps) pp.2 = i
      · rw [decide_eq_true (by rw [hx2]; simp)]
        refine ⟨_, rfl, yes2 _ _ hD7 fr6 ⟨rs ++ [pp], by rw [rV_snoc], hrs.snoc hpp6, ?_⟩⟩
        rw [rR_snoc, ers, tf_yes hrow (decide_eq_true hx2)]
      · rw [decide_eq_false (fun z => hx2 (by have := V.int.inj z; omega))]
        refine no2 _ hD7 fr6 ⟨rs, rfl, hrs, ?_⟩
        rw [ers, tf_no hrow (decide_eq_false hx2)]
    · rintro acc H6 hD7 hl6 fr6 ⟨rs, rfl, hrs, ers⟩
      rw [rV_len, ← rR_len, eqs, List.take_length] at ers
      refine .inl ⟨D6, _, rfl, SqL.of hD7, fun tg htg => ?_⟩
      have f7 : Fr [] H4 (upd H6 tg (.tup (rV rs))) := fr6.trans (.new htg)
      refine yes _ _ (f7.keep _ _ nn hD5) (fr4.trans f7) ⟨gs ++ [(tg, rs)], by simp [gV], fun z hz => ?_, ?_⟩
      · rcases List.mem_append.mp hz with hz | hz
        · exact (hgs.fr f7) z hz
        · obtain rfl : z = (tg, rs) := by simpa using hz
          exact ⟨upd_same, hrs.fr (ds := []) (.new htg)⟩
      · rw [List.range_succ, List.map_append, ← egs]
        simp [gR, ers]
  rintro acc H5 hD5 hl5 fr5 ⟨gs, rfl, hgs, egs⟩
  have egs : gR gs = dueOf (rR ps) lot := by
    rw [egs]
    unfold dueOf
    simp
  have gq : GrL H5 gs := hgs
  have k5 := k3.trans (.same fr5)
  have li5 := li3.same fr5
  have hg5 := fr5.keep _ _ nn hg3
  have htx5 := fr5.tup _ _ htx3
  have due3 : ∀ {H : Hp} {gs : List Grp}, gR gs = dueOf (rR ps) lot → OkD 10 1000000 (.tuple ((gR gs).map dG)) := fun {H gs} e => by
    have := okD_grps (n := 24) (g := 24) (l := 4) (gs := gR gs) (fun rs hrs => ?_) ?_
    · exact this.mono (by decide) (by decide)
    · rw [e] at hrs
      obtain ⟨c, _, rfl⟩ := due_mem hrs
      refine ⟨Nat.le_trans (List.length_filter_le _ _) h24', fun r hr => ?_⟩
      exact box_small sh (List.mem_filter.mp hr).1
    · rw [e]
      unfold dueOf
      rw [List.length_map, List.length_range]
      omega
  refine ⟨_, rfl, _, rfl, S, sizes, ps, [d, l], kvs, .ref g, rfl, li5.sa, sh, hC, hP, .inr ⟨true, g, zs, lot, rfl, SqB.l hg5, by rw [hzs.length_eq]; omega, hzs, hlot, fun H6 kvs6 pi gs6 sa6 gr6 hpi hgs6 egs6 f6 => ?_⟩⟩
  have k56 : Kp d l H5 H6 := .store f6 li5.sa
  have li6 := li5.store f6 sa6
  refine .inr ⟨pi, (gR gs6).map dG, rfl, dp_gs hpi hgs6, due3 (H := H6) egs6, ?_⟩
  -- the islands
  have hD46 := k56.lst _ _ (li3.dl.ne hD4) hD5
  refine ⟨_, rfl, .inl ⟨D4, _, rfl, SqL.of hD46, fun td htd => ?_⟩⟩
  refine .inr ⟨td, (gR gs).map dG, rfl, dp_gs upd_same (fun z hz => ⟨?_, ?_⟩), due3 (H := H6) egs, rfl, _, rfl, iteNS (by rw [egs6, egs]) ?_⟩
  · rw [upd_ne (ne_of_none (k56.tup _ _ (gq z hz).1) htd)]
    exact k56.tup _ _ (gq z hz).1
  · exact ((gq z hz).2.kp k56).new htd
  have f67 : Fr [] H6 (upd H6 td (.tup (gV gs))) := .new htd
  have li7 := li6.same f67
  have k7 := (k5.trans k56).trans (.same f67)
  have hg7 := f67.keep _ _ nn (k56.lst _ _ ng hg5)
  have htx7 := f67.tup _ _ (k56.tup _ _ htx5)
  generalize upd H6 td (.tup (gV gs)) = H7 at li7 k7 hg7 htx7
  clear f67 htd
  -- the index
  refine ⟨_, rfl, _, rfl, .inl ⟨g, _, rfl, SqL.of hg7, fun tz htz => ?_⟩⟩
  have f8 : Fr [] H7 (upd H7 tz (.tup (iV zs))) := .new htz
  have li8 := li7.same f8
  have k8 := k7.trans (.same f8)
  have htz8 : upd H7 tz (.tup (iV zs)) tz = some (.tup (iV zs)) := upd_same
  have hg8 := f8.keep _ _ nn hg7
  have htx8 := f8.tup _ _ htx7
  generalize upd H7 tz (.tup (iV zs)) = H8 at li8 k8 htz8 hg8 htx8
  clear f8 htz
  have okh : OkD 10 1000000 (.tuple ((homesOf (rR ps) lot).map .int)) := by
    refine (okD_row (n := 24) (r := homesOf (rR ps) lot) (fun i hi => ?_) (by rw [hhn]; exact h24')).mono (by decide) (by decide)
    obtain ⟨r, hr, rfl⟩ := List.mem_map.mp hi
    have := home_lt hE hr
    omega
  refine ⟨S, sizes, ps, [d, l], kvs6, .ref tz, rfl, li8.sa, sh, hC, hP, .inr ⟨false, tz, zs, lot, rfl, htz8, by rw [hzs.length_eq]; omega, hzs, hlot, fun H9 kvs9 pq sa9 gr9 hpq f9 => ?_⟩⟩
  have k89 : Kp d l H8 H9 := .store f9 li8.sa
  have li9 := li8.store f9 sa9
  have htx9 := k89.tup _ _ htx8
  have hg9 := k89.lst _ _ ng hg8
  have k9 := k8.trans k89
  refine .inr ⟨pq, _, rfl, dp_row hpq, okh, _, rfl, .inr ⟨tx, _, rfl, dp_row htx9, okh, rfl, _, rfl, iteNS rfl ?_⟩⟩
  -- whether the lot is whole
  refine ⟨_, rfl, _, rfl, S, sizes, ps, [d, l], kvs9, .ref g, rfl, li9.sa, sh, hC, hP, .inr ⟨true, g, zs, lot, rfl, SqB.l hg9, by rw [hzs.length_eq]; omega, hzs, hlot, fun H10 kvs10 sa10 gr10 f10 => ?_⟩⟩
  have k910 : Kp d l H9 H10 := .store f10 li9.sa
  have li10 := li9.store f10 sa10
  have htx10 := k910.tup _ _ htx9
  have k10 := k9.trans k910
  refine .inl ⟨_, rfl, _, rfl, .inl ⟨_, rfl, rfl, _, rfl, iteNS (by rw [hwb]) ?_⟩⟩
  -- the other keys
  have er : ((sizes.length : Int)).toNat = sizes.length := by omega
  have hcl10 := k10.tup _ _ hcl
  refine ⟨_, rfl, _, rfl, by omega, by omega, fun D11 hD11 => lcG walk_range [] (fun i acc _ => acc = iV (((List.range i).map Int.ofNat).filter fun k => !lot.contains k)) hD11 (by rw [er, sizeLine_eq]; omega) rfl (fun _ _ _ _ _ _ t => t) (fun i acc H2 _ fr _ => True.intro) ?_ ?_⟩
  · rintro i x _ H11 acc hi hD12 fr11 rfl ⟨rfl, rfl⟩ yes no
    refine ⟨rfl, ?_⟩
    refine ⟨_, rfl, _, rfl, cl, _, rfl, .inr (SqT.of (fr11.tup _ _ hcl10)), rfl, flat_ints lot, _, rfl, ?_⟩
    rw [inV_int]
    have es : (List.range (i + 1)).map Int.ofNat = (List.range i).map Int.ofNat ++ [(i : Int)] := by rw [List.range_succ, List.map_append]; rfl
    have e0 : 0 + (i : Int) = (i : Int) := by omega
    rw [e0]
    by_cases hin : lot.contains (i : Int) = true
    · rw [hin]
      refine no _ hD12 fr11 ?_
      rw [es, List.filter_append, List.filter_cons, if_neg (by rw [hin]; exact Bool.false_ne_true)]
      simp
    · have hin : lot.contains (i : Int) = false := by simpa using hin
      rw [hin]
      refine ⟨_, rfl, yes _ _ hD12 fr11 ?_⟩
      rw [es, List.filter_append, List.filter_cons, if_pos (by rw [hin]; rfl)]
      simp [iV]
  rintro acc H12 hD12 hl12 fr12 rfl
  rw [er] at hD12
  change H12 D11 = some (.lst (iV (restOf sizes.length lot))) at hD12
  have li12 := li10.same fr12
  have k12 := k10.trans (.same fr12)
  have htx12 := fr12.tup _ _ htx10
  have hp12 := k12.lst _ _ np hp
  have hqs12 := hqs.kp k12
  have hrl' : (restOf sizes.length lot).length ≤ sizes.length := by
    unfold restOf
    exact Nat.le_trans (List.length_filter_le _ _) (by simp)
  clear hl12 fr12 hD11
  -- what the other keys tell
  refine ⟨_, rfl, _, rfl, _, rfl, false, p, tx, D11, qs, (fun r => ((home (cn (rR ps) lot) (rR ps) r : Nat) : Int)), restOf sizes.length lot, wb, rfl, hp12, hqs12, by omega, ?_, hD12, by omega, fun r hr k hk => ?_, ?_, fun H13 f13 => ?_⟩
  · rw [eqs]
    exact htx12
  · rw [eqs] at hr
    unfold restOf at hk
    obtain ⟨j, hj, rfl⟩ := List.mem_map.mp (List.mem_filter.mp hk).1
    have := List.mem_range.mp hj
    refine ⟨Int.natCast_nonneg _, ?_⟩
    show (j : Int) < _
    rw [(sh.box r hr).1]
    omega
  · rw [eqs, ← whole_tell, hwb]
    constructor
    · exact isWhole_yes
    · intro z
      exact Classical.byContradiction fun q => by rw [isWhole_no q] at z; cases z
  have k13 := k12.trans (.same f13)
  have li13 := li12.same f13
  refine ⟨_, rfl, rfl, _, rfl, iteNS rfl ?_⟩
  -- the question
  have hqne : qs ≠ [] := fun e => sh.ne (by rw [← eqs, e]; rfl)
  refine ⟨_, rfl, _, rfl, _, rfl, _, rfl, d, l, p, qs, sizes.length, rfl, li13.dl, k13.lst _ _ np hp, hqs.kp k13, np, hqne, h24, h4', fun r hr => (sh.box r (by rw [← eqs]; exact hr)).1, fun pq us H14 hpq0 hpq hul hd14 f14 => ?_⟩
  have k14 := k13.trans (.deal f14 li13.dl)
  have li14 := li13.deal f14 hd14
  obtain ⟨gq, rfl⟩ := fun_of (st := rR qs) (by rw [eqs]; exact sh.nd) (by rw [hul, rR_len])
  refine ⟨_, rfl, _, rfl, p, nb, pq, hm, cl, qs, [d, l], lot, gq, rfl, k14.lst _ _ np hp, hqs.kp k14, by rw [eqs]; exact sh.nd, by rw [eqs]; exact sh.len, h24, by rw [eqs]; exact hnb.kp k14, hpq, by rw [eqs]; exact hhm.kp k14, k14.tup _ _ hcl, fun H15 f15 => ?_⟩
  exact ⟨true, rfl, iteF (q _ _ _ _ _ _ _ _ _ (li14.same f15) (k14.trans (.same f15)))⟩
end
end K13
/-! K13W2 -/
set_option autoImplicit true
set_option Elab.async false
set_option linter.all false
set_option maxRecDepth 100000
set_option maxHeartbeats 4000000
set_option pp.maxSteps 900
namespace K13
open PySem PySem.Spec PyProof.Rows L2
section
variable {P : Program} {w : World} {K : PySem.W.Frag} {mg : Str → Option Value} {base : Heap} {f C CI P0 : Addr}
theorem turn_ok (B : Bt mg) (c : LawCals P w K mg base C CI P0) {cdv : Value} {A : Around} {outer : List Env} {s : Shared} {H0 : Hp} {E : XK} (hr : Room 13 (LX P w K mg base f cdv A outer s H0 E).A) (hgd : (LX P w K mg base f cdv A outer s H0 E).A.guards = some []) :
    ∃ t, PSs (LX P w K mg base f cdv A outer s H0 E) lawFor t ∧ ∀ (D : Ends) (H : Hp) (S : Sto) (sizes : List Int) (ps qs tq lks : List (Addr × Row)) (kvs : List FEnt) (d l p nb tr lk cl : Addr) (lot : List Int) (y0 y2 y8 y11 y12 y13 y14 y15 y16 y17 y18 y19 y20 y21 : Option V),
      LI w d l S sizes ps kvs H → Shape sizes (rR ps) → S.C = C → S.P = P0 → H p = some (.lst (rV qs)) → p ∉ [d, l] → RwL H qs → rR qs = rR ps → NearAt H (rR ps) [d, l] nb → H cl = some (.tup (iV lot)) → lot ∈ genL sizes.length →
      H tr = some (.lst (rV tq)) → tr ∉ [d, l] → RwL H tq → tq.length ≤ 1000 → H lk = some (.lst (rV lks)) → RwL H lks →
      (∀ H' kvs' tr' tq' z11 z12 z13 z14 z15 z16 z17 z18 z19, LI w d l S sizes ps kvs' H' → Kp d l H H' → H' tr' = some (.lst (rV tq')) → tr' ∉ [d, l] → RwL H' tq' → rR tq' = rR tq ++ (if isWhole sizes.length (rR ps) lot = true then [] else [lot]) →
        D.nx [y0, some (.ref d), y2, some (.ref p), some (.ref S.a), some (.ref nb), some (.int sizes.length), some (.ref tr'), y8, some (.ref lk), some (.ref cl), z11, z12, z13, z14, z15, z16, z17, z18, z19, y20, y21] H') →
      t D [y0, some (.ref d), y2, some (.ref p), some (.ref S.a), some (.ref nb), some (.int sizes.length), some (.ref tr), y8, some (.ref lk), some (.ref cl), y11, y12, y13, y14, y15, y16, y17, y18, y19, y20, y21] H := by
  have nd := sc_law.nd
  have hu := hu_of hr
  have hu65 : (LX P w K mg base f cdv A outer s H0 E).A.units + 65 < cLine := by have := hr.un; omega
  obtain ⟨t, ht, hread⟩ := looked_ok (f := f) (cdv := cdv) (A := A) (outer := outer) (s := s) (H0 := H0) (E := E) B c hr hgd
  refine ⟨_, pss_cons (ps_set (i := 11) nd rfl (Or.inr rfl) (pc c.homes hr (pa_cons (pv 3) (pa_cons (pv 5) (pa_cons (pv 10) pa_nil)))))
    (pss_cons (ps_set (i := 12) nd rfl (Or.inl rfl) (pc c.whole hr (pa_cons (pv 3) (pa_cons (pv 11) (pa_cons (pv 10) pa_nil)))))
    (pss_cons (ps_set (i := 7) nd rfl (Or.inl rfl) (pe_ifExp (pt_val (pv 12)) (pv 7) (pe_op op_cat (pv 7) (pe_lst (pa_cons (pv 10) pa_nil)))))
    (pss_one (ps_if (pt_cmpR (op_inD hu65) (pv 10) (pv 9) rfl) ht pss_nil)))), ?_⟩
  intro D H S sizes ps qs tq lks kvs d l p nb tr lk cl lot y0 y2 y8 y11 y12 y13 y14 y15 y16 y17 y18 y19 y20 y21 li sh hC hP hp np hqs eqs hnb hcl hlot htr ntr htq h1000 hlk hlks q
  have h24 : qs.length ≤ 24 := by rw [← rR_len, eqs]; exact sh.many
  refine ⟨_, rfl, _, rfl, _, rfl, p, nb, cl, qs, [d, l], lot, rfl, hp, hqs, by omega, by rw [eqs]; exact hnb, hcl, by rw [eqs]; exact sh.len, by rw [eqs]; exact sh.nd, fun H1 hm f1 hm0 hhm => ?_⟩
  rw [eqs] at hhm
  refine ⟨_, rfl, _, rfl, _, rfl, p, hm, cl, sizes.length, qs, lot, rfl, f1.keep _ _ (fun z => nomatch z) hp, hqs.fr f1, by omega, by rw [eqs]; exact hhm, f1.tup _ _ hcl, by have := sh.few; omega, fun r hr => (sh.box r (by rw [← eqs]; exact hr)).1, fun H2 f2 => ?_⟩
  have f12 : Fr [] H H2 := f1.trans f2
  have hhm2 : HomesAt H2 (rR ps) lot hm := hhm.kp (d := d) (l := l) (.same f2)
  rw [eqs]
  have tail : ∀ (wb : Bool) (H3 : Hp) (tr' : Addr) (tq' : List (Addr × Row)), wb = isWhole sizes.length (rR ps) lot → Fr [] H2 H3 → H3 tr' = some (.lst (rV tq')) → tr' ∉ [d, l] → RwL H3 tq' → rR tq' = rR tq ++ (if isWhole sizes.length (rR ps) lot = true then [] else [lot]) →
      tIfS (tTest (tOp (rInD K) (tVar 10) (tVar 9))) t tNext D [y0, some (.ref d), y2, some (.ref p), some (.ref S.a), some (.ref nb), some (.int sizes.length), some (.ref tr'), y8, some (.ref lk), some (.ref cl), some (.ref hm), some (.bl wb), y13, y14, y15, y16, y17, y18, y19, y20, y21] H3 := by
    intro wb H3 tr' tq' hwb f3 htr' ntr' htq' etq
    have f13 : Fr [] H H3 := f12.trans f3
    have k3 : Kp d l H H3 := .same f13
    have hcl3 := f13.tup _ _ hcl
    refine ⟨_, rfl, _, rfl, dI lot, (rR lks).map dI, dp_row hcl3, dp_lst (f13.keep _ _ (fun z => nomatch z) hlk) (hlks.fr f13), shaped_row _, shaped_rows _, _, rfl, ite2 (fun _ => ?_) fun _ => ?_⟩
    · refine hread D H3 S sizes ps qs kvs d l p nb hm cl lot wb _ _ _ _ _ _ _ _ _ _ _ _ _ _ (li.same f13) sh hC hP (k3.lst _ _ np hp) np (hqs.fr f13) eqs (hnb.kp k3) (hhm2.kp (d := d) (l := l) (.same f3)) hcl3 hlot hwb fun H' kvs' z13 z14 z15 z16 z17 z18 z19 li' k' => ?_
      exact q H' kvs' tr' tq' _ _ _ _ _ _ _ _ _ li' (k3.trans k') (k'.lst _ _ ntr' htr') ntr' (htq'.kp k') etq
    · exact q H3 kvs tr' tq' _ _ _ _ _ _ _ _ _ (li.same f13) k3 htr' ntr' htq' etq
  have htr2 := f12.keep _ _ (fun z => nomatch z) htr
  have htq2 := htq.fr f12
  cases hw : isWhole sizes.length (rR ps) lot with
  | true =>
    refine ⟨_, rfl, true, rfl, iteT ⟨_, rfl, ?_⟩⟩
    exact tail true H2 tr tq hw.symm .refl htr2 ntr htq2 (by rw [hw, if_pos rfl, List.append_nil])
  | false =>
    refine ⟨_, rfl, false, rfl, iteF ⟨_, rfl, _, rfl, by show 1 ≤ sizeLine; decide, fun t1 ht1 => ⟨tr, t1, _, _, rfl, rfl, by rw [upd_ne (ne_of_none htr2 ht1)]; exact htr2, upd_same, by rw [rV_len, sizeLine_eq]; show _ + 1 ≤ _; omega, fun t2 ht2 => ?_⟩⟩⟩
    have f3 : Fr [] H2 (upd (upd H2 t1 (.lst [.ref cl])) t2 (.lst (rV tq ++ [.ref cl]))) := (Fr.new ht1).trans (.new ht2)
    refine tail false _ t2 (tq ++ [(cl, lot)]) hw.symm f3 (by rw [upd_same, rV_snoc]) ((li.dl.same f12).new (o := .lst [.ref cl]) ht1 |>.ne ht2) ((htq2.fr f3).snoc (f3.tup _ _ (f12.tup _ _ hcl))) (by rw [hw, rR_snoc]; rfl)
end
end K13
/-! K13W3 -/
set_option autoImplicit true
set_option Elab.async false
set_option linter.all false
set_option maxRecDepth 100000
set_option maxHeartbeats 8000000
set_option pp.maxSteps 900
namespace K13
open PySem PySem.Spec PyProof.Rows L2
theorem perm_map {α β : Type} (g : α → β) {zs ys : List β} (h : zs.Perm ys) : ∀ l : List α, zs = l.map g → ∃ l' : List α, ys = l'.map g ∧ l'.Perm l := by
  induction h with
  | nil =>
    intro l e
    exact ⟨l, e, .refl _⟩
  | cons x _ ih =>
    intro l e
    match l, e with
    | [], e => exact absurd e (by simp)
    | a :: l, e =>
      rw [List.map_cons, List.cons.injEq] at e
      obtain ⟨l', e1, e2⟩ := ih l e.2
      exact ⟨a :: l', by rw [List.map_cons, e1, e.1], e2.cons a⟩
  | swap x y l0 =>
    intro l e
    match l, e with
    | [], e => exact absurd e (by simp)
    | [_], e => exact absurd e (by simp)
    | a :: b :: l, e =>
      simp only [List.map_cons, List.cons.injEq] at e
      exact ⟨b :: a :: l, by simp only [List.map_cons]; rw [e.1, e.2.1, e.2.2], .swap _ _ _⟩
  | trans _ _ ih1 ih2 =>
    intro l e
    obtain ⟨l1, a1, b1⟩ := ih1 l e
    obtain ⟨l2, a2, b2⟩ := ih2 l1 a1
    exact ⟨l2, a2, b2.trans b1⟩
theorem rV_perm {ps : List (Addr × List Int)} {ys : List V} (h : ys.Perm (rV ps)) : ∃ qs, ys = rV qs ∧ qs.Perm ps := perm_map _ h.symm ps rfl
theorem nil_gen : ∀ n, [] ∈ genL n
  | 0 => List.mem_singleton.mpr rfl
  | n + 1 => by
    rw [genL, List.mem_append]
    exact .inl (nil_gen n)
theorem shaped_intL (r : List Int) : SeqAt.shaped (.list (r.map .int)) = true := by
  have h1 := depth_row r
  have h2 : (PyData.list (r.map .int)).depth ≤ 64 := by
    have : (dI r).depth = (PyData.list (r.map .int)).depth := by simp only [dI, PyData.depth]
    omega
  simp only [SeqAt.shaped, PyData.canLay0, lay_ints r, Bool.true_and, decide_eq_true_eq]
  exact h2
section
variable (P : Program) (w : World) (K : PySem.W.Frag) (mg : Str → Option Value) (base : Heap)
structure LawCals2 (C CI P0 : Addr) : Prop where
  draw : Cal P w K mg base 1 "_law_draw" (spDraw K)
  store : Cal P w K mg base 4 "_law_store" spStore
  given : Cal P w K mg base 3 "_law_given" spGiven
  beside : Cal P w K mg base 1 "_law_beside" spBeside
  lots : Cal P w K mg base 1 "_law_lots" spLLots
  unw : Cal P w K mg base 11 "unwhole" (spUnwhole w C P0)
  unwF : ∃ f fd, FnP K "unwhole" s_unwhole f fd ∧ mg "unwhole" = some (.ref f)
  joined : Cal P w K mg base 13 "is_joined" (spIsJoined w C P0)
  bad : Cal P w K mg base 3 "_law_bad_lot" spBad
  refused : Cal P w K mg base 12 "_law_refused" (spRefused w C P0)
  mkS : ∃ f fd, Mk K C f ∧ FnOk P w K mg base (L2.CX P w) 5 f fd ["self", "sizes", "states"] (spStoreI w C P0) ∧ Binds K fd ["self", "sizes", "states"] []
  mgS : mg "Store" = some (.ref C)
end
section
variable {P : Program} {w : World} {K : PySem.W.Frag} {mg : Str → Option Value} {base : Heap} {f C CI P0 : Addr}
theorem law_ok (B : Bt mg) (c : LawCals P w K mg base C CI P0) (c2 : LawCals2 P w K mg base C CI P0) {cdv : Value} {A : Around} {outer : List Env} {s : Shared} {H0 : Hp} {E : XK} (hr : Room 13 (LX P w K mg base f cdv A outer s H0 E).A) (hgd : (LX P w K mg base f cdv A outer s H0 E).A.guards = some []) :
    ∃ t, PSs (LX P w K mg base f cdv A outer s H0 E) (defBody s_law) t ∧ ∀ (D : Ends) (H : Hp) (a : Addr) (ns : List Int), SqL K H a (iV ns) → LamX.TabS H P0 lamQ → (∀ H', D.rt (.bl true) H') → t D (start N_law [.ref a]) H := by
  have nd := sc_law.nd
  have hu := hu_of hr
  have hu2 : (LX P w K mg base f cdv A outer s H0 E).A.units + 20 < cLine := by have := hr.un; omega
  have hu64 : (LX P w K mg base f cdv A outer s H0 E).A.units + 64 < cLine := by have := hr.un; omega
  obtain ⟨t, ht, hread⟩ := turn_ok (f := f) (cdv := cdv) (A := A) (outer := outer) (s := s) (H0 := H0) (E := E) B c hr hgd
  obtain ⟨fS, fdS, mkS, okS, bS⟩ := c2.mkS
  obtain ⟨fU, fdU, FU, gU⟩ := c2.unwF
  refine ⟨_, pss_cons (ps_set (i := 1) nd rfl (Or.inl rfl) (pc c2.draw hr (pa_cons (pv 0) (pa_cons pe_int pa_nil))))
    (pss_cons (ps_asg (pc c2.store hr (pa_cons (pv 1) (pa_cons pe_int pa_nil))) (pg_tup rfl (pgs_cons (pg_name (i := 2) nd rfl (Or.inl rfl)) (pgs_cons (pg_name (i := 3) nd rfl (Or.inr rfl)) pgs_nil))))
    (pss_cons (ps_asg (pe_tup (pa_cons (pe_make mkS okS (hr.mono (by decide)) (by rfl) c2.mgS bS .nil (E := E0) passL (pa_cons (pv 2) (pa_cons (pc c2.given hr (pa_cons (pv 1) (pa_cons (pv 3) pa_nil))) pa_nil))) (pa_cons (pc c2.beside hr (pa_cons (pv 3) pa_nil)) (pa_cons (b_len B (pv 2)) pa_nil))))
        (pg_tup rfl (pgs_cons (pg_name (i := 4) nd rfl (Or.inr rfl)) (pgs_cons (pg_name (i := 5) nd rfl (Or.inl rfl)) (pgs_cons (pg_name (i := 6) nd rfl (Or.inl rfl)) pgs_nil)))))
    (pss_cons (ps_par (i := 7) (j := 8) rfl nd rfl rfl (by decide) rfl rfl (pa_cons (pe_lst pa_nil) (pa_cons (pc c2.lots hr (pa_cons (pv 6) pa_nil)) pa_nil)) rfl)
    (pss_cons (ps_set (i := 9) nd rfl (Or.inl rfl) (pe_slice sl_list (pc c.mixed hr (pa_cons (pv 1) (pa_cons (pv 8) pa_nil))) po_none (po_some pe_int)))
    (pss_cons (ps_for PassesOwn.never rfl (pi_list (pv 8)) (pg_name (i := 10) nd rfl (Or.inr rfl)) ht)
    (pss_cons (ps_if (PW.pt (pw_or (pt_cmpR op_ne (b_repr B hgd hu2 (pcW (ks := ["store"]) (ps := ["store"]) (E := fun _ => E0) c2.unw FU gU (fun _ l => l) rfl (fun _ _ _ _ _ _ ws hl => match ws, hl with | [_], _ => rfl) (fun _ _ _ r => r) hr (by decide) (fun σ => fun pins H s e s' I z => passL pins σ H s e s' I z) (by rfl) (pk_cons (pv 4) pk_nil))) (b_repr B hgd hu2 (b_tupOf B (pv 7))) (nomark _))
        (pw_or1 (pt_cmpR op_ne (b_repr B hgd hu2 (pc c2.joined hr (pa_cons (pv 4) pa_nil))) (b_repr B hgd hu2 (pe_cmpR (op_eqNil hr) (pv 7) (pe_lst pa_nil) (nomark _))) (nomark _))))) (pss_one (ps_ret pe_bl)) pss_nil)
    (pss_cons (ps_asg (pc c2.bad hr (pa_cons (pv 1) (pa_cons (pv 6) pa_nil))) (pg_tup rfl (pgs_cons (pg_name (i := 20) nd rfl (Or.inr rfl)) (pgs_cons (pg_name (i := 17) nd rfl (Or.inl rfl)) pgs_nil))))
    (pss_cons (ps_if (pt_cmpR (op_neD hu64) (pe_lc (own := [("_law_form", 21)]) (g := gName 21) rfl nd (pi_range1 rfl B.range (pa_cons pe_int pa_nil)) (blkOk_by (N := N_law) (sc := defScope s_law) (by decide +kernel))
        (fun _ _ _ _ _ => pg_name (i := 21) nd rfl (Or.inl rfl)) (fun _ _ _ _ _ => pts_nil) (fun _ _ _ _ _ => pc c2.refused hr (pa_cons (pv 21) (pa_cons (pv 4) (pa_cons (pv 20) pa_nil))))) (pe_op op_rep (pe_lst (pa_cons (pv 17) pa_nil)) pe_int) (nomark _)) (pss_one (ps_ret pe_bl)) pss_nil)
    (pss_one (ps_ret (pe_and (pe_cmpR op_eq (b_repr B hgd hu2 (pc c2.unw hr (pa_cons (pv 4) pa_nil))) (b_repr B hgd hu2 (b_tupOf B (pv 7))) (nomark _))
      (pe_one (pe_cmpR op_eq (b_repr B hgd hu2 (pc c.isl hr (pa_cons (pv 4) (pa_cons (pe_tup pa_nil) pa_nil)))) (b_repr B hgd hu2 (b_tupOf B (pe_lc (own := [("_law_state", 15)]) (g := gName 15) rfl nd (pi_list (pv 3)) (blkOk_by (N := N_law) (sc := defScope s_law) (by decide +kernel))
        (fun _ _ _ _ _ => pg_name (i := 15) nd rfl (Or.inl rfl)) (fun _ _ _ _ _ => pts_nil) (fun _ _ _ _ _ => pe_tup (pa_cons (pv 15) pa_nil))))) (nomark _)))))))))))))), ?_⟩
  intro D H a ns hS htab q
  have nn : ∀ {x : Addr}, x ∉ ([] : List Addr) := fun z => nomatch z
  -- the deal, the sizes, the states
  refine ⟨_, rfl, a, ns, rfl, hS, fun d l H1 hd0 hl0 hd1 f1 => ?_⟩
  refine ⟨_, rfl, d, l, rfl, hd1, fun sizes z p T qs H2 zok qne qsub hz0 hp0 hT0 hz hp hqs hT hd2 f2 => ?_⟩
  have np : p ∉ [d, l] := hd1.ne hp0
  have nz : z ∉ [d, l] := hd1.ne hz0
  have sh : Shape sizes (rR qs) := shape_of zok qsub (fun e => qne (by simpa [rR] using e))
  have h4 := sh.few
  have h24 : qs.length ≤ 24 := by rw [← rR_len]; exact sh.many
  have htab2 : LamX.TabS H2 P0 lamQ := tabS_fr f2 (fun x hx u hu => by
    obtain ⟨xs, b, e1, e2, _⟩ := hd1
    rcases List.mem_cons.mp hx with q | hx
    · rw [q, e1] at hu
      cases hu
      exact ⟨fun _ z => (nomatch z), fun _ z => (nomatch z)⟩
    · rw [List.mem_singleton.mp hx, e2] at hu
      cases hu
      exact ⟨fun _ z => (nomatch z), fun _ z => (nomatch z)⟩) (tabS_fr f1 (fun _ z => nomatch z) htab)
  refine ⟨T, _, rfl, SqT.of hT, rfl, _, _, rfl, _, _, rfl, rfl, ?_⟩
  -- the store
  refine ⟨_, rfl, _, rfl, _, rfl, d, l, p, qs, rfl, hd2, hp, hqs, np, qne, h24, fun g es H3 hg0 hg hes hin hall h25 hd3 f3 => ?_⟩
  have htab3 : LamX.TabS H3 P0 lamQ := tabS_fr f3 (fun x hx u hu => by
    obtain ⟨xs, b, e1, e2, _⟩ := hd2
    rcases List.mem_cons.mp hx with q | hx
    · rw [q, e1] at hu
      cases hu
      exact ⟨fun _ z => (nomatch z), fun _ z => (nomatch z)⟩
    · rw [List.mem_singleton.mp hx, e2] at hu
      cases hu
      exact ⟨fun _ z => (nomatch z), fun _ z => (nomatch z)⟩) htab2
  have hp3 := f3.keep _ _ np hp
  have hz3 := f3.keep _ _ nz hz
  have hqs3 := hqs.fr f3
  intro x dx hx hdx hne
  have f4 : Fr [] H3 (upd (upd H3 dx (.own x)) x (.ins C dx [])) := (Fr.new hdx).trans (.new (by rw [upd_ne (Ne.symm hne)]; exact hx))
  have hd4 := hd3.same f4
  have htab4 : LamX.TabS (upd (upd H3 dx (.own x)) x (.ins C dx [])) P0 lamQ := tabS_fr f4 (fun _ z => nomatch z) htab3
  refine ⟨x, dx, z, g, sizes, rR qs, es, [d, l], rfl, upd_same, f4.keep _ _ nn hz3, f4.keep _ _ nn hg, fun e he => (hes e he).1.fr f4 nn, hin, hall, h25, sh, htab4, fun y hy => ?_, fun H5 S ps eA eC eP eps sa5 f5 => ⟨rfl, ?_⟩⟩
  · obtain ⟨xs, b, h1, h2, _⟩ := hd4
    rcases List.mem_cons.mp hy with q | hy
    · exact ⟨_, by rw [q]; exact h1⟩
    · exact ⟨_, by rw [List.mem_singleton.mp hy]; exact h2⟩
  have nx : ∀ {b : Addr} {u : HO}, H3 b = some u → b ∉ [x] := fun {b u} e z => by
    rw [List.mem_singleton.mp z, hx] at e
    cases e
  have k5 : ∀ b u, H3 b = some u → H5 b = some u := fun b u e => f5.keep b u (nx e) (f4.keep b u nn e)
  have hd5 : Dl d l H5 := by
    obtain ⟨xs, b, h1, h2, h3⟩ := hd3
    exact ⟨xs, b, k5 _ _ h1, k5 _ _ h2, h3⟩
  have li5 : LI w d l S sizes ps [] H5 := ⟨hd5, sa5⟩
  have hp5 := k5 _ _ hp3
  have hz5 := k5 _ _ hz3
  have hqs5 : RwL H5 qs := fun r hr => k5 _ _ (hqs3 r hr)
  rw [← eA]
  clear f5 k5 nx htab4 hd4 f4 htab3 htab2
  -- beside
  refine ⟨_, rfl, p, qs, [d, l], rfl, hp5, hqs5, sh.nd, sh.len, fun r hr => by have := (box_small sh hr).1; omega, h24, fun y hy => ?_, fun H6 nb hnb0 f6 hnb => ?_⟩
  · obtain ⟨xs, b, h1, h2, _⟩ := hd5
    rcases List.mem_cons.mp hy with q | hy
    · rw [q, h1]
      exact fun z => nomatch z
    · rw [List.mem_singleton.mp hy, h2]
      exact fun z => nomatch z
  refine ⟨_, rfl, z, _, rfl, .inl (SqL.of (f6.keep _ _ nn hz5)), by show 3 ≤ sizeLine; decide, fun T2 hT2 => ?_⟩
  rw [iV_len]
  refine ⟨T2, _, rfl, SqT.of upd_same, rfl, _, _, rfl, _, _, rfl, _, _, rfl, rfl, ?_⟩
  have f7 := f6.trans (Fr.new (o := .tup [.ref S.a, .ref nb, .int sizes.length]) hT2)
  have li7 := li5.same f7
  have hp7 := f7.keep _ _ nn hp5
  have hqs7 := hqs5.fr f7
  have hnb7 : NearAt (upd H6 T2 (.tup [.ref S.a, .ref nb, .int sizes.length])) (rR qs) [d, l] nb := hnb.kp (.same (.new hT2))
  generalize upd H6 T2 (.tup [.ref S.a, .ref nb, .int sizes.length]) = H7 at f7 li7 hp7 hqs7 hnb7
  clear f7 hnb hT2 hnb0 f6
  rw [← eps] at sh hnb7
  have eqs : rR qs = rR ps := eps.symm
  -- all lots, and those that are looked at
  refine ⟨Nat.zero_le _, fun tr htr => ⟨_, rfl, sizes.length, rfl, h4, fun H8 la ls f8 hla0 hla hls els => ⟨_, _, rfl, ?_⟩⟩⟩
  have f78 : Fr [] H7 H8 := (Fr.new htr).trans f8
  have ntr : tr ∉ [d, l] := li7.dl.ne htr
  have htr8 : H8 tr = some (.lst (rV [])) := f8.keep _ _ nn upd_same
  have nla : la ∉ [d, l] := (li7.dl.new (o := .lst []) htr).ne hla0
  have li8 := li7.same f78
  have k8 : Kp d l H7 H8 := .same f78
  have hll : ls.length ≤ 16 := by rw [← rR_len, els]; exact lots_len h4
  refine ⟨_, rfl, _, rfl, d, l, la, rV ls, rfl, li8.dl, hla, by rw [rV_len]; omega, fun ys g2 H9 hperm hg20 hg2 hd9 f9 => ?_⟩
  obtain ⟨ms, rfl, hms⟩ := rV_perm hperm
  have ng2 : g2 ∉ [d, l] := li8.dl.ne hg20
  have li9 := li8.deal f9 hd9
  have k9 := k8.trans (.deal f9 li8.dl)
  refine ⟨_, rfl, g2, _, rfl, SqL.of hg2, fun lk hlk => ?_⟩
  obtain ⟨lks, elk, hlks⟩ := cut_rows (ps := ms) (k := 5)
  rw [elk]
  have f10 : Fr [] H9 (upd H9 lk (.lst (rV lks))) := .new hlk
  have nlk : lk ∉ [d, l] := hd9.ne hlk
  have li10 := li9.same f10
  have k10 := k9.trans (.same f10)
  have hla10 := f10.keep _ _ nn (f9.keep _ _ nla hla)
  have hls10 := (hls.fr f9).fr f10
  have htr10 := f10.keep _ _ nn (f9.keep _ _ ntr htr8)
  have hlk10 : upd H9 lk (.lst (rV lks)) lk = some (.lst (rV lks)) := upd_same
  generalize upd H9 lk (.lst (rV lks)) = H10 at f10 li10 k10 hla10 hls10 htr10 hlk10
  have hlks10 : RwL H10 lks := hls10.sub fun r hr => hms.mem_iff.mp (hlks r hr)
  have hp10 := k10.lst _ _ np hp7
  have hqs10 := hqs7.kp k10
  have hnb10 := hnb7.kp k10
  clear f10 k10 k9 k8 li8 li9 f78 hlk hg2 hg20 htr8 htr hla hla0 f8 f9 hd9 hperm hms hlks elk
  refine ⟨_, rfl, la, rfl, ⟨_, SqL.of hla10⟩, for_list (xs := rV ls) (fun i σ H' => ∃ kvs tr tq y10 y11 y12 y13 y14 y15 y16 y17 y18 y19 y20 y21, σ = [some (.ref a), some (.ref d), some (.ref z), some (.ref p), some (.ref S.a), some (.ref nb), some (.int sizes.length), some (.ref tr), some (.ref la), some (.ref lk), y10, y11, y12, y13, y14, y15, y16, y17, y18, y19, y20, y21] ∧
      LI w d l S sizes ps kvs H' ∧ Kp d l H10 H' ∧ H' tr = some (.lst (rV tq)) ∧ tr ∉ [d, l] ∧ RwL H' tq ∧ rR tq = ((lotsOf sizes.length).take i).filter fun lot => !isWhole sizes.length (rR ps) lot)
    ⟨[], tr, [], _, _, _, _, _, _, _, _, _, _, _, _, rfl, li10, .refl, htr10, ntr, .nil, rfl⟩ ?_ ?_ ?_⟩
  · rintro i σ H' _ ⟨kvs, tr, tq, y10, y11, y12, y13, y14, y15, y16, y17, y18, y19, y20, y21, rfl, _, k, _⟩
    exact SqL.of (k.lst _ _ nla hla10)
  · rintro i x σ H' hx ⟨kvs, tr, tq, y10, y11, y12, y13, y14, y15, y16, y17, y18, y19, y20, y21, rfl, li, k, htr, ntr, htq, etq⟩
    obtain ⟨pl, hpl, rfl⟩ := rV_get hx
    have hrow : (lotsOf sizes.length)[i]? = some pl.2 := by rw [← els, rR, List.getElem?_map, hpl]; rfl
    have hgen : pl.2 ∈ genL sizes.length := lots_gen (List.mem_of_getElem? hrow)
    refine hread _ H' S sizes ps qs tq lks kvs d l p nb tr lk pl.1 pl.2 _ _ _ _ _ _ _ _ _ _ _ _ _ _ li sh eC eP (k.lst _ _ np hp10) np (hqs10.kp k) eqs (hnb10.kp k) (k.tup _ _ (hls10 pl (List.mem_of_getElem? hpl))) hgen htr ntr htq ?_ (k.lst _ _ nlk hlk10) (hlks10.kp k)
      fun H9 kvs' tr' tq' z11 z12 z13 z14 z15 z16 z17 z18 z19 li' k' htr' ntr' htq' etq' => ⟨kvs', tr', tq', _, _, _, _, _, _, _, _, _, _, _, _, rfl, li', k.trans k', htr', ntr', htq', ?_⟩
    · rw [← rR_len, etq]
      exact Nat.le_trans (List.length_filter_le _ _) (by have := lots_len h4; simp only [List.length_take]; omega)
    · rw [etq', etq]
      cases hw : isWhole sizes.length (rR ps) pl.2 with
      | true => rw [if_pos rfl, List.append_nil, tf_no hrow (by rw [hw]; rfl)]
      | false => rw [if_neg Bool.false_ne_true, tf_yes hrow (by rw [hw]; rfl)]
  rintro σ H11 ⟨kvs, tr, tq, y10, y11, y12, y13, y14, y15, y16, y17, y18, y19, y20, y21, rfl, li11, k11, htr11, ntr11, htq11, etq⟩
  rw [rV_len, ← rR_len, els, List.take_length] at etq
  change rR tq = tornOf sizes.length (rR ps) at etq
  have hp11 := k11.lst _ _ np hp10
  have hqs11 := hqs10.kp k11
  clear k11 hla10 hls10 htr10 hlk10 hlks10 hp10 hqs10 hnb10 li10 ntr nla nlk hread ht
  -- what is not whole, and whether the store is joined
  have okT : ∀ {us : List (Addr × Row)}, rR us = tornOf sizes.length (rR ps) → OkD 10 1000000 (.tuple ((rR us).map dI)) := fun {us} e => by
    have := okD_rows (n := 16) (l := 4) (rs := rR us) (fun r hr => ?_) ?_
    · exact this.mono (by decide) (by decide)
    · rw [e] at hr
      obtain ⟨hlo, hl⟩ := genL_row _ _ (lots_gen (List.mem_filter.mp hr).1)
      exact ⟨by omega, fun i hi => by have := hlo.2 i hi; omega⟩
    · rw [e]
      exact Nat.le_trans (List.length_filter_le _ _) (lots_len h4)
  refine ⟨_, rfl, rfl, S, sizes, ps, [d, l], kvs, rfl, li11.sa, sh, eC, eP, fun H12 kvs12 pu us sa12 gr12 hpu hus eus f12 => ?_⟩
  have k12 : Kp d l H11 H12 := .store f12 li11.sa
  have li12 := li11.store f12 sa12
  have htr12 := k12.lst _ _ ntr11 htr11
  have htq12 := htq11.kp k12
  refine .inr ⟨pu, _, rfl, dp_tup hpu hus, okT eus, _, rfl, .inl ⟨tr, _, rfl, SqL.of htr12, fun tt htt => .inr ⟨tt, _, rfl, dp_tup upd_same (htq12.new htt), okT etq, rfl, _, rfl, iteNS (by rw [eus, etq]) ?_⟩⟩⟩
  have li13 := li12.new (o := .tup (rV tq)) htt
  have k13 := k12.trans (.same (.new (o := .tup (rV tq)) htt))
  generalize upd H12 tt (.tup (rV tq)) = H13 at li13 k13
  refine ⟨_, rfl, S, sizes, ps, [d, l], kvs12, rfl, li13.sa, sh, eC, eP, fun H14 kvs14 sa14 f14 => ?_⟩
  have k14 := k13.trans (.store f14 li13.sa)
  have li14 := li13.store f14 sa14
  have htr14 := k14.lst _ _ ntr11 htr11
  refine .inl ⟨_, rfl, _, rfl, Nat.zero_le _, fun e he => ⟨tr, e, rV tq, rfl, rfl, by rw [upd_ne (ne_of_none htr14 he)]; exact htr14, upd_same, .inl ⟨_, rfl, rfl, _, rfl, iteNS ?_ ?_⟩⟩⟩
  · have : (rV tq).isEmpty = (rR tq).isEmpty := by simp [rV, rR]
    rw [if_neg Bool.false_ne_true, this, etq, torn_nil]
  have li15 := li14.new (o := .lst []) he
  have k15 := k14.trans (.same (.new (o := .lst []) he))
  generalize upd H14 e (.lst []) = H15 at li15 k15
  -- what is no lot
  refine ⟨_, rfl, _, rfl, d, l, sizes.length, rfl, li15.dl, sh.pos, h4, fun H16 T3 xb at_ hT3 hbad hd16 f16 => ⟨T3, _, rfl, SqT.of hT3, rfl, _, _, rfl, _, _, rfl, rfl, ?_⟩⟩
  have li16 := li15.deal f16 hd16
  have k16 := k15.trans (.deal f16 li15.dl)
  refine ⟨_, rfl, by decide, by decide, fun D5 hD5 => lcG walk_range [] (fun i acc _ => acc = iV (List.replicate i at_)) hD5 (by rw [sizeLine_eq]; decide) rfl (fun _ _ _ _ _ _ t => t) (fun i acc H2 _ fr _ => True.intro) ?_ ?_⟩
  · rintro i x _ H17 acc hi hD6 fr17 rfl ⟨rfl, rfl⟩ yes no
    refine ⟨rfl, ?_⟩
    refine ⟨_, rfl, _, rfl, _, rfl, _, S, sizes, ps, [d, l], _, xb, at_, rfl, li16.sa.same fr17, sh, eC, eP, hbad.fr fr17, fun H18 f18 => ?_⟩
    exact yes _ _ (f18.keep _ _ nn hD6) (fr17.trans f18) (by rw [List.replicate_succ']; simp [iV])
  rintro acc H17 hD6 hl6 fr17 rfl
  have e3 : ((3 : Int)).toNat = 3 := rfl
  rw [e3] at hD6
  refine ⟨_, rfl, by show 1 ≤ sizeLine; decide, fun l1 hl1 => ⟨l1, 3, _, rfl, rfl, upd_same, by decide, by decide, by rw [sizeLine_eq]; show 1 * 3 ≤ _; decide, fun l2 hl2 => ?_⟩⟩
  have f18 : Fr [] H17 (upd (upd H17 l1 (.lst [.int at_])) l2 (.lst (List.replicate (3 : Int).toNat [V.int at_]).flatten)) := (Fr.new hl1).trans (.new hl2)
  refine ⟨.list ((List.replicate 3 at_).map .int), .list ((List.replicate 3 at_).map .int), .lst (SqL.of (f18.keep _ _ nn hD6)) (dpI _), .lst (SqL.of upd_same) (dpI (List.replicate 3 at_)), shaped_intL _, shaped_intL _, _, rfl, ?_⟩
  have ev : PyData.eqv (.list ((List.replicate 3 at_).map .int)) (.list ((List.replicate 3 at_).map .int)) = true := by
    simp only [PyData.eqv]
    rw [eqv_ints]
    exact decide_eq_true rfl
  rw [ev]
  refine iteF ?_
  have li18 := (li16.same fr17).same f18
  have k18 := (k16.trans (.same fr17)).trans (.same f18)
  generalize upd (upd H17 l1 (.lst [.int at_])) l2 (.lst (List.replicate (3 : Int).toNat [V.int at_]).flatten) = H18 at li18 k18
  clear f18 hl2 hl1 hl6 hD6 fr17 hbad hT3 f16 hD5
  -- asked again
  refine ⟨_, rfl, S, sizes, ps, [d, l], _, rfl, li18.sa, sh, eC, eP, fun H19 kvs19 pv us2 sa19 gr19 hpv hus2 eus2 f19 => ?_⟩
  have k19 := k18.trans (.store f19 li18.sa)
  have li19 := li18.store f19 sa19
  refine .inr ⟨pv, _, rfl, dp_tup hpv hus2, okT eus2, _, rfl, .inl ⟨tr, _, rfl, SqL.of (k19.lst _ _ ntr11 htr11), fun tt2 htt2 => .inr ⟨tt2, _, rfl, dp_tup upd_same ((htq11.kp k19).new htt2), okT etq, rfl, _, rfl, ?_⟩⟩⟩
  rw [decide_eq_true (by rw [eus2, etq])]
  have li20 := li19.new (o := .tup (rV tq)) htt2
  have k20 := k19.trans (.same (.new (o := .tup (rV tq)) htt2))
  refine iteT ?_
  generalize upd H19 tt2 (.tup (rV tq)) = H20 at li20 k20
  refine ⟨_, rfl, Nat.zero_le _, fun te hte => ?_⟩
  have li21 := li20.new (o := .tup []) hte
  have k21 := k20.trans (.same (.new (o := .tup []) hte))
  refine ⟨S, sizes, ps, [d, l], _, .ref te, rfl, li21.sa, sh, eC, eP, .inr ⟨false, te, [], [], rfl, upd_same, Nat.zero_le _, .refl _, nil_gen _, fun H22 kvs22 pi gs sa22 gr22 hpi hgs egs f22 => ?_⟩⟩
  have k22 := k21.trans (.store f22 li21.sa)
  have li22 := li21.store f22 sa22
  have hdn := due_nil sh.nd sh.len
  have okG : ∀ {gs : List Grp}, gR gs = dueOf (rR ps) [] → OkD 10 1000000 (.tuple ((gR gs).map dG)) := fun {gs} e => by
    have := okD_grps (n := 24) (g := 1) (l := 4) (gs := gR gs) (fun rs hrs => ?_) ?_
    · exact this.mono (by decide) (by decide)
    · rw [e, hdn] at hrs
      obtain ⟨r, hr, rfl⟩ := List.mem_map.mp hrs
      refine ⟨Nat.le_refl _, fun r2 hr2 => ?_⟩
      rw [List.mem_singleton.mp hr2]
      exact box_small sh hr
    · rw [e, hdn, List.length_map]
      exact sh.many
  refine .inr ⟨pi, _, rfl, dp_gs hpi hgs, okG egs, ?_⟩
  have hp22 := k22.lst _ _ np hp11
  have hqs22 := hqs11.kp k22
  refine ⟨_, rfl, p, rfl, ⟨_, SqL.of hp22⟩, fun D7 hD7 => lcG (walk_list (xs := rV qs)) [] (fun i acc H => ∃ gs : List Grp, acc = gV gs ∧ GrL H gs ∧ gR gs = ((rR ps).take i).map fun r => [r]) hD7 (by rw [rV_len, sizeLine_eq]; omega) ⟨[], rfl, (fun _ z => nomatch z), rfl⟩
    (fun i acc H H' f _ ⟨gs, e, hg, er⟩ => ⟨gs, e, hg.fr f, er⟩) (fun _ _ _ _ f _ => SqL.of (f.keep _ _ nn hp22)) ?_ ?_⟩
  · rintro i x _ H23 acc hi hD8 fr23 ⟨gs, rfl, hgs, egs⟩ ⟨rfl, hx⟩ yes no
    obtain ⟨pp, hpp, rfl⟩ := rV_get hx
    have hrow : (rR ps)[i]? = some pp.2 := by rw [← eqs, rR, List.getElem?_map, hpp]; rfl
    refine ⟨rfl, ?_⟩
    refine ⟨_, rfl, by show 1 ≤ sizeLine; decide, fun tg htg => ?_⟩
    have f24 : Fr [] H23 (upd H23 tg (.tup [.ref pp.1])) := .new htg
    refine yes _ _ (f24.keep _ _ nn hD8) (fr23.trans f24) ⟨gs ++ [(tg, [pp])], by simp [gV], fun z hz => ?_, ?_⟩
    · rcases List.mem_append.mp hz with hz | hz
      · exact (hgs.fr f24) z hz
      · obtain rfl : z = (tg, [pp]) := by simpa using hz
        refine ⟨upd_same, fun y hy => ?_⟩
        obtain rfl : y = pp := by simpa using hy
        exact f24.tup _ _ (fr23.tup _ _ (hqs22 y (List.mem_of_getElem? hpp)))
    · rw [tm_snoc hrow, ← egs]
      simp [gR, rR]
  rintro acc H23 hD8 hl8 fr23 ⟨gs2, rfl, hgs2, egs2⟩
  rw [rV_len, ← rR_len, eqs, List.take_length, ← hdn] at egs2
  refine .inl ⟨D7, _, rfl, SqL.of hD8, fun tf htf => .inr ⟨tf, _, rfl, dp_gs upd_same (hgs2.fr (ds := []) (.new htf)), okG egs2, rfl, ?_⟩⟩
  rw [decide_eq_true (by rw [egs, egs2])]
  exact q _
end
end K13
/-! K13E1 -/
set_option autoImplicit true
set_option Elab.async false
set_option linter.all false
set_option maxRecDepth 100000
set_option maxHeartbeats 4000000
set_option pp.maxSteps 600
namespace K13
open PySem PySem.Spec PyProof.Rows L2
/-! ### what the head's heap tells of InvalidLot -/
def lotC (K : PySem.W.Frag) : Addr := He.ga K "InvalidLot"
def lotI (K : PySem.W.Frag) : Addr := He.ma K (lotC K) "__init__"
def lotClsB (K : PySem.W.Frag) (C : Addr) : Bool := match K.lookup C with
  | some ⟨.type t, _, .cls cd, sl⟩ => (decide (t = "type") && (cd.hasDict && !cd.hasDel)) && ((match cd.mro with
    | .ref D :: bm => decide (D = C) && PySem.HandSPX.refsVE bm
    | _ => false) && (match sl.toList with
    | [_, _, _, _, some (.builtin n), _] => decide (n = "ValueError.__new__")
    | _ => false))
  | _ => false
theorem lotClsB_ok {K : PySem.W.Frag} {C : Addr} (h : lotClsB K C = true) : ∃ nm q N bs bm sn sub ab col dd k0 k1 k2 k3 k5, K.lookup C = some (excClassObj nm q C N bs bm true sn sub ab col dd k0 k1 k2 k3 k5 "ValueError.__new__") ∧ PySem.HandSPX.refsVE bm = true := by
  unfold lotClsB at h
  split at h
  · rename_i t dd cd sl ho
    obtain ⟨h1, h2⟩ := He.ba h
    obtain ⟨h3, h4⟩ := He.ba h1
    obtain ⟨h5, h6⟩ := He.ba h4
    obtain ⟨h7, h8⟩ := He.ba h2
    split at h7
    · rename_i D bm hm
      obtain ⟨h9, h10⟩ := He.ba h7
      split at h8
      · rename_i k0 k1 k2 k3 n k5 hs
        have e1 := of_decide_eq_true h3
        have e2 := of_decide_eq_true h9
        have e3 := of_decide_eq_true h8
        have e4 : sl = #[k0, k1, k2, k3, some (.builtin n), k5] := by
          obtain ⟨l⟩ := sl
          exact congrArg Array.mk hs
        obtain ⟨nm, bs, mro, N, q, hd, sn, sub, ab, col, del⟩ := cd
        dsimp only at hm h5 h6
        have e5 : del = false := by simpa using h6
        subst e1 e2 e3 e4 e5 hm h5
        exact ⟨nm, q, N, bs, bm, sn, sub, ab, col, dd, k0, k1, k2, k3, k5, ho, h10⟩
      · cases h8
    · cases h7
  · cases h
abbrev LotV : Type := Option (Str × Str × Arguments × FuncBody × Scope × Addr × Value × Addr)
def lotV (K : PySem.W.Frag) : LotV := match K.lookup (lotI K) with
  | some ⟨_, _, .func fd, _⟩ => some (fd.name, fd.qualname, fd.params, fd.body, fd.scope, fd.globals, fd.defaults, fd.builtins)
  | _ => none
def lotVal : LotV := some ("__init__", "InvalidLot.__init__", defArgs s_InvalidLotI, .stmts (defBody s_InvalidLotI), defScope s_InvalidLotI, mainGlobals, .none, builtinsNs)
def cellB (K : PySem.W.Frag) (cc C : Addr) : Bool := match K.lookup cc with
  | some ⟨_, _, .cell (some (.ref D)), _⟩ => decide (D = C)
  | _ => false
def fileB (K : PySem.W.Frag) (cda : Addr) (file : Str) : Bool := match K.lookup cda with
  | some ⟨_, _, .fields vs, _⟩ => (match vs.getD 2 .none with
    | .str x _ => decide (x = file)
    | _ => false)
  | _ => false
def lotFnB (K : PySem.W.Frag) (file : Str) : Bool := match K.lookup (lotI K) with
  | some ⟨_, _, .func fd, _⟩ => (match fd.closure, fd.code with
    | [(x, cc)], .ref cda => (decide (x = "__class__") && cellB K cc (lotC K)) && (PySem.W.codeIn K (.ref cda) "InvalidLot.__init__" && fileB K cda file)
    | _, _ => false)
  | _ => false
theorem cellB_ok {K : PySem.W.Frag} {cc C : Addr} (h : cellB K cc C = true) : ∃ cl cld csl, K.lookup cc = some ⟨cl, cld, .cell (some (.ref C)), csl⟩ := by
  unfold cellB at h
  split at h
  · rename_i cl cld D csl ho
    rw [of_decide_eq_true h] at ho
    exact ⟨_, _, _, ho⟩
  · cases h
theorem fileB_ok {K : PySem.W.Frag} {cda : Addr} {file : Str} (h : fileB K cda file = true) : ∃ ccl cdd vs ccs tf, K.lookup cda = some ⟨ccl, cdd, .fields vs, ccs⟩ ∧ (vs[2]? : Option Value) = some (.str file tf) := by
  unfold fileB at h
  split at h
  · rename_i ccl cdd vs ccs ho
    split at h
    · rename_i x tf hx
      obtain rfl := of_decide_eq_true h
      refine ⟨_, _, vs, _, tf, ho, ?_⟩
      rw [Array.getD_eq_getD_getElem?] at hx
      cases e : (vs[2]? : Option Value) with
      | none =>
        rw [e] at hx
        cases hx
      | some u =>
        rw [e] at hx
        exact congrArg some hx
    · cases h
  · cases h
def lotB (K : PySem.W.Frag) (file : Str) : Bool :=
  ((lotClsB K (lotC K) && He.eqO (PySem.W.findIn K (.ref (lotC K)) "__setattr__") (some (some (.builtin "object.__setattr__")))) && (decide (PySem.W.subIn K (.ref (lotC K)) (.type "BaseException") = some true) && decide (PySem.W.typeIn K (.ref (lotC K)) = some (.type "type")))) &&
  (((PySem.W.keepIn K (.ref (lotC K)) && (PySem.W.clsIn K (lotC K)).isSome) && (He.eqO (PySem.W.ks_superIn K (lotC K) (lotC K) "__init__") (some (some (.builtin "ValueError.__init__"))) && decide (PySem.W.mroIn K (lotC K) (.ref (lotC K)) = some true))) &&
  (((decide (PySem.W.subIn K (.ref (lotC K)) (.type "ValueError") = some true) && He.eqO (PySem.W.nsIn K cStatics "thirdparty.any") (some none)) && (He.eqO (PySem.W.findIn K (.ref (lotC K)) "at") (some none) && He.eqO (PySem.W.findIn K (.ref (lotC K)) "__init__") (some (some (.ref (lotI K)))))) &&
  (((decide (PySem.W.typeIn K (.ref (lotI K)) = some (.type "function")) && lotFnB K file) && (He.eqO (PySem.W.findIn K (.ref (lotC K)) "__getattribute__") (some (some (.builtin "BaseException.__getattribute__"))) && He.eqO (PySem.W.findIn K (.ref (lotC K)) "__getattr__") (some none))) &&
  (PySem.W.hasDictIn K (lotC K) && decide (PySem.W.exmOne K (.ref (lotC K)) (.ref (lotC K)) = some true)))))
theorem lot_facts {P : Program} {K : PySem.W.Frag} {file : Str} (h : lotB K file = true) (hv : lotV K = lotVal) (hf : ((P.main.file : Str) == file) = true) (ht : (P.main.scope.names.lookup ("super" : Str)).isSome = false) : LotF P K (lotC K) (lotI K) ∧ LotG K (lotC K) := by
  obtain ⟨ha, h⟩ := He.ba h
  obtain ⟨hb, h⟩ := He.ba h
  obtain ⟨hc, h⟩ := He.ba h
  obtain ⟨hd, he⟩ := He.ba h
  obtain ⟨ha1, ha2⟩ := He.ba ha
  obtain ⟨a1, a2⟩ := He.ba ha1
  obtain ⟨a3, a4⟩ := He.ba ha2
  obtain ⟨hb1, hb2⟩ := He.ba hb
  obtain ⟨b1, b2⟩ := He.ba hb1
  obtain ⟨b3, b4⟩ := He.ba hb2
  obtain ⟨hc1, hc2⟩ := He.ba hc
  obtain ⟨c1, c2⟩ := He.ba hc1
  obtain ⟨c3, c4⟩ := He.ba hc2
  obtain ⟨hd1, hd2⟩ := He.ba hd
  obtain ⟨d1, d2⟩ := He.ba hd1
  obtain ⟨d3, d4⟩ := He.ba hd2
  obtain ⟨e1, e2⟩ := He.ba he
  have fn : ∃ (oc : Value) (od : Option Addr) (kV doc pm : Value) (an : Option Addr) (cda : Addr) (ct : Value) (osl : Array (Option Value)) (cc : Addr) (ccl : Value) (cdd : Option Addr) (vs : Array Value) (ccs : Array (Option Value)) (file : Str) (tf : Tok) (cl : Value) (cld : Option Addr) (csl : Array (Option Value)),
      K.lookup (lotI K) = some ⟨oc, od, .func (PySem.W.ksFn "__init__" "InvalidLot.__init__" (defArgs s_InvalidLotI) (defBody s_InvalidLotI) (defScope s_InvalidLotI) .none kV doc pm an (.ref cda) ct cc), osl⟩ ∧ PySem.W.codeIn K (.ref cda) "InvalidLot.__init__" = true ∧
      K.lookup cda = some ⟨ccl, cdd, .fields vs, ccs⟩ ∧ vs[2]? = some (.str file tf) ∧ ((P.main.file : Str) == file) = true ∧ K.lookup cc = some ⟨cl, cld, .cell (some (.ref (lotC K))), csl⟩ := by
    unfold lotFnB at d2
    unfold lotV at hv
    split at d2
    · rename_i oc od fd osl ho
      rw [ho] at hv
      split at d2
      · rename_i x cc cda hcl hcd
        obtain ⟨h1, h2⟩ := He.ba d2
        obtain ⟨h3, h4⟩ := He.ba h1
        obtain ⟨h5, h6⟩ := He.ba h2
        obtain rfl := of_decide_eq_true h3
        obtain ⟨cl, cld, csl, h7⟩ := cellB_ok h4
        obtain ⟨ccl, cdd, vs, ccs, tf, h8, h9⟩ := fileB_ok h6
        obtain ⟨n1, n2, n3, n4, n5, n6, n7, n8, n9, n10, n11, n12, n13, n14, n15⟩ := fd
        dsimp only at hcl hcd
        subst hcl hcd
        have hv2 : (some (n1, n2, n3, n4, n5, n6, n8, n15) : LotV) = lotVal := hv
        unfold lotVal at hv2
        simp only [Option.some.injEq, Prod.mk.injEq] at hv2
        obtain ⟨g1, g2, g3, g4, g5, g6, g7, g8⟩ := hv2
        subst g1 g2 g3 g4 g5 g6 g7 g8
        exact ⟨oc, od, n9, n10, n11, n12, cda, n14, osl, cc, ccl, cdd, vs, ccs, file, tf, cl, cld, csl, ho, h5, h8, h9, hf, h7⟩
      · cases d2
    · cases d2
  exact ⟨⟨⟨lotClsB_ok a1, He.eqO_ok a2, of_decide_eq_true a3, of_decide_eq_true a4, b1⟩, fn, Option.isSome_iff_exists.mp b2, He.eqO_ok b3, of_decide_eq_true b4, of_decide_eq_true c1, He.eqO_ok c2, He.eqO_ok c3, He.eqO_ok c4, of_decide_eq_true d1, ht⟩,
    ⟨He.eqO_ok d3, He.eqO_ok d4, of_decide_eq_true a3, He.eqO_ok c3, e1, of_decide_eq_true e2⟩⟩
/-! ### the head's hook: the defs, the facts, the table of homes, InvalidLot -/
abbrev AlY : Type := He.AlX × LotV
def obsY (n : Nat) (fa : List He.Fa) (fn : List He.DefD) (tf : List He.Defn) (file : Str) (g : Addr → Option Obj) : AlY :=
  ((He.obsT fa fn [] (He.frT g (cStatics :: He.asD g n)), lotB (He.frT g (cStatics :: He.asD g n)) file && He.tabsB g tf (He.frT g (cStatics :: He.asD g n))), lotV (He.frT g (cStatics :: He.asD g n)))
structure SaysY (fa : List He.Fa) (fn : List He.DefD) (tf : List He.Defn) (file : Str) (w : World) (h : Heap) (K : PySem.W.Frag) : Prop where
  t : He.SaysT fa fn [] w K
  lot : lotB K file = true
  lotv : lotV K = lotVal
  hd : ∀ p ∈ tf, PySem.W.codeHdIn K (He.cT K p).1 (He.cT K p).2 = true
  out : ∀ p ∈ tf, K.lookup (He.cT K p).2 = none
  empty : ∀ p ∈ tf, h.get? (He.cT K p).2 = some { cls := .none, data := .fields #[] }
theorem saysY_of {n : Nat} {fa : List He.Fa} {fn : List He.DefD} {tf : List He.Defn} {file : Str} {w : World} {h : Heap} (e : obsY n fa fn tf file h.get? = (He.valX fn [] w, lotVal)) : SaysY fa fn tf file w h (He.frT h.get? (cStatics :: He.asD h.get? n)) := by
  have e1 := congrArg (fun z : AlY => z.1.1) e
  have e2 := congrArg (fun z : AlY => z.1.2) e
  have e3 := congrArg (fun z : AlY => z.2) e
  obtain ⟨q1, q2⟩ := He.ba (show (lotB (He.frT h.get? (cStatics :: He.asD h.get? n)) file && He.tabsB h.get? tf (He.frT h.get? (cStatics :: He.asD h.get? n))) = true from e2)
  have e3 : lotV (He.frT h.get? (cStatics :: He.asD h.get? n)) = lotVal := e3
  have e1 : He.obsT fa fn [] (He.frT h.get? (cStatics :: He.asD h.get? n)) = He.valT fn [] w := e1
  generalize eK : He.frT h.get? (cStatics :: He.asD h.get? n) = K at e1 e3 q1 q2
  have tab : ∀ p ∈ tf, PySem.W.codeHdIn K (He.cT K p).1 (He.cT K p).2 = true ∧ ∃ o, h.get? (He.cT K p).2 = some o ∧ He.emptyTab o = true := fun p hp => by
    obtain ⟨z1, z2⟩ := He.ba (List.all_eq_true.mp q2 p hp)
    refine ⟨z1, ?_⟩
    cases q : h.get? (He.cT K p).2 with
    | none =>
      rw [q] at z2
      cases z2
    | some o =>
      rw [q] at z2
      exact ⟨o, rfl, z2⟩
  refine ⟨e1, q1, e3, fun p hp => (tab p hp).1, fun p hp => ?_, fun p hp => ?_⟩
  · obtain ⟨_, o, z, y⟩ := tab p hp
    have := He.frT_none (as := cStatics :: He.asD h.get? n) z y
    rw [eK] at this
    exact this
  · obtain ⟨_, o, z, y⟩ := tab p hp
    rw [z, He.emptyTab_eq y]
def hookY (n : Nat) (fa : List He.Fa) (fn : List He.DefD) (tf : List He.Defn) (file : Str) : PySem.W.Hook where
  α := AlY
  obs := fun s => obsY n fa fn tf file s.heap.get?
  val := fun w => (He.valX fn [] w, lotVal)
  says := fun w h => ∃ K : PySem.W.Frag, K.In h ∧ SaysY fa fn tf file w h K
  of := fun _ _ e => ⟨_, He.frT_in, saysY_of e⟩
  keeps := fun _ _ _ ⟨K, hK, c⟩ k => ⟨K, PySem.W.Frag.In.keeps hK k, ⟨c.t, c.lot, c.lotv, c.hd, c.out, fun p hp => k _ _ (c.empty p hp)⟩⟩
theorem obsY_eq {n : Nat} {fa : List He.Fa} {fn : List He.DefD} {tf : List He.Defn} {file : Str} {g : Addr → Option Obj} {s : Shared} (h : ∀ a, g a = s.heap.get? a) : obsY n fa fn tf file g = (hookY n fa fn tf file).obs s := by
  have e : g = s.heap.get? := funext h
  subst e
  rfl
end K13
/-! K13E2 -/
set_option autoImplicit true
set_option Elab.async false
set_option linter.all false
set_option maxRecDepth 100000
set_option maxHeartbeats 4000000
set_option pp.maxSteps 600
namespace K13
open PySem PySem.Spec PyProof.Rows L2
def fnA : List He.DefD := [⟨("is_integer", none), "is_integer", "is_integer", defArgs s_is_integer, defBody s_is_integer, defScope s_is_integer, [], []⟩,
  ⟨("is_number", none), "is_number", "is_number", defArgs s_is_number, defBody s_is_number, defScope s_is_number, [], []⟩,
  ⟨("is_index", none), "is_index", "is_index", defArgs s_is_index, defBody s_is_index, defScope s_is_index, [], []⟩,
  ⟨("is_sequence", none), "is_sequence", "is_sequence", defArgs s_is_sequence, defBody s_is_sequence, defScope s_is_sequence, [], []⟩,
  ⟨("is_state_of", none), "is_state_of", "is_state_of", defArgs s_is_state_of, defBody s_is_state_of, defScope s_is_state_of, [], []⟩,
  ⟨("Store", some "__init__"), "__init__", "Store.__init__", defArgs s_StoreI, defBody s_StoreI, defScope s_StoreI, [], []⟩,
  ⟨("Store", some "found"), "found", "Store.found", defArgs s_Storefound, defBody s_Storefound, defScope s_Storefound, [], []⟩,
  ⟨("Store", some "index_of"), "index_of", "Store.index_of", defArgs s_Storeindex_of, defBody s_Storeindex_of, defScope s_Storeindex_of, [], []⟩,
  ⟨("checked_lot", none), "checked_lot", "checked_lot", defArgs s_checked_lot, defBody s_checked_lot, defScope s_checked_lot, [], []⟩,
  ⟨("other_keys", none), "other_keys", "other_keys", defArgs s_other_keys, defBody s_other_keys, defScope s_other_keys, [], []⟩,
  ⟨("seen_on", none), "seen_on", "seen_on", defArgs s_seen_on, defBody s_seen_on, defScope s_seen_on, [], []⟩,
  ⟨("near", none), "near", "near", defArgs s_near, defBody s_near, defScope s_near, [], []⟩,
  ⟨("changed_key", none), "changed_key", "changed_key", defArgs s_changed_key, defBody s_changed_key, defScope s_changed_key, [], []⟩,
  ⟨("find_near", none), "find_near", "find_near", defArgs s_find_near, defBody s_find_near, defScope s_find_near, [], []⟩,
  ⟨("near_by_keys", none), "near_by_keys", "near_by_keys", defArgs s_near_by_keys, defBody s_near_by_keys, defScope s_near_by_keys, [], []⟩,
  ⟨("homes_of", none), "homes_of", "homes_of", defArgs s_homes_of, defBody s_homes_of, defScope s_homes_of, [], []⟩,
  ⟨("homes", none), "homes", "homes", defArgs s_homes, defBody s_homes, defScope s_homes, [], []⟩,
  ⟨("islands", none), "islands", "islands", defArgs s_islands, defBody s_islands, defScope s_islands, [], []⟩,
  ⟨("island_question", none), "island_question", "island_question", defArgs s_island_question, defBody s_island_question, defScope s_island_question, [], []⟩,
  ⟨("whole", none), "whole", "whole", defArgs s_whole, defBody s_whole, defScope s_whole, [], []⟩,
  ⟨("is_whole", none), "is_whole", "is_whole", defArgs s_is_whole, defBody s_is_whole, defScope s_is_whole, [], []⟩]
def fnB : List He.DefD := [⟨("all_lots", none), "all_lots", "all_lots", defArgs s_all_lots, defBody s_all_lots, defScope s_all_lots, [], []⟩,
  ⟨("unwhole", none), "unwhole", "unwhole", defArgs s_unwhole, defBody s_unwhole, defScope s_unwhole, [], []⟩,
  ⟨("find_joined", none), "find_joined", "find_joined", defArgs s_find_joined, defBody s_find_joined, defScope s_find_joined, [], []⟩,
  ⟨("is_joined", none), "is_joined", "is_joined", defArgs s_is_joined, defBody s_is_joined, defScope s_is_joined, [], []⟩,
  ⟨("_law_draw", none), "_law_draw", "_law_draw", defArgs s_l_draw, defBody s_l_draw, defScope s_l_draw, [], []⟩,
  ⟨("_law_any", none), "_law_any", "_law_any", defArgs s_l_any, defBody s_l_any, defScope s_l_any, [], []⟩,
  ⟨("_law_of", none), "_law_of", "_law_of", defArgs s_l_of, defBody s_l_of, defScope s_l_of, [], []⟩,
  ⟨("_law_mixed", none), "_law_mixed", "_law_mixed", defArgs s_l_mixed, defBody s_l_mixed, defScope s_l_mixed, [], []⟩,
  ⟨("_law_all", none), "_law_all", "_law_all", defArgs s_l_all, defBody s_l_all, defScope s_l_all, [], []⟩,
  ⟨("_law_sizes", none), "_law_sizes", "_law_sizes", defArgs s_l_sizes, defBody s_l_sizes, defScope s_l_sizes, [], []⟩,
  ⟨("_law_store", none), "_law_store", "_law_store", defArgs s_l_store, defBody s_l_store, defScope s_l_store, [], []⟩,
  ⟨("_law_question", none), "_law_question", "_law_question", defArgs s_l_question, defBody s_l_question, defScope s_l_question, [], []⟩,
  ⟨("_law_lots", none), "_law_lots", "_law_lots", defArgs s_l_lots, defBody s_l_lots, defScope s_l_lots, [], []⟩,
  ⟨("_law_tells", none), "_law_tells", "_law_tells", defArgs s_l_tells, defBody s_l_tells, defScope s_l_tells, [], []⟩,
  ⟨("_law_beside", none), "_law_beside", "_law_beside", defArgs s_l_beside, defBody s_l_beside, defScope s_l_beside, [], []⟩,
  ⟨("_law_homes", none), "_law_homes", "_law_homes", defArgs s_l_homes, defBody s_l_homes, defScope s_l_homes, [], []⟩,
  ⟨("_law_given", none), "_law_given", "_law_given", defArgs s_l_given, defBody s_l_given, defScope s_l_given, [], []⟩,
  ⟨("_law_bad_lot", none), "_law_bad_lot", "_law_bad_lot", defArgs s_l_bad_lot, defBody s_l_bad_lot, defScope s_l_bad_lot, [], []⟩,
  ⟨("_law_refused", none), "_law_refused", "_law_refused", defArgs s_l_refused, defBody s_l_refused, defScope s_l_refused, [], []⟩,
  ⟨("_law_is_whole", none), "_law_is_whole", "_law_is_whole", defArgs s_l_is_whole, defBody s_l_is_whole, defScope s_l_is_whole, [], []⟩,
  ⟨("_law_question_right", none), "_law_question_right", "_law_question_right", defArgs s_l_question_right, defBody s_l_question_right, defScope s_l_question_right, [], []⟩,
  ⟨("law", none), "law", "law", defArgs s_law, defBody s_law, defScope s_law, [], []⟩]
def faA : List He.Fa := [.glo "is_integer", .glo "is_number", .glo "is_index", .glo "is_sequence", .glo "is_state_of", .glo "checked_lot", .glo "other_keys", .glo "seen_on", .glo "near", .glo "changed_key", .glo "find_near", .glo "near_by_keys", .glo "homes_of", .glo "homes", .glo "islands", .glo "island_question", .glo "whole", .glo "is_whole", .glo "all_lots", .glo "unwhole", .glo "find_joined"]
def faB : List He.Fa := [.glo "is_joined", .glo "_law_draw", .glo "_law_any", .glo "_law_of", .glo "_law_mixed", .glo "_law_all", .glo "_law_sizes", .glo "_law_store", .glo "_law_question", .glo "_law_lots", .glo "_law_tells", .glo "_law_beside", .glo "_law_homes", .glo "_law_given", .glo "_law_bad_lot", .glo "_law_refused", .glo "_law_is_whole", .glo "_law_question_right", .glo "law", .glo "Store", .glo "InvalidLot"]
def faC : List He.Fa := [.free "len", .free "isinstance", .free "int", .free "bool", .free "list", .free "tuple", .free "all", .free "zip", .free "enumerate", .free "sorted", .free "set", .free "range", .free "max", .free "min", .free "sum", .free "abs", .free "repr", .free "super", .free "ValueError"]
def faD : List He.Fa := [.cls "Store", .noat "Store" "key_count", .noat "Store" "sizes", .noat "Store" "states", .noat "Store" "_index", .noat "Store" "_found", .meth "Store" "found", .meth "Store" "index_of", .mkr "Store"]
def fnL : List He.DefD := fnA ++ fnB
def faL : List He.Fa := faA ++ (faB ++ (faC ++ faD))
def tfL : List He.Defn := [("homes", none)]
def fileL : Str := "/claim/cut.py"
end K13
/-! K13E3 -/
set_option autoImplicit true
set_option Elab.async false
set_option linter.all false
set_option maxRecDepth 100000
set_option maxHeartbeats 4000000
set_option pp.maxSteps 600
namespace K13
open PySem PySem.Spec PyProof.Rows L2
theorem cals_of {P : Program} {w : World} {K : PySem.W.Frag} {mg : Str → Option Value} {base h h1 : Heap} (X : K.In h) (G : h.Ns mainGlobals mg) (c : SaysY faL fnL tfL fileL w h1 K) (hf : ((P.main.file : Str) == fileL) = true) (ht : (P.main.scope.names.lookup ("super" : Str)).isSome = false)
    (TB : LamX.TabB base mg (He.cT K ("homes", none)).1 (He.cT K ("homes", none)).2) :
    Bt mg ∧ LawCals P w K mg base (He.ga K "Store") (lotC K) (He.cT K ("homes", none)).2 ∧ LawCals2 P w K mg base (He.ga K "Store") (lotC K) (He.cT K ("homes", none)).2 ∧ (∃ fd, FnP K "law" s_law (He.ga K "law") fd) ∧ mg "law" = some (.ref (He.ga K "law")) := by
  have cd := c.t.d
  obtain ⟨LF, LG⟩ := lot_facts (P := P) c.lot c.lotv hf ht
  have B : Bt mg := ⟨He.free_ok X G (cd.fact 42 (f := .free "len") rfl), He.free_ok X G (cd.fact 43 (f := .free "isinstance") rfl), He.free_ok X G (cd.fact 44 (f := .free "int") rfl), He.free_ok X G (cd.fact 45 (f := .free "bool") rfl), He.free_ok X G (cd.fact 46 (f := .free "list") rfl), He.free_ok X G (cd.fact 47 (f := .free "tuple") rfl), He.free_ok X G (cd.fact 48 (f := .free "all") rfl), He.free_ok X G (cd.fact 49 (f := .free "zip") rfl), He.free_ok X G (cd.fact 50 (f := .free "enumerate") rfl), He.free_ok X G (cd.fact 51 (f := .free "sorted") rfl), He.free_ok X G (cd.fact 52 (f := .free "set") rfl), He.free_ok X G (cd.fact 53 (f := .free "range") rfl), He.free_ok X G (cd.fact 54 (f := .free "max") rfl), He.free_ok X G (cd.fact 55 (f := .free "min") rfl), He.free_ok X G (cd.fact 56 (f := .free "sum") rfl), He.free_ok X G (cd.fact 57 (f := .free "abs") rfl), He.free_ok X G (cd.fact 58 (f := .free "repr") rfl), He.free_ok X G (cd.fact 59 (f := .free "super") rfl), He.free_ok X G (cd.fact 60 (f := .free "ValueError") rfl)⟩
  have sc : SC K (He.ga K "Store") := ⟨He.cls_ok (cd.fact 61 (f := .cls "Store") rfl), He.noat_ok (cd.fact 62 (f := .noat "Store" "key_count") rfl), He.noat_ok (cd.fact 63 (f := .noat "Store" "sizes") rfl), He.noat_ok (cd.fact 64 (f := .noat "Store" "states") rfl), He.noat_ok (cd.fact 65 (f := .noat "Store" "_index") rfl), He.noat_ok (cd.fact 66 (f := .noat "Store" "_found") rfl)⟩
  have mF := He.meth_ok (cd.fact 67 (f := .meth "Store" "found") rfl)
  have mX := He.meth_ok (cd.fact 68 (f := .meth "Store" "index_of") rfl)
  have mK := He.mkr_ok (cd.fact 69 (f := .mkr "Store") rfl)
  obtain ⟨d_is_integer, F_is_integer⟩ := cd.def_ 0 (d := ⟨("is_integer", none), "is_integer", "is_integer", defArgs s_is_integer, defBody s_is_integer, defScope s_is_integer, [], []⟩) rfl
  have F_is_integer : FnP K "is_integer" s_is_integer (He.ga K "is_integer") d_is_integer := F_is_integer
  obtain ⟨d_is_number, F_is_number⟩ := cd.def_ 1 (d := ⟨("is_number", none), "is_number", "is_number", defArgs s_is_number, defBody s_is_number, defScope s_is_number, [], []⟩) rfl
  have F_is_number : FnP K "is_number" s_is_number (He.ga K "is_number") d_is_number := F_is_number
  obtain ⟨d_is_index, F_is_index⟩ := cd.def_ 2 (d := ⟨("is_index", none), "is_index", "is_index", defArgs s_is_index, defBody s_is_index, defScope s_is_index, [], []⟩) rfl
  have F_is_index : FnP K "is_index" s_is_index (He.ga K "is_index") d_is_index := F_is_index
  obtain ⟨d_is_sequence, F_is_sequence⟩ := cd.def_ 3 (d := ⟨("is_sequence", none), "is_sequence", "is_sequence", defArgs s_is_sequence, defBody s_is_sequence, defScope s_is_sequence, [], []⟩) rfl
  have F_is_sequence : FnP K "is_sequence" s_is_sequence (He.ga K "is_sequence") d_is_sequence := F_is_sequence
  obtain ⟨d_is_state_of, F_is_state_of⟩ := cd.def_ 4 (d := ⟨("is_state_of", none), "is_state_of", "is_state_of", defArgs s_is_state_of, defBody s_is_state_of, defScope s_is_state_of, [], []⟩) rfl
  have F_is_state_of : FnP K "is_state_of" s_is_state_of (He.ga K "is_state_of") d_is_state_of := F_is_state_of
  obtain ⟨d_StoreI, F_StoreI⟩ := cd.def_ 5 (d := ⟨("Store", some "__init__"), "__init__", "Store.__init__", defArgs s_StoreI, defBody s_StoreI, defScope s_StoreI, [], []⟩) rfl
  have F_StoreI : FunD K "__init__" "Store.__init__" (defArgs s_StoreI) (defBody s_StoreI) (defScope s_StoreI) [] [] (He.ma K (He.ga K "Store") "__init__") d_StoreI := F_StoreI
  obtain ⟨d_Storefound, F_Storefound⟩ := cd.def_ 6 (d := ⟨("Store", some "found"), "found", "Store.found", defArgs s_Storefound, defBody s_Storefound, defScope s_Storefound, [], []⟩) rfl
  have F_Storefound : FunD K "found" "Store.found" (defArgs s_Storefound) (defBody s_Storefound) (defScope s_Storefound) [] [] (He.ma K (He.ga K "Store") "found") d_Storefound := F_Storefound
  obtain ⟨d_Storeindex_of, F_Storeindex_of⟩ := cd.def_ 7 (d := ⟨("Store", some "index_of"), "index_of", "Store.index_of", defArgs s_Storeindex_of, defBody s_Storeindex_of, defScope s_Storeindex_of, [], []⟩) rfl
  have F_Storeindex_of : FunD K "index_of" "Store.index_of" (defArgs s_Storeindex_of) (defBody s_Storeindex_of) (defScope s_Storeindex_of) [] [] (He.ma K (He.ga K "Store") "index_of") d_Storeindex_of := F_Storeindex_of
  obtain ⟨d_checked_lot, F_checked_lot⟩ := cd.def_ 8 (d := ⟨("checked_lot", none), "checked_lot", "checked_lot", defArgs s_checked_lot, defBody s_checked_lot, defScope s_checked_lot, [], []⟩) rfl
  have F_checked_lot : FnP K "checked_lot" s_checked_lot (He.ga K "checked_lot") d_checked_lot := F_checked_lot
  obtain ⟨d_other_keys, F_other_keys⟩ := cd.def_ 9 (d := ⟨("other_keys", none), "other_keys", "other_keys", defArgs s_other_keys, defBody s_other_keys, defScope s_other_keys, [], []⟩) rfl
  have F_other_keys : FnP K "other_keys" s_other_keys (He.ga K "other_keys") d_other_keys := F_other_keys
  obtain ⟨d_seen_on, F_seen_on⟩ := cd.def_ 10 (d := ⟨("seen_on", none), "seen_on", "seen_on", defArgs s_seen_on, defBody s_seen_on, defScope s_seen_on, [], []⟩) rfl
  have F_seen_on : FnP K "seen_on" s_seen_on (He.ga K "seen_on") d_seen_on := F_seen_on
  obtain ⟨d_near, F_near⟩ := cd.def_ 11 (d := ⟨("near", none), "near", "near", defArgs s_near, defBody s_near, defScope s_near, [], []⟩) rfl
  have F_near : FnP K "near" s_near (He.ga K "near") d_near := F_near
  obtain ⟨d_changed_key, F_changed_key⟩ := cd.def_ 12 (d := ⟨("changed_key", none), "changed_key", "changed_key", defArgs s_changed_key, defBody s_changed_key, defScope s_changed_key, [], []⟩) rfl
  have F_changed_key : FnP K "changed_key" s_changed_key (He.ga K "changed_key") d_changed_key := F_changed_key
  obtain ⟨d_find_near, F_find_near⟩ := cd.def_ 13 (d := ⟨("find_near", none), "find_near", "find_near", defArgs s_find_near, defBody s_find_near, defScope s_find_near, [], []⟩) rfl
  have F_find_near : FnP K "find_near" s_find_near (He.ga K "find_near") d_find_near := F_find_near
  obtain ⟨d_near_by_keys, F_near_by_keys⟩ := cd.def_ 14 (d := ⟨("near_by_keys", none), "near_by_keys", "near_by_keys", defArgs s_near_by_keys, defBody s_near_by_keys, defScope s_near_by_keys, [], []⟩) rfl
  have F_near_by_keys : FnP K "near_by_keys" s_near_by_keys (He.ga K "near_by_keys") d_near_by_keys := F_near_by_keys
  obtain ⟨d_homes_of, F_homes_of⟩ := cd.def_ 15 (d := ⟨("homes_of", none), "homes_of", "homes_of", defArgs s_homes_of, defBody s_homes_of, defScope s_homes_of, [], []⟩) rfl
  have F_homes_of : FnP K "homes_of" s_homes_of (He.ga K "homes_of") d_homes_of := F_homes_of
  obtain ⟨d_homes, F_homes⟩ := cd.def_ 16 (d := ⟨("homes", none), "homes", "homes", defArgs s_homes, defBody s_homes, defScope s_homes, [], []⟩) rfl
  have F_homes : FnP K "homes" s_homes (He.ga K "homes") d_homes := F_homes
  obtain ⟨d_islands, F_islands⟩ := cd.def_ 17 (d := ⟨("islands", none), "islands", "islands", defArgs s_islands, defBody s_islands, defScope s_islands, [], []⟩) rfl
  have F_islands : FnP K "islands" s_islands (He.ga K "islands") d_islands := F_islands
  obtain ⟨d_island_question, F_island_question⟩ := cd.def_ 18 (d := ⟨("island_question", none), "island_question", "island_question", defArgs s_island_question, defBody s_island_question, defScope s_island_question, [], []⟩) rfl
  have F_island_question : FnP K "island_question" s_island_question (He.ga K "island_question") d_island_question := F_island_question
  obtain ⟨d_whole, F_whole⟩ := cd.def_ 19 (d := ⟨("whole", none), "whole", "whole", defArgs s_whole, defBody s_whole, defScope s_whole, [], []⟩) rfl
  have F_whole : FnP K "whole" s_whole (He.ga K "whole") d_whole := F_whole
  obtain ⟨d_is_whole, F_is_whole⟩ := cd.def_ 20 (d := ⟨("is_whole", none), "is_whole", "is_whole", defArgs s_is_whole, defBody s_is_whole, defScope s_is_whole, [], []⟩) rfl
  have F_is_whole : FnP K "is_whole" s_is_whole (He.ga K "is_whole") d_is_whole := F_is_whole
  obtain ⟨d_all_lots, F_all_lots⟩ := cd.def_ 21 (d := ⟨("all_lots", none), "all_lots", "all_lots", defArgs s_all_lots, defBody s_all_lots, defScope s_all_lots, [], []⟩) rfl
  have F_all_lots : FnP K "all_lots" s_all_lots (He.ga K "all_lots") d_all_lots := F_all_lots
  obtain ⟨d_unwhole, F_unwhole⟩ := cd.def_ 22 (d := ⟨("unwhole", none), "unwhole", "unwhole", defArgs s_unwhole, defBody s_unwhole, defScope s_unwhole, [], []⟩) rfl
  have F_unwhole : FnP K "unwhole" s_unwhole (He.ga K "unwhole") d_unwhole := F_unwhole
  obtain ⟨d_find_joined, F_find_joined⟩ := cd.def_ 23 (d := ⟨("find_joined", none), "find_joined", "find_joined", defArgs s_find_joined, defBody s_find_joined, defScope s_find_joined, [], []⟩) rfl
  have F_find_joined : FnP K "find_joined" s_find_joined (He.ga K "find_joined") d_find_joined := F_find_joined
  obtain ⟨d_is_joined, F_is_joined⟩ := cd.def_ 24 (d := ⟨("is_joined", none), "is_joined", "is_joined", defArgs s_is_joined, defBody s_is_joined, defScope s_is_joined, [], []⟩) rfl
  have F_is_joined : FnP K "is_joined" s_is_joined (He.ga K "is_joined") d_is_joined := F_is_joined
  obtain ⟨d_l_draw, F_l_draw⟩ := cd.def_ 25 (d := ⟨("_law_draw", none), "_law_draw", "_law_draw", defArgs s_l_draw, defBody s_l_draw, defScope s_l_draw, [], []⟩) rfl
  have F_l_draw : FnP K "_law_draw" s_l_draw (He.ga K "_law_draw") d_l_draw := F_l_draw
  obtain ⟨d_l_any, F_l_any⟩ := cd.def_ 26 (d := ⟨("_law_any", none), "_law_any", "_law_any", defArgs s_l_any, defBody s_l_any, defScope s_l_any, [], []⟩) rfl
  have F_l_any : FnP K "_law_any" s_l_any (He.ga K "_law_any") d_l_any := F_l_any
  obtain ⟨d_l_of, F_l_of⟩ := cd.def_ 27 (d := ⟨("_law_of", none), "_law_of", "_law_of", defArgs s_l_of, defBody s_l_of, defScope s_l_of, [], []⟩) rfl
  have F_l_of : FnP K "_law_of" s_l_of (He.ga K "_law_of") d_l_of := F_l_of
  obtain ⟨d_l_mixed, F_l_mixed⟩ := cd.def_ 28 (d := ⟨("_law_mixed", none), "_law_mixed", "_law_mixed", defArgs s_l_mixed, defBody s_l_mixed, defScope s_l_mixed, [], []⟩) rfl
  have F_l_mixed : FnP K "_law_mixed" s_l_mixed (He.ga K "_law_mixed") d_l_mixed := F_l_mixed
  obtain ⟨d_l_all, F_l_all⟩ := cd.def_ 29 (d := ⟨("_law_all", none), "_law_all", "_law_all", defArgs s_l_all, defBody s_l_all, defScope s_l_all, [], []⟩) rfl
  have F_l_all : FnP K "_law_all" s_l_all (He.ga K "_law_all") d_l_all := F_l_all
  obtain ⟨d_l_sizes, F_l_sizes⟩ := cd.def_ 30 (d := ⟨("_law_sizes", none), "_law_sizes", "_law_sizes", defArgs s_l_sizes, defBody s_l_sizes, defScope s_l_sizes, [], []⟩) rfl
  have F_l_sizes : FnP K "_law_sizes" s_l_sizes (He.ga K "_law_sizes") d_l_sizes := F_l_sizes
  obtain ⟨d_l_store, F_l_store⟩ := cd.def_ 31 (d := ⟨("_law_store", none), "_law_store", "_law_store", defArgs s_l_store, defBody s_l_store, defScope s_l_store, [], []⟩) rfl
  have F_l_store : FnP K "_law_store" s_l_store (He.ga K "_law_store") d_l_store := F_l_store
  obtain ⟨d_l_question, F_l_question⟩ := cd.def_ 32 (d := ⟨("_law_question", none), "_law_question", "_law_question", defArgs s_l_question, defBody s_l_question, defScope s_l_question, [], []⟩) rfl
  have F_l_question : FnP K "_law_question" s_l_question (He.ga K "_law_question") d_l_question := F_l_question
  obtain ⟨d_l_lots, F_l_lots⟩ := cd.def_ 33 (d := ⟨("_law_lots", none), "_law_lots", "_law_lots", defArgs s_l_lots, defBody s_l_lots, defScope s_l_lots, [], []⟩) rfl
  have F_l_lots : FnP K "_law_lots" s_l_lots (He.ga K "_law_lots") d_l_lots := F_l_lots
  obtain ⟨d_l_tells, F_l_tells⟩ := cd.def_ 34 (d := ⟨("_law_tells", none), "_law_tells", "_law_tells", defArgs s_l_tells, defBody s_l_tells, defScope s_l_tells, [], []⟩) rfl
  have F_l_tells : FnP K "_law_tells" s_l_tells (He.ga K "_law_tells") d_l_tells := F_l_tells
  obtain ⟨d_l_beside, F_l_beside⟩ := cd.def_ 35 (d := ⟨("_law_beside", none), "_law_beside", "_law_beside", defArgs s_l_beside, defBody s_l_beside, defScope s_l_beside, [], []⟩) rfl
  have F_l_beside : FnP K "_law_beside" s_l_beside (He.ga K "_law_beside") d_l_beside := F_l_beside
  obtain ⟨d_l_homes, F_l_homes⟩ := cd.def_ 36 (d := ⟨("_law_homes", none), "_law_homes", "_law_homes", defArgs s_l_homes, defBody s_l_homes, defScope s_l_homes, [], []⟩) rfl
  have F_l_homes : FnP K "_law_homes" s_l_homes (He.ga K "_law_homes") d_l_homes := F_l_homes
  obtain ⟨d_l_given, F_l_given⟩ := cd.def_ 37 (d := ⟨("_law_given", none), "_law_given", "_law_given", defArgs s_l_given, defBody s_l_given, defScope s_l_given, [], []⟩) rfl
  have F_l_given : FnP K "_law_given" s_l_given (He.ga K "_law_given") d_l_given := F_l_given
  obtain ⟨d_l_bad_lot, F_l_bad_lot⟩ := cd.def_ 38 (d := ⟨("_law_bad_lot", none), "_law_bad_lot", "_law_bad_lot", defArgs s_l_bad_lot, defBody s_l_bad_lot, defScope s_l_bad_lot, [], []⟩) rfl
  have F_l_bad_lot : FnP K "_law_bad_lot" s_l_bad_lot (He.ga K "_law_bad_lot") d_l_bad_lot := F_l_bad_lot
  obtain ⟨d_l_refused, F_l_refused⟩ := cd.def_ 39 (d := ⟨("_law_refused", none), "_law_refused", "_law_refused", defArgs s_l_refused, defBody s_l_refused, defScope s_l_refused, [], []⟩) rfl
  have F_l_refused : FnP K "_law_refused" s_l_refused (He.ga K "_law_refused") d_l_refused := F_l_refused
  obtain ⟨d_l_is_whole, F_l_is_whole⟩ := cd.def_ 40 (d := ⟨("_law_is_whole", none), "_law_is_whole", "_law_is_whole", defArgs s_l_is_whole, defBody s_l_is_whole, defScope s_l_is_whole, [], []⟩) rfl
  have F_l_is_whole : FnP K "_law_is_whole" s_l_is_whole (He.ga K "_law_is_whole") d_l_is_whole := F_l_is_whole
  obtain ⟨d_l_question_right, F_l_question_right⟩ := cd.def_ 41 (d := ⟨("_law_question_right", none), "_law_question_right", "_law_question_right", defArgs s_l_question_right, defBody s_l_question_right, defScope s_l_question_right, [], []⟩) rfl
  have F_l_question_right : FnP K "_law_question_right" s_l_question_right (He.ga K "_law_question_right") d_l_question_right := F_l_question_right
  obtain ⟨d_law, F_law⟩ := cd.def_ 42 (d := ⟨("law", none), "law", "law", defArgs s_law, defBody s_law, defScope s_law, [], []⟩) rfl
  have F_law : FnP K "law" s_law (He.ga K "law") d_law := F_law
  have g_is_integer := He.glo_ok X G (cd.fact 0 (f := .glo "is_integer") rfl)
  have g_is_number := He.glo_ok X G (cd.fact 1 (f := .glo "is_number") rfl)
  have g_is_index := He.glo_ok X G (cd.fact 2 (f := .glo "is_index") rfl)
  have g_is_sequence := He.glo_ok X G (cd.fact 3 (f := .glo "is_sequence") rfl)
  have g_is_state_of := He.glo_ok X G (cd.fact 4 (f := .glo "is_state_of") rfl)
  have g_checked_lot := He.glo_ok X G (cd.fact 5 (f := .glo "checked_lot") rfl)
  have g_other_keys := He.glo_ok X G (cd.fact 6 (f := .glo "other_keys") rfl)
  have g_seen_on := He.glo_ok X G (cd.fact 7 (f := .glo "seen_on") rfl)
  have g_near := He.glo_ok X G (cd.fact 8 (f := .glo "near") rfl)
  have g_changed_key := He.glo_ok X G (cd.fact 9 (f := .glo "changed_key") rfl)
  have g_find_near := He.glo_ok X G (cd.fact 10 (f := .glo "find_near") rfl)
  have g_near_by_keys := He.glo_ok X G (cd.fact 11 (f := .glo "near_by_keys") rfl)
  have g_homes_of := He.glo_ok X G (cd.fact 12 (f := .glo "homes_of") rfl)
  have g_homes := He.glo_ok X G (cd.fact 13 (f := .glo "homes") rfl)
  have g_islands := He.glo_ok X G (cd.fact 14 (f := .glo "islands") rfl)
  have g_island_question := He.glo_ok X G (cd.fact 15 (f := .glo "island_question") rfl)
  have g_whole := He.glo_ok X G (cd.fact 16 (f := .glo "whole") rfl)
  have g_is_whole := He.glo_ok X G (cd.fact 17 (f := .glo "is_whole") rfl)
  have g_all_lots := He.glo_ok X G (cd.fact 18 (f := .glo "all_lots") rfl)
  have g_unwhole := He.glo_ok X G (cd.fact 19 (f := .glo "unwhole") rfl)
  have g_find_joined := He.glo_ok X G (cd.fact 20 (f := .glo "find_joined") rfl)
  have g_is_joined := He.glo_ok X G (cd.fact 21 (f := .glo "is_joined") rfl)
  have g_l_draw := He.glo_ok X G (cd.fact 22 (f := .glo "_law_draw") rfl)
  have g_l_any := He.glo_ok X G (cd.fact 23 (f := .glo "_law_any") rfl)
  have g_l_of := He.glo_ok X G (cd.fact 24 (f := .glo "_law_of") rfl)
  have g_l_mixed := He.glo_ok X G (cd.fact 25 (f := .glo "_law_mixed") rfl)
  have g_l_all := He.glo_ok X G (cd.fact 26 (f := .glo "_law_all") rfl)
  have g_l_sizes := He.glo_ok X G (cd.fact 27 (f := .glo "_law_sizes") rfl)
  have g_l_store := He.glo_ok X G (cd.fact 28 (f := .glo "_law_store") rfl)
  have g_l_question := He.glo_ok X G (cd.fact 29 (f := .glo "_law_question") rfl)
  have g_l_lots := He.glo_ok X G (cd.fact 30 (f := .glo "_law_lots") rfl)
  have g_l_tells := He.glo_ok X G (cd.fact 31 (f := .glo "_law_tells") rfl)
  have g_l_beside := He.glo_ok X G (cd.fact 32 (f := .glo "_law_beside") rfl)
  have g_l_homes := He.glo_ok X G (cd.fact 33 (f := .glo "_law_homes") rfl)
  have g_l_given := He.glo_ok X G (cd.fact 34 (f := .glo "_law_given") rfl)
  have g_l_bad_lot := He.glo_ok X G (cd.fact 35 (f := .glo "_law_bad_lot") rfl)
  have g_l_refused := He.glo_ok X G (cd.fact 36 (f := .glo "_law_refused") rfl)
  have g_l_is_whole := He.glo_ok X G (cd.fact 37 (f := .glo "_law_is_whole") rfl)
  have g_l_question_right := He.glo_ok X G (cd.fact 38 (f := .glo "_law_question_right") rfl)
  have g_law := He.glo_ok X G (cd.fact 39 (f := .glo "law") rfl)
  have g_Store := He.glo_ok X G (cd.fact 40 (f := .glo "Store") rfl)
  have g_InvalidLot := He.glo_ok X G (cd.fact 41 (f := .glo "InvalidLot") rfl)
  have L : PmkLot P w K mg base (lotC K) := pmk_lot LF g_InvalidLot B.super
  have k_int := cal_is_integer (P := P) (w := w) (base := base) B F_is_integer g_is_integer
  have k_num := cal_is_number B k_int F_is_number g_is_number
  have k_ix := cal_is_index B k_num F_is_index g_is_index
  have k_seq := cal_is_sequence (P := P) (w := w) (base := base) B F_is_sequence g_is_sequence
  have k_so := cal_is_state_of B k_seq k_ix F_is_state_of g_is_state_of
  have sI := cal_StoreI (P0 := (He.cT K ("homes", none)).2) B sc k_seq k_num k_so F_StoreI
  have k_chk := cal_checked_lot B sc L k_seq k_ix F_checked_lot g_checked_lot
  have k_oth := cal_other_keys B sc k_chk F_other_keys g_other_keys
  have k_seen := cal_seen_on (P := P) (w := w) (base := base) B F_seen_on g_seen_on
  have k_io := cal_index_of (P := P) (w := w) (base := base) B sc F_Storeindex_of mX
  have k_near := cal_near B sc k_io F_near g_near
  have k_chg := cal_changed_key (P := P) (w := w) (base := base) B F_changed_key g_changed_key
  have k_fn := cal_find_near B sc k_near k_chg F_find_near g_find_near
  have f_near : CalM P w K mg base 4 (He.ga K "Store") "found" (spFound w (He.ga K "Store") (He.ga K "find_near") (spFindNear w (He.ga K "Store"))) := by
    obtain ⟨f, fd, ps, W, hm, kp, bw, _⟩ := k_fn.ex
    rw [g_find_near] at hm
    cases hm
    exact cal_found B sc W kp bw F_Storefound mF
  have k_nbk := cal_near_by_keys B sc g_find_near f_near F_near_by_keys g_near_by_keys
  have k_ho := cal_homes_of B sc k_nbk F_homes_of g_homes_of
  have hcd : ∀ {oc : Value} {od : Option Addr} {osl : Array (Option Value)} {dV kV doc pm cdv ct : Value} {an : Option Addr}, K.lookup (He.ga K "homes") = some ⟨oc, od, .func (PySem.W.fnOf "homes" "homes" (defArgs s_homes) (defBody s_homes) (defScope s_homes) dV kV doc pm an cdv ct), osl⟩ → ∃ a, cdv = .ref a ∧ LamX.TabB base mg a (He.cT K ("homes", none)).2 := by
    intro oc od osl dV kV doc pm cdv ct an lk
    obtain ⟨oc2, od2, dV2, kV2, doc2, pm2, an2, cdv2, ct2, osl2, e2, lk2, hc2, _⟩ := F_homes.ex
    rw [lk, e2] at lk2
    cases lk2
    obtain ⟨a, rfl⟩ := He.codeIn_ref hc2
    refine ⟨a, rfl, ?_⟩
    have e := He.codeOf_eq (p := ("homes", none)) lk rfl
    have e3 : (He.cT K ("homes", none)).1 = a := e
    rw [← e3]
    exact TB
  have k_hs := cal_homes B sc k_ho F_Storefound mF F_homes g_homes hcd
  have k_isl := cal_islands B k_chk k_hs F_islands g_islands
  have k_iq := cal_island_question B sc k_chk k_hs F_island_question g_island_question
  have k_wh := cal_whole B sc k_hs k_oth k_seen F_whole g_whole
  have k_isw := cal_is_whole k_chk k_wh F_is_whole g_is_whole
  have k_al := cal_all_lots (P := P) (w := w) (base := base) B sc F_all_lots g_all_lots
  have k_unw := cal_unwhole B sc k_al k_wh F_unwhole g_unwhole
  have k_fj := cal_find_joined B sc k_al k_wh F_find_joined g_find_joined
  have f_join : CalM P w K mg base 12 (He.ga K "Store") "found" (spFound w (He.ga K "Store") (He.ga K "find_joined") (spJoinedW w (He.ga K "Store") (He.cT K ("homes", none)).2)) := by
    obtain ⟨f, fd, ps, W, hm, kp, bw, _⟩ := k_fj.ex
    rw [g_find_joined] at hm
    cases hm
    exact cal_found B sc W kp bw F_Storefound mF
  have k_ij := cal_is_joined sc g_find_joined f_join F_is_joined g_is_joined
  have l_draw := cal_l_draw (P := P) (w := w) (base := base) B F_l_draw g_l_draw
  have l_any := cal_l_any (P := P) (w := w) (base := base) B F_l_any g_l_any
  have l_of := cal_l_of B l_any F_l_of g_l_of
  have l_mixed := cal_l_mixed B l_any F_l_mixed g_l_mixed
  have l_all := cal_l_all (P := P) (w := w) (base := base) B F_l_all g_l_all
  have l_sizes := cal_l_sizes B l_of F_l_sizes g_l_sizes
  have l_store := cal_l_store B l_any l_of l_all l_sizes F_l_store g_l_store
  have l_quest := cal_l_question B l_any l_of F_l_question g_l_question
  have l_lots := cal_l_lots (P := P) (w := w) (base := base) B F_l_lots g_l_lots
  have l_tells := tells2 (cal_l_tells (P := P) (w := w) (base := base) B F_l_tells g_l_tells)
  have l_beside := cal_l_beside (P := P) (w := w) (base := base) B F_l_beside g_l_beside
  have l_homes := cal_l_homes (P := P) (w := w) (base := base) B F_l_homes g_l_homes
  have l_given := cal_l_given B l_any l_of l_mixed F_l_given g_l_given
  have l_bad := cal_l_bad_lot B l_any l_of l_mixed F_l_bad_lot g_l_bad_lot
  have l_ref := cal_l_refused LG g_InvalidLot k_isl k_iq k_isw F_islands g_islands F_island_question g_island_question F_is_whole g_is_whole F_l_refused g_l_refused
  have l_isw := lwhole2 (cal_l_is_whole (P := P) (w := w) (base := base) B F_l_is_whole g_l_is_whole)
  have l_qr := cal_l_question_right (P := P) (w := w) (base := base) B F_l_question_right g_l_question_right
  exact ⟨B, ⟨l_mixed, l_quest, l_qr, l_tells, l_homes, l_isw, k_isl, k_iq, k_isw⟩,
    ⟨l_draw, l_store, l_given, l_beside, l_lots, k_unw, ⟨_, _, F_unwhole, g_unwhole⟩, k_ij, l_bad, l_ref, ⟨_, _, mK, sI, FunD.bindsN F_StoreI (fun _ _ _ _ _ _ us hl => match us, hl with | [_, _, _], _ => rfl)⟩, g_Store⟩, ⟨_, F_law⟩, g_law⟩
end K13
/-! K13E4 -/
set_option autoImplicit true
set_option Elab.async false
set_option linter.all false
set_option maxRecDepth 100000
set_option maxHeartbeats 4000000
set_option pp.maxSteps 900
namespace K13
open PySem PySem.Spec PyProof.Rows L2
/-! ### the law is called where nothing is under way: its body is walked at that place alone, as repr wants to know of no guard -/
section
variable {P : Program} {w : World} {K : PySem.W.Frag} {mg mb : Str → Option Value} {fa a cd T C CI : Addr} {fd : FuncData} {s₁ : Shared} {vs : List Value} {ns : List Int}
/-- what is tracked at the entry: the table, and the script unless it is an object of the module -/
def entH (K : PySem.W.Frag) (T a : Addr) (ob : Obj) (xs : List V) : Hp := fun b => if b = T then some (.tbl #[]) else if b = a ∧ K.lookup a = none then some (.frz ob (.lst xs)) else none
theorem entH_T {ob : Obj} {xs : List V} : entH K T a ob xs T = some (.tbl #[]) := if_pos rfl
theorem entH_a {ob : Obj} {xs : List V} (n : a ≠ T) (hk : K.lookup a = none) : entH K T a ob xs a = some (.frz ob (.lst xs)) := by
  unfold entH
  rw [if_neg n, if_pos ⟨rfl, hk⟩]
theorem entH_some {ob : Obj} {xs : List V} {b : Addr} {u : HO} (h : entH K T a ob xs b = some u) : (b = T ∧ u = .tbl #[]) ∨ (b = a ∧ K.lookup a = none ∧ u = .frz ob (.lst xs)) := by
  unfold entH at h
  split at h
  · rename_i e
    exact .inl ⟨e, (Option.some.inj h).symm⟩
  · split at h
    · rename_i e
      exact .inr ⟨e.1, e.2, (Option.some.inj h).symm⟩
    · cases h
theorem law_end (KX : K.In s₁.heap) (hns : s₁.heap.Ns mainGlobals mg) (hb : s₁.heap.Ns builtinsNs mb) (hbb : ∀ x : Str, x ≠ "__name__" → mb x = bootBuiltins x) (hlim : s₁.heap.NoLimit) (hg : s₁.gens = #[])
    (hT : s₁.heap.get? T = some { cls := .none, data := .fields #[] }) (nT : K.lookup T = none) (hC : PySem.W.CodeHd s₁.heap cd T)
    (hbm : ∃ (bm : Addr) (ob : Obj), mg "__builtins__" = some (.ref bm) ∧ bm ≠ builtinsNs ∧ s₁.heap.get? bm = some ob ∧ ob.cls = .type "module" ∧ ob.dict = some builtinsNs ∧ ob.data = .plain)
    (ha : s₁.heap.get? a = some { cls := .type "list", data := .seq vs.toArray }) (hi : IntsAre vs ns) (hl : ns.length ≤ sizeLine) (Fl : FnP K "law" s_law fa fd)
    (all : ∀ base : Heap, K.In base → base.Ns mainGlobals mg → LamX.TabB base mg cd T → Bt mg ∧ LawCals P w K mg base C CI T ∧ LawCals2 P w K mg base C CI T) :
    codeAny (model P w) callerA (.call (.ref fa) ⟨[.ref a], []⟩) (fun r s' => r = .ok (.ret (.bool true)) ∧ OldK s₁.heap s'.heap ∧ s'.os = s₁.os ∧ AllBare s'.gens) s₁ := by
  have rv := vals_ints hi
  have lv := hi.length
  have nTa : a ≠ T := fun e => by
    rw [e, hT] at ha
    have := congrArg Obj.data (Option.some.inj ha)
    cases this
  generalize eH : entH K T a { cls := .type "list", data := .seq vs.toArray } (iV ns) = H
  have Hin : ∀ {b : Addr} {u : HO}, H b = some u → (b = T ∧ u = .tbl #[]) ∨ (b = a ∧ K.lookup a = none ∧ u = .frz { cls := .type "list", data := .seq vs.toArray } (.lst (iV ns))) := fun {b u} e => entH_some (by rw [eH]; exact e)
  have HT : H T = some (.tbl #[]) := by rw [← eH]; exact entH_T
  have hok : HOk P w H s₁.heap := fun b u e => by
    rcases Hin e with ⟨rfl, rfl⟩ | ⟨rfl, _, rfl⟩
    · exact hT
    · exact ⟨ha, by rw [iV_len]; exact hl, vs, _, rv, ha⟩
  -- an object that is neither a written list nor a table is not tracked
  have untr : ∀ {b : Addr} {o : Obj}, s₁.heap.get? b = some o → (∀ xs n, o.data ≠ .seq xs n) → (∀ xs, o.data = .fields xs → xs ≠ #[]) → H b = none := fun {b o} e h1 h2 => by
    cases q : H b with
    | none => rfl
    | some u =>
      rcases Hin q with ⟨rfl, _⟩ | ⟨rfl, _, _⟩
      · rw [hT] at e
        cases e
        exact absurd rfl (h2 _ rfl)
      · rw [ha] at e
        cases e
        exact absurd rfl (h1 _ _)
  have inB : ∀ {b : Addr} {o : Obj}, s₁.heap.get? b = some o → H b = none → (hidT s₁.heap H).get? b = some o := fun e n => hidT_get e n
  have nsB : ∀ {b : Addr} {m : Str → Option Value}, s₁.heap.Ns b m → (hidT s₁.heap H).Ns b m := fun {b m} ⟨o, es, ep, e, hd, r⟩ =>
    ⟨o, es, ep, inB e (untr e (fun _ _ z => by rw [hd] at z; cases z) fun _ z => by rw [hd] at z; cases z), hd, r⟩
  have KB : K.In (hidT s₁.heap H) := fun b o e => inB (KX b o e) (by
    cases q : H b with
    | none => rfl
    | some u =>
      rcases Hin q with ⟨rfl, _⟩ | ⟨rfl, hk, _⟩
      · rw [nT] at e
        cases e
      · rw [hk] at e
        cases e)
  have TB : LamX.TabB (hidT s₁.heap H) mg cd T := by
    refine ⟨?_, ?_, fun e => ?_⟩
    · obtain ⟨o, us, file, tf, flags, tg, inF, text, tt, e1, r1, r2, r3, r⟩ := hC
      refine ⟨o, us, file, tf, flags, tg, inF, text, tt, inB e1 (untr e1 (fun _ _ z => ?_) fun xs z q => ?_), r1, r2, r3, r⟩
      · rw [r2] at z
        cases z
      · rw [r2] at z
        cases z
        rw [q] at r3
        simp at r3
    · obtain ⟨bm, ob, b1, b2, b3, b4, b5, b6⟩ := hbm
      refine ⟨bm, ob, b1, b2, fun e => ?_, fun e => ?_, inB b3 (untr b3 (fun _ _ z => ?_) fun _ z => ?_), b4, b5, b6⟩
      · obtain ⟨o, es, ep, e1, hd, _⟩ := hns
        rw [e, e1] at b3
        cases b3
        rw [hd] at b6
        cases b6
      · rw [e, hT] at b3
        cases b3
        cases b6
      · rw [b6] at z
        cases z
      · rw [b6] at z
        cases z
    · obtain ⟨o, es, ep, e1, hd, _⟩ := hns
      rw [e, hT] at e1
      cases e1
      cases hd
  have e0 : Env0 P w K mg (hidT s₁.heap H) callerA [] s₁ H :=
    ⟨rfl, ⟨KB, nsB hns, ⟨mb, nsB hb, hbb⟩, let ⟨mc, h1, h2⟩ := hlim; ⟨mc, nsB h1, h2⟩⟩, fun b o e => of_hidT e, Nat.le_of_eq (hidT_size _ _), trivial, fun b hb => absurd (show b ∈ ([] : List Addr) from hb) List.not_mem_nil, hok, .of_eq hg⟩
  have hS : SqL K H a (iV ns) := by
    cases hk : K.lookup a with
    | none => exact .inl (.inr ⟨_, by rw [← eH]; exact entH_a nTa hk⟩)
    | some o =>
      have e := KX a o hk
      rw [ha] at e
      cases e
      exact .inr ⟨_, vs.toArray, _, hk, rfl, rfl, rfl, by rw [List.size_toArray, lv]; exact hl, rv⟩
  have htab : LamX.TabS H T lamQ := ⟨#[], HT, trivial, fun _ _ z => nomatch z⟩
  obtain ⟨B, c1, c2⟩ := all _ KB (nsB hns) TB
  -- the call
  obtain ⟨oc, od, dV, kV, doc, pm, an, cdv, ct, osl, efd, lk, hcd, hdf, _⟩ := id Fl.ex
  have bt := FunD.bindsA (ps := ["_law_script"]) Fl (fun _ _ _ _ _ _ us hl => match us, hl with | [_], _ => rfl) s₁ [.ref a] rfl
  rw [efd] at bt lk
  have room : Room 14 callerA := ⟨rfl, by decide, by decide⟩
  have ro : Room 13 (LX P w K mg (hidT s₁.heap H) fa cdv callerA [] s₁ H (fun _ _ _ => False)).A := room.deeper _
  obtain ⟨t, ht, hread⟩ := law_ok (f := fa) (cdv := cdv) (A := callerA) (outer := []) (s := s₁) (H0 := H) (E := fun _ _ _ => False) B c1 c2 ro rfl
  refine codeAny_call_function room.depth (KX _ _ lk) rfl sc_law.co sc_law.gen rfl (PySem.W.codeRec_of KX hcd) (bt _ _ _ _ ?_)
  refine wpAny_newFunctionEnv_cells sc_law.kind (fun y hy => ?_) fun env he s2 x => ?_
  · obtain rfl : y = (Str.ofString "_law_script", Value.ref a) := by simpa using hy
    exact .inl rfl
  subst he
  refine ⟨hlim.keeps x.toInCall.keep, codeAny_func ?_⟩
  have I : Inv (cxOf (L2.CX P w) P w K mg (hidT s₁.heap H) N_law "law" (defScope s_law) fa cdv callerA [] s₁ H (fun _ _ _ => False)) [] (start N_law [.ref a]) H s2 := inv_start (us := [.ref a]) sc_law rfl e0 rfl (.cons rfl .nil) x
  refine wpAny_mono (ht.run [] s2 (start N_law [.ref a]) H { nx := fun _ _ => False, rt := fun v _ => v = .bl true } (I.wish _) (hread _ H a ns hS htab fun _ => rfl)) (fun fl s' hs => ?_) fun e s' hs => hs.elim
  cases fl with
  | next =>
    obtain ⟨_, _, _, z⟩ := hs
    exact z.elim
  | brk =>
    obtain ⟨_, _, _, z⟩ := hs
    exact z.elim
  | cont =>
    obtain ⟨_, _, _, z⟩ := hs
    exact z.elim
  | ret u =>
    obtain ⟨v, σ', H', J, r, rfl⟩ := hs
    obtain rfl : u = Value.bool true := r
    have un : Un (frs []) [] H H' s₁.heap s'.heap := J.base
    have hok' : HOk P w H' s'.heap := J.hok
    have noF : ∀ b : Addr, b ∉ frs [] := fun b z => absurd (show b ∈ ([] : List Addr) from z) List.not_mem_nil
    obtain ⟨more, hm⟩ := un.tbls T #[] HT
    have hT' : s'.heap.get? T = some { cls := .none, data := .fields (#[] ++ more) } := hok' T _ hm
    have stays : ∀ b o, b ≠ T → s₁.heap.get? b = some o → s'.heap.get? b = some o := fun b o nb e => by
      cases q : H b with
      | none => exact un.keep b o e q (noF b) List.not_mem_nil
      | some u =>
        rcases Hin q with ⟨e2, _⟩ | ⟨_, _, rfl⟩
        · exact absurd e2 nb
        · have h1 := (hok b _ q).1
          have h2 := (hok' b _ (un.frzs b _ _ q)).1
          rw [e] at h1
          cases h1
          exact h2
    refine ⟨rfl, ⟨fun b o e => ?_, fun b o e => ?_⟩, J.os, J.bare⟩
    · by_cases nb : b = T
      · subst nb
        rw [hT] at e
        cases e
        exact .inr (.inl ⟨(hC.tab hT).isCodeTable, rfl, #[], more, rfl, hT'⟩)
      · exact .inl (stays b o nb e)
    · by_cases nb : b = T
      · exact ⟨_, by rw [nb]; exact hT'⟩
      · exact ⟨o, stays b o nb e⟩
end
end K13
/-! K13Run1 -/
set_option autoImplicit true
set_option Elab.async false
set_option linter.all false
set_option maxRecDepth 100000
set_option maxHeartbeats 0
namespace K13H
open PySem PySem.W PySem.Calls PyProof.Rows
abbrev R : OpenRow := OpenLaw.row PySem.Challenge.rw_bothplans_k13_whole_islands_and_whole_lo
abbrev qv : Program := view R.prog [50]
def names : List PySem.Str := (["PlanError", "InvalidStore", "InvalidLot", "is_integer", "is_number", "is_index", "is_sequence", "is_state_of", "Store", "checked_lot", "other_keys", "seen_on", "near", "changed_key", "find_near", "near_by_keys", "homes_of", "homes", "islands", "island_question", "whole", "is_whole", "all_lots", "unwhole", "find_joined", "is_joined"] : List PySem.Str) ++ (["_law_draw", "_law_any", "_law_of", "_law_mixed", "_law_all", "_law_sizes", "_law_store", "_law_question", "_law_lots", "_law_tells", "_law_beside", "_law_homes", "_law_apart", "_law_given", "_law_bad_lot", "_law_refused", "_law_is_whole", "_law_question_right"] : List PySem.Str)
abbrev hk : PySem.W.Hook := K13.hookY 6 K13.faL K13.fnL K13.tfL K13.fileL
def ob (s : PySem.W.SharedT) : K13.AlY := K13.obsY 6 K13.faL K13.fnL K13.tfL K13.fileL (HandSHeadRun.getT s)
theorem ob_eq (s : PySem.W.SharedT) : ob s = hk.obs s.abs := K13.obsY_eq (HandSHeadRun.getT_eq s)
theorem run (w : World) : HandSHeadRun.RunEq R qv hk ob 4000 names w := by
  intro os
  kernel_rfl
end K13H
/-! K13Fin -/
set_option autoImplicit true
set_option Elab.async false
set_option linter.all false
set_option maxRecDepth 100000
set_option maxHeartbeats 0
namespace K13
open PySem PySem.Spec PyProof.Rows L2
theorem law_fn {w : World} {h : Heap} {K : PySem.W.Frag} (c : SaysY faL fnL tfL fileL w h K) : ∃ fd, FnP K "law" s_law (He.ga K "law") fd := c.t.d.def_ 42 (d := ⟨("law", none), "law", "law", defArgs s_law, defBody s_law, defScope s_law, [], []⟩) rfl
theorem law_glo {w : World} {h h' : Heap} {K : PySem.W.Frag} {mg : Str → Option Value} (c : SaysY faL fnL tfL fileL w h K) (X : K.In h') (G : h'.Ns mainGlobals mg) : mg "law" = some (.ref (He.ga K "law")) := He.glo_ok X G (c.t.d.fact 39 (f := .glo "law") rfl)
end K13
open PySem PySem.W PySem.Calls PyProof.Rows
theorem PySem.Challenge.cw_bothplans_k13_whole_islands_and_whole_lo_holds : PySem.Challenge.rw_bothplans_k13_whole_islands_and_whole_lo.Holds := by
  w_on; o_law
  refine HandSHeadRun.head_any (r := OpenLaw.row PySem.Challenge.rw_bothplans_k13_whole_islands_and_whole_lo) (q := K13H.qv) (H := K13H.hk) (ob := K13H.ob) (M := 4000) (loose := K13H.names) (d := HandSHeadRun.topDef (OpenLaw.row PySem.Challenge.rw_bothplans_k13_whole_islands_and_whole_lo).prog 50) (kwd := []) K13H.ob_eq
    (by kernel_rfl) (fun s => by kernel_rfl) K13H.run (by kernel_rfl) (by kernel_rfl) (by kernel_rfl) (by rfl) (by first | assumption | decide +kernel) (by decide +kernel) ⟨rfl, rfl, rfl, rfl, rfl, by decide +kernel⟩ ?hw ?hc
  case hw => w_witness2
  case hc =>
    refine Att.attach_callB (l := PySem.Challenge.rw_bothplans_k13_whole_islands_and_whole_lo) (n := 63) rfl (by kernel_rfl) fun w s₀ s₁ mg mb fa o pm cd doc a vs ns G Y ho hd hcd hmg0 hobj hints hlen hbits hg => ?_
    obtain ⟨K, KX, c⟩ := Y
    have hmg : mg ("law" : PySem.Str) = some (.ref fa) := by
      have e : (HandSHeadRun.topDef (OpenLaw.row PySem.Challenge.rw_bothplans_k13_whole_islands_and_whole_lo).prog 50).name = ("law" : PySem.Str) := by kernel_rfl
      rw [← e]
      exact hmg0
    obtain ⟨fd, Fl⟩ := K13.law_fn c
    have e := hmg.symm.trans (K13.law_glo c KX G.T.g)
    cases e
    have m0 : (("homes", none) : He.Defn) ∈ K13.tfL := List.mem_singleton.mpr rfl
    refine K13.law_end (C := He.ga K "Store") (CI := K13.lotC K) KX G.T.g G.T.b G.T.builtins G.T.nolimit hg (c.empty _ m0) (c.out _ m0) (PySem.W.codeHd_of_K KX (c.hd _ m0)) G.T.bmain hobj hints (Nat.le_trans hlen (by decide)) Fl fun base KB GB TB => ?_
    obtain ⟨B, c1, c2, _⟩ := K13.cals_of (P := (PySem.Challenge.rw_bothplans_k13_whole_islands_and_whole_lo).prog) KB GB c (by kernel_rfl) (by kernel_rfl) TB
    exact ⟨B, c1, c2⟩
