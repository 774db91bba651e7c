import PyProof.Rows.All
import Wide.All
import OpenK.AllK
import Wide.FinOn
import PyProof.EqAt
import PyProof.EqKinds
import PyProof.TupleCall
import Lean
import Open.SpecLaws
import KE.OsGo
import KE.KEqSeq
import KE.KLam
import KE.KNestM
import KE.KDictCopyH
import KE.KDictWalk
import KE.KDictKeyed
import KE.SortKeyHeap
import HandS.Base
import HandS.Call
import HandS.List
import HandS.Comp
import HandS.Ends
import HandS.Dict
import HandS.Iter
import HandS.Text
import HandS.Words
import HandS.WordsList
import HandS.WordsDict
import HandS.Spec
import HandS.Defaults
import HandS.Conv
import HandS.NoneIn
import HandS.DictTup
import HandS.TupLen
import HandS.SortInts
import HandS.SetFor
import HandS.More
import HandS.Style
import HandS.Wide
import HandS.Zip
import HandS.Walk
import HandS.Evl
import HandS.Lambda
import HandS.HeadHook1
import HandS.HeadHook2
import HandS.HeadHook3
import HandS.HeadHook4
import HandS.Head0
import HandS.Head1
import HandS.Head2
import HandS.Head4
import HandS.NestedK
import HandS.EndTab
import PySem.Challenge.RW_likings_s01_answers
set_option Elab.async false
set_option linter.all false
set_option maxRecDepth 100000
set_option maxHeartbeats 2000000
namespace Gs
open PySem PySem.Spec PyProof.Rows L2
/-! ### the text, what the top leaves, defs as they stand -/
def top (i : Nat) : Stmt := PySem.Challenge.pw_likings_s01_answers.main.body.getD i (.Pass ⟨0, 0, 0, 0⟩)
abbrev s_product : Stmt := top 1
abbrev N_product : List Str := ["one", "other", "a", "b"]
theorem sc_product : FnScope N_product ["one", "other"] (defScope s_product) := ⟨rfl, rfl, rfl, by decide +kernel, rfl, by decide +kernel, by decide +kernel⟩
def d_product : He.DefD := ⟨("product", none), "product", "product", defArgs s_product, defBody s_product, defScope s_product, [], []⟩
abbrev s_squares : Stmt := top 2
abbrev N_squares : List Str := ["row"]
theorem sc_squares : FnScope N_squares ["row"] (defScope s_squares) := ⟨rfl, rfl, rfl, by decide +kernel, rfl, by decide +kernel, by decide +kernel⟩
def d_squares : He.DefD := ⟨("squares", none), "squares", "squares", defArgs s_squares, defBody s_squares, defScope s_squares, [], []⟩
abbrev s_nearest : Stmt := top 3
abbrev N_nearest : List Str := ["slope", "curvature"]
theorem sc_nearest : FnScope N_nearest ["slope", "curvature"] (defScope s_nearest) := ⟨rfl, rfl, rfl, by decide +kernel, rfl, by decide +kernel, by decide +kernel⟩
def d_nearest : He.DefD := ⟨("nearest", none), "nearest", "nearest", defArgs s_nearest, defBody s_nearest, defScope s_nearest, [], []⟩
abbrev s_gain : Stmt := top 4
abbrev N_gain : List Str := ["curvature", "slope", "value"]
theorem sc_gain : FnScope N_gain ["curvature", "slope", "value"] (defScope s_gain) := ⟨rfl, rfl, rfl, by decide +kernel, rfl, by decide +kernel, by decide +kernel⟩
def d_gain : He.DefD := ⟨("gain", none), "gain", "gain", defArgs s_gain, defBody s_gain, defScope s_gain, [], []⟩
abbrev s_best_value : Stmt := top 5
abbrev N_best_value : List Str := ["present", "quadratic", "bounds", "curvature", "slope", "value"]
theorem sc_best_value : FnScope N_best_value ["present", "quadratic", "bounds"] (defScope s_best_value) := ⟨rfl, rfl, rfl, by decide +kernel, rfl, by decide +kernel, by decide +kernel⟩
def d_best_value : He.DefD := ⟨("best_value", none), "best_value", "best_value", defArgs s_best_value, defBody s_best_value, defScope s_best_value, [], []⟩
abbrev s_quadratic_of : Stmt := top 6
abbrev N_quadratic_of : List Str := ["pairs", "place", "present", "penalty", "curvature", "slope", "other", "residual", "factor"]
theorem sc_quadratic_of : FnScope N_quadratic_of ["pairs", "place", "present", "penalty"] (defScope s_quadratic_of) := ⟨rfl, rfl, rfl, by decide +kernel, rfl, by decide +kernel, by decide +kernel⟩
def d_quadratic_of : He.DefD := ⟨("quadratic_of", none), "quadratic_of", "quadratic_of", defArgs s_quadratic_of, defBody s_quadratic_of, defScope s_quadratic_of, [], []⟩
abbrev s_are_closer : Stmt := top 7
abbrev N_are_closer : List Str := ["one", "other"]
theorem sc_are_closer : FnScope N_are_closer ["one", "other"] (defScope s_are_closer) := ⟨rfl, rfl, rfl, by decide +kernel, rfl, by decide +kernel, by decide +kernel⟩
def d_are_closer : He.DefD := ⟨("are_closer", none), "are_closer", "are_closer", defArgs s_are_closer, defBody s_are_closer, defScope s_are_closer, [], []⟩
abbrev s_in_order : Stmt := top 8
abbrev N_in_order : List Str := ["found", "done", "number", "own", "square", "at"]
theorem sc_in_order : FnScope N_in_order ["found"] (defScope s_in_order) := ⟨rfl, rfl, rfl, by decide +kernel, rfl, by decide +kernel, by decide +kernel⟩
def d_in_order : He.DefD := ⟨("in_order", none), "in_order", "in_order", defArgs s_in_order, defBody s_in_order, defScope s_in_order, [], []⟩
abbrev s_lowest_terms : Stmt := top 9
abbrev N_lowest_terms : List Str := ["top", "bottom", "one", "other"]
theorem sc_lowest_terms : FnScope N_lowest_terms ["top", "bottom"] (defScope s_lowest_terms) := ⟨rfl, rfl, rfl, by decide +kernel, rfl, by decide +kernel, by decide +kernel⟩
def d_lowest_terms : He.DefD := ⟨("lowest_terms", none), "lowest_terms", "lowest_terms", defArgs s_lowest_terms, defBody s_lowest_terms, defScope s_lowest_terms, [], []⟩
abbrev s_are_settings : Stmt := top 22
abbrev N_are_settings : List Str := ["numbers", "users", "items", "factors", "limit", "nonnegative", "penalty", "bias_penalty"]
theorem sc_are_settings : FnScope N_are_settings ["numbers"] (defScope s_are_settings) := ⟨rfl, rfl, rfl, by decide +kernel, rfl, by decide +kernel, by decide +kernel⟩
def d_are_settings : He.DefD := ⟨("are_settings", none), "are_settings", "are_settings", defArgs s_are_settings, defBody s_are_settings, defScope s_are_settings, [], []⟩
abbrev s_hashed : Stmt := top 23
abbrev N_hashed : List Str := ["numbers", "found", "number", "left", "turn"]
theorem sc_hashed : FnScope N_hashed ["numbers"] (defScope s_hashed) := ⟨rfl, rfl, rfl, by decide +kernel, rfl, by decide +kernel, by decide +kernel⟩
def d_hashed : He.DefD := ⟨("hashed", none), "hashed", "hashed", defArgs s_hashed, defBody s_hashed, defScope s_hashed, [], []⟩
abbrev s_Settings_init : Stmt := inClass (top 24) 0
abbrev N_Settings_init : List Str := ["self", "numbers"]
theorem sc_Settings_init : FnScope N_Settings_init ["self", "numbers"] (defScope s_Settings_init) := ⟨rfl, rfl, rfl, by decide +kernel, rfl, by decide +kernel, by decide +kernel⟩
def d_Settings_init : He.DefD := ⟨("Settings", some "__init__"), "__init__", "Settings.__init__", defArgs s_Settings_init, defBody s_Settings_init, defScope s_Settings_init, [], []⟩
abbrev s_Settings_penalty : Stmt := inClass (top 24) 1
abbrev N_Settings_penalty : List Str := ["self", "place"]
theorem sc_Settings_penalty : FnScope N_Settings_penalty ["self", "place"] (defScope s_Settings_penalty) := ⟨rfl, rfl, rfl, by decide +kernel, rfl, by decide +kernel, by decide +kernel⟩
def d_Settings_penalty : He.DefD := ⟨("Settings", some "penalty"), "penalty", "Settings.penalty", defArgs s_Settings_penalty, defBody s_Settings_penalty, defScope s_Settings_penalty, [], []⟩
abbrev s_Settings_bounds : Stmt := inClass (top 24) 2
abbrev N_Settings_bounds : List Str := ["self", "place"]
theorem sc_Settings_bounds : FnScope N_Settings_bounds ["self", "place"] (defScope s_Settings_bounds) := ⟨rfl, rfl, rfl, by decide +kernel, rfl, by decide +kernel, by decide +kernel⟩
def d_Settings_bounds : He.DefD := ⟨("Settings", some "bounds"), "bounds", "Settings.bounds", defArgs s_Settings_bounds, defBody s_Settings_bounds, defScope s_Settings_bounds, [], []⟩
abbrev s_Settings_first_factor : Stmt := inClass (top 24) 3
abbrev N_Settings_first_factor : List Str := ["self", "kind", "number", "place", "high", "most"]
theorem sc_Settings_first_factor : FnScope N_Settings_first_factor ["self", "kind", "number", "place"] (defScope s_Settings_first_factor) := ⟨rfl, rfl, rfl, by decide +kernel, rfl, by decide +kernel, by decide +kernel⟩
def d_Settings_first_factor : He.DefD := ⟨("Settings", some "first_factor"), "first_factor", "Settings.first_factor", defArgs s_Settings_first_factor, defBody s_Settings_first_factor, defScope s_Settings_first_factor, [], []⟩
abbrev s_Settings_first_row : Stmt := inClass (top 24) 4
abbrev N_Settings_first_row : List Str := ["self", "kind", "number", "place"]
theorem sc_Settings_first_row : FnScope N_Settings_first_row ["self", "kind", "number"] (defScope s_Settings_first_row) := ⟨rfl, rfl, rfl, by decide +kernel, rfl, by decide +kernel, by decide +kernel⟩
def d_Settings_first_row : He.DefD := ⟨("Settings", some "first_row"), "first_row", "Settings.first_row", defArgs s_Settings_first_row, defBody s_Settings_first_row, defScope s_Settings_first_row, [], []⟩
abbrev s_copies : Stmt := top 27
abbrev N_copies : List Str := ["rows", "row"]
theorem sc_copies : FnScope N_copies ["rows"] (defScope s_copies) := ⟨rfl, rfl, rfl, by decide +kernel, rfl, by decide +kernel, by decide +kernel⟩
def d_copies : He.DefD := ⟨("copies", none), "copies", "copies", defArgs s_copies, defBody s_copies, defScope s_copies, [], []⟩
abbrev s_Model_init : Stmt := inClass (top 28) 0
abbrev N_Model_init : List Str := ["self", "settings", "user", "item"]
theorem sc_Model_init : FnScope N_Model_init ["self", "settings"] (defScope s_Model_init) := ⟨rfl, rfl, rfl, by decide +kernel, rfl, by decide +kernel, by decide +kernel⟩
def d_Model_init : He.DefD := ⟨("Model", some "__init__"), "__init__", "Model.__init__", defArgs s_Model_init, defBody s_Model_init, defScope s_Model_init, [], []⟩
abbrev s_Model_reset : Stmt := inClass (top 28) 1
abbrev N_Model_reset : List Str := ["self", "values", "told", "kind", "user", "item", "number"]
theorem sc_Model_reset : FnScope N_Model_reset ["self"] (defScope s_Model_reset) := ⟨rfl, rfl, rfl, by decide +kernel, rfl, by decide +kernel, by decide +kernel⟩
def d_Model_reset : He.DefD := ⟨("Model", some "reset"), "reset", "Model.reset", defArgs s_Model_reset, defBody s_Model_reset, defScope s_Model_reset, [], []⟩
abbrev s_Model_copied : Stmt := inClass (top 28) 2
abbrev N_Model_copied : List Str := ["self", "found", "told", "users", "rows"]
theorem sc_Model_copied : FnScope N_Model_copied ["self"] (defScope s_Model_copied) := ⟨rfl, rfl, rfl, by decide +kernel, rfl, by decide +kernel, by decide +kernel⟩
def d_Model_copied : He.DefD := ⟨("Model", some "copied"), "copied", "Model.copied", defArgs s_Model_copied, defBody s_Model_copied, defScope s_Model_copied, [], []⟩
abbrev s_Model_predicted : Stmt := inClass (top 28) 3
abbrev N_Model_predicted : List Str := ["self", "row", "item", "other"]
theorem sc_Model_predicted : FnScope N_Model_predicted ["self", "row", "item"] (defScope s_Model_predicted) := ⟨rfl, rfl, rfl, by decide +kernel, rfl, by decide +kernel, by decide +kernel⟩
def d_Model_predicted : He.DefD := ⟨("Model", some "predicted"), "predicted", "Model.predicted", defArgs s_Model_predicted, defBody s_Model_predicted, defScope s_Model_predicted, [], []⟩
abbrev s_Model_prediction : Stmt := inClass (top 28) 4
abbrev N_Model_prediction : List Str := ["self", "user", "item"]
theorem sc_Model_prediction : FnScope N_Model_prediction ["self", "user", "item"] (defScope s_Model_prediction) := ⟨rfl, rfl, rfl, by decide +kernel, rfl, by decide +kernel, by decide +kernel⟩
def d_Model_prediction : He.DefD := ⟨("Model", some "prediction"), "prediction", "Model.prediction", defArgs s_Model_prediction, defBody s_Model_prediction, defScope s_Model_prediction, [], []⟩
abbrev s_Model_renew : Stmt := inClass (top 28) 5
abbrev N_Model_renew : List Str := ["self", "user", "item"]
theorem sc_Model_renew : FnScope N_Model_renew ["self", "user", "item"] (defScope s_Model_renew) := ⟨rfl, rfl, rfl, by decide +kernel, rfl, by decide +kernel, by decide +kernel⟩
def d_Model_renew : He.DefD := ⟨("Model", some "renew"), "renew", "Model.renew", defArgs s_Model_renew, defBody s_Model_renew, defScope s_Model_renew, [], []⟩
abbrev s_Model_rate : Stmt := inClass (top 28) 6
abbrev N_Model_rate : List Str := ["self", "user", "item", "value"]
theorem sc_Model_rate : FnScope N_Model_rate ["self", "user", "item", "value"] (defScope s_Model_rate) := ⟨rfl, rfl, rfl, by decide +kernel, rfl, by decide +kernel, by decide +kernel⟩
def d_Model_rate : He.DefD := ⟨("Model", some "rate"), "rate", "Model.rate", defArgs s_Model_rate, defBody s_Model_rate, defScope s_Model_rate, [], []⟩
abbrev s_Model_unrate : Stmt := inClass (top 28) 7
abbrev N_Model_unrate : List Str := ["self", "user", "item"]
theorem sc_Model_unrate : FnScope N_Model_unrate ["self", "user", "item"] (defScope s_Model_unrate) := ⟨rfl, rfl, rfl, by decide +kernel, rfl, by decide +kernel, by decide +kernel⟩
def d_Model_unrate : He.DefD := ⟨("Model", some "unrate"), "unrate", "Model.unrate", defArgs s_Model_unrate, defBody s_Model_unrate, defScope s_Model_unrate, [], []⟩
abbrev s_Model_forget : Stmt := inClass (top 28) 8
abbrev N_Model_forget : List Str := ["self", "user", "items", "item"]
theorem sc_Model_forget : FnScope N_Model_forget ["self", "user"] (defScope s_Model_forget) := ⟨rfl, rfl, rfl, by decide +kernel, rfl, by decide +kernel, by decide +kernel⟩
def d_Model_forget : He.DefD := ⟨("Model", some "forget"), "forget", "Model.forget", defArgs s_Model_forget, defBody s_Model_forget, defScope s_Model_forget, [], []⟩
abbrev s_Model_cells : Stmt := inClass (top 28) 9
abbrev N_Model_cells : List Str := ["self", "kind", "number", "user", "item"]
theorem sc_Model_cells : FnScope N_Model_cells ["self", "kind", "number"] (defScope s_Model_cells) := ⟨rfl, rfl, rfl, by decide +kernel, rfl, by decide +kernel, by decide +kernel⟩
def d_Model_cells : He.DefD := ⟨("Model", some "cells"), "cells", "Model.cells", defArgs s_Model_cells, defBody s_Model_cells, defScope s_Model_cells, [], []⟩
abbrev s_Model_quadratic : Stmt := inClass (top 28) 10
abbrev N_Model_quadratic : List Str := ["self", "kind", "number", "place", "pairs", "user", "item", "other"]
theorem sc_Model_quadratic : FnScope N_Model_quadratic ["self", "kind", "number", "place"] (defScope s_Model_quadratic) := ⟨rfl, rfl, rfl, by decide +kernel, rfl, by decide +kernel, by decide +kernel⟩
def d_Model_quadratic : He.DefD := ⟨("Model", some "quadratic"), "quadratic", "Model.quadratic", defArgs s_Model_quadratic, defBody s_Model_quadratic, defScope s_Model_quadratic, [], []⟩
abbrev s_Model_better : Stmt := inClass (top 28) 11
abbrev N_Model_better : List Str := ["self", "kind", "number", "place", "present"]
theorem sc_Model_better : FnScope N_Model_better ["self", "kind", "number", "place"] (defScope s_Model_better) := ⟨rfl, rfl, rfl, by decide +kernel, rfl, by decide +kernel, by decide +kernel⟩
def d_Model_better : He.DefD := ⟨("Model", some "better"), "better", "Model.better", defArgs s_Model_better, defBody s_Model_better, defScope s_Model_better, [], []⟩
abbrev s_Model_set_to : Stmt := inClass (top 28) 12
abbrev N_Model_set_to : List Str := ["self", "kind", "number", "place", "value", "user", "item"]
theorem sc_Model_set_to : FnScope N_Model_set_to ["self", "kind", "number", "place", "value"] (defScope s_Model_set_to) := ⟨rfl, rfl, rfl, by decide +kernel, rfl, by decide +kernel, by decide +kernel⟩
def d_Model_set_to : He.DefD := ⟨("Model", some "set_to"), "set_to", "Model.set_to", defArgs s_Model_set_to, defBody s_Model_set_to, defScope s_Model_set_to, [], []⟩
abbrev s_Model_step : Stmt := inClass (top 28) 13
abbrev N_Model_step : List Str := ["self", "kind", "number", "place", "old", "new"]
theorem sc_Model_step : FnScope N_Model_step ["self", "kind", "number", "place"] (defScope s_Model_step) := ⟨rfl, rfl, rfl, by decide +kernel, rfl, by decide +kernel, by decide +kernel⟩
def d_Model_step : He.DefD := ⟨("Model", some "step"), "step", "Model.step", defArgs s_Model_step, defBody s_Model_step, defScope s_Model_step, [], []⟩
abbrev s_Model_parameters : Stmt := inClass (top 28) 14
abbrev N_Model_parameters : List Str := ["self", "found", "kind", "number", "place"]
theorem sc_Model_parameters : FnScope N_Model_parameters ["self"] (defScope s_Model_parameters) := ⟨rfl, rfl, rfl, by decide +kernel, rfl, by decide +kernel, by decide +kernel⟩
def d_Model_parameters : He.DefD := ⟨("Model", some "parameters"), "parameters", "Model.parameters", defArgs s_Model_parameters, defBody s_Model_parameters, defScope s_Model_parameters, [], []⟩
abbrev s_Model_sweep : Stmt := inClass (top 28) 15
abbrev N_Model_sweep : List Str := ["self", "changed", "kind", "number", "place", "old", "new"]
theorem sc_Model_sweep : FnScope N_Model_sweep ["self"] (defScope s_Model_sweep) := ⟨rfl, rfl, rfl, by decide +kernel, rfl, by decide +kernel, by decide +kernel⟩
def d_Model_sweep : He.DefD := ⟨("Model", some "sweep"), "sweep", "Model.sweep", defArgs s_Model_sweep, defBody s_Model_sweep, defScope s_Model_sweep, [], []⟩
abbrev s_Model_train : Stmt := inClass (top 28) 16
abbrev N_Model_train : List Str := ["self", "most", "made"]
theorem sc_Model_train : FnScope N_Model_train ["self", "most"] (defScope s_Model_train) := ⟨rfl, rfl, rfl, by decide +kernel, rfl, by decide +kernel, by decide +kernel⟩
def d_Model_train : He.DefD := ⟨("Model", some "train"), "train", "Model.train", defArgs s_Model_train, defBody s_Model_train, defScope s_Model_train, [], []⟩
abbrev s_Model_error_part : Stmt := inClass (top 28) 17
abbrev N_Model_error_part : List Str := ["self", "residual"]
theorem sc_Model_error_part : FnScope N_Model_error_part ["self"] (defScope s_Model_error_part) := ⟨rfl, rfl, rfl, by decide +kernel, rfl, by decide +kernel, by decide +kernel⟩
def d_Model_error_part : He.DefD := ⟨("Model", some "error_part"), "error_part", "Model.error_part", defArgs s_Model_error_part, defBody s_Model_error_part, defScope s_Model_error_part, [], []⟩
abbrev s_Model_penalty_part : Stmt := inClass (top 28) 18
abbrev N_Model_penalty_part : List Str := ["self", "every", "biases", "factors", "row"]
theorem sc_Model_penalty_part : FnScope N_Model_penalty_part ["self"] (defScope s_Model_penalty_part) := ⟨rfl, rfl, rfl, by decide +kernel, rfl, by decide +kernel, by decide +kernel⟩
def d_Model_penalty_part : He.DefD := ⟨("Model", some "penalty_part"), "penalty_part", "Model.penalty_part", defArgs s_Model_penalty_part, defBody s_Model_penalty_part, defScope s_Model_penalty_part, [], []⟩
abbrev s_Model_objective : Stmt := inClass (top 28) 19
abbrev N_Model_objective : List Str := ["self"]
theorem sc_Model_objective : FnScope N_Model_objective ["self"] (defScope s_Model_objective) := ⟨rfl, rfl, rfl, by decide +kernel, rfl, by decide +kernel, by decide +kernel⟩
def d_Model_objective : He.DefD := ⟨("Model", some "objective"), "objective", "Model.objective", defArgs s_Model_objective, defBody s_Model_objective, defScope s_Model_objective, [], []⟩
abbrev s_Model_round_of : Stmt := inClass (top 28) 20
abbrev N_Model_round_of : List Str := ["self", "row", "told", "is_changed", "place", "pairs", "item", "value", "quadratic"]
theorem sc_Model_round_of : FnScope N_Model_round_of ["self", "row", "told"] (defScope s_Model_round_of) := ⟨rfl, rfl, rfl, by decide +kernel, rfl, by decide +kernel, by decide +kernel⟩
def d_Model_round_of : He.DefD := ⟨("Model", some "round_of"), "round_of", "Model.round_of", defArgs s_Model_round_of, defBody s_Model_round_of, defScope s_Model_round_of, [], []⟩
abbrev s_Model_new_row : Stmt := inClass (top 28) 21
abbrev N_Model_new_row : List Str := ["self", "told", "row", "made", "is_changed"]
theorem sc_Model_new_row : FnScope N_Model_new_row ["self", "told"] (defScope s_Model_new_row) := ⟨rfl, rfl, rfl, by decide +kernel, rfl, by decide +kernel, by decide +kernel⟩
def d_Model_new_row : He.DefD := ⟨("Model", some "new_row"), "new_row", "Model.new_row", defArgs s_Model_new_row, defBody s_Model_new_row, defScope s_Model_new_row, [], []⟩
abbrev s_Model_recommended : Stmt := inClass (top 28) 22
abbrev N_Model_recommended : List Str := ["self", "row", "rated", "count", "found", "order", "item", "prediction"]
theorem sc_Model_recommended : FnScope N_Model_recommended ["self", "row", "rated", "count"] (defScope s_Model_recommended) := ⟨rfl, rfl, rfl, by decide +kernel, rfl, by decide +kernel, by decide +kernel⟩
def d_Model_recommended : He.DefD := ⟨("Model", some "recommended"), "recommended", "Model.recommended", defArgs s_Model_recommended, defBody s_Model_recommended, defScope s_Model_recommended, [], []⟩
abbrev s_flat : Stmt := top 38
abbrev N_flat : List Str := ["pairs", "found", "pair"]
theorem sc_flat : FnScope N_flat ["pairs"] (defScope s_flat) := ⟨rfl, rfl, rfl, by decide +kernel, rfl, by decide +kernel, by decide +kernel⟩
def d_flat : He.DefD := ⟨("flat", none), "flat", "flat", defArgs s_flat, defBody s_flat, defScope s_flat, [], []⟩
abbrev s_Liking_init : Stmt := inClass (top 39) 0
abbrev N_Liking_init : List Str := ["self"]
theorem sc_Liking_init : FnScope N_Liking_init ["self"] (defScope s_Liking_init) := ⟨rfl, rfl, rfl, by decide +kernel, rfl, by decide +kernel, by decide +kernel⟩
def d_Liking_init : He.DefD := ⟨("Liking", some "__init__"), "__init__", "Liking.__init__", defArgs s_Liking_init, defBody s_Liking_init, defScope s_Liking_init, [], []⟩
abbrev s_Liking_create : Stmt := inClass (top 39) 1
abbrev N_Liking_create : List Str := ["self", "numbers"]
theorem sc_Liking_create : FnScope N_Liking_create ["self", "numbers"] (defScope s_Liking_create) := ⟨rfl, rfl, rfl, by decide +kernel, rfl, by decide +kernel, by decide +kernel⟩
def d_Liking_create : He.DefD := ⟨("Liking", some "create"), "create", "Liking.create", defArgs s_Liking_create, defBody s_Liking_create, defScope s_Liking_create, [], []⟩
abbrev s_Liking_is_user : Stmt := inClass (top 39) 2
abbrev N_Liking_is_user : List Str := ["self", "user"]
theorem sc_Liking_is_user : FnScope N_Liking_is_user ["self", "user"] (defScope s_Liking_is_user) := ⟨rfl, rfl, rfl, by decide +kernel, rfl, by decide +kernel, by decide +kernel⟩
def d_Liking_is_user : He.DefD := ⟨("Liking", some "is_user"), "is_user", "Liking.is_user", defArgs s_Liking_is_user, defBody s_Liking_is_user, defScope s_Liking_is_user, [], []⟩
abbrev s_Liking_is_item : Stmt := inClass (top 39) 3
abbrev N_Liking_is_item : List Str := ["self", "item"]
theorem sc_Liking_is_item : FnScope N_Liking_is_item ["self", "item"] (defScope s_Liking_is_item) := ⟨rfl, rfl, rfl, by decide +kernel, rfl, by decide +kernel, by decide +kernel⟩
def d_Liking_is_item : He.DefD := ⟨("Liking", some "is_item"), "is_item", "Liking.is_item", defArgs s_Liking_is_item, defBody s_Liking_is_item, defScope s_Liking_is_item, [], []⟩
abbrev s_Liking_are_both : Stmt := inClass (top 39) 4
abbrev N_Liking_are_both : List Str := ["self", "user", "item"]
theorem sc_Liking_are_both : FnScope N_Liking_are_both ["self", "user", "item"] (defScope s_Liking_are_both) := ⟨rfl, rfl, rfl, by decide +kernel, rfl, by decide +kernel, by decide +kernel⟩
def d_Liking_are_both : He.DefD := ⟨("Liking", some "are_both"), "are_both", "Liking.are_both", defArgs s_Liking_are_both, defBody s_Liking_are_both, defScope s_Liking_are_both, [], []⟩
abbrev s_Liking_is_parameter : Stmt := inClass (top 39) 5
abbrev N_Liking_is_parameter : List Str := ["self", "kind", "number", "place", "settings"]
theorem sc_Liking_is_parameter : FnScope N_Liking_is_parameter ["self", "kind", "number", "place"] (defScope s_Liking_is_parameter) := ⟨rfl, rfl, rfl, by decide +kernel, rfl, by decide +kernel, by decide +kernel⟩
def d_Liking_is_parameter : He.DefD := ⟨("Liking", some "is_parameter"), "is_parameter", "Liking.is_parameter", defArgs s_Liking_is_parameter, defBody s_Liking_is_parameter, defScope s_Liking_is_parameter, [], []⟩
abbrev s_Liking_set_rating : Stmt := inClass (top 39) 6
abbrev N_Liking_set_rating : List Str := ["self", "user", "item", "value", "old"]
theorem sc_Liking_set_rating : FnScope N_Liking_set_rating ["self", "user", "item", "value"] (defScope s_Liking_set_rating) := ⟨rfl, rfl, rfl, by decide +kernel, rfl, by decide +kernel, by decide +kernel⟩
def d_Liking_set_rating : He.DefD := ⟨("Liking", some "set_rating"), "set_rating", "Liking.set_rating", defArgs s_Liking_set_rating, defBody s_Liking_set_rating, defScope s_Liking_set_rating, [], []⟩
abbrev s_Liking_clear_rating : Stmt := inClass (top 39) 7
abbrev N_Liking_clear_rating : List Str := ["self", "user", "item"]
theorem sc_Liking_clear_rating : FnScope N_Liking_clear_rating ["self", "user", "item"] (defScope s_Liking_clear_rating) := ⟨rfl, rfl, rfl, by decide +kernel, rfl, by decide +kernel, by decide +kernel⟩
def d_Liking_clear_rating : He.DefD := ⟨("Liking", some "clear_rating"), "clear_rating", "Liking.clear_rating", defArgs s_Liking_clear_rating, defBody s_Liking_clear_rating, defScope s_Liking_clear_rating, [], []⟩
abbrev s_Liking_delete_user : Stmt := inClass (top 39) 8
abbrev N_Liking_delete_user : List Str := ["self", "user"]
theorem sc_Liking_delete_user : FnScope N_Liking_delete_user ["self", "user"] (defScope s_Liking_delete_user) := ⟨rfl, rfl, rfl, by decide +kernel, rfl, by decide +kernel, by decide +kernel⟩
def d_Liking_delete_user : He.DefD := ⟨("Liking", some "delete_user"), "delete_user", "Liking.delete_user", defArgs s_Liking_delete_user, defBody s_Liking_delete_user, defScope s_Liking_delete_user, [], []⟩
abbrev s_Liking_reset : Stmt := inClass (top 39) 9
abbrev N_Liking_reset : List Str := ["self"]
theorem sc_Liking_reset : FnScope N_Liking_reset ["self"] (defScope s_Liking_reset) := ⟨rfl, rfl, rfl, by decide +kernel, rfl, by decide +kernel, by decide +kernel⟩
def d_Liking_reset : He.DefD := ⟨("Liking", some "reset"), "reset", "Liking.reset", defArgs s_Liking_reset, defBody s_Liking_reset, defScope s_Liking_reset, [], []⟩
abbrev s_Liking_step : Stmt := inClass (top 39) 10
abbrev N_Liking_step : List Str := ["self", "kind", "number", "place", "old", "new"]
theorem sc_Liking_step : FnScope N_Liking_step ["self", "kind", "number", "place"] (defScope s_Liking_step) := ⟨rfl, rfl, rfl, by decide +kernel, rfl, by decide +kernel, by decide +kernel⟩
def d_Liking_step : He.DefD := ⟨("Liking", some "step"), "step", "Liking.step", defArgs s_Liking_step, defBody s_Liking_step, defScope s_Liking_step, [], []⟩
abbrev s_Liking_sweep : Stmt := inClass (top 39) 11
abbrev N_Liking_sweep : List Str := ["self", "changed"]
theorem sc_Liking_sweep : FnScope N_Liking_sweep ["self"] (defScope s_Liking_sweep) := ⟨rfl, rfl, rfl, by decide +kernel, rfl, by decide +kernel, by decide +kernel⟩
def d_Liking_sweep : He.DefD := ⟨("Liking", some "sweep"), "sweep", "Liking.sweep", defArgs s_Liking_sweep, defBody s_Liking_sweep, defScope s_Liking_sweep, [], []⟩
abbrev s_Liking_train : Stmt := inClass (top 39) 12
abbrev N_Liking_train : List Str := ["self", "most", "made", "has_converged"]
theorem sc_Liking_train : FnScope N_Liking_train ["self", "most"] (defScope s_Liking_train) := ⟨rfl, rfl, rfl, by decide +kernel, rfl, by decide +kernel, by decide +kernel⟩
def d_Liking_train : He.DefD := ⟨("Liking", some "train"), "train", "Liking.train", defArgs s_Liking_train, defBody s_Liking_train, defScope s_Liking_train, [], []⟩
abbrev s_Liking_objective : Stmt := inClass (top 39) 13
abbrev N_Liking_objective : List Str := ["self", "one", "other"]
theorem sc_Liking_objective : FnScope N_Liking_objective ["self"] (defScope s_Liking_objective) := ⟨rfl, rfl, rfl, by decide +kernel, rfl, by decide +kernel, by decide +kernel⟩
def d_Liking_objective : He.DefD := ⟨("Liking", some "objective"), "objective", "Liking.objective", defArgs s_Liking_objective, defBody s_Liking_objective, defScope s_Liking_objective, [], []⟩
abbrev s_Liking_curve : Stmt := inClass (top 39) 14
abbrev N_Liking_curve : List Str := ["self", "count", "twin", "found", "turn"]
theorem sc_Liking_curve : FnScope N_Liking_curve ["self", "count"] (defScope s_Liking_curve) := ⟨rfl, rfl, rfl, by decide +kernel, rfl, by decide +kernel, by decide +kernel⟩
def d_Liking_curve : He.DefD := ⟨("Liking", some "curve"), "curve", "Liking.curve", defArgs s_Liking_curve, defBody s_Liking_curve, defScope s_Liking_curve, [], []⟩
abbrev s_Liking_certificate : Stmt := inClass (top 39) 15
abbrev N_Liking_certificate : List Str := ["self", "model", "kind", "number", "place"]
theorem sc_Liking_certificate : FnScope N_Liking_certificate ["self"] (defScope s_Liking_certificate) := ⟨rfl, rfl, rfl, by decide +kernel, rfl, by decide +kernel, by decide +kernel⟩
def d_Liking_certificate : He.DefD := ⟨("Liking", some "certificate"), "certificate", "Liking.certificate", defArgs s_Liking_certificate, defBody s_Liking_certificate, defScope s_Liking_certificate, [], []⟩
abbrev s_Liking_quadratic : Stmt := inClass (top 39) 16
abbrev N_Liking_quadratic : List Str := ["self", "kind", "number", "place", "curvature", "slope"]
theorem sc_Liking_quadratic : FnScope N_Liking_quadratic ["self", "kind", "number", "place"] (defScope s_Liking_quadratic) := ⟨rfl, rfl, rfl, by decide +kernel, rfl, by decide +kernel, by decide +kernel⟩
def d_Liking_quadratic : He.DefD := ⟨("Liking", some "quadratic"), "quadratic", "Liking.quadratic", defArgs s_Liking_quadratic, defBody s_Liking_quadratic, defScope s_Liking_quadratic, [], []⟩
abbrev s_Liking_parameter : Stmt := inClass (top 39) 17
abbrev N_Liking_parameter : List Str := ["self", "kind", "number", "place"]
theorem sc_Liking_parameter : FnScope N_Liking_parameter ["self", "kind", "number", "place"] (defScope s_Liking_parameter) := ⟨rfl, rfl, rfl, by decide +kernel, rfl, by decide +kernel, by decide +kernel⟩
def d_Liking_parameter : He.DefD := ⟨("Liking", some "parameter"), "parameter", "Liking.parameter", defArgs s_Liking_parameter, defBody s_Liking_parameter, defScope s_Liking_parameter, [], []⟩
abbrev s_Liking_set_parameter : Stmt := inClass (top 39) 18
abbrev N_Liking_set_parameter : List Str := ["self", "kind", "number", "place", "negative", "size", "value", "bounds", "old"]
theorem sc_Liking_set_parameter : FnScope N_Liking_set_parameter ["self", "kind", "number", "place", "negative", "size"] (defScope s_Liking_set_parameter) := ⟨rfl, rfl, rfl, by decide +kernel, rfl, by decide +kernel, by decide +kernel⟩
def d_Liking_set_parameter : He.DefD := ⟨("Liking", some "set_parameter"), "set_parameter", "Liking.set_parameter", defArgs s_Liking_set_parameter, defBody s_Liking_set_parameter, defScope s_Liking_set_parameter, [], []⟩
abbrev s_Liking_predict : Stmt := inClass (top 39) 19
abbrev N_Liking_predict : List Str := ["self", "user", "item"]
theorem sc_Liking_predict : FnScope N_Liking_predict ["self", "user", "item"] (defScope s_Liking_predict) := ⟨rfl, rfl, rfl, by decide +kernel, rfl, by decide +kernel, by decide +kernel⟩
def d_Liking_predict : He.DefD := ⟨("Liking", some "predict"), "predict", "Liking.predict", defArgs s_Liking_predict, defBody s_Liking_predict, defScope s_Liking_predict, [], []⟩
abbrev s_Liking_explain : Stmt := inClass (top 39) 20
abbrev N_Liking_explain : List Str := ["self", "user", "item", "one", "other", "found", "a", "b"]
theorem sc_Liking_explain : FnScope N_Liking_explain ["self", "user", "item"] (defScope s_Liking_explain) := ⟨rfl, rfl, rfl, by decide +kernel, rfl, by decide +kernel, by decide +kernel⟩
def d_Liking_explain : He.DefD := ⟨("Liking", some "explain"), "explain", "Liking.explain", defArgs s_Liking_explain, defBody s_Liking_explain, defScope s_Liking_explain, [], []⟩
abbrev s_Liking_residuals : Stmt := inClass (top 39) 21
abbrev N_Liking_residuals : List Str := ["self", "user", "cells", "cell"]
theorem sc_Liking_residuals : FnScope N_Liking_residuals ["self", "user"] (defScope s_Liking_residuals) := ⟨rfl, rfl, rfl, by decide +kernel, rfl, by decide +kernel, by decide +kernel⟩
def d_Liking_residuals : He.DefD := ⟨("Liking", some "residuals"), "residuals", "Liking.residuals", defArgs s_Liking_residuals, defBody s_Liking_residuals, defScope s_Liking_residuals, [], []⟩
abbrev s_Liking_mean_error : Stmt := inClass (top 39) 22
abbrev N_Liking_mean_error : List Str := ["self", "many"]
theorem sc_Liking_mean_error : FnScope N_Liking_mean_error ["self"] (defScope s_Liking_mean_error) := ⟨rfl, rfl, rfl, by decide +kernel, rfl, by decide +kernel, by decide +kernel⟩
def d_Liking_mean_error : He.DefD := ⟨("Liking", some "mean_error"), "mean_error", "Liking.mean_error", defArgs s_Liking_mean_error, defBody s_Liking_mean_error, defScope s_Liking_mean_error, [], []⟩
abbrev s_Liking_recommend : Stmt := inClass (top 39) 23
abbrev N_Liking_recommend : List Str := ["self", "user", "count", "found"]
theorem sc_Liking_recommend : FnScope N_Liking_recommend ["self", "user", "count"] (defScope s_Liking_recommend) := ⟨rfl, rfl, rfl, by decide +kernel, rfl, by decide +kernel, by decide +kernel⟩
def d_Liking_recommend : He.DefD := ⟨("Liking", some "recommend"), "recommend", "Liking.recommend", defArgs s_Liking_recommend, defBody s_Liking_recommend, defScope s_Liking_recommend, [], []⟩
abbrev s_Liking_similar : Stmt := inClass (top 39) 24
abbrev N_Liking_similar : List Str := ["self", "kind", "number", "count", "rows", "found", "other", "row", "own", "numbers"]
theorem sc_Liking_similar : FnScope N_Liking_similar ["self", "kind", "number", "count"] (defScope s_Liking_similar) := ⟨rfl, rfl, rfl, by decide +kernel, rfl, by decide +kernel, by decide +kernel⟩
def d_Liking_similar : He.DefD := ⟨("Liking", some "similar"), "similar", "Liking.similar", defArgs s_Liking_similar, defBody s_Liking_similar, defScope s_Liking_similar, [], []⟩
abbrev s_Liking_told_pairs : Stmt := inClass (top 39) 25
abbrev N_Liking_told_pairs : List Str := ["self", "numbers", "found", "last", "spot", "item", "value"]
theorem sc_Liking_told_pairs : FnScope N_Liking_told_pairs ["self", "numbers"] (defScope s_Liking_told_pairs) := ⟨rfl, rfl, rfl, by decide +kernel, rfl, by decide +kernel, by decide +kernel⟩
def d_Liking_told_pairs : He.DefD := ⟨("Liking", some "told_pairs"), "told_pairs", "Liking.told_pairs", defArgs s_Liking_told_pairs, defBody s_Liking_told_pairs, defScope s_Liking_told_pairs, [], []⟩
abbrev s_Liking_fold_in : Stmt := inClass (top 39) 26
abbrev N_Liking_fold_in : List Str := ["self", "numbers", "pairs", "made", "row"]
theorem sc_Liking_fold_in : FnScope N_Liking_fold_in ["self", "numbers"] (defScope s_Liking_fold_in) := ⟨rfl, rfl, rfl, by decide +kernel, rfl, by decide +kernel, by decide +kernel⟩
def d_Liking_fold_in : He.DefD := ⟨("Liking", some "fold_in"), "fold_in", "Liking.fold_in", defArgs s_Liking_fold_in, defBody s_Liking_fold_in, defScope s_Liking_fold_in, [], []⟩
abbrev s_Liking_recommend_new : Stmt := inClass (top 39) 27
abbrev N_Liking_recommend_new : List Str := ["self", "count", "numbers", "pairs", "row", "found", "item", "value"]
theorem sc_Liking_recommend_new : FnScope N_Liking_recommend_new ["self", "count", "numbers"] (defScope s_Liking_recommend_new) := ⟨rfl, rfl, rfl, by decide +kernel, rfl, by decide +kernel, by decide +kernel⟩
def d_Liking_recommend_new : He.DefD := ⟨("Liking", some "recommend_new"), "recommend_new", "Liking.recommend_new", defArgs s_Liking_recommend_new, defBody s_Liking_recommend_new, defScope s_Liking_recommend_new, [], []⟩
abbrev s_Liking_without : Stmt := inClass (top 39) 28
abbrev N_Liking_without : List Str := ["self", "user", "most"]
theorem sc_Liking_without : FnScope N_Liking_without ["self", "user", "most"] (defScope s_Liking_without) := ⟨rfl, rfl, rfl, by decide +kernel, rfl, by decide +kernel, by decide +kernel⟩
def d_Liking_without : He.DefD := ⟨("Liking", some "without"), "without", "Liking.without", defArgs s_Liking_without, defBody s_Liking_without, defScope s_Liking_without, [], []⟩
abbrev s_Liking_status : Stmt := inClass (top 39) 29
abbrev N_Liking_status : List Str := ["self", "settings", "found"]
theorem sc_Liking_status : FnScope N_Liking_status ["self"] (defScope s_Liking_status) := ⟨rfl, rfl, rfl, by decide +kernel, rfl, by decide +kernel, by decide +kernel⟩
def d_Liking_status : He.DefD := ⟨("Liking", some "status"), "status", "Liking.status", defArgs s_Liking_status, defBody s_Liking_status, defScope s_Liking_status, [], []⟩
abbrev s_Liking_told : Stmt := inClass (top 39) 30
abbrev N_Liking_told : List Str := ["self", "call", "numbers"]
theorem sc_Liking_told : FnScope N_Liking_told ["self", "call", "numbers"] (defScope s_Liking_told) := ⟨rfl, rfl, rfl, by decide +kernel, rfl, by decide +kernel, by decide +kernel⟩
def d_Liking_told : He.DefD := ⟨("Liking", some "told"), "told", "Liking.told", defArgs s_Liking_told, defBody s_Liking_told, defScope s_Liking_told, [], []⟩
abbrev s_Liking_told_more : Stmt := inClass (top 39) 31
abbrev N_Liking_told_more : List Str := ["self", "call", "numbers"]
theorem sc_Liking_told_more : FnScope N_Liking_told_more ["self", "call", "numbers"] (defScope s_Liking_told_more) := ⟨rfl, rfl, rfl, by decide +kernel, rfl, by decide +kernel, by decide +kernel⟩
def d_Liking_told_more : He.DefD := ⟨("Liking", some "told_more"), "told_more", "Liking.told_more", defArgs s_Liking_told_more, defBody s_Liking_told_more, defScope s_Liking_told_more, [], []⟩
abbrev s_Liking_answer : Stmt := inClass (top 39) 32
abbrev N_Liking_answer : List Str := ["self", "call", "numbers"]
theorem sc_Liking_answer : FnScope N_Liking_answer ["self", "call", "numbers"] (defScope s_Liking_answer) := ⟨rfl, rfl, rfl, by decide +kernel, rfl, by decide +kernel, by decide +kernel⟩
def d_Liking_answer : He.DefD := ⟨("Liking", some "answer"), "answer", "Liking.answer", defArgs s_Liking_answer, defBody s_Liking_answer, defScope s_Liking_answer, [], []⟩
abbrev s_answers : Stmt := top 40
abbrev N_answers : List Str := ["calls", "liking", "found", "place", "call", "many", "numbers", "lists", "turn", "answer"]
theorem sc_answers : FnScope N_answers ["calls"] (defScope s_answers) := ⟨rfl, rfl, rfl, by decide +kernel, rfl, by decide +kernel, by decide +kernel⟩
def d_answers : He.DefD := ⟨("answers", none), "answers", "answers", defArgs s_answers, defBody s_answers, defScope s_answers, [], []⟩
def fns : List He.DefD := [d_product, d_squares, d_nearest, d_gain, d_best_value, d_quadratic_of, d_are_closer, d_in_order, d_lowest_terms, d_are_settings, d_hashed, d_Settings_init, d_Settings_penalty, d_Settings_bounds, d_Settings_first_factor, d_Settings_first_row, d_copies, d_Model_init, d_Model_reset, d_Model_copied, d_Model_predicted, d_Model_prediction, d_Model_renew, d_Model_rate, d_Model_unrate, d_Model_forget, d_Model_cells, d_Model_quadratic, d_Model_better, d_Model_set_to, d_Model_step, d_Model_parameters, d_Model_sweep, d_Model_train, d_Model_error_part, d_Model_penalty_part, d_Model_objective, d_Model_round_of, d_Model_new_row, d_Model_recommended, d_flat, d_Liking_init, d_Liking_create, d_Liking_is_user, d_Liking_is_item, d_Liking_are_both, d_Liking_is_parameter, d_Liking_set_rating, d_Liking_clear_rating, d_Liking_delete_user, d_Liking_reset, d_Liking_step, d_Liking_sweep, d_Liking_train, d_Liking_objective, d_Liking_curve, d_Liking_certificate, d_Liking_quadratic, d_Liking_parameter, d_Liking_set_parameter, d_Liking_predict, d_Liking_explain, d_Liking_residuals, d_Liking_mean_error, d_Liking_recommend, d_Liking_similar, d_Liking_told_pairs, d_Liking_fold_in, d_Liking_recommend_new, d_Liking_without, d_Liking_status, d_Liking_told, d_Liking_told_more, d_Liking_answer, d_answers]
def fas : List He.Fa := [.glo "product", .glo "squares", .glo "nearest", .glo "gain", .glo "best_value", .glo "quadratic_of", .glo "are_closer", .glo "in_order", .glo "lowest_terms", .glo "are_settings", .glo "hashed", .glo "copies", .glo "flat", .glo "answers", .glo "Settings", .cls "Settings", .mkr "Settings", .noat "Settings" "many", .noat "Settings" "factors", .noat "Settings" "limit", .noat "Settings" "is_nonnegative", .noat "Settings" "penalties", .noat "Settings" "seed", .glo "Model", .cls "Model", .mkr "Model", .noat "Model" "settings", .noat "Model" "ratings", .noat "Model" "raters", .noat "Model" "rests", .noat "Model" "base", .noat "Model" "rows", .glo "Liking", .cls "Liking", .mkr "Liking", .noat "Liking" "model", .meth "Settings" "__init__", .meth "Settings" "penalty", .meth "Settings" "bounds", .meth "Settings" "first_factor", .meth "Settings" "first_row", .meth "Model" "__init__", .meth "Model" "reset", .meth "Model" "copied", .meth "Model" "predicted", .meth "Model" "prediction", .meth "Model" "renew", .meth "Model" "rate", .meth "Model" "unrate", .meth "Model" "forget", .meth "Model" "cells", .meth "Model" "quadratic", .meth "Model" "better", .meth "Model" "set_to", .meth "Model" "step", .meth "Model" "parameters", .meth "Model" "sweep", .meth "Model" "train", .meth "Model" "error_part", .meth "Model" "penalty_part", .meth "Model" "objective", .meth "Model" "round_of", .meth "Model" "new_row", .meth "Model" "recommended", .meth "Liking" "__init__", .meth "Liking" "create", .meth "Liking" "is_user", .meth "Liking" "is_item", .meth "Liking" "are_both", .meth "Liking" "is_parameter", .meth "Liking" "set_rating", .meth "Liking" "clear_rating", .meth "Liking" "delete_user", .meth "Liking" "reset", .meth "Liking" "step", .meth "Liking" "sweep", .meth "Liking" "train", .meth "Liking" "objective", .meth "Liking" "curve", .meth "Liking" "certificate", .meth "Liking" "quadratic", .meth "Liking" "parameter", .meth "Liking" "set_parameter", .meth "Liking" "predict", .meth "Liking" "explain", .meth "Liking" "residuals", .meth "Liking" "mean_error", .meth "Liking" "recommend", .meth "Liking" "similar", .meth "Liking" "told_pairs", .meth "Liking" "fold_in", .meth "Liking" "recommend_new", .meth "Liking" "without", .meth "Liking" "status", .meth "Liking" "told", .meth "Liking" "told_more", .meth "Liking" "answer", .free "sum", .free "zip", .free "max", .free "min", .free "len", .free "range", .free "sorted", .free "list", .free "dict", .free "enumerate", .free "int", .int "MOST_ROWS" 8, .int "MOST_FACTORS" 3, .int "MOST_LIMIT" 4096, .int "MOST_PENALTY" 100000000, .int "MOST_BIAS_PENALTY" 1000, .int "UNIT" 65536, .int "BIAS_RANGE" 655360, .int "HASH_START" 14695981039346656037, .int "HASH_PRIME" 1099511628211, .int "HASH_SIZE" 18446744073709551616, .int "FIRST_MOST" 64, .int "MOST_ROUNDS" 100, .int "NO_MODEL" (-11), .int "NOT_THERE" (-2), .int "BEYOND" (-22), .int "NO_RATING" (-33), .int "MOST_SWEEPS" 100, .int "MOST_CURVE" 20, .int "MOST_RATINGS" 16, .int "MOST_VALUE" 10]

/-- what the head tells: the facts of fas, the defs of fns, over the module's names -/
structure Txt (K : PySem.W.Frag) (mg : Str → Option Value) : Prop where
  c : He.SaysD fas fns K
  ns : ∃ h : Heap, K.In h ∧ h.Ns mainGlobals mg
section
variable {K : PySem.W.Frag} {mg : Str → Option Value}
theorem Txt.glo (T : Txt K mg) {x : Str} (c : (He.Fa.glo x).ok K = true) : mg x = some (.ref (He.ga K x)) := let ⟨_, X, G⟩ := T.ns; He.glo_ok X G c
theorem Txt.free (T : Txt K mg) {x : Str} (c : (He.Fa.free x).ok K = true) : mg x = none := let ⟨_, X, G⟩ := T.ns; He.free_ok X G c
theorem Txt.int (T : Txt K mg) {x : Str} {i : Int} (c : (He.Fa.int x i).ok K = true) : ∃ t, mg x = some (.int i t) := let ⟨_, X, G⟩ := T.ns; He.int_ok X G c
theorem Txt.g_product (T : Txt K mg) : mg "product" = some (.ref (He.ga K "product")) := T.glo (T.c.fact 0 (f := .glo "product"))
theorem Txt.g_squares (T : Txt K mg) : mg "squares" = some (.ref (He.ga K "squares")) := T.glo (T.c.fact 1 (f := .glo "squares"))
theorem Txt.g_nearest (T : Txt K mg) : mg "nearest" = some (.ref (He.ga K "nearest")) := T.glo (T.c.fact 2 (f := .glo "nearest"))
theorem Txt.g_gain (T : Txt K mg) : mg "gain" = some (.ref (He.ga K "gain")) := T.glo (T.c.fact 3 (f := .glo "gain"))
theorem Txt.g_best_value (T : Txt K mg) : mg "best_value" = some (.ref (He.ga K "best_value")) := T.glo (T.c.fact 4 (f := .glo "best_value"))
theorem Txt.g_quadratic_of (T : Txt K mg) : mg "quadratic_of" = some (.ref (He.ga K "quadratic_of")) := T.glo (T.c.fact 5 (f := .glo "quadratic_of"))
theorem Txt.g_are_closer (T : Txt K mg) : mg "are_closer" = some (.ref (He.ga K "are_closer")) := T.glo (T.c.fact 6 (f := .glo "are_closer"))
theorem Txt.g_in_order (T : Txt K mg) : mg "in_order" = some (.ref (He.ga K "in_order")) := T.glo (T.c.fact 7 (f := .glo "in_order"))
theorem Txt.g_lowest_terms (T : Txt K mg) : mg "lowest_terms" = some (.ref (He.ga K "lowest_terms")) := T.glo (T.c.fact 8 (f := .glo "lowest_terms"))
theorem Txt.g_are_settings (T : Txt K mg) : mg "are_settings" = some (.ref (He.ga K "are_settings")) := T.glo (T.c.fact 9 (f := .glo "are_settings"))
theorem Txt.g_hashed (T : Txt K mg) : mg "hashed" = some (.ref (He.ga K "hashed")) := T.glo (T.c.fact 10 (f := .glo "hashed"))
theorem Txt.g_copies (T : Txt K mg) : mg "copies" = some (.ref (He.ga K "copies")) := T.glo (T.c.fact 11 (f := .glo "copies"))
theorem Txt.g_flat (T : Txt K mg) : mg "flat" = some (.ref (He.ga K "flat")) := T.glo (T.c.fact 12 (f := .glo "flat"))
theorem Txt.g_answers (T : Txt K mg) : mg "answers" = some (.ref (He.ga K "answers")) := T.glo (T.c.fact 13 (f := .glo "answers"))
theorem Txt.g_Settings (T : Txt K mg) : mg "Settings" = some (.ref (He.ga K "Settings")) := T.glo (T.c.fact 14 (f := .glo "Settings"))
theorem Txt.c_Settings (T : Txt K mg) : Cls K (He.ga K "Settings") := He.cls_ok (T.c.fact 15 (f := .cls "Settings"))
theorem Txt.k_Settings (T : Txt K mg) : Mk K (He.ga K "Settings") (He.ma K (He.ga K "Settings") "__init__") := He.mkr_ok (T.c.fact 16 (f := .mkr "Settings"))
theorem Txt.n_Settings_many (T : Txt K mg) : NoAttr K (He.ga K "Settings") "many" := He.noat_ok (T.c.fact 17 (f := .noat "Settings" "many"))
theorem Txt.n_Settings_factors (T : Txt K mg) : NoAttr K (He.ga K "Settings") "factors" := He.noat_ok (T.c.fact 18 (f := .noat "Settings" "factors"))
theorem Txt.n_Settings_limit (T : Txt K mg) : NoAttr K (He.ga K "Settings") "limit" := He.noat_ok (T.c.fact 19 (f := .noat "Settings" "limit"))
theorem Txt.n_Settings_is_nonnegative (T : Txt K mg) : NoAttr K (He.ga K "Settings") "is_nonnegative" := He.noat_ok (T.c.fact 20 (f := .noat "Settings" "is_nonnegative"))
theorem Txt.n_Settings_penalties (T : Txt K mg) : NoAttr K (He.ga K "Settings") "penalties" := He.noat_ok (T.c.fact 21 (f := .noat "Settings" "penalties"))
theorem Txt.n_Settings_seed (T : Txt K mg) : NoAttr K (He.ga K "Settings") "seed" := He.noat_ok (T.c.fact 22 (f := .noat "Settings" "seed"))
theorem Txt.g_Model (T : Txt K mg) : mg "Model" = some (.ref (He.ga K "Model")) := T.glo (T.c.fact 23 (f := .glo "Model"))
theorem Txt.c_Model (T : Txt K mg) : Cls K (He.ga K "Model") := He.cls_ok (T.c.fact 24 (f := .cls "Model"))
theorem Txt.k_Model (T : Txt K mg) : Mk K (He.ga K "Model") (He.ma K (He.ga K "Model") "__init__") := He.mkr_ok (T.c.fact 25 (f := .mkr "Model"))
theorem Txt.n_Model_settings (T : Txt K mg) : NoAttr K (He.ga K "Model") "settings" := He.noat_ok (T.c.fact 26 (f := .noat "Model" "settings"))
theorem Txt.n_Model_ratings (T : Txt K mg) : NoAttr K (He.ga K "Model") "ratings" := He.noat_ok (T.c.fact 27 (f := .noat "Model" "ratings"))
theorem Txt.n_Model_raters (T : Txt K mg) : NoAttr K (He.ga K "Model") "raters" := He.noat_ok (T.c.fact 28 (f := .noat "Model" "raters"))
theorem Txt.n_Model_rests (T : Txt K mg) : NoAttr K (He.ga K "Model") "rests" := He.noat_ok (T.c.fact 29 (f := .noat "Model" "rests"))
theorem Txt.n_Model_base (T : Txt K mg) : NoAttr K (He.ga K "Model") "base" := He.noat_ok (T.c.fact 30 (f := .noat "Model" "base"))
theorem Txt.n_Model_rows (T : Txt K mg) : NoAttr K (He.ga K "Model") "rows" := He.noat_ok (T.c.fact 31 (f := .noat "Model" "rows"))
theorem Txt.g_Liking (T : Txt K mg) : mg "Liking" = some (.ref (He.ga K "Liking")) := T.glo (T.c.fact 32 (f := .glo "Liking"))
theorem Txt.c_Liking (T : Txt K mg) : Cls K (He.ga K "Liking") := He.cls_ok (T.c.fact 33 (f := .cls "Liking"))
theorem Txt.k_Liking (T : Txt K mg) : Mk K (He.ga K "Liking") (He.ma K (He.ga K "Liking") "__init__") := He.mkr_ok (T.c.fact 34 (f := .mkr "Liking"))
theorem Txt.n_Liking_model (T : Txt K mg) : NoAttr K (He.ga K "Liking") "model" := He.noat_ok (T.c.fact 35 (f := .noat "Liking" "model"))
theorem Txt.m_Settings_init (T : Txt K mg) : Meth K (He.ga K "Settings") "__init__" (He.ma K (He.ga K "Settings") "__init__") := He.meth_ok (T.c.fact 36 (f := .meth "Settings" "__init__"))
theorem Txt.m_Settings_penalty (T : Txt K mg) : Meth K (He.ga K "Settings") "penalty" (He.ma K (He.ga K "Settings") "penalty") := He.meth_ok (T.c.fact 37 (f := .meth "Settings" "penalty"))
theorem Txt.m_Settings_bounds (T : Txt K mg) : Meth K (He.ga K "Settings") "bounds" (He.ma K (He.ga K "Settings") "bounds") := He.meth_ok (T.c.fact 38 (f := .meth "Settings" "bounds"))
theorem Txt.m_Settings_first_factor (T : Txt K mg) : Meth K (He.ga K "Settings") "first_factor" (He.ma K (He.ga K "Settings") "first_factor") := He.meth_ok (T.c.fact 39 (f := .meth "Settings" "first_factor"))
theorem Txt.m_Settings_first_row (T : Txt K mg) : Meth K (He.ga K "Settings") "first_row" (He.ma K (He.ga K "Settings") "first_row") := He.meth_ok (T.c.fact 40 (f := .meth "Settings" "first_row"))
theorem Txt.m_Model_init (T : Txt K mg) : Meth K (He.ga K "Model") "__init__" (He.ma K (He.ga K "Model") "__init__") := He.meth_ok (T.c.fact 41 (f := .meth "Model" "__init__"))
theorem Txt.m_Model_reset (T : Txt K mg) : Meth K (He.ga K "Model") "reset" (He.ma K (He.ga K "Model") "reset") := He.meth_ok (T.c.fact 42 (f := .meth "Model" "reset"))
theorem Txt.m_Model_copied (T : Txt K mg) : Meth K (He.ga K "Model") "copied" (He.ma K (He.ga K "Model") "copied") := He.meth_ok (T.c.fact 43 (f := .meth "Model" "copied"))
theorem Txt.m_Model_predicted (T : Txt K mg) : Meth K (He.ga K "Model") "predicted" (He.ma K (He.ga K "Model") "predicted") := He.meth_ok (T.c.fact 44 (f := .meth "Model" "predicted"))
theorem Txt.m_Model_prediction (T : Txt K mg) : Meth K (He.ga K "Model") "prediction" (He.ma K (He.ga K "Model") "prediction") := He.meth_ok (T.c.fact 45 (f := .meth "Model" "prediction"))
theorem Txt.m_Model_renew (T : Txt K mg) : Meth K (He.ga K "Model") "renew" (He.ma K (He.ga K "Model") "renew") := He.meth_ok (T.c.fact 46 (f := .meth "Model" "renew"))
theorem Txt.m_Model_rate (T : Txt K mg) : Meth K (He.ga K "Model") "rate" (He.ma K (He.ga K "Model") "rate") := He.meth_ok (T.c.fact 47 (f := .meth "Model" "rate"))
theorem Txt.m_Model_unrate (T : Txt K mg) : Meth K (He.ga K "Model") "unrate" (He.ma K (He.ga K "Model") "unrate") := He.meth_ok (T.c.fact 48 (f := .meth "Model" "unrate"))
theorem Txt.m_Model_forget (T : Txt K mg) : Meth K (He.ga K "Model") "forget" (He.ma K (He.ga K "Model") "forget") := He.meth_ok (T.c.fact 49 (f := .meth "Model" "forget"))
theorem Txt.m_Model_cells (T : Txt K mg) : Meth K (He.ga K "Model") "cells" (He.ma K (He.ga K "Model") "cells") := He.meth_ok (T.c.fact 50 (f := .meth "Model" "cells"))
theorem Txt.m_Model_quadratic (T : Txt K mg) : Meth K (He.ga K "Model") "quadratic" (He.ma K (He.ga K "Model") "quadratic") := He.meth_ok (T.c.fact 51 (f := .meth "Model" "quadratic"))
theorem Txt.m_Model_better (T : Txt K mg) : Meth K (He.ga K "Model") "better" (He.ma K (He.ga K "Model") "better") := He.meth_ok (T.c.fact 52 (f := .meth "Model" "better"))
theorem Txt.m_Model_set_to (T : Txt K mg) : Meth K (He.ga K "Model") "set_to" (He.ma K (He.ga K "Model") "set_to") := He.meth_ok (T.c.fact 53 (f := .meth "Model" "set_to"))
theorem Txt.m_Model_step (T : Txt K mg) : Meth K (He.ga K "Model") "step" (He.ma K (He.ga K "Model") "step") := He.meth_ok (T.c.fact 54 (f := .meth "Model" "step"))
theorem Txt.m_Model_parameters (T : Txt K mg) : Meth K (He.ga K "Model") "parameters" (He.ma K (He.ga K "Model") "parameters") := He.meth_ok (T.c.fact 55 (f := .meth "Model" "parameters"))
theorem Txt.m_Model_sweep (T : Txt K mg) : Meth K (He.ga K "Model") "sweep" (He.ma K (He.ga K "Model") "sweep") := He.meth_ok (T.c.fact 56 (f := .meth "Model" "sweep"))
theorem Txt.m_Model_train (T : Txt K mg) : Meth K (He.ga K "Model") "train" (He.ma K (He.ga K "Model") "train") := He.meth_ok (T.c.fact 57 (f := .meth "Model" "train"))
theorem Txt.m_Model_error_part (T : Txt K mg) : Meth K (He.ga K "Model") "error_part" (He.ma K (He.ga K "Model") "error_part") := He.meth_ok (T.c.fact 58 (f := .meth "Model" "error_part"))
theorem Txt.m_Model_penalty_part (T : Txt K mg) : Meth K (He.ga K "Model") "penalty_part" (He.ma K (He.ga K "Model") "penalty_part") := He.meth_ok (T.c.fact 59 (f := .meth "Model" "penalty_part"))
theorem Txt.m_Model_objective (T : Txt K mg) : Meth K (He.ga K "Model") "objective" (He.ma K (He.ga K "Model") "objective") := He.meth_ok (T.c.fact 60 (f := .meth "Model" "objective"))
theorem Txt.m_Model_round_of (T : Txt K mg) : Meth K (He.ga K "Model") "round_of" (He.ma K (He.ga K "Model") "round_of") := He.meth_ok (T.c.fact 61 (f := .meth "Model" "round_of"))
theorem Txt.m_Model_new_row (T : Txt K mg) : Meth K (He.ga K "Model") "new_row" (He.ma K (He.ga K "Model") "new_row") := He.meth_ok (T.c.fact 62 (f := .meth "Model" "new_row"))
theorem Txt.m_Model_recommended (T : Txt K mg) : Meth K (He.ga K "Model") "recommended" (He.ma K (He.ga K "Model") "recommended") := He.meth_ok (T.c.fact 63 (f := .meth "Model" "recommended"))
theorem Txt.m_Liking_init (T : Txt K mg) : Meth K (He.ga K "Liking") "__init__" (He.ma K (He.ga K "Liking") "__init__") := He.meth_ok (T.c.fact 64 (f := .meth "Liking" "__init__"))
theorem Txt.m_Liking_create (T : Txt K mg) : Meth K (He.ga K "Liking") "create" (He.ma K (He.ga K "Liking") "create") := He.meth_ok (T.c.fact 65 (f := .meth "Liking" "create"))
theorem Txt.m_Liking_is_user (T : Txt K mg) : Meth K (He.ga K "Liking") "is_user" (He.ma K (He.ga K "Liking") "is_user") := He.meth_ok (T.c.fact 66 (f := .meth "Liking" "is_user"))
theorem Txt.m_Liking_is_item (T : Txt K mg) : Meth K (He.ga K "Liking") "is_item" (He.ma K (He.ga K "Liking") "is_item") := He.meth_ok (T.c.fact 67 (f := .meth "Liking" "is_item"))
theorem Txt.m_Liking_are_both (T : Txt K mg) : Meth K (He.ga K "Liking") "are_both" (He.ma K (He.ga K "Liking") "are_both") := He.meth_ok (T.c.fact 68 (f := .meth "Liking" "are_both"))
theorem Txt.m_Liking_is_parameter (T : Txt K mg) : Meth K (He.ga K "Liking") "is_parameter" (He.ma K (He.ga K "Liking") "is_parameter") := He.meth_ok (T.c.fact 69 (f := .meth "Liking" "is_parameter"))
theorem Txt.m_Liking_set_rating (T : Txt K mg) : Meth K (He.ga K "Liking") "set_rating" (He.ma K (He.ga K "Liking") "set_rating") := He.meth_ok (T.c.fact 70 (f := .meth "Liking" "set_rating"))
theorem Txt.m_Liking_clear_rating (T : Txt K mg) : Meth K (He.ga K "Liking") "clear_rating" (He.ma K (He.ga K "Liking") "clear_rating") := He.meth_ok (T.c.fact 71 (f := .meth "Liking" "clear_rating"))
theorem Txt.m_Liking_delete_user (T : Txt K mg) : Meth K (He.ga K "Liking") "delete_user" (He.ma K (He.ga K "Liking") "delete_user") := He.meth_ok (T.c.fact 72 (f := .meth "Liking" "delete_user"))
theorem Txt.m_Liking_reset (T : Txt K mg) : Meth K (He.ga K "Liking") "reset" (He.ma K (He.ga K "Liking") "reset") := He.meth_ok (T.c.fact 73 (f := .meth "Liking" "reset"))
theorem Txt.m_Liking_step (T : Txt K mg) : Meth K (He.ga K "Liking") "step" (He.ma K (He.ga K "Liking") "step") := He.meth_ok (T.c.fact 74 (f := .meth "Liking" "step"))
theorem Txt.m_Liking_sweep (T : Txt K mg) : Meth K (He.ga K "Liking") "sweep" (He.ma K (He.ga K "Liking") "sweep") := He.meth_ok (T.c.fact 75 (f := .meth "Liking" "sweep"))
theorem Txt.m_Liking_train (T : Txt K mg) : Meth K (He.ga K "Liking") "train" (He.ma K (He.ga K "Liking") "train") := He.meth_ok (T.c.fact 76 (f := .meth "Liking" "train"))
theorem Txt.m_Liking_objective (T : Txt K mg) : Meth K (He.ga K "Liking") "objective" (He.ma K (He.ga K "Liking") "objective") := He.meth_ok (T.c.fact 77 (f := .meth "Liking" "objective"))
theorem Txt.m_Liking_curve (T : Txt K mg) : Meth K (He.ga K "Liking") "curve" (He.ma K (He.ga K "Liking") "curve") := He.meth_ok (T.c.fact 78 (f := .meth "Liking" "curve"))
theorem Txt.m_Liking_certificate (T : Txt K mg) : Meth K (He.ga K "Liking") "certificate" (He.ma K (He.ga K "Liking") "certificate") := He.meth_ok (T.c.fact 79 (f := .meth "Liking" "certificate"))
theorem Txt.m_Liking_quadratic (T : Txt K mg) : Meth K (He.ga K "Liking") "quadratic" (He.ma K (He.ga K "Liking") "quadratic") := He.meth_ok (T.c.fact 80 (f := .meth "Liking" "quadratic"))
theorem Txt.m_Liking_parameter (T : Txt K mg) : Meth K (He.ga K "Liking") "parameter" (He.ma K (He.ga K "Liking") "parameter") := He.meth_ok (T.c.fact 81 (f := .meth "Liking" "parameter"))
theorem Txt.m_Liking_set_parameter (T : Txt K mg) : Meth K (He.ga K "Liking") "set_parameter" (He.ma K (He.ga K "Liking") "set_parameter") := He.meth_ok (T.c.fact 82 (f := .meth "Liking" "set_parameter"))
theorem Txt.m_Liking_predict (T : Txt K mg) : Meth K (He.ga K "Liking") "predict" (He.ma K (He.ga K "Liking") "predict") := He.meth_ok (T.c.fact 83 (f := .meth "Liking" "predict"))
theorem Txt.m_Liking_explain (T : Txt K mg) : Meth K (He.ga K "Liking") "explain" (He.ma K (He.ga K "Liking") "explain") := He.meth_ok (T.c.fact 84 (f := .meth "Liking" "explain"))
theorem Txt.m_Liking_residuals (T : Txt K mg) : Meth K (He.ga K "Liking") "residuals" (He.ma K (He.ga K "Liking") "residuals") := He.meth_ok (T.c.fact 85 (f := .meth "Liking" "residuals"))
theorem Txt.m_Liking_mean_error (T : Txt K mg) : Meth K (He.ga K "Liking") "mean_error" (He.ma K (He.ga K "Liking") "mean_error") := He.meth_ok (T.c.fact 86 (f := .meth "Liking" "mean_error"))
theorem Txt.m_Liking_recommend (T : Txt K mg) : Meth K (He.ga K "Liking") "recommend" (He.ma K (He.ga K "Liking") "recommend") := He.meth_ok (T.c.fact 87 (f := .meth "Liking" "recommend"))
theorem Txt.m_Liking_similar (T : Txt K mg) : Meth K (He.ga K "Liking") "similar" (He.ma K (He.ga K "Liking") "similar") := He.meth_ok (T.c.fact 88 (f := .meth "Liking" "similar"))
theorem Txt.m_Liking_told_pairs (T : Txt K mg) : Meth K (He.ga K "Liking") "told_pairs" (He.ma K (He.ga K "Liking") "told_pairs") := He.meth_ok (T.c.fact 89 (f := .meth "Liking" "told_pairs"))
theorem Txt.m_Liking_fold_in (T : Txt K mg) : Meth K (He.ga K "Liking") "fold_in" (He.ma K (He.ga K "Liking") "fold_in") := He.meth_ok (T.c.fact 90 (f := .meth "Liking" "fold_in"))
theorem Txt.m_Liking_recommend_new (T : Txt K mg) : Meth K (He.ga K "Liking") "recommend_new" (He.ma K (He.ga K "Liking") "recommend_new") := He.meth_ok (T.c.fact 91 (f := .meth "Liking" "recommend_new"))
theorem Txt.m_Liking_without (T : Txt K mg) : Meth K (He.ga K "Liking") "without" (He.ma K (He.ga K "Liking") "without") := He.meth_ok (T.c.fact 92 (f := .meth "Liking" "without"))
theorem Txt.m_Liking_status (T : Txt K mg) : Meth K (He.ga K "Liking") "status" (He.ma K (He.ga K "Liking") "status") := He.meth_ok (T.c.fact 93 (f := .meth "Liking" "status"))
theorem Txt.m_Liking_told (T : Txt K mg) : Meth K (He.ga K "Liking") "told" (He.ma K (He.ga K "Liking") "told") := He.meth_ok (T.c.fact 94 (f := .meth "Liking" "told"))
theorem Txt.m_Liking_told_more (T : Txt K mg) : Meth K (He.ga K "Liking") "told_more" (He.ma K (He.ga K "Liking") "told_more") := He.meth_ok (T.c.fact 95 (f := .meth "Liking" "told_more"))
theorem Txt.m_Liking_answer (T : Txt K mg) : Meth K (He.ga K "Liking") "answer" (He.ma K (He.ga K "Liking") "answer") := He.meth_ok (T.c.fact 96 (f := .meth "Liking" "answer"))
theorem Txt.f_sum (T : Txt K mg) : mg "sum" = none := T.free (T.c.fact 97 (f := .free "sum"))
theorem Txt.f_zip (T : Txt K mg) : mg "zip" = none := T.free (T.c.fact 98 (f := .free "zip"))
theorem Txt.f_max (T : Txt K mg) : mg "max" = none := T.free (T.c.fact 99 (f := .free "max"))
theorem Txt.f_min (T : Txt K mg) : mg "min" = none := T.free (T.c.fact 100 (f := .free "min"))
theorem Txt.f_len (T : Txt K mg) : mg "len" = none := T.free (T.c.fact 101 (f := .free "len"))
theorem Txt.f_range (T : Txt K mg) : mg "range" = none := T.free (T.c.fact 102 (f := .free "range"))
theorem Txt.f_sorted (T : Txt K mg) : mg "sorted" = none := T.free (T.c.fact 103 (f := .free "sorted"))
theorem Txt.f_list (T : Txt K mg) : mg "list" = none := T.free (T.c.fact 104 (f := .free "list"))
theorem Txt.f_dict (T : Txt K mg) : mg "dict" = none := T.free (T.c.fact 105 (f := .free "dict"))
theorem Txt.f_enumerate (T : Txt K mg) : mg "enumerate" = none := T.free (T.c.fact 106 (f := .free "enumerate"))
theorem Txt.f_int (T : Txt K mg) : mg "int" = none := T.free (T.c.fact 107 (f := .free "int"))
theorem Txt.i_MOST_ROWS (T : Txt K mg) : ∃ t, mg "MOST_ROWS" = some (.int 8 t) := T.int (T.c.fact 108 (f := .int "MOST_ROWS" 8))
theorem Txt.i_MOST_FACTORS (T : Txt K mg) : ∃ t, mg "MOST_FACTORS" = some (.int 3 t) := T.int (T.c.fact 109 (f := .int "MOST_FACTORS" 3))
theorem Txt.i_MOST_LIMIT (T : Txt K mg) : ∃ t, mg "MOST_LIMIT" = some (.int 4096 t) := T.int (T.c.fact 110 (f := .int "MOST_LIMIT" 4096))
theorem Txt.i_MOST_PENALTY (T : Txt K mg) : ∃ t, mg "MOST_PENALTY" = some (.int 100000000 t) := T.int (T.c.fact 111 (f := .int "MOST_PENALTY" 100000000))
theorem Txt.i_MOST_BIAS_PENALTY (T : Txt K mg) : ∃ t, mg "MOST_BIAS_PENALTY" = some (.int 1000 t) := T.int (T.c.fact 112 (f := .int "MOST_BIAS_PENALTY" 1000))
theorem Txt.i_UNIT (T : Txt K mg) : ∃ t, mg "UNIT" = some (.int 65536 t) := T.int (T.c.fact 113 (f := .int "UNIT" 65536))
theorem Txt.i_BIAS_RANGE (T : Txt K mg) : ∃ t, mg "BIAS_RANGE" = some (.int 655360 t) := T.int (T.c.fact 114 (f := .int "BIAS_RANGE" 655360))
theorem Txt.i_HASH_START (T : Txt K mg) : ∃ t, mg "HASH_START" = some (.int 14695981039346656037 t) := T.int (T.c.fact 115 (f := .int "HASH_START" 14695981039346656037))
theorem Txt.i_HASH_PRIME (T : Txt K mg) : ∃ t, mg "HASH_PRIME" = some (.int 1099511628211 t) := T.int (T.c.fact 116 (f := .int "HASH_PRIME" 1099511628211))
theorem Txt.i_HASH_SIZE (T : Txt K mg) : ∃ t, mg "HASH_SIZE" = some (.int 18446744073709551616 t) := T.int (T.c.fact 117 (f := .int "HASH_SIZE" 18446744073709551616))
theorem Txt.i_FIRST_MOST (T : Txt K mg) : ∃ t, mg "FIRST_MOST" = some (.int 64 t) := T.int (T.c.fact 118 (f := .int "FIRST_MOST" 64))
theorem Txt.i_MOST_ROUNDS (T : Txt K mg) : ∃ t, mg "MOST_ROUNDS" = some (.int 100 t) := T.int (T.c.fact 119 (f := .int "MOST_ROUNDS" 100))
theorem Txt.i_NO_MODEL (T : Txt K mg) : ∃ t, mg "NO_MODEL" = some (.int (-11) t) := T.int (T.c.fact 120 (f := .int "NO_MODEL" (-11)))
theorem Txt.i_NOT_THERE (T : Txt K mg) : ∃ t, mg "NOT_THERE" = some (.int (-2) t) := T.int (T.c.fact 121 (f := .int "NOT_THERE" (-2)))
theorem Txt.i_BEYOND (T : Txt K mg) : ∃ t, mg "BEYOND" = some (.int (-22) t) := T.int (T.c.fact 122 (f := .int "BEYOND" (-22)))
theorem Txt.i_NO_RATING (T : Txt K mg) : ∃ t, mg "NO_RATING" = some (.int (-33) t) := T.int (T.c.fact 123 (f := .int "NO_RATING" (-33)))
theorem Txt.i_MOST_SWEEPS (T : Txt K mg) : ∃ t, mg "MOST_SWEEPS" = some (.int 100 t) := T.int (T.c.fact 124 (f := .int "MOST_SWEEPS" 100))
theorem Txt.i_MOST_CURVE (T : Txt K mg) : ∃ t, mg "MOST_CURVE" = some (.int 20 t) := T.int (T.c.fact 125 (f := .int "MOST_CURVE" 20))
theorem Txt.i_MOST_RATINGS (T : Txt K mg) : ∃ t, mg "MOST_RATINGS" = some (.int 16 t) := T.int (T.c.fact 126 (f := .int "MOST_RATINGS" 16))
theorem Txt.i_MOST_VALUE (T : Txt K mg) : ∃ t, mg "MOST_VALUE" = some (.int 10 t) := T.int (T.c.fact 127 (f := .int "MOST_VALUE" 10))
end
end Gs
namespace Gs
open PySem PySem.Spec PyProof.Rows L2
/-! ### a def that keeps its promise, by where it stands -/
section
variable {P : Program} {w : World} {K : PySem.W.Frag} {mg : Str → Option Value} {base : Heap}
def Has (P : Program) (w : World) (K : PySem.W.Frag) (mg : Str → Option Value) (base : Heap) (k : Nat) (d : Str × Option Str) (ps : List Str) (sp : Sp) : Prop :=
  ∃ fd : FuncData, FnOk P w K mg base CX0 k (He.fAd K d) fd ps sp ∧ Binds K fd ps [] ∧ PySem.W.keepIn K (.ref (He.fAd K d)) = true
theorem Has.of {d : He.DefD} {N ps : List Str} {k : Nat} {sp : Sp} (T : Txt K mg) (i : Nat) (hd : fns[i]? = some d) (h0 : d.dfl = [] ∧ d.kwd = []) (S : FnScope N ps d.scope)
    (hb : ∀ (kV doc pm : Value) (an : Option Addr) (cdv ct : Value) (us : List Value), us.length = ps.length → bindArgs (PySem.W.fnOf d.name d.qual d.params d.body d.scope .none kV doc pm an cdv ct) ⟨us, []⟩ = pure (ps.zip us))
    (len : ∀ vs H Q E, sp vs H Q E → vs.length = ps.length)
    (hbody : ∀ (cdv : Value) (A : Around) (outer : List Env) (s : Shared) (H : Hp) (vs : List V) (Q : VK) (E : XK), Room k (A.deeper (envOfC d.qual d.scope s.heap.objs.size (He.fAd K d.at_) cdv)) → sp vs H Q E →
      ∃ t, PSs (cxOf CX0 P w K mg base N d.qual d.scope (He.fAd K d.at_) cdv A outer s H E).nox d.body t ∧ t { nx := fun _ H' => Q .non H', rt := Q } (start N vs) H) :
    Has P w K mg base (k + 1) d.at_ ps sp := by
  obtain ⟨fd, F⟩ := T.c.def_ i hd
  have F2 : FunD K d.name d.qual d.params d.body d.scope [] [] (He.fAd K d.at_) fd := by
    have e1 : d.dvs K = [] := by unfold He.DefD.dvs; rw [h0.1]; rfl
    have e2 : d.kws K = [] := by unfold He.DefD.kws; rw [h0.2]; rfl
    rw [e1, e2] at F
    exact F
  refine ⟨fd, F2.ok S len fun cdv A outer s H vs Q E hr hsp => ?_, F2.bindsN hb, F2.kp⟩
  obtain ⟨t, h, q⟩ := hbody cdv A outer s H vs Q E hr hsp
  exact ⟨t, h.nox, q⟩
end
section
variable {X : Cx} {j : Nat} {ps : List Str} {sp : Sp} {x m Cn : Str} {p apos pos : Pos} {e o : Expr} {es : List Expr} {t : TA} {ta : TE}
theorem pe_callH (h : Has X.prog X.w X.K X.mg X.base j (x, none) ps sp) (hr : Room j X.A) (hg : Gl X x) (hm : X.mg x = some (.ref (He.ga X.K x))) (ha : PA X (e :: es) t) (hdb : (x == ("__debug__" : Str)) = false := by decide)
    (he : starEach (e :: es) X.env = (false, eval e X.env) :: starEach es X.env := by rfl) (hpl : (backTo pos (starEach es X.env)).any (·.1) = false := by rfl) :
    PE X (.Call (.Name x p) (e :: es) [] pos) (tCall sp [] E0 t) := by
  obtain ⟨fd, F, b, kp⟩ := h
  exact pe_call F hr hg hm kp b .nil pass0 ha hdb he hpl
theorem pe_methH {pl : Sem Bool} (he : PE X o ta) (c : Cls X.K (He.ga X.K Cn)) (hm : Meth X.K (He.ga X.K Cn) m (He.ma X.K (He.ga X.K Cn) m)) (h : Has X.prog X.w X.K X.mg X.base j (Cn, some m) ps sp) (hr : Room j X.A) (ha : PA X (e :: es) t)
    (hst : starEach (e :: es) X.env = (false, eval e X.env) :: starEach es X.env := by rfl) (hpl : (backTo pos (starEach es X.env)).any (·.1) = false := by rfl)
    (ht : eval (.Call (.Attribute o m apos) (e :: es) [] pos) X.env = (do
      let ov ← eval o X.env
      standAt apos.atName
      let (f, first) ← holding [ov] (getMethod ov m pl)
      callWith pos f first (backTo pos (starEach (e :: es) X.env)) (backToKw pos (keywordEach [] X.env))) := by rfl) :
    PE X (.Call (.Attribute o m apos) (e :: es) [] pos) (tMeth (He.ga X.K Cn) m sp [] E0 ta t) := by
  obtain ⟨fd, F, b, kp⟩ := h
  exact pe_meth he c hm F hr b .nil pass0 ha hst hpl ht
theorem pe_methH0 {pl : Sem Bool} (he : PE X o ta) (c : Cls X.K (He.ga X.K Cn)) (hm : Meth X.K (He.ga X.K Cn) m (He.ma X.K (He.ga X.K Cn) m)) (h : Has X.prog X.w X.K X.mg X.base j (Cn, some m) ps sp) (hr : Room j X.A)
    (ht : eval (.Call (.Attribute o m apos) [] [] pos) X.env = (do
      let ov ← eval o X.env
      standAt apos.atName
      let (f, first) ← holding [ov] (getMethod ov m pl)
      callWith pos f first (backTo pos (starEach [] X.env)) (backToKw pos (keywordEach [] X.env))) := by rfl) :
    PE X (.Call (.Attribute o m apos) [] [] pos) (tMeth (He.ga X.K Cn) m sp [] E0 ta tNil) := by
  obtain ⟨fd, F, b, kp⟩ := h
  exact pe_meth0 he c hm F hr b .nil pass0 ht
theorem pe_makeH (M : Mk X.K (He.ga X.K Cn) (He.ma X.K (He.ga X.K Cn) "__init__")) (h : Has X.prog X.w X.K X.mg X.base j (Cn, some "__init__") ps sp) (hr : Room (j + 1) X.A) (hg : Gl X Cn) (hm : X.mg Cn = some (.ref (He.ga X.K Cn))) (ha : PA X (e :: es) t)
    (hdb : (Cn == ("__debug__" : Str)) = false := by decide) (he : starEach (e :: es) X.env = (false, eval e X.env) :: starEach es X.env := by rfl) (hpl : (backTo pos (starEach es X.env)).any (·.1) = false := by rfl) :
    PE X (.Call (.Name Cn p) (e :: es) [] pos) (tMake (He.ga X.K Cn) sp [] E0 t) := by
  obtain ⟨fd, F, b, kp⟩ := h
  exact pe_make M F hr hg hm b .nil pass0 ha hdb he hpl
theorem pe_makeH0 (M : Mk X.K (He.ga X.K Cn) (He.ma X.K (He.ga X.K Cn) "__init__")) (h : Has X.prog X.w X.K X.mg X.base j (Cn, some "__init__") ps sp) (hr : Room (j + 1) X.A) (hg : Gl X Cn) (hm : X.mg Cn = some (.ref (He.ga X.K Cn)))
    (hdb : (Cn == ("__debug__" : Str)) = false := by decide) : PE X (.Call (.Name Cn p) [] [] pos) (tMake (He.ga X.K Cn) sp [] E0 tNil) := by
  obtain ⟨fd, F, b, kp⟩ := h
  exact pe_make0 M F hr hg hm b .nil pass0 hdb
/-- a module's whole number -/
theorem pe_gint {i : Int} (hg : Gl X x) (h : ∃ t, X.mg x = some (.int i t)) (hd : (x == ("__debug__" : Str)) = false := by decide) : PE X (.Name x pos) (tC (.int i)) := by
  obtain ⟨t, h⟩ := h
  exact pe_glob hg h ⟨_, rfl⟩ hd
/-- one of two readings -/
def tAlt (a b : TT) : TT := fun σ H Q => a σ H Q ∨ b σ H Q
theorem pt_alt {a b : TT} (h1 : PT X e a) (h2 : PT X e b) : PT X e (tAlt a b) :=
  ⟨fun pins s σ H Q I h => h.elim (fun q => h1.run pins s σ H Q I q) fun q => h2.run pins s σ H Q I q⟩
end
/-! ### the operators' readings by name -/
abbrev rAddI : R2 := rI0 fun i j => .int (i + j)
abbrev rSubI : R2 := rI0 fun i j => .int (i - j)
abbrev rMulI : R2 := rI CMul fun i j => .int (i * j)
abbrev rDivI : R2 := rI CDivN fun i j => .int (i.fdiv j)
abbrev rDivW : R2 := rI CDivW fun i j => .int (i / j)
abbrev rModI : R2 := rI (fun _ j => j ≠ 0) fun i j => .int (i.fmod j)
abbrev rXorI : R2 := rI0 fun i j => .int (Builtin.bitXor i j)
abbrev rNegI : V → Hp → VK → Prop := rU fun i => .int (-i)
abbrev rLtI : R2 := rI0 fun i j => .bl (decide (i < j))
abbrev rLeI : R2 := rI0 fun i j => .bl (decide (i ≤ j))
abbrev rGtI : R2 := rI0 fun i j => .bl (decide (j < i))
abbrev rGeI : R2 := rI0 fun i j => .bl (decide (j ≤ i))
def rIsNon : R2 := fun x y H Q => y = .non ∧ Q (.bl (decide (x = .non))) H
abbrev rMax2 := Evl.rMax2
def rMin2 : List V → Hp → VK → Prop := fun xs H Q => ∃ i j, xs = [.int i, .int j] ∧ Q (.int (if j < i then j else i)) H
def rIntB : List V → Hp → VK → Prop := fun xs H Q => (∃ i, xs = [.int i] ∧ Q (.int i) H) ∨ ∃ k, xs = [.bl k] ∧ Q (.int (if k then 1 else 0)) H
abbrev rLenQ (K : PySem.W.Frag) := Evl.rLenS K
abbrev rListQ (K : PySem.W.Frag) := Evl.rListS K
def rSortedD : List V → Hp → VK → Prop := fun xs H Q => ∃ (a : Addr) (kvs : List (Key × V)) (ks : List Int), xs = [.ref a] ∧ Rd H a (.dK kvs) ∧ kvs.map (·.1) = ks.map Sum.inl ∧ ks.length < 64 ∧
    ∀ (ys : List Int) (p : Addr), ys.Perm ks → ys.Pairwise (· ≤ ·) → H p = none → Q (.ref p) (upd H p (.lst (ys.map V.int)))
def rInsert : V → List V → Hp → VK → Prop := fun x vs H Q => ∃ (l : Addr) (xs : List V) (i : Int) (y : V), x = .ref l ∧ vs = [.int i, y] ∧ H l = some (.lst xs) ∧ xs.length < sizeLine ∧ 0 ≤ i ∧ i < 2 ^ 63 ∧
    Q .non (upd H l (.lst (xs.take i.toNat ++ [y] ++ xs.drop i.toNat)))
def rDictK : List V → Hp → VK → Prop := fun xs H Q => ∃ (a : Addr) (kvs : List (Key × V)), xs = [.ref a] ∧ Rd H a (.dK kvs) ∧ ∀ p, H p = none → Q (.ref p) (upd H p (.dK kvs))
/-- keys that are pairs of small whole numbers -/
def SmallKeys (kvs : List (List Key × V)) : Prop := ∀ kv ∈ kvs, ∃ u i : Nat, u < 8 ∧ i < 8 ∧ kv.1 = [.inl (u : Int), .inl (i : Int)]
def rDictT : List V → Hp → VK → Prop := fun xs H Q => ∃ (a : Addr) (kvs : List (List Key × V)), xs = [.ref a] ∧ Rd H a (.dT kvs) ∧ SmallKeys kvs ∧ ∀ p, H p = none → Q (.ref p) (upd H p (.dT kvs))
section
variable {X : Cx}
theorem cl_max2 (hc : X.calm = true) : CallR X (.builtin "max") rMax2 := call_max2 hc
theorem cl_min2 (hc : X.calm = true) : CallR X (.builtin "min") rMin2 := call_min2 hc
theorem cl_int : CallR X (.type "int") rIntB := call_int1
theorem cl_len : CallR X (.builtin "len") (rLenQ X.K) := call_len_seq
theorem cl_list : CallR X (.type "list") (rListQ X.K) := call_list_of
theorem cl_sortedD (hc : X.calm = true) : CallR X (.builtin "sorted") rSortedD := call_sortedDI hc
theorem cl_insert : MtR X "list.insert" rInsert := mt_insert
theorem cl_dictK : CallR X (.type "dict") rDictK := by
  intro pins s σ H xs us Q I r h
  obtain ⟨a, kvs, rfl, ha, q⟩ := h
  obtain ⟨u, rfl, ru⟩ := vals1 r
  cases ru
  exact d_copyOf I ha fun p s' hp I' => ⟨.ref p, _, I', rfl, q p hp⟩
end
end Gs
namespace Gs
open PySem PySem.Spec PyProof.Rows L2
/-! ### dict(d), d.values(), d.pop(k) of a dict whose keys are tuples -/
/-- dict(d): keys that are tuples -/
theorem dict_copyH {prog : Program} {w : World} {K : Type} [DecidableEq K] {knd : HeapKind prog w K} {A : Around} {E : Value → Shared → Prop} {s : Shared} {o : Addr} {more : List (K × Addr × Value)} {Q : Value → Shared → Prop} (hu : knd.room A.in1.in1) (hu3 : knd.room A.in1.in1.in1)
    (hoS : (o == sysModules) = false) (ho : s.heap.DictOfH knd o more) (hkp : ∀ x ∈ more, knd.is (s.heap.push { cls := .type "dict", data := .dict #[] }) x.1 x.2.1) (hty : ∀ x ∈ more, s.TypeIs (.ref x.2.1) "tuple") (hap : (more.map fun x => knd.hash x.1).Nodup) (hsz : more.length ≤ sizeLine)
    (h : ∀ h', h'.DictOfH knd s.heap.objs.size more → Heap.SameBut s.heap.objs.size (s.heap.push { cls := .type "dict", data := .dict #[] }) h' → Q (.ref s.heap.objs.size) { s with heap := h' }) :
    wpAny (model prog w) A (call (.type "dict") [.ref o]) Q E s := by
  refine callType_codes (Q₁ := fun obj s₁ => obj = .ref s.heap.objs.size ∧ s₁ = { s with heap := s.heap.push { cls := .type "dict", data := .dict #[] } }) F.kt_called_dict (F.kt_typeCall_dict_1 _) F.entry_dict_init (kt_code_dict_new _ ⟨rfl, rfl⟩) ?_
  rintro obj s₁ ⟨rfl, rfl⟩
  have hnew : (s.heap.push { cls := .type "dict", data := .dict #[] }).DictOfH knd s.heap.objs.size [] := Heap.DictOfH.new s.heap
  have hn : (more.map (·.1)).Nodup := Heap.DictOfH.nodup ho
  have ho' : (s.heap.push { cls := .type "dict", data := .dict #[] }).DictOfH knd o more := by
    obtain ⟨oo, es, ep, h1, h2, h3, h4, _, h6⟩ := ho
    exact ⟨oo, es, ep, Heap.get?_push_of_some _ h1, h2, h3, h4, hkp, h6⟩
  have hdo : s.heap.objs.size ≠ o := by
    obtain ⟨_, _, _, hg, _⟩ := ho
    exact fun e => absurd (Heap.lt_size hg) (by rw [e]; exact Nat.lt_irrefl _)
  refine ⟨hnew.typeIs, F.args_dict_init_2 _ _, ?_⟩
  unfold Builtin.«dict.__init__»
  refine wpAny_bind ?_
  unfold Builtin.Dict.selfAndRest
  refine wpAny_bind (wpAny_notOrdered_dict hnew.typeIs ?_)
  show wpAny _ _ (pure (s.heap.objs.size, [Value.ref o])) _ _ _
  refine wpAny_pure ?_
  show wpAny _ _ (Builtin.Dict.updateFrom "dict.__init__" s.heap.objs.size (.ref o) [] .none) _ _ _
  unfold Builtin.Dict.updateFrom
  refine wpAny_bind (wpAny_typeOf ho'.typeIs ?_)
  rw [if_neg (by decide)]
  refine wpAny_bind ?_
  unfold Builtin.Dict.merge
  refine wpAny_bind ?_
  unfold Builtin.Dict.readDirectly
  refine wpAny_bind (wpAny_isInstance ho'.typeIs isSubtype_dict_dict ?_)
  simp only [Bool.not_true, Bool.false_eq_true, if_false]
  refine wpAny_bind (wpAny_specialOf ho'.typeIs F.slot_dict_iter.lookup (wpAny_pure ?_))
  simp only [beq_self_eq_true, if_true]
  refine wpAny_bind (wpAny_pure ?_)
  refine wpAny_mergeDict_heap (hsz := by simpa using hsz) (by first | exact hu | exact hu3) hdo hoS hnew ho' (.inr ⟨fun x hx => ?_, hap⟩) fun h' hd' _ hs' => ?_
  · obtain ⟨o2, h1, h2⟩ := hty x hx
    exact ⟨o2, Heap.get?_push_of_some _ h1, h2⟩
  show wpAny _ _ (Builtin.Dict.addKeywords s.heap.objs.size [] >>= _) _ _ _
  rw [storedAllH_nil_of_nodup more hn] at hd'
  exact wpAny_bind (wpAny_pure (wpAny_pure ⟨rfl, h h' hd' hs'⟩))
def keyHash (u i : Nat) : Int := reduceHash (Builtin.Tuple.tupleHashOf [hashInt (u : Int), hashInt (i : Int)])
theorem keyHash_inj : ∀ u : Fin 8, ∀ i : Fin 8, ∀ v : Fin 8, ∀ j : Fin 8, keyHash u i = keyHash v j → u = v ∧ i = j := by decide +kernel
theorem hash_small {prog : Program} {w : World} {u i : Nat} : (tupleKind (mixKind prog w)).hash [.inl (u : Int), .inl (i : Int)] = keyHash u i := rfl
theorem smallKeys_apart {prog : Program} {w : World} : ∀ {ks : List (List Key)}, (∀ k ∈ ks, ∃ u i : Nat, u < 8 ∧ i < 8 ∧ k = [.inl (u : Int), .inl (i : Int)]) → ks.Nodup → (ks.map (tupleKind (mixKind prog w)).hash).Nodup
  | [], _, _ => List.nodup_nil
  | k :: ks, h, hn => by
    obtain ⟨h1, h2⟩ := List.nodup_cons.mp hn
    refine List.nodup_cons.mpr ⟨fun m => h1 ?_, smallKeys_apart (fun k' hk => h k' (List.mem_cons_of_mem _ hk)) h2⟩
    obtain ⟨k', hk', e⟩ := List.mem_map.mp m
    obtain ⟨u, i, hu, hi, rfl⟩ := h k (List.mem_cons_self ..)
    obtain ⟨v, j, hv, hj, rfl⟩ := h k' (List.mem_cons_of_mem _ hk')
    rw [hash_small, hash_small] at e
    obtain ⟨e1, e2⟩ := keyHash_inj ⟨v, hv⟩ ⟨j, hj⟩ ⟨u, hu⟩ ⟨i, hi⟩ e
    have e1' : v = u := congrArg Fin.val e1
    have e2' : j = i := congrArg Fin.val e2
    rw [← e1', ← e2']
    exact hk'
section
variable {X : Cx}
theorem cl_dictT (hu : X.A.units + 64 < cLine) : CallR X (.type "dict") rDictT := by
  intro pins s σ H xs us Q I r h
  obtain ⟨a, kvs, rfl, ha, hs, q⟩ := h
  obtain ⟨u, rfl, ru⟩ := vals1 r
  cases ru
  obtain ⟨z, hd, xs, rel, dd⟩ := dt_rd I.hok ha
  have hz : xs.length ≤ sizeLine := by rw [← Paired.length rel]; exact z
  have hk : xs.map (·.1) = kvs.map (·.1) := by
    clear dd z hz q hs ha
    induction rel with
    | nil => rfl
    | cons h t ih => rw [List.map_cons, List.map_cons, ih, h.1]
  have hks : ∀ x ∈ xs, ∃ u i : Nat, u < 8 ∧ i < 8 ∧ x.1 = [.inl (u : Int), .inl (i : Int)] := fun x hx => by
    have m : x.1 ∈ kvs.map (·.1) := by rw [← hk]; exact List.mem_map_of_mem hx
    obtain ⟨kv, hkv, e⟩ := List.mem_map.mp m
    rw [← e]
    exact hs kv hkv
  have hnd := Heap.DictOfH.nodup dd
  obtain ⟨oo, es, ep, h1, h2, h3, h4, his, h6⟩ := id dd
  have hpush : ∀ x ∈ xs, (tupleKind (mixKind X.prog X.w)).is (s.heap.push { cls := .type "dict", data := .dict #[] }) x.1 x.2.1 := fun x hx => tupleKind_stays.stays (fun b o _ _ e _ => Heap.get?_push_of_some _ e) (his x hx)
  refine dict_copyH (by show X.A.in1.in1.units < cLine; show X.A.units + 1 + 1 < cLine; omega) (by show X.A.units + 1 + 1 + 1 < cLine; omega) hd dd hpush (keyed_apart tupleKind_stays dd) ?_ hz fun h' dd' hs' => ?_
  · have e : (xs.map fun x => (tupleKind (mixKind X.prog X.w)).hash x.1) = (xs.map (·.1)).map (tupleKind (mixKind X.prog X.w)).hash := by rw [List.map_map]; rfl
    rw [e]
    refine smallKeys_apart (fun k hk' => ?_) hnd
    obtain ⟨x, hx, e⟩ := List.mem_map.mp hk'
    rw [← e]
    exact hks x hx
  · have hf : H s.heap.objs.size = none := I.hok.fresh (Nat.le_refl _)
    obtain ⟨o2, es2, ep2, g1, g2, g3, g4, _, g6⟩ := dd'
    refine ⟨.ref s.heap.objs.size, upd H s.heap.objs.size (.dT kvs), I.laid (t' := s.toks) (fun b q hq => (hs'.2 b (Nat.ne_of_lt (Heap.lt_size hq))).trans (Heap.get?_push_of_some _ hq)) (Nat.le_refl _) ?_, rfl, q _ hf⟩
    exact ⟨z, beq_eq_false_iff_ne.mpr (Ne.symm (Nat.ne_of_lt I.big)), xs, KT.keeps rel fun b ys e => by rw [upd_ne (ne_of_none e hf)]; exact e, o2, es2, ep2, g1, g2, g3, g4, g6⟩
/-! values() -/
/-- the values of the locked dict at d -/
def ItdT (d : Addr) (o : Obj) (kvs : List (List Key × V)) : It :=
  ⟨fun i H => H d = some (.frz o (.dT kvs)) ∧ i < kvs.length, fun i H x H' => H' = H ∧ ∃ k, kvs[i]? = some (k, x), fun i H => H d = some (.frz o (.dT kvs)) ∧ kvs.length ≤ i⟩
theorem frzT_vals {pins : List (Addr × Obj)} {s : Shared} {σ : L2.St} {H : Hp} {d : Addr} {o : Obj} {kvs : List (List Key × V)} (I : Inv X pins σ H s) (h : H d = some (.frz o (.dT kvs))) :
    (d == sysModules) = false ∧ s.heap.get? d = some o ∧ o.ExactDict ∧ ∃ (es : Array DictEntry) (ep : Nat), o.data = .dict es ep ∧ es.size = kvs.length ∧
      ∀ (i : Nat) (hi : i < es.size) (k : List Key) (v : V), kvs[i]? = some (k, v) → RelV v es[i].val := by
  obtain ⟨hd, z, hs, xs, pr, o', es, ep, ho, hx, hdt, he, _⟩ := I.hok d _ h
  rw [hd] at ho
  cases ho
  refine ⟨hs, hd, hx, es, ep, hdt, ?_, fun i hi k v e => ?_⟩
  · have l1 : es.size = xs.length := size_of_entries he
    have l2 : kvs.length = xs.length := Paired.length pr
    omega
  · obtain ⟨b, hb, e1, e2, e3⟩ := paired_get pr e
    have q := entry_at he i
    rw [hb, Array.getElem?_eq_getElem hi] at q
    have q2 : es[i] = entryOfKey (tupleKind (mixKind X.prog X.w)) b := Option.some.inj q
    rw [q2]
    exact e3
theorem turn_valsT {P : Program} {w : World} {K : PySem.W.Frag} {tg : Expr} {d : Addr} {o : Obj} {es : Array DictEntry} {ep : Nat} {kvs : List (List Key × V)} (it : Addr) (hod : o.data = .dict es ep) :
    Turn P w K tg (ItdT d o kvs) [it] it (fun i h => h.IsValIter it d i kvs.length ep) where
  mem := by simp
  obj := fun i h st b hb => by
    have e : b = it := by simpa using hb
    subst e
    obtain ⟨oi, e, c, dd⟩ := st
    exact ⟨oi, e, fun v z => by rw [dd] at z; cases z⟩
  keep := fun i h h' st k => st.at fun oi e => k it (by simp) oi e
  item := by
    intro X hP hw hK hc i pins s σ H E I hf st hg
    subst hP hw hK
    obtain ⟨hd, hi⟩ := hg
    obtain ⟨f0, f1, f2, f3, f4, f5⟩ := hf it (by simp)
    obtain ⟨hs, hgd, hx, es', ep', hdt, hsz, ent⟩ := frzT_vals I hd
    obtain ⟨rfl, rfl⟩ := dict_ep hod hdt
    obtain ⟨⟨k, v⟩, hkv⟩ : ∃ p, kvs[i]? = some p := ⟨kvs[i], List.getElem?_eq_getElem hi⟩
    have hi' : i < es'.size := by rw [hsz]; exact hi
    have ru := ent i hi' k v hkv
    rw [← hsz] at st
    refine wpAny_pyNext_values_item_raw st ⟨o, hgd, hx, hdt⟩ hi' fun h' st' sb => ?_
    have I1 : Inv X pins σ H { s with heap := h' } := I.turned (t' := s.toks) (fun b ob hb e => (sb.2 b hb).trans e) f0 f1 f3 f4 f5
    obtain ⟨oi, e, c, dd⟩ := id st'
    refine ⟨_, rfl, go_of (s := { s with heap := h' }) e c dd (by decide) ⟨v, H, I1, ru, ⟨rfl, k, hkv⟩, ?_, fun b hb => (hf b hb).1⟩⟩
    show h'.IsValIter it d (i + 1) kvs.length _
    rw [← hsz]
    exact st'
  done := by
    intro X hP hw hK hc i pins s σ H E I hf st hg
    subst hP hw hK
    obtain ⟨hd, hi⟩ := hg
    obtain ⟨f0, f1, f2, f3, f4, f5⟩ := hf it (by simp)
    obtain ⟨hs, hgd, hx, es', ep', hdt, hsz, ent⟩ := frzT_vals I hd
    obtain ⟨rfl, rfl⟩ := dict_ep hod hdt
    rw [← hsz] at st
    exact wpAny_pyNext_values_end_raw (I.ok.hd hc) st ⟨o, hgd, hx, hdt⟩ (by rw [hsz]; exact hi) fun h' eb => ⟨rfl, I.turned (t' := s.toks) (fun b ob hb e => eb b ob hb e) f0 f1 f3 f4 f5⟩
  self := fun A i s Q E st h => wpAny_pyIter_valiter st h
def iValsT (td : TE) : TI := fun σ H R => td σ H fun x H1 => ∃ d o kvs, x = .ref d ∧ H1 d = some (.frz o (.dT kvs)) ∧ R (ItdT d o kvs) H1
theorem pi_valuesT {tg e : Expr} {td : TE} {apos cpos : Pos} (he : PE X e td) (hbase : attributeBase e "values" X.env (eval e X.env) = eval e X.env := by rfl) (hline : (apos.endLine == cpos.line) = true := by rfl) : PI X tg (.Call (.Attribute e "values" apos) [] [] cpos) (iValsT td) := by
  refine ⟨fun pins s σ H R I h => ?_⟩
  refine wpAny_Call_method (T := "dict") (id := "dict.values") hbase rfl hline F.plainAttrs_dict F.slot_dict_values F.type_dict_values (thn (he.run pins s σ H _ I h) fun u s1 ⟨x, H1, I1, rx, d, o, kvs, ex, hd, q⟩ => ?_)
  subst ex
  obtain rfl : u = Value.ref d := rx
  obtain ⟨hs, hgd, hx, es, ep, hdt, hsz, ent⟩ := frzT_vals I1 hd
  have hraw : s1.heap.DictRaw d es ep := ⟨o, hgd, hx, hdt⟩
  obtain ⟨t1, t2, _⟩ := isD_at I1 (H := H1) (a := d) (.inr ⟨kvs, .inr ⟨o, hd⟩⟩)
  refine ⟨t1, t2, ?_⟩
  have I2 : Inv X pins σ H1 { s1 with heap := s1.heap.push { cls := .type "dict_values", data := .fields #[.ref d] } } := I1.kept (t' := s1.toks) fun b ob q => Heap.get?_push_of_some _ q
  have fin : wpAny (model X.prog X.w) X.A (pyIter (.ref s1.heap.objs.size)) (PIE X pins σ tg R) X.xe { s1 with heap := s1.heap.push { cls := .type "dict_values", data := .fields #[.ref d] } } := by
    refine wpAny_pyIter_values_raw (d := d) ⟨_, Heap.get?_push_size _ rfl, rfl, rfl⟩ (hraw.at fun ob e => Heap.get?_push_of_some _ e) (pi_one (tk := s1.toks) I2 _ (turn_valsT _ hdt) ⟨_, Heap.get?_push_size _ rfl, rfl, ?_⟩ q)
    rw [hsz] <;> rfl
  show wpAny _ _ (callWith cpos (.builtin "dict.values") [.ref d] [] []) _ X.xe s1
  exact method_meetsIn F.slot_dict_values F.entry_dict_values rfl (PySem.evalArgs_none ⟨rfl, t1, F.args_dict_values_1 _, _, meets_dict_values_raw d hs, ⟨es, ep, hraw⟩, fin⟩)
theorem walk_valuesT {d : Addr} {o : Obj} {kvs : List (List Key × V)} : Walk (ItdT d o kvs) kvs.length (fun H => H d = some (.frz o (.dT kvs))) (fun i H x H' => H' = H ∧ ∃ k, kvs[i]? = some (k, x)) :=
  ⟨fun _ _ hi q => ⟨q, hi⟩, fun _ q => ⟨q, Nat.le_refl _⟩, fun _ _ _ _ _ _ y => y⟩
/-! d.pop(k) -/
theorem KT_without {H : Hp} (k : List L2.Key) {kvs : List (List L2.Key × V)} {xs : List (List L2.Key × Addr × Value)} (r : KT H kvs xs) : KT H (dropK kvs k) (withoutH xs k) := L2.DX.KT_drop k r
def tDPopT (td ty : TE) : TE := fun σ H Q => td σ H fun x H1 => ∃ a, x = .ref a ∧ IsD H1 a ∧ ty σ H1 fun y H2 => ∃ kvs k b v, H2 a = some (.dT kvs) ∧ y = .ref b ∧ H2 b = some (.tup (k.map kV)) ∧ valV kvs k = some v ∧ Q v (upd H2 a (.dT (dropK kvs k)))
theorem pe_dpopT {o e : Expr} {td ty : TE} {apos cpos : Pos} (hu : X.A.units + 1 < cLine) (ho : PE X o td) (he : PE X e ty) (m : M1 X o "pop" apos e cpos) : PE X (.Call (.Attribute o "pop" apos) [e] [] cpos) (tDPopT td ty) := by
  refine ⟨fun pins s σ H Q I h => ?_⟩
  refine wpAny_Call_method (T := "dict") (id := "dict.pop") m.base m.few m.line F.plainAttrs_dict F.slot_dict_pop F.type_dict_pop (thn (ho.run pins s σ H _ I h) fun u s1 ⟨x, H1, I1, rx, a, ex, d, q1⟩ => ?_)
  subst ex
  obtain rfl : u = Value.ref a := rx
  obtain ⟨t1, t2, _⟩ := isD_at I1 d
  refine ⟨t1, t2, ?_⟩
  rw [m.trees]
  refine Calls.callWith_builtin rfl (Calls.evalArgs_plain (Calls.spliced_cons (thn (he.run pins s1 σ H1 _ I1 q1) fun iv s2 ⟨y, H2, I2, ry, kvs, k, b, v, ea, ey, eb, hv, q2⟩ => Calls.spliced_nil ?_)))
  subst ey
  obtain rfl : iv = Value.ref b := ry
  obtain ⟨z, hd, xs', rel, dd⟩ := dt_of I2.hok ea
  have hz : xs'.length ≤ sizeLine := by rw [← Paired.length rel]; exact z
  have r := rel.val k
  rw [hv] at r
  obtain ⟨p, hp, rv⟩ : ∃ p, atKey xs' k = some p ∧ RelV v p.2 := by
    cases ev : atKey xs' k with
    | none =>
      rw [ev] at r
      exact (show False from r).elim
    | some p =>
      rw [ev] at r
      exact ⟨p, rfl, r⟩
  refine call_pop_heap (more := []) (.inl rfl) (F.args_dict_pop_2 _ _) (tupleKind_room_in1 hu) (key_of I2.hok eb) hd dd hp (fun h' dd' hs => ?_) hz
  obtain ⟨oo, es, ep, hq, h2, h3, h4, _, h5⟩ := dd'
  have I3 : Inv X pins σ (upd H2 a (.dT (dropK kvs k))) { s2 with heap := h', toks := s2.toks + (tupleKind (mixKind X.prog X.w)).draws k } :=
    d_write I2 (by rw [ea]; exact True.intro) hs ⟨oo, hq⟩ ⟨Nat.le_trans (dropK_le kvs k) z, hd, _, (KT_without k rel).keeps (fun c ys ec => (by rw [upd_ne (ne_of ec ea (fun z => nomatch z))]; exact ec)), oo, es, ep, hq, h2, h3, h4, h5⟩
  exact ⟨v, _, I3, rv, q2⟩
end
end Gs
namespace Gs
open PySem PySem.Spec PyProof.Rows L2 LamX
/-! ### sorted(xs, key=lambda pair: (0 - pair[0], pair[1])), xs a list of pairs of whole numbers -/
/-- the lambda's body, its places open -/
abbrev lamBody (p0 p1 p2 p3 p4 p5 p6 p7 p8 : Pos) (k0 k1 k2 k3 : Nat) : Expr :=
  .Tuple [.BinOp (.Constant (.int 0) k0 p0) .Sub (.Subscript (.Name "pair" p1) (.Constant (.int 0) k1 p2) p3) p4, .Subscript (.Name "pair" p5) (.Constant (.int 1) k2 p6) p7] k3 p8
section
variable {prog : Program} {w : World} {A : Around} {E : Value → Shared → Prop} {s : Shared}
theorem lam_item {env : Env} {m : Str → Option Value} {t : Addr} {items : Array Value} {j : Nat} {x : Value} {k : Nat} {p1 p2 p3 : Pos} {Q : Value → Shared → Prop} (hk : env.scope.kind = .function) (hl : env.kindOf "pair" = some .local) (hn : s.heap.Ns env.locals m) (hv : m "pair" = some (.ref t))
    (ht : IsTup s.heap t items) (hj : seqIndex? (j : Int) items.size = some j) (hj2 : (j : Int) < 2 ^ 63) (hx : items[j]? = some x) (h : Q x { s with toks := s.toks + 1 }) :
    wpAny (model prog w) A (eval (.Subscript (.Name "pair" p1) (.Constant (.int (j : Int)) k p2) p3) env) Q E s := by
  refine Subscript_ (wpAny_Name (wpAny_loadName_local hk hl hn hv ?_) (by decide))
  refine wpAny_Constant_int ?_
  exact subscriptTail_builtinR (x := x) ht.typeIs slot_tuple_getitem.lookup (getItem_tuple (j := j) (Q := fun r s' => r = x ∧ Q r s') ht (by omega) hj2 hj hx ⟨rfl, h⟩) (by rfl)
theorem lam_body {env : Env} {m : Str → Option Value} {t : Addr} {a b : Int} {ta tb : Tok} {p0 p1 p2 p3 p4 p5 p6 p7 p8 : Pos} {k0 k1 k2 k3 : Nat} {Q : Value → Shared → Prop} (hk : env.scope.kind = .function) (hl : env.kindOf "pair" = some .local) (hn : s.heap.Ns env.locals m) (hv : m "pair" = some (.ref t))
    (ht : IsTup s.heap t #[.int a ta, .int b tb])
    (h : ∀ u tk, Q (.ref s.heap.objs.size) { s with heap := s.heap.push { cls := .type "tuple", data := .seq ([.int (0 - a) u, .int b tb] : List Value).toArray }, toks := tk }) :
    wpAny (model prog w) A (eval (lamBody p0 p1 p2 p3 p4 p5 p6 p7 p8 k0 k1 k2 k3) env) Q E s := by
  refine wpAny_Tuple_spliced ?_
  show wpAny _ _ (spliced [(false, eval (.BinOp (.Constant (.int 0) k0 p0) .Sub (.Subscript (.Name "pair" p1) (.Constant (.int 0) k1 p2) p3) p4) env), (false, eval (.Subscript (.Name "pair" p5) (.Constant (.int 1) k2 p6) p7) env)]) _ _ _
  refine Calls.spliced_cons (wpAny_BinOp (wpAny_Constant_int ?_))
  refine lam_item (s := { s with toks := s.toks + 1 }) (j := 0) (items := #[.int a ta, .int b tb]) hk hl hn hv ht rfl (by decide) rfl ?_
  refine sub_int ?_
  refine Calls.spliced_cons ?_
  refine lam_item (s := { s with toks := s.toks + 1 + 1 + 1 }) (j := 1) (items := #[.int a ta, .int b tb]) hk hl hn hv ht rfl (by decide) rfl ?_
  refine Calls.spliced_nil ⟨by show 2 ≤ sizeLine; decide, ?_⟩
  exact h _ _
/-- the key of a pair -/
def keyOf (x : Int × Int) : PyData := .tuple [.int (0 - x.1), .int x.2]
theorem lam_call {f t c' : Addr} {qual : Str} {params : Arguments} {scope : Scope} {cl : List (Str × Addr)} {pm ctv : Value} {a b : Int} {ta tb : Tok} {p0 p1 p2 p3 p4 p5 p6 p7 p8 : Pos} {k0 k1 k2 k3 : Nat}
    (ho : s.heap.get? f = some (PySem.W.kla_obj "<lambda>" qual params (lamBody p0 p1 p2 p3 p4 p5 p6 p7 p8 k0 k1 k2 k3) scope cl pm c' ctv)) (hcd : s.heap.CodeRec (.ref c') qual) (hroom : A.depth < recursionLimit) (hlim : s.heap.NoLimit)
    (hsk : scope.kind = .function) (hco : scope.isCoroutine = false) (hgen : scope.isGenerator = false) (hcell : ∀ y ∈ scope.names, y.2 ≠ .cell) (hloc : scope.names.lookup ("pair" : Str) = some .local)
    (hbind : ∀ v, bindArgs (PySem.W.kla_fn "<lambda>" qual params (lamBody p0 p1 p2 p3 p4 p5 p6 p7 p8 k0 k1 k2 k3) scope cl pm (.ref c') ctv) ⟨[v], []⟩ = pure [(("pair" : Str), v)])
    (ht : IsTup s.heap t #[.int a ta, .int b tb]) :
    wpAny (model prog w) A (call (.ref f) [.ref t]) (PySem.W.KeyPure (keyOf (a, b)) s) (fun _ _ => False) s := by
  refine wpAny_call ?_
  refine PySem.W.kla_callFunE hroom ho rfl hco hgen rfl hcd ?_
  rw [hbind]
  refine wpAny_pure (wpAny_newFunctionEnv hcell (fun y hy => ?_) (fun h₁ hns hsb => ⟨hlim.fresh _ hsb, ?_⟩) hsk)
  · obtain rfl : y = (("pair" : Str), Value.ref t) := by simpa using hy
    exact hloc
  have kp : ∀ b o, s.heap.get? b = some o → h₁.get? b = some o := fun b o e => hsb.extBut b o (Nat.ne_of_lt (Heap.lt_size e)) (Heap.get?_push_of_some _ e)
  refine PySem.W.kla_codeExpr (lam_body (m := fun x => ([(("pair" : Str), Value.ref t)] : List (Str × Value)).reverse.lookup x) hsk ?_ hns ?_ (a := a) (b := b) (ta := ta) (tb := tb) (t := t) ?_ ?_)
  · exact hloc
  · rfl
  · obtain ⟨o, ho2, hc, n, hd⟩ := ht
    exact ⟨o, kp _ _ ho2, hc, n, hd⟩
  · intro u tk
    refine ⟨_, _, rfl, fun b o e => Heap.get?_push_of_some _ (kp b o e), ?_⟩
    exact .tuple (Heap.get?_push_size _ rfl) rfl rfl (.cons (.int _ _) (.cons (.int _ _) .nil))
end
end Gs
namespace Gs
open PySem PySem.Spec PyProof.Rows L2 LamX
def leP (p q : Int × Int) : Bool := decide ((0 - p.1) < (0 - q.1) ∨ ((0 - p.1) = (0 - q.1) ∧ p.2 ≤ q.2))
theorem leP_is : PySem.W.dataLe false keyOf = leP := PySem.W.dataLe_ii (fun p : Int × Int => 0 - p.1) (fun p => p.2)
theorem keys_alike (ps : List (Int × Int)) : PySem.W.AllAlike (ps.map keyOf) := fun d hd d' hd' => by
  obtain ⟨x, _, rfl⟩ := List.mem_map.mp hd
  obtain ⟨y, _, rfl⟩ := List.mem_map.mp hd'
  rfl
theorem keys_sortable (ps : List (Int × Int)) : PySem.W.Sortable (ps.map keyOf) := .inl fun d hd => by
  obtain ⟨x, _, rfl⟩ := List.mem_map.mp hd
  exact ⟨_, _, rfl⟩
theorem keyOf_depth (x : Int × Int) : (keyOf x).depth ≤ 1 := by
  have e : (keyOf x).depth = 1 := rfl
  omega
def rSortL (K : PySem.W.Frag) (P : Addr) (q : Str) : V → Hp → VK → Prop := fun x H1 Q => Tabs [(P, q)] H1 ∧ ∃ (a : Addr) (ts : List Addr) (ps : List (Int × Int)), x = .ref a ∧ SqL K H1 a (ts.map V.ref) ∧
  Paired (fun t (p : Int × Int) => H1 t = some (.tup [.int p.1, .int p.2])) ts ps ∧ ts.length ≤ 1000 ∧
  ∀ (H2 : Hp) (p : Addr) (us : List Addr), ExtN H1 H2 → Tabs [(P, q)] H2 → H2 p = some (.lst (us.map V.ref)) → Paired (fun t (p : Int × Int) => H2 t = some (.tup [.int p.1, .int p.2])) us (ps.mergeSort leP) → Q (.ref p) H2
def tSortL (K : PySem.W.Frag) (P : Addr) (q : Str) (ta : TE) : TE := fun σ H Q => ta σ H fun x H1 => rSortL K P q x H1 Q
theorem each_of {H : Hp} : ∀ {ts : List Addr} {ps : List (Int × Int)}, Paired (fun t (p : Int × Int) => H t = some (.tup [.int p.1, .int p.2])) ts ps →
    PySem.W.EachIs (fun (v : Value) (p : Int × Int) => ∃ t : Addr, v = .ref t ∧ H t = some (.tup [.int p.1, .int p.2])) (ts.map Value.ref) ps
  | _, _, .nil => .nil
  | _, _, .cons h t => .cons ⟨_, rfl, h⟩ (each_of t)
theorem of_each {H : Hp} : ∀ {vs : List Value} {ps : List (Int × Int)}, PySem.W.EachIs (fun (v : Value) (p : Int × Int) => ∃ t : Addr, v = .ref t ∧ H t = some (.tup [.int p.1, .int p.2])) vs ps →
    ∃ us : List Addr, vs = us.map Value.ref ∧ Paired (fun t (p : Int × Int) => H t = some (.tup [.int p.1, .int p.2])) us ps
  | _, _, .nil => ⟨[], rfl, .nil⟩
  | _, _, .cons ⟨t, e, h⟩ r => by
    obtain ⟨us, e2, h2⟩ := of_each r
    exact ⟨t :: us, by rw [e, e2]; rfl, .cons h h2⟩
theorem vals_refs : ∀ us : List Addr, Vals (us.map V.ref) (us.map Value.ref)
  | [] => .nil
  | _ :: us => .cons rfl (vals_refs us)
theorem paired_mono {α β : Type} {F G : α → β → Prop} (f : ∀ a b, F a b → G a b) : ∀ {l : List α} {m : List β}, Paired F l m → Paired G l m
  | _, _, .nil => .nil
  | _, _, .cons h t => .cons (f _ _ h) (paired_mono f t)
theorem paired_len {α β : Type} {F : α → β → Prop} : ∀ {l : List α} {m : List β}, Paired F l m → l.length = m.length
  | _, _, .nil => rfl
  | _, _, .cons _ t => congrArg Nat.succ (paired_len t)
theorem pe_sortL {X : Cx} {c P : Addr} {q : Str} {fnd : Expr} {ta : TE} {params : Arguments} {scope : Scope} {p lpos kpos pos : Pos} {p0 p1 p2 p3 p4 p5 p6 p7 p8 : Pos} {k0 k1 k2 k3 : Nat} (hg : Gl X "sorted") (hm : X.mg "sorted" = none)
    (TB : TabB X.base X.mg c P) (hcode : X.env.code = .ref c) (hq : X.env.qual ++ "<lambda>" = q) (hr : Room 2 X.A) (hf : PE X fnd ta) (hdef : defaultsOf params X.env = ([], []))
    (hsk : scope.kind = .function) (hco : scope.isCoroutine = false) (hgen : scope.isGenerator = false) (hnames : ∀ y ∈ scope.names, y.2 ≠ .cell ∧ y.2 ≠ .free) (hloc : scope.names.lookup ("pair" : Str) = some .local)
    (hbind : ∀ (qual : Str) (cl : List (Str × Addr)) (pm : Value) (c' : Addr) (ctv v : Value), bindArgs (PySem.W.kla_fn "<lambda>" qual params (lamBody p0 p1 p2 p3 p4 p5 p6 p7 p8 k0 k1 k2 k3) scope cl pm (.ref c') ctv) ⟨[v], []⟩ = pure [(("pair" : Str), v)])
    (hst0 : starEach [fnd] X.env = (false, eval fnd X.env) :: starEach [] X.env := by rfl) (hst : backTo pos (starEach [fnd] X.env) = (false, eval fnd X.env) :: backTo pos (starEach [] X.env) := by rfl) (hpl : (backTo pos (starEach [fnd] X.env)).any (·.1) = false := by rfl) :
    PE X (.Call (.Name "sorted" p) [fnd] [⟨some "key", .Lambda params (lamBody p0 p1 p2 p3 p4 p5 p6 p7 p8 k0 k1 k2 k3) scope lpos, kpos⟩] pos) (tSortL X.K P q ta) := by
  subst hq
  refine ⟨fun pins s σ H Q I h => ?_⟩
  refine wpAny_Call_Name_kw (ld_blt I hg hm (by decide +kernel : bootBuiltins ("sorted" : Str) = some (.builtin "sorted")) ?_ (by decide) (by decide))
  have h' : tCons ta tNil σ H (fun vs H1 => match vs with
    | [x] => rSortL X.K P (X.env.qual ++ "<lambda>") x H1 Q
    | _ => False) := h
  refine PyProof.Rows.callWith_kw (thn ((pa_cons hf pa_nil hst0).run pos pins s σ H _ I h') fun us s1 ⟨vs, H1, I1, r1, q1⟩ => ?_) hst hpl rfl rfl
  obtain ⟨x, rfl⟩ : ∃ x, vs = [x] := by
    match vs, q1 with
    | [x], _ => exact ⟨x, rfl⟩
    | [], q => exact q.elim
    | _ :: _ :: _, q => exact q.elim
  obtain ⟨u, rfl, rx⟩ := vals1 r1
  obtain ⟨hT, a, ts, ps, rfl, hL, hP, hlen, k⟩ : rSortL X.K P (X.env.qual ++ "<lambda>") x H1 Q := q1
  cases rx
  show wpAny _ _ (evalAll [(do let v ← eval (.Lambda params (lamBody p0 p1 p2 p3 p4 p5 p6 p7 p8 k0 k1 k2 k3) scope lpos) X.env; standAt pos; pure v)]) _ _ s1
  refine wpAny_evalAll_cons (wpAny_bind (lam_make2 I1 TB hcode (List.mem_singleton.mpr rfl) (fun p hp _ => by rw [List.mem_singleton.mp hp]) hT hdef (fun y hy e => absurd e (hnames y hy).2) fun f c' pm ctv H2 s2 I2 eN T2 hfo hfn hfr hco' => wpAny_bind (wpAny_standAt (wpAny_pure ?_))))
  refine wpAny_evalAll_nil ?_
  show wpAny _ _ (call (.builtin "sorted") [.ref a] [(("key" : Str), .ref f)]) _ _ s2
  -- what stands behind the lambda's making
  have tups : ∀ b xs, H1 b = some (.tup xs) → H2 b = some (.tup xs) := fun b xs e => eN b _ e fun ps z => nomatch z
  have hP2 : Paired (fun t (p : Int × Int) => H2 t = some (.tup [.int p.1, .int p.2])) ts ps := paired_mono (fun t p e => tups t _ e) hP
  have hL2 : SqL X.K H2 a (ts.map V.ref) := by
    rcases hL with (e | ⟨o, e⟩) | e
    · exact .inl (.inl (eN a _ e fun ps z => nomatch z))
    · exact .inl (.inr ⟨o, eN a _ e fun ps z => nomatch z⟩)
    · exact .inr e
  obtain ⟨its, rv, pl, hz⟩ := I2.list hL2
  have hits := refs_at rv
  subst hits
  obtain ⟨⟨oc, cvs, ct, hoc, hdc, hvc⟩, _, _⟩ := I2.hok c' _ hco'
  have hcd : s2.heap.CodeRec (.ref c') (X.env.qual ++ "<lambda>") := ⟨c', oc, cvs, ct, rfl, hoc, hdc, hvc⟩
  have hun := hr.un
  have hdp := hr.dp
  refine PySem.W.sorted_key_data (b := false) (vs := ts.map Value.ref) (bs := ps) (R := fun (v : Value) (p : Int × Int) => ∃ t : Addr, v = .ref t ∧ H2 t = some (.tup [.int p.1, .int p.2])) keyOf pl.isList (each_of hP2) (keys_alike ps) (keys_sortable ps) ?_ ?_
    (PyProof.Rows.ksk_s1 _ _) (fun _ => PyProof.Rows.ksk_l1 _ _) (fun x => PyProof.Rows.ksk_t1 f x) ?_ ?_
  · rw [← paired_len hP2]
    exact Nat.le_trans hlen (by decide)
  · intro x _
    have := keyOf_depth x
    omega
  · rintro v x ⟨t, rfl, ht⟩ _ hp tk keep
    obtain ⟨_, its2, rv2, o2, ho2, hc2, n2, hd2⟩ := I2.hok t _ ht
    obtain ⟨u1, u2, rfl, ri, rj⟩ := vals2 rv2
    obtain ⟨t1, rfl⟩ := ri
    obtain ⟨t2, rfl⟩ := rj
    refine lam_call (s := { s2 with heap := hp, toks := tk }) (a := x.1) (b := x.2) (keep _ _ hfo) ⟨c', oc, cvs, ct, rfl, keep _ _ hoc, hdc, hvc⟩ ?_ (I2.nolimit.keeps keep) hsk hco hgen (fun y hy => (hnames y hy).1) hloc (fun v => hbind _ _ _ _ _ _) ⟨o2, keep _ _ ho2, hc2, n2, hd2⟩
    show X.A.depth < recursionLimit
    omega
  · intro out cc h3 tk3 keep fresh hnew hol ho
    obtain ⟨us, rfl, hus⟩ := of_each ho
    rw [leP_is] at hus
    have hf : H2 (s2.heap.objs.size + 1) = none := I2.hok.fresh (Nat.le_succ _)
    refine ⟨.ref _, upd H2 (s2.heap.objs.size + 1) (.lst (us.map V.ref)), I2.laid (t' := tk3) keep (Nat.le_succ _) ⟨?_, us.map Value.ref, cc, vals_refs us, hnew⟩, rfl, ?_⟩
    · rw [List.length_map]
      rw [List.length_map] at hol
      rw [hol, ← paired_len hP2]
      exact Nat.le_trans hlen (by decide)
    · have ex : ∀ b o, H2 b = some o → upd H2 (s2.heap.objs.size + 1) (.lst (us.map V.ref)) b = some o := fun b o e => by
        rw [upd_ne (ne_of_none e hf)]
        exact e
      exact k _ _ us (eN.trans (ExtN.of ex)) (T2.ext ex) upd_same (paired_mono (fun t p e => ex _ _ e) hus)
end Gs
namespace Gs
open PySem PySem.Spec PyProof.Rows L2 Evl
/-! ### readings: what evaluates to what, more of it -/
section
variable {K : PySem.W.Frag} {σ : L2.St} {H H1 H' : Hp} {ta tb te tx : TE} {t u : TT} {x y z v : V} {r : R2} {Q : VK}
/-- a reading that evaluates to v, then what follows -/
theorem run_ev (h : Ev te σ H v) (k : ∀ H1, Ex H H1 → Q v H1) : te σ H Q := h H (Ex.refl H) Q k
theorem run_et {b : Bool} {Q : Bool → Hp → Prop} (h : EvT t σ H b) (k : ∀ H1, Ex H H1 → Q b H1) : t σ H Q := h H (Ex.refl H) Q k
theorem run_ea {ta : TA} {vs : List V} {Q : List V → Hp → Prop} (h : EvA ta σ H vs) (k : ∀ H1, Ex H H1 → Q vs H1) : ta σ H Q := h H (Ex.refl H) Q k
theorem run_el {xs : List V} (h : EvL te σ H xs) (k : ∀ p H1, H p = none → Ex H H1 → H1 p = some (.lst xs) → Q (.ref p) H1) : te σ H Q := h H (Ex.refl H) Q k
theorem run_eu {xs : List V} (h : EvU te σ H xs) (k : ∀ p H1, H p = none → Ex H H1 → H1 p = some (.tup xs) → Q (.ref p) H1) : te σ H Q := h H (Ex.refl H) Q k
theorem ex_get {a : Addr} {o : HO} (e : Ex H H') (h : H a = some o) : H' a = some o := e a o h
theorem ev_fld {a C dx : Addr} {fs : List (Str × V)} {f : Str} (h : Ev ta σ H (.ref a)) (ho : H a = some (.ins C dx fs)) (hc : Cls K C) (hn : NoAttr K C f) (hl : fs.lookup f = some v) : Ev (tFld K ta f) σ H v := fun H1 e Q q =>
  h H1 e _ fun H2 e2 => ⟨a, C, dx, fs, v, rfl, (e.trans e2) a _ ho, hc, hn, hl, q H2 e2⟩
theorem at_nat {α : Type} {xs : List α} {j : Nat} {v : α} (h : xs[j]? = some v) : atI xs (j : Int) = some v := atI_nat h
theorem ev_ixL {p : Addr} {xs : List V} {j : Nat} (ha : Ev ta σ H (.ref p)) (hb : Ev tb σ H (.int (j : Int))) (h : SqL K H p xs) (hj : xs[j]? = some v) : Ev (tOp (rIxL K) ta tb) σ H v := ev_op ha hb (rv_ixL h (atI_nat hj))
theorem ev_ixT {p : Addr} {xs : List V} {j : Nat} (ha : Ev ta σ H (.ref p)) (hb : Ev tb σ H (.int (j : Int))) (h : SqT K H p xs) (hj : xs[j]? = some v) : Ev (tOp (rIxT K) ta tb) σ H v := ev_op ha hb (rv_ixT h (atI_nat hj))
theorem ev_add {i j : Int} (ha : Ev ta σ H (.int i)) (hb : Ev tb σ H (.int j)) : Ev (tOp rAddI ta tb) σ H (.int (i + j)) := ev_op ha hb rv_I0
theorem ev_sub {i j : Int} (ha : Ev ta σ H (.int i)) (hb : Ev tb σ H (.int j)) : Ev (tOp rSubI ta tb) σ H (.int (i - j)) := ev_op ha hb rv_I0
theorem ev_xor {i j : Int} (ha : Ev ta σ H (.int i)) (hb : Ev tb σ H (.int j)) : Ev (tOp rXorI ta tb) σ H (.int (Builtin.bitXor i j)) := ev_op ha hb rv_I0
theorem ev_mul {i j : Int} (ha : Ev ta σ H (.int i)) (hb : Ev tb σ H (.int j)) (hc : CMul i j) : Ev (tOp rMulI ta tb) σ H (.int (i * j)) := ev_op ha hb (rv_I hc)
theorem ev_div {i j : Int} (ha : Ev ta σ H (.int i)) (hb : Ev tb σ H (.int j)) (hc : CDivN i j) : Ev (tOp rDivI ta tb) σ H (.int (i.fdiv j)) := ev_op ha hb (rv_I hc)
theorem ev_divW {i j : Int} (ha : Ev ta σ H (.int i)) (hb : Ev tb σ H (.int j)) (hc : CDivW i j) : Ev (tOp rDivW ta tb) σ H (.int (i / j)) := ev_op ha hb (rv_I hc)
theorem ev_mod {i j : Int} (ha : Ev ta σ H (.int i)) (hb : Ev tb σ H (.int j)) (hc : j ≠ 0) : Ev (tOp rModI ta tb) σ H (.int (i.fmod j)) := ev_op ha hb (rv_I (C := fun _ j => j ≠ 0) hc)
theorem ev_neg {i : Int} (ha : Ev ta σ H (.int i)) : Ev (tUn rNegI ta) σ H (.int (-i)) := ev_un ha ru_neg
theorem ev_lt {i j : Int} (ha : Ev ta σ H (.int i)) (hb : Ev tb σ H (.int j)) : Ev (tOp rLtI ta tb) σ H (.bl (decide (i < j))) := ev_op ha hb rv_I0
theorem ev_le {i j : Int} (ha : Ev ta σ H (.int i)) (hb : Ev tb σ H (.int j)) : Ev (tOp rLeI ta tb) σ H (.bl (decide (i ≤ j))) := ev_op ha hb rv_I0
theorem ev_gt {i j : Int} (ha : Ev ta σ H (.int i)) (hb : Ev tb σ H (.int j)) : Ev (tOp rGtI ta tb) σ H (.bl (decide (j < i))) := ev_op ha hb rv_I0
theorem ev_ge {i j : Int} (ha : Ev ta σ H (.int i)) (hb : Ev tb σ H (.int j)) : Ev (tOp rGeI ta tb) σ H (.bl (decide (j ≤ i))) := ev_op ha hb rv_I0
theorem dec_int2 {i j : Int} : decide (V.int i = V.int j) = decide (i = j) := by
  by_cases h : i = j
  · rw [h]; simp
  · rw [decide_eq_false h, decide_eq_false fun z => h (V.int.inj z)]
theorem ev_eqi {i j : Int} (ha : Ev ta σ H (.int i)) (hb : Ev tb σ H (.int j)) : Ev (tOp rEq ta tb) σ H (.bl (decide (i = j))) := ev_is (ev_op ha hb (rv_eq rfl)) (by rw [dec_int2])
theorem ev_nei {i j : Int} (ha : Ev ta σ H (.int i)) (hb : Ev tb σ H (.int j)) : Ev (tOp rNe ta tb) σ H (.bl (!decide (i = j))) := ev_is (ev_op ha hb (rv_ne rfl)) (by rw [dec_int2])
theorem ev_isNon (ha : Ev ta σ H x) : Ev (tOp rIsNon ta (tC .non)) σ H (.bl (decide (x = .non))) := ev_op ha ev_c fun H1 _ Q q => ⟨rfl, q H1 (Ex.refl H1)⟩
theorem ev_max {i j : Int} (ha : Ev ta σ H (.int i)) (hb : Ev tb σ H (.int j)) : Ev (tCB rMax2 (tCons ta (tCons tb tNil))) σ H (.int (max i j)) := ev_is (ev_max2 ha hb) (by
  congr 1
  split <;> omega)
theorem ev_min {i j : Int} (ha : Ev ta σ H (.int i)) (hb : Ev tb σ H (.int j)) : Ev (tCB rMin2 (tCons ta (tCons tb tNil))) σ H (.int (min i j)) := ev_is (ev_cb (ea_cons ha (ea_cons hb ea_nil)) (fun H1 _ Q q => ⟨i, j, rfl, q H1 (Ex.refl H1)⟩ : RC rMin2 [.int i, .int j] H (.int (if j < i then j else i)))) (by
  congr 1
  split <;> omega)
theorem ev_intB {b : Bool} (ha : Ev ta σ H (.bl b)) : Ev (tCB rIntB (tCons ta tNil)) σ H (.int (if b then 1 else 0)) := ev_cb (ea_cons ha ea_nil) fun H1 _ Q q => .inr ⟨b, rfl, q H1 (Ex.refl H1)⟩
theorem ev_lenL {p : Addr} {xs : List V} (ha : Ev ta σ H (.ref p)) (h : SqL K H p xs) : Ev (tCB (rLenQ K) (tCons ta tNil)) σ H (.int (xs.length : Int)) := ev_len ha h
theorem ev_sum {ns : List Int} {p : Addr} (ha : Ev ta σ H (.ref p)) (h : SqL K H p (ns.map V.int)) : Ev (tCB (rSum K) (tCons ta tNil)) σ H (.int ns.sum) := ev_cb (ea_cons ha ea_nil) fun H1 e Q q => ⟨p, ns, rfl, ex_l e h, q H1 (Ex.refl H1)⟩
theorem ev_sumN {ns : List Int} {xs : List V} (ha : EvL ta σ H xs) (h : xs = ns.map V.int) : Ev (tCB (rSum K) (tCons ta tNil)) σ H (.int ns.sum) := fun H1 e Q q =>
  ha H1 e _ fun p H2 _ e2 h2 => ⟨p, ns, rfl, sq_of (by rw [← h]; exact h2), q H2 e2⟩
theorem ev_chain {i j k : Int} {a b : Bool} {r1 r2 : R2} {tc : TE} (ha : Ev ta σ H (.int i)) (hb : Ev tb σ H (.int j)) (hc : Ev tc σ H (.int k)) (h1 : RV r1 (.int i) (.int j) H (.bl a)) (h2 : RV r2 (.int j) (.int k) H (.bl b)) : Ev (tChain r1 r2 ta tb tc) σ H (.bl (a && b)) := fun H1 e Q q =>
  ha H1 e _ fun H2 e2 => hb H2 (e.trans e2) _ fun H3 e3 => h1 H3 ((e.trans e2).trans e3) _ fun H4 e4 => ⟨a, rfl, by
    cases a with
    | true =>
      show tc σ H4 fun w' H4 => r2 (.int j) w' H4 Q
      exact hc H4 (((e.trans e2).trans e3).trans e4) _ fun H5 e5 => h2 H5 ((((e.trans e2).trans e3).trans e4).trans e5) _ fun H6 e6 => q H6 ((((e2.trans e3).trans e4).trans e5).trans e6)
    | false =>
      show Q (.bl false) H4
      exact q H4 ((e2.trans e3).trans e4)⟩
theorem ev_chainLe {i j k : Int} {tc : TE} (ha : Ev ta σ H (.int i)) (hb : Ev tb σ H (.int j)) (hc : Ev tc σ H (.int k)) : Ev (tChain rLeI rLeI ta tb tc) σ H (.bl (decide (i ≤ j) && decide (j ≤ k))) := ev_chain ha hb hc rv_I0 rv_I0
/-- a method whose answer is z, the heap but grown -/
theorem ev_meth {C dx a : Addr} {m : Str} {sp : Sp} {E : XK} {t : TA} {fs : List (Str × V)} {vs : List V} (ha : Ev ta σ H (.ref a)) (ho : H a = some (.ins C dx fs)) (hl : fs.lookup m = none) (ht : EvA t σ H vs) (hs : SpV sp (.ref a :: (vs ++ [])) H z) : Ev (tMeth C m sp [] E ta t) σ H z := fun H1 e Q q =>
  ha H1 e _ fun H2 e2 => ⟨a, dx, fs, rfl, (e.trans e2) a _ ho, hl, ht H2 (e.trans e2) _ fun H3 e3 => hs H3 ((e.trans e2).trans e3) Q (fun H4 e4 => q H4 ((e2.trans e3).trans e4)) E⟩
theorem el_meth {C dx a : Addr} {m : Str} {sp : Sp} {E : XK} {t : TA} {fs : List (Str × V)} {vs xs : List V} (ha : Ev ta σ H (.ref a)) (ho : H a = some (.ins C dx fs)) (hl : fs.lookup m = none) (ht : EvA t σ H vs) (hs : SpL sp (.ref a :: (vs ++ [])) H xs) : EvL (tMeth C m sp [] E ta t) σ H xs := fun H1 e Q q =>
  ha H1 e _ fun H2 e2 => ⟨a, dx, fs, rfl, (e.trans e2) a _ ho, hl, ht H2 (e.trans e2) _ fun H3 e3 => hs H3 ((e.trans e2).trans e3) Q (fun p H4 hp e4 h4 => q p H4 (fresh_back (e2.trans e3) hp) ((e2.trans e3).trans e4) h4) E⟩
def SpU (sp : Sp) (vs : List V) (H : Hp) (xs : List V) : Prop := ∀ H1, Ex H H1 → ∀ Q : VK, (∀ p H2, H1 p = none → Ex H1 H2 → H2 p = some (.tup xs) → Q (.ref p) H2) → ∀ E : XK, sp vs H1 Q E
theorem eu_meth {C dx a : Addr} {m : Str} {sp : Sp} {E : XK} {t : TA} {fs : List (Str × V)} {vs xs : List V} (ha : Ev ta σ H (.ref a)) (ho : H a = some (.ins C dx fs)) (hl : fs.lookup m = none) (ht : EvA t σ H vs) (hs : SpU sp (.ref a :: (vs ++ [])) H xs) : EvU (tMeth C m sp [] E ta t) σ H xs := fun H1 e Q q =>
  ha H1 e _ fun H2 e2 => ⟨a, dx, fs, rfl, (e.trans e2) a _ ho, hl, ht H2 (e.trans e2) _ fun H3 e3 => hs H3 ((e.trans e2).trans e3) Q (fun p H4 hp e4 h4 => q p H4 (fresh_back (e2.trans e3) hp) ((e2.trans e3).trans e4) h4) E⟩
theorem eu_call {sp : Sp} {vs xs : List V} {E : XK} {ta : TA} (h : EvA ta σ H vs) (hs : SpU sp (vs ++ []) H xs) : EvU (tCall sp [] E ta) σ H xs := fun H1 e Q q =>
  h H1 e _ fun H2 e2 => hs H2 (e.trans e2) Q (fun p H3 hp e3 h3 => q p H3 (fresh_back e2 hp) (e2.trans e3) h3) E
/-- d[k], the key flat -/
theorem ev_dgetK {a : Addr} {kvs : List (Key × V)} {k : Int} (hd : Ev ta σ H (.ref a)) (hk : Ev tb σ H (.int k)) (h : Rd H a (.dK kvs)) (hv : valV kvs (.inl k) = some v) : Ev (tDGet ta tb) σ H v := fun H1 e Q q =>
  hd H1 e _ fun H2 e2 => hk H2 (e.trans e2) _ fun H3 e3 => ⟨a, v, rfl, .inl ⟨kvs, .inl k, ex_rd ((e.trans e2).trans e3) h, rfl, hv.symm⟩, q H3 (e2.trans e3)⟩
/-- a list + a list, both new | the first new, the second known -/
theorem el_cat {xs ys : List V} (ha : EvL ta σ H xs) (hb : EvL tb σ H ys) (hl : xs.length + ys.length ≤ 100000) : EvL (tOp rCat ta tb) σ H (xs ++ ys) := fun H1 e Q q =>
  ha H1 e _ fun p H2 hp e2 h2 => hb H2 (e.trans e2) _ fun p' H3 hp' e3 h3 => ⟨p, p', xs, ys, rfl, rfl, e3 p _ h2, h3, sz_of hl, fun l hl' => q l _ (fresh_back (e2.trans e3) hl') ((e2.trans e3).trans (Ex.new hl')) upd_same⟩
theorem el_catR {xs ys : List V} {p' : Addr} (ha : EvL ta σ H xs) (hb : Ev tb σ H (.ref p')) (h' : H p' = some (.lst ys)) (hl : xs.length + ys.length ≤ 100000) : EvL (tOp rCat ta tb) σ H (xs ++ ys) := fun H1 e Q q =>
  ha H1 e _ fun p H2 hp e2 h2 => hb H2 (e.trans e2) _ fun H3 e3 => ⟨p, p', xs, ys, rfl, rfl, e3 p _ h2, ((e.trans e2).trans e3) _ _ h', sz_of hl, fun l hl' => q l _ (fresh_back (e2.trans e3) hl') ((e2.trans e3).trans (Ex.new hl')) upd_same⟩
theorem el_catL {xs ys : List V} {p : Addr} (ha : Ev ta σ H (.ref p)) (hb : EvL tb σ H ys) (h' : H p = some (.lst xs)) (hl : xs.length + ys.length ≤ 100000) : EvL (tOp rCat ta tb) σ H (xs ++ ys) := fun H1 e Q q =>
  ha H1 e _ fun H2 e2 => hb H2 (e.trans e2) _ fun p' H3 hp' e3 h3 => ⟨p, p', xs, ys, rfl, rfl, ((e.trans e2).trans e3) p _ h', h3, sz_of hl, fun l hl' => q l _ (fresh_back (e2.trans e3) hl') ((e2.trans e3).trans (Ex.new hl')) upd_same⟩
theorem el_catB {xs ys : List V} {p p' : Addr} (ha : Ev ta σ H (.ref p)) (hb : Ev tb σ H (.ref p')) (h : H p = some (.lst xs)) (h' : H p' = some (.lst ys)) (hl : xs.length + ys.length ≤ 100000) : EvL (tOp rCat ta tb) σ H (xs ++ ys) := fun H1 e Q q =>
  ha H1 e _ fun H2 e2 => hb H2 (e.trans e2) _ fun H3 e3 => ⟨p, p', xs, ys, rfl, rfl, ((e.trans e2).trans e3) p _ h, ((e.trans e2).trans e3) p' _ h', sz_of hl, fun l hl' => q l _ (fresh_back (e2.trans e3) hl') ((e2.trans e3).trans (Ex.new hl')) upd_same⟩
theorem el_slN {tl th : TO} {xs : List V} {lo hi : Option Int} (h : EvL te σ H xs) (h1 : EvO tl σ H lo) (h2 : EvO th σ H hi) : EvL (tSl (rSlL K) te tl th) σ H (cutV xs lo hi) := fun H1 e _ q =>
  h H1 e _ fun a H2 ha e2 hx => h1 H2 (e.trans e2) _ fun H3 e3 => h2 H3 ((e.trans e2).trans e3) _ fun H4 e4 =>
    ⟨a, xs, rfl, sq_of (e4 a _ (e3 a _ hx)), fun p hp => q p _ (fresh_back ((e2.trans e3).trans e4) hp) (((e2.trans e3).trans e4).trans (Ex.new hp)) upd_same⟩
theorem q_par {D : Ends} {i j : Nat} {tz : TS} (ha : Ev ta σ H x) (hb : Ev tb σ H y) (k : ∀ H1, Ex H H1 → tz D ((σ.set i (some x)).set j (some y)) H1) : tSeq (tPar i j (tCons ta (tCons tb tNil))) tz D σ H :=
  ha H (Ex.refl H) _ fun H2 e2 => hb H2 e2 _ fun H3 e3 => ⟨x, y, rfl, k H3 (e2.trans e3)⟩
/-- i, j = t (a tuple) -/
theorem q_unp2 {D : Ends} {i j : Nat} {tz : TS} {a : Addr} (h : Ev te σ H (.ref a)) (hs : SqT K H a [x, y]) (k : ∀ H1, Ex H H1 → tz D ((σ.set i (some x)).set j (some y)) H1) : tSeq (tAsg te (gTup K 2 (gCons (gName i) (gCons (gName j) gNil)))) tz D σ H :=
  h H (Ex.refl H) _ fun H2 e2 => ⟨a, _, rfl, ex_t e2 hs, rfl, _, _, rfl, _, _, rfl, rfl, k H2 e2⟩
theorem q_unp2U {D : Ends} {i j : Nat} {tz : TS} (h : EvU te σ H [x, y]) (k : ∀ H1, Ex H H1 → tz D ((σ.set i (some x)).set j (some y)) H1) : tSeq (tAsg te (gTup K 2 (gCons (gName i) (gCons (gName j) gNil)))) tz D σ H :=
  h H (Ex.refl H) _ fun p H2 hp e2 h2 => ⟨p, _, rfl, st_of h2, rfl, _, _, rfl, _, _, rfl, rfl, k H2 e2⟩
/-- a target that is a pair | a triple, the item at hand -/
theorem g_unp2 {i j : Nat} {a : Addr} {Q : L2.St → Hp → Prop} (hs : SqT K H a [x, y]) (k : Q ((σ.set i (some x)).set j (some y)) H) : gTup K 2 (gCons (gName i) (gCons (gName j) gNil)) (.ref a) σ H Q :=
  ⟨a, _, rfl, hs, rfl, _, _, rfl, _, _, rfl, rfl, k⟩
theorem g_unp3 {i j l : Nat} {a : Addr} {Q : L2.St → Hp → Prop} (hs : SqT K H a [x, y, z]) (k : Q (((σ.set i (some x)).set j (some y)).set l (some z)) H) : gTup K 3 (gCons (gName i) (gCons (gName j) (gCons (gName l) gNil))) (.ref a) σ H Q :=
  ⟨a, _, rfl, hs, rfl, _, _, rfl, _, _, rfl, _, _, rfl, rfl, k⟩
theorem s_par {D : Ends} {i j : Nat} (ha : Ev ta σ H x) (hb : Ev tb σ H y) (k : ∀ H1, Ex H H1 → D.nx ((σ.set i (some x)).set j (some y)) H1) : tPar i j (tCons ta (tCons tb tNil)) D σ H :=
  ha H (Ex.refl H) _ fun H2 e2 => hb H2 e2 _ fun H3 e3 => ⟨x, y, rfl, k H3 (e2.trans e3)⟩
end
/-- the promises' third shape: a tuple made -/
def RetU (xs : List V) (H : Hp) (Q : VK) : Prop := ∀ p H2, H p = none → Ex H H2 → H2 p = some (.tup xs) → Q (.ref p) H2
section
variable {H H' : Hp} {Q : VK} {v : V} {xs : List V}
theorem RetV.ex (k : RetV v H Q) (e : Ex H H') : RetV v H' Q := fun H2 e2 => k H2 (e.trans e2)
theorem RetV.at (k : RetV v H Q) (e : Ex H H') : Q v H' := k H' e
end
/-! ### comprehensions over a walk -/
theorem lc_run {J : It} {n : Nat} {G : Hp → Prop} {Y : Nat → Hp → V → Hp → Prop} (w : Walk J n G Y) {g : TG} {tt : TT} {te : TE} {vs : List Nat} {σ : L2.St} {H1 : Hp} {Q : VK} (hG : ∀ H2, Ex H1 H2 → G H2) (Acc : Addr → Nat → List V → Hp → Prop)
    (h0 : ∀ Dl, H1 Dl = none → Acc Dl 0 [] (upd H1 Dl (.lst [])))
    (hs : ∀ Dl i x H2 H3 acc (K1 : V → Hp → Prop) (K0 : Hp → Prop), H1 Dl = none → i < n → Ex H1 H2 → H2 Dl = some (.lst acc) → Acc Dl i acc H2 → Y i H2 x H3 →
      (∀ y H6, Ex H2 H6 → acc.length < 100000 → Acc Dl (i + 1) (acc ++ [y]) (upd H6 Dl (.lst (acc ++ [y]))) → K1 y H6) → (∀ H5, Ex H2 H5 → Acc Dl (i + 1) acc H5 → K0 H5) →
      g x (wipe σ vs) H3 fun σ2 H4 => wipe σ2 vs = wipe σ vs ∧ tt σ2 H4 fun b H5 => if b = true then te σ2 H5 K1 else K0 H5)
    (hd : ∀ Dl H2 acc, H1 Dl = none → Ex H1 H2 → H2 Dl = some (.lst acc) → Acc Dl n acc H2 → Q (.ref Dl) H2) :
    ∀ D, H1 D = none → ∃ W : Nat → Nat → Hp → Prop, (∃ m, W 0 m (upd H1 D (.lst []))) ∧ ∀ i m H, W i m H →
      (J.stop i H ∧ Q (.ref D) H) ∨ (J.go i H ∧ ∃ Nx : Hp → Prop, (∀ H', Nx H' → ∃ m', m' < m ∧ W (i + 1) m' H') ∧ ∀ x H', J.yld i H x H' → g x (wipe σ vs) H' fun σ2 H2 => wipe σ2 vs = wipe σ vs ∧ tt σ2 H2 fun b H3 =>
        if b = true then te σ2 H3 fun y H4 => ∃ acc, H4 D = some (.lst acc) ∧ acc.length < sizeLine ∧ Nx (upd H4 D (.lst (acc ++ [y]))) else Nx H3) := fun Dl hD =>
  lc_it w (fun i H => Ex H1 H ∧ ∃ acc, H Dl = some (.lst acc) ∧ Acc Dl i acc H) ⟨Ex.new hD, [], upd_same, h0 Dl hD⟩ (fun _ H _ p => hG H p.1) (fun i x H H' hi p y => by
    obtain ⟨e1, acc, ha, hA⟩ := p
    exact hs Dl i x H H' acc _ _ hD hi e1 ha hA y (fun y H6 e6 hl hA6 => ⟨acc, e6 _ _ ha, sz_lt hl, Ex.mut (e1.trans e6) hD, _, upd_same, hA6⟩) (fun H5 e5 hA5 => ⟨e1.trans e5, acc, e5 _ _ ha, hA5⟩)) fun H p => by
    obtain ⟨e1, acc, ha, hA⟩ := p
    exact hd Dl H acc hD e1 ha hA
/-- each turn gives one value, known -/
theorem lc_vals {J : It} {n : Nat} {G : Hp → Prop} {Y : Nat → Hp → V → Hp → Prop} (w : Walk J n G Y) {g : TG} {te : TE} {vs : List Nat} {σ : L2.St} {H1 : Hp} {Q : VK} (hn : n < 100000) (hG : ∀ H2, Ex H1 H2 → G H2) (zs : List V) (hz : zs.length = n)
    (hs : ∀ i x z H2 H3 (K1 : V → Hp → Prop), i < n → zs[i]? = some z → Ex H1 H2 → Y i H2 x H3 → (∀ H6, Ex H2 H6 → K1 z H6) → g x (wipe σ vs) H3 fun σ2 H4 => wipe σ2 vs = wipe σ vs ∧ te σ2 H4 K1)
    (hd : ∀ Dl H2, H1 Dl = none → Ex H1 H2 → H2 Dl = some (.lst zs) → Q (.ref Dl) H2) :
    ∀ D, H1 D = none → ∃ W : Nat → Nat → Hp → Prop, (∃ m, W 0 m (upd H1 D (.lst []))) ∧ ∀ i m H, W i m H →
      (J.stop i H ∧ Q (.ref D) H) ∨ (J.go i H ∧ ∃ Nx : Hp → Prop, (∀ H', Nx H' → ∃ m', m' < m ∧ W (i + 1) m' H') ∧ ∀ x H', J.yld i H x H' → g x (wipe σ vs) H' fun σ2 H2 => wipe σ2 vs = wipe σ vs ∧ tYes σ2 H2 fun b H3 =>
        if b = true then te σ2 H3 fun y H4 => ∃ acc, H4 D = some (.lst acc) ∧ acc.length < sizeLine ∧ Nx (upd H4 D (.lst (acc ++ [y]))) else Nx H3) := by
  refine lc_run w hG (fun _ i acc _ => acc = zs.take i) (fun _ _ => rfl) (fun Dl i x H2 H3 acc K1 K0 hD hi e1 ha hA y k1 _ => ?_) (fun Dl H2 acc hD e1 ha hA => hd Dl H2 hD e1 (by rw [ha, hA, List.take_of_length_le (Nat.le_of_eq hz)]))
  have hi2 : i < zs.length := by omega
  refine hs i x zs[i] H2 H3 K1 hi (List.getElem?_eq_getElem hi2) e1 y fun H6 e6 => k1 _ H6 e6 (by rw [hA, List.length_take]; omega) ?_
  rw [hA, List.take_add_one, List.getElem?_eq_getElem hi2]
  rfl
end Gs
namespace Gs
open PySem PySem.Spec PyProof.Rows L2 Evl
/-! ### rows: products, the best value -/
def Sm (x : Int) : Prop := -1099511627776 ≤ x ∧ x ≤ 1099511627776
theorem Sm.mulL {x y : Int} (h : Sm x) : CMul x y := by
  obtain ⟨h1, h2⟩ := h
  exact .inl ⟨by omega, by omega⟩
theorem Sm.mulR {x y : Int} (h : Sm y) : CMul x y := by
  obtain ⟨h1, h2⟩ := h
  exact .inr ⟨by omega, by omega⟩
section
variable {P : Program} {w : World} {K : PySem.W.Frag} {mg : Str → Option Value} {base : Heap} {vs : List V} {H : Hp} {Q : VK} {E : XK}
theorem cut1 (xs : List V) : cutV xs (some 1) none = xs.drop 1 := by
  unfold cutV
  have e : HT.sIx xs.length 0 (some 1) = min 1 xs.length := HT.sIx_nat xs.length 0 1
  rw [e, HT.sIx_none]
  cases xs with
  | nil => rfl
  | cons a r =>
    have e2 : min 1 (a :: r).length = 1 := by rw [List.length_cons]; omega
    rw [e2]
    show (r.take ((a :: r).length - 1)) = r
    rw [List.length_cons]
    exact List.take_of_length_le (by omega)
/-- product(one, other) -/
def sp_product (K : PySem.W.Frag) : Sp := fun vs H Q _ => ∃ (a b : Addr) (xs ys : List Int), vs = [.ref a, .ref b] ∧ SqL K H a (xs.map V.int) ∧ SqL K H b (ys.map V.int) ∧ xs.length ≤ 100 ∧ (∀ x ∈ xs, Sm x) ∧ RetV (.int (Kp429.products xs ys).sum) H Q
theorem len_product (h : sp_product K vs H Q E) : vs.length = (["one", "other"] : List Str).length := by
  obtain ⟨_, _, _, _, rfl, _⟩ := h
  rfl
theorem sq_tup {K : PySem.W.Frag} {H : Hp} {p : Addr} {xs : List V} (h : H p = some (.tup xs)) : SqT K H p xs := st_of h
def t_product (K : PySem.W.Frag) : TS :=
  (tRet (tCB (rSum K) (tCons (tLc (iZip K (tCons (tSl (rSlL K) (tVar 0) (tPart (tC (.int 1))) tNoPart) (tCons (tSl (rSlL K) (tVar 1) (tPart (tC (.int 1))) tNoPart) tNil))) (gTup K 2 (gCons (gName 2) (gCons (gName 3) gNil))) tYes (tOp rMulI (tVar 2) (tVar 3)) [2, 3]) tNil)))
theorem tail_drop (xs : List Int) : (xs.map V.int).drop 1 = xs.tail.map V.int := by
  cases xs <;> rfl
theorem pure_product (T : Txt K mg) (h : sp_product K vs H Q E) : t_product K { nx := fun _ H' => Q .non H', rt := Q } (start N_product vs) H := by
  obtain ⟨a, b, xs, ys, rfl, ha, hb, hl, hs, k⟩ := h
  show tRet _ _ [some (.ref a), some (.ref b), none, none] H
  refine s_ret (v := .int (Kp429.products xs ys).sum) (ev_sumN (xs := (Kp429.products xs ys).map V.int) ?_ rfl) k
  intro H1 e1 Q1 q1
  refine el_sl (ev_var rfl) (eo_some ev_c) eo_none ha H1 e1 _ fun p H2 hp e2 h2 => ?_
  refine el_sl (ev_var rfl) (eo_some ev_c) eo_none hb H2 (e1.trans e2) _ fun p' H3 hp' e3 h3 => ?_
  rw [cut1, tail_drop] at h2 h3
  refine ⟨p, p', _, _, rfl, sq_of (e3 p _ h2), sq_of h3, ?_⟩
  refine lc_vals (walk_zip rfl) ?_ (fun H4 e4 => ⟨sq_of (e4 p _ (e3 p _ h2)), sq_of (e4 p' _ h3)⟩) ((Kp429.products xs ys).map V.int) ?_ ?_ (fun Dl H4 hD e4 h4 => q1 Dl H4 (fresh_back (e2.trans e3) hD) ((e2.trans e3).trans e4) h4)
  · rw [List.length_map, List.length_map, List.length_tail]
    omega
  · simp [Kp429.products]
  · intro i x z H4 H5 K1 hi hz e4 y k1
    obtain ⟨Tp, x1, y1, rfl, hT, rfl, hx, hy⟩ := y
    have hx : (xs.tail.map V.int)[i]? = some x1 := hx
    have hy : (ys.tail.map V.int)[i]? = some y1 := hy
    rw [List.getElem?_map, Option.map_eq_some_iff] at hx hy
    obtain ⟨u, hu, rfl⟩ := hx
    obtain ⟨v, hv, rfl⟩ := hy
    have hm : u ∈ xs := List.mem_of_mem_tail (List.mem_of_getElem? hu)
    have ez : z = .int (u * v) := by
      rw [List.getElem?_map, Kp429.products, List.getElem?_map, (List.getElem?_zip_eq_some (z := (u, v))).mpr ⟨hu, hv⟩] at hz
      exact (Option.some.inj hz).symm
    subst ez
    refine ⟨_, _, rfl, sq_tup upd_same, rfl, _, _, rfl, _, _, rfl, rfl, rfl, ?_⟩
    exact ev_mul (ev_var rfl) (ev_var rfl) (hs u hm).mulL _ (Ex.refl _) _ fun H6 e6 => k1 H6 ((Ex.new hT).trans e6)
theorem ok_product (T : Txt K mg) : Has P w K mg base 1 d_product.at_ ["one", "other"] (sp_product K) := by
  refine Has.of (d := d_product) T 0 rfl ⟨rfl, rfl⟩ sc_product (fun _ _ _ _ _ _ us hl => match us, hl with | [_, _], _ => rfl) (fun vs H Q E h => len_product h) fun cdv A outer s H vs Q E hr h => ⟨t_product K, ?_, pure_product T h⟩
  exact (pss_one (ps_ret (pe_callB (cr_sum rfl) (by rfl) T.f_sum (by decide +kernel) (pa_cons (pe_lc (own := [("a", 2), ("b", 3)]) (g := (gTup K 2 (gCons (gName 2) (gCons (gName 3) gNil)))) (tt := tYes) rfl sc_product.nd (pi_zip rfl T.f_zip (pa_cons (pe_slice sl_list (pv 0) (po_some pe_int) po_none) (pa_cons (pe_slice sl_list (pv 1) (po_some pe_int) po_none) pa_nil))) (blkOk_by (own := [("a", 2), ("b", 3)]) (N := N_product) (sc := defScope s_product) (by decide +kernel)) (fun _ _ _ _ _ => (pg_tup rfl (pgs_cons (pg_name (i := 2) sc_product.nd rfl (Or.inl rfl)) (pgs_cons (pg_name (i := 3) sc_product.nd rfl (Or.inl rfl)) pgs_nil)))) (fun _ _ _ _ _ => pts_nil) (fun _ _ _ _ _ => (pe_op op_mul (pv 2) (pv 3)))) pa_nil))))
end
end Gs
namespace Gs
open PySem PySem.Spec PyProof.Rows L2 Evl
section
variable {P : Program} {w : World} {K : PySem.W.Frag} {mg : Str → Option Value} {base : Heap} {vs : List V} {H : Hp} {Q : VK} {E : XK}
theorem ev_product {σ : L2.St} {ta tb : TE} {a b : Addr} {xs ys : List Int} (ha : Ev ta σ H (.ref a)) (hb : Ev tb σ H (.ref b)) (h1 : SqL K H a (xs.map V.int)) (h2 : SqL K H b (ys.map V.int)) (hl : xs.length ≤ 100) (hs : ∀ x ∈ xs, Sm x) :
    Ev (tCall (sp_product K) [] E0 (tCons ta (tCons tb tNil))) σ H (.int (Kp429.products xs ys).sum) :=
  ev_call (ea_cons ha (ea_cons hb ea_nil)) fun H1 e Q q E => ⟨a, b, xs, ys, rfl, ex_l e h1, ex_l e h2, hl, hs, q⟩
/-- squares(row) -/
def sp_squares (K : PySem.W.Frag) : Sp := fun vs H Q _ => ∃ (a : Addr) (xs : List Int), vs = [.ref a] ∧ SqL K H a (xs.map V.int) ∧ xs.length ≤ 100 ∧ (∀ x ∈ xs, Sm x) ∧ RetV (.int (Kp429.products xs xs).sum) H Q
theorem len_squares (h : sp_squares K vs H Q E) : vs.length = (["row"] : List Str).length := by
  obtain ⟨_, _, rfl, _⟩ := h
  rfl
def t_squares (K : PySem.W.Frag) : TS :=
  (tRet (tCall (sp_product K) [] E0 (tCons (tVar 0) (tCons (tVar 0) tNil))))
theorem pure_squares (T : Txt K mg) (h : sp_squares K vs H Q E) : t_squares K { nx := fun _ H' => Q .non H', rt := Q } (start N_squares vs) H := by
  obtain ⟨a, xs, rfl, ha, hl, hs, k⟩ := h
  exact s_ret (ev_product (ev_var rfl) (ev_var rfl) ha ha hl hs) k
theorem ok_squares (T : Txt K mg) : Has P w K mg base 2 d_squares.at_ ["row"] (sp_squares K) := by
  refine Has.of (d := d_squares) T 1 rfl ⟨rfl, rfl⟩ sc_squares (fun _ _ _ _ _ _ us hl => match us, hl with | [_], _ => rfl) (fun vs H Q E h => len_squares h) fun cdv A outer s H vs Q E hr h => ⟨t_squares K, ?_, pure_squares T h⟩
  exact (pss_one (ps_ret (pe_callH (ok_product T) (hr.mono (by decide)) rfl T.g_product (pa_cons (pv 0) (pa_cons (pv 0) pa_nil)))))
theorem ev_squares {σ : L2.St} {ta : TE} {a : Addr} {xs : List Int} (ha : Ev ta σ H (.ref a)) (h1 : SqL K H a (xs.map V.int)) (hl : xs.length ≤ 100) (hs : ∀ x ∈ xs, Sm x) :
    Ev (tCall (sp_squares K) [] E0 (tCons ta tNil)) σ H (.int (Kp429.products xs xs).sum) :=
  ev_call (ea_cons ha ea_nil) fun H1 e Q q E => ⟨a, xs, rfl, ex_l e h1, hl, hs, q⟩
/-- nearest(slope, curvature) -/
def sp_nearest (K : PySem.W.Frag) : Sp := fun vs H Q _ => ∃ (s c : Int), vs = [.int s, .int c] ∧ 0 < c ∧ 2 * c < 1073741824 ∧ RetV (.int (Kp429.nearest s c)) H Q
theorem len_nearest (h : sp_nearest K vs H Q E) : vs.length = (["slope", "curvature"] : List Str).length := by
  obtain ⟨_, _, rfl, _⟩ := h
  rfl
def t_nearest (K : PySem.W.Frag) : TS :=
  (tRet (tOp rDivI (tOp rAddI (tOp rMulI (tC (.int 2)) (tVar 0)) (tVar 1)) (tOp rMulI (tC (.int 2)) (tVar 1))))
theorem two_mul_ok {x : Int} : CMul 2 x := .inl ⟨by omega, by omega⟩
theorem pure_nearest (T : Txt K mg) (h : sp_nearest K vs H Q E) : t_nearest K { nx := fun _ H' => Q .non H', rt := Q } (start N_nearest vs) H := by
  obtain ⟨s, c, rfl, hc, hc2, k⟩ := h
  exact s_ret (v := .int (Kp429.nearest s c)) (ev_div (ev_add (ev_mul ev_c (ev_var rfl) two_mul_ok) (ev_var rfl)) (ev_mul ev_c (ev_var rfl) two_mul_ok) ⟨by omega, by omega⟩) k
theorem ok_nearest (T : Txt K mg) : Has P w K mg base 1 d_nearest.at_ ["slope", "curvature"] (sp_nearest K) := by
  refine Has.of (d := d_nearest) T 2 rfl ⟨rfl, rfl⟩ sc_nearest (fun _ _ _ _ _ _ us hl => match us, hl with | [_, _], _ => rfl) (fun vs H Q E h => len_nearest h) fun cdv A outer s H vs Q E hr h => ⟨t_nearest K, ?_, pure_nearest T h⟩
  exact (pss_one (ps_ret (pe_op op_fdivN (pe_op op_add (pe_op op_mul pe_int (pv 0)) (pv 1)) (pe_op op_mul pe_int (pv 1)))))
theorem ev_nearest {σ : L2.St} {ta tb : TE} {s c : Int} (ha : Ev ta σ H (.int s)) (hb : Ev tb σ H (.int c)) (hc : 0 < c) (hc2 : 2 * c < 1073741824) : Ev (tCall (sp_nearest K) [] E0 (tCons ta (tCons tb tNil))) σ H (.int (Kp429.nearest s c)) :=
  ev_call (ea_cons ha (ea_cons hb ea_nil)) fun H1 e Q q E => ⟨s, c, rfl, hc, hc2, q⟩
/-- gain(curvature, slope, value) -/
def gainV (c s v : Int) : Int := c * v * v - 2 * s * v
theorem gain_cost (c s v : Int) : gainV c s v = Kp429.costOf ⟨c, s⟩ v := by
  show c * v * v - 2 * s * v = c * (v * v) - 2 * (s * v)
  rw [Int.mul_assoc, Int.mul_assoc]
def sp_gain (K : PySem.W.Frag) : Sp := fun vs H Q _ => ∃ (c s v : Int), vs = [.int c, .int s, .int v] ∧ Sm v ∧ RetV (.int (gainV c s v)) H Q
theorem len_gain (h : sp_gain K vs H Q E) : vs.length = (["curvature", "slope", "value"] : List Str).length := by
  obtain ⟨_, _, _, rfl, _⟩ := h
  rfl
def t_gain (K : PySem.W.Frag) : TS :=
  (tRet (tOp rSubI (tOp rMulI (tOp rMulI (tVar 0) (tVar 2)) (tVar 2)) (tOp rMulI (tOp rMulI (tC (.int 2)) (tVar 1)) (tVar 2))))
theorem pure_gain (T : Txt K mg) (h : sp_gain K vs H Q E) : t_gain K { nx := fun _ H' => Q .non H', rt := Q } (start N_gain vs) H := by
  obtain ⟨c, s, v, rfl, hv, k⟩ := h
  exact s_ret (v := .int (gainV c s v)) (ev_sub (ev_mul (ev_mul (ev_var rfl) (ev_var rfl) hv.mulR) (ev_var rfl) hv.mulR) (ev_mul (ev_mul ev_c (ev_var rfl) two_mul_ok) (ev_var rfl) hv.mulR)) k
theorem ok_gain (T : Txt K mg) : Has P w K mg base 1 d_gain.at_ ["curvature", "slope", "value"] (sp_gain K) := by
  refine Has.of (d := d_gain) T 3 rfl ⟨rfl, rfl⟩ sc_gain (fun _ _ _ _ _ _ us hl => match us, hl with | [_, _, _], _ => rfl) (fun vs H Q E h => len_gain h) fun cdv A outer s H vs Q E hr h => ⟨t_gain K, ?_, pure_gain T h⟩
  exact (pss_one (ps_ret (pe_op op_sub (pe_op op_mul (pe_op op_mul (pv 0) (pv 2)) (pv 2)) (pe_op op_mul (pe_op op_mul pe_int (pv 1)) (pv 2)))))
theorem ev_gain {σ : L2.St} {ta tb tc : TE} {c s v : Int} (ha : Ev ta σ H (.int c)) (hb : Ev tb σ H (.int s)) (hc : Ev tc σ H (.int v)) (hv : Sm v) : Ev (tCall (sp_gain K) [] E0 (tCons ta (tCons tb (tCons tc tNil)))) σ H (.int (gainV c s v)) :=
  ev_call (ea_cons ha (ea_cons hb (ea_cons hc ea_nil))) fun H1 e Q q E => ⟨c, s, v, rfl, hv, q⟩
/-- best_value(present, quadratic, bounds) -/
def bestV (lo hi c s x : Int) : Int :=
  if c = 0 then x else
    let y := max lo (min hi (Kp429.nearest s c))
    if Kp429.costOf ⟨c, s⟩ x ≤ Kp429.costOf ⟨c, s⟩ y then x else y
theorem bestV_is (st : Kp429.Settings) (c s : Int) (k : Nat) (x : Int) : bestV (Kp429.lowest st k) (Kp429.highest st k) c s x = Kp429.bestValue st ⟨c, s⟩ k x := rfl
def sp_best_value (K : PySem.W.Frag) : Sp := fun vs H Q _ => ∃ (x c s lo hi : Int) (p b : Addr), vs = [.int x, .ref p, .ref b] ∧ SqT K H p [.int c, .int s] ∧ SqT K H b [.int lo, .int hi] ∧ 0 ≤ c ∧ 2 * c < 1073741824 ∧ Sm x ∧ Sm lo ∧ Sm hi ∧ RetV (.int (bestV lo hi c s x)) H Q
theorem len_best_value (h : sp_best_value K vs H Q E) : vs.length = (["present", "quadratic", "bounds"] : List Str).length := by
  obtain ⟨_, _, _, _, _, _, _, rfl, _⟩ := h
  rfl
def t_best_value (K : PySem.W.Frag) : TS :=
  (tSeq (tAsg (tVar 1) (gTup K 2 (gCons (gName 3) (gCons (gName 4) gNil))))
    (tSeq (tIfS (tTest (tOp rEq (tVar 3) (tC (.int 0)))) (tRet (tVar 0)) tNext)
    (tSeq (tAsg (tCB rMax2 (tCons (tOp (rIxT K) (tVar 2) (tC (.int 0))) (tCons (tCB rMin2 (tCons (tOp (rIxT K) (tVar 2) (tC (.int 1))) (tCons (tCall (sp_nearest K) [] E0 (tCons (tVar 4) (tCons (tVar 3) tNil))) tNil))) tNil))) (gName 5))
    (tSeq (tIfS (tTest (tOp rLeI (tCall (sp_gain K) [] E0 (tCons (tVar 3) (tCons (tVar 4) (tCons (tVar 0) tNil)))) (tCall (sp_gain K) [] E0 (tCons (tVar 3) (tCons (tVar 4) (tCons (tVar 5) tNil)))))) (tRet (tVar 0)) tNext)
    (tRet (tVar 5))))))
theorem pure_best_value (T : Txt K mg) (h : sp_best_value K vs H Q E) : t_best_value K { nx := fun _ H' => Q .non H', rt := Q } (start N_best_value vs) H := by
  obtain ⟨x, c, s, lo, hi, p, b, rfl, hp, hb, hc, hc2, hx, hlo, hhi, k⟩ := h
  refine q_unp2 (ev_var rfl) hp fun H1 e1 => ?_
  refine q_when (b := decide (c = 0)) (et_test (ev_eqi (ev_var rfl) ev_c)) (fun hb' H2 e2 => ?_) (fun hb' H2 e2 => ?_)
  · refine s_ret (v := .int x) (ev_var rfl) fun H3 e3 => ?_
    have k1 := k H3 ((e1.trans e2).trans e3)
    rw [bestV, if_pos (of_decide_eq_true hb')] at k1
    exact k1
  · have c0 : c ≠ 0 := of_decide_eq_false hb'
    have bT : SqT K H2 b [.int lo, .int hi] := ex_t (e1.trans e2) hb
    have hy : Sm (max lo (min hi (Kp429.nearest s c))) := by
      obtain ⟨a1, a2⟩ := hlo
      obtain ⟨a3, a4⟩ := hhi
      exact ⟨by omega, by omega⟩
    refine q_asg (v := .int (max lo (min hi (Kp429.nearest s c)))) ?_ fun H3 e3 => ?_
    · refine ev_max (ev_ixT (j := 0) (ev_var rfl) ev_c bT rfl) (ev_min (ev_ixT (j := 1) (ev_var rfl) ev_c bT rfl) (ev_nearest (ev_var rfl) (ev_var rfl) (by omega) hc2))
    refine q_when (b := decide (gainV c s x ≤ gainV c s (max lo (min hi (Kp429.nearest s c))))) (et_test (ev_le (ev_gain (ev_var rfl) (ev_var rfl) (ev_var rfl) hx) (ev_gain (ev_var rfl) (ev_var rfl) (ev_var rfl) hy)))
      (fun hb2 H4 e4 => ?_) (fun hb2 H4 e4 => ?_)
    · refine s_ret (v := .int x) (ev_var rfl) fun H5 e5 => ?_
      have k1 := k H5 ((((e1.trans e2).trans e3).trans e4).trans e5)
      have g := of_decide_eq_true hb2
      rw [gain_cost, gain_cost] at g
      rw [bestV, if_neg c0] at k1
      dsimp only at k1
      rw [if_pos g] at k1
      exact k1
    · refine s_ret (v := .int (max lo (min hi (Kp429.nearest s c)))) (ev_var rfl) fun H5 e5 => ?_
      have k1 := k H5 ((((e1.trans e2).trans e3).trans e4).trans e5)
      have g := of_decide_eq_false hb2
      rw [gain_cost, gain_cost] at g
      rw [bestV, if_neg c0] at k1
      dsimp only at k1
      rw [if_neg g] at k1
      exact k1
theorem ok_best_value (T : Txt K mg) : Has P w K mg base 2 d_best_value.at_ ["present", "quadratic", "bounds"] (sp_best_value K) := by
  refine Has.of (d := d_best_value) T 4 rfl ⟨rfl, rfl⟩ sc_best_value (fun _ _ _ _ _ _ us hl => match us, hl with | [_, _, _], _ => rfl) (fun vs H Q E h => len_best_value h) fun cdv A outer s H vs Q E hr h => ⟨t_best_value K, ?_, pure_best_value T h⟩
  exact (pss_cons (ps_asg (pv 1) (pg_tup rfl (pgs_cons (pg_name (i := 3) sc_best_value.nd rfl (Or.inl rfl)) (pgs_cons (pg_name (i := 4) sc_best_value.nd rfl (Or.inl rfl)) pgs_nil))))
    (pss_cons (ps_if (pt_cmpR op_eq (pv 3) pe_int (nomark _)) (pss_one (ps_ret (pv 0))) pss_nil)
    (pss_cons (ps_set (i := 5) sc_best_value.nd rfl (Or.inl rfl) (pe_callB (cl_max2 rfl) (by rfl) T.f_max (by decide +kernel) (pa_cons (pe_ix ix_tup (pv 2) pe_int (fun _ _ => rfl)) (pa_cons (pe_callB (cl_min2 rfl) (by rfl) T.f_min (by decide +kernel) (pa_cons (pe_ix ix_tup (pv 2) pe_int (fun _ _ => rfl)) (pa_cons (pe_callH (ok_nearest T) (hr.mono (by decide)) rfl T.g_nearest (pa_cons (pv 4) (pa_cons (pv 3) pa_nil))) pa_nil))) pa_nil))))
    (pss_cons (ps_if (pt_cmpR op_le (pe_callH (ok_gain T) (hr.mono (by decide)) rfl T.g_gain (pa_cons (pv 3) (pa_cons (pv 4) (pa_cons (pv 0) pa_nil)))) (pe_callH (ok_gain T) (hr.mono (by decide)) rfl T.g_gain (pa_cons (pv 3) (pa_cons (pv 4) (pa_cons (pv 5) pa_nil)))) (nomark _)) (pss_one (ps_ret (pv 0))) pss_nil)
    (pss_one (ps_ret (pv 5)))))))
theorem ev_best_value {σ : L2.St} {ta : TE} {tq tb : TE} {x c s lo hi : Int} (ha : Ev ta σ H (.int x)) (hq : EvU tq σ H [.int c, .int s]) (hb : EvU tb σ H [.int lo, .int hi]) (hc : 0 ≤ c) (hc2 : 2 * c < 1073741824) (hx : Sm x) (hlo : Sm lo) (hhi : Sm hi) :
    Ev (tCall (sp_best_value K) [] E0 (tCons ta (tCons tq (tCons tb tNil)))) σ H (.int (bestV lo hi c s x)) := fun H1 e Q q =>
  ha H1 e _ fun H2 e2 => hq H2 (e.trans e2) _ fun p H3 hp e3 h3 => hb H3 ((e.trans e2).trans e3) _ fun b H4 hb4 e4 h4 =>
    ⟨x, c, s, lo, hi, p, b, rfl, st_of (e4 p _ h3), st_of h4, hc, hc2, hx, hlo, hhi, fun H5 e5 => q H5 (((e2.trans e3).trans e4).trans e5)⟩
end
end Gs
namespace Gs
open PySem PySem.Spec PyProof.Rows L2 Evl
/-! ### what stays but for some addresses -/
def Fr (S : Addr → Prop) (H H' : Hp) : Prop := ∀ b o, ¬ S b → H b = some o → H' b = some o
section
variable {S S' : Addr → Prop} {H H0 H1 H' : Hp} {a b p : Addr} {o : HO}
theorem Fr.refl : Fr S H H := fun _ _ _ h => h
theorem frEx (e : Ex H H') : Fr S H H' := fun b o _ h => e b o h
theorem Fr.trans (x : Fr S H H1) (y : Fr S H1 H') : Fr S H H' := fun b o n h => y b o n (x b o n h)
theorem Fr.ex (x : Fr S H H1) (y : Ex H1 H') : Fr S H H' := fun b o n h => y b o (x b o n h)
theorem Fr.upd (x : Fr S H H') (hp : S p) : Fr S H (upd H' p o) := fun b u n h => by
  rw [upd_ne (fun e => n (by rw [e]; exact hp))]
  exact x b u n h
theorem Fr.new (x : Fr S H H') (hp : H' p = none) : Fr S H (L2.upd H' p o) := fun b u n h => by
  rw [upd_ne (ne_of_none (x b u n h) hp)]
  exact x b u n h
theorem Fr.mono (x : Fr S H H') (i : ∀ b, S b → S' b) : Fr S' H H' := fun b o n h => x b o (fun s => n (i b s)) h
theorem Fr.to (x : Fr S H H') (e : Ex H0 H) (h : ∀ b, S b → H0 b = none) : Ex H0 H' := fun b o hb => x b o (fun s => by rw [h b s] at hb; cases hb) (e b o hb)
theorem Fr.sub (x : Fr S H H') (h : ∀ b, S b → H b ≠ none → S' b) : Fr S' H H' := fun b o n hb => x b o (fun s => n (h b s (by rw [hb]; simp))) hb
end
section
variable {K : PySem.W.Frag} {σ : L2.St} {H : Hp} {ta tv tb te : TE} {v : V} {D : Ends} {tz : TS}
/-! ### a field is set -/
theorem s_fld {a C dx : Addr} {fs : List (Str × V)} {f : Str} (h : Ev tv σ H v) (ha : Ev ta σ H (.ref a)) (ho : H a = some (.ins C dx fs)) (hc : Cls K C) (hn : NoAttr K C f) (hl : fs.length < 1000) (k : ∀ H1, Ex H H1 → D.nx σ (upd H1 a (.ins C dx (putF f v fs)))) : sFld K ta tv f D σ H :=
  h H (Ex.refl H) _ fun H1 e1 => ha H1 e1 _ fun H2 e2 => ⟨a, C, dx, fs, rfl, (e1.trans e2) _ _ ho, hc, hn, hl, k H2 (e1.trans e2)⟩
theorem s_fldL {a C dx : Addr} {fs : List (Str × V)} {f : Str} {xs : List V} (h : EvL tv σ H xs) (ha : Ev ta σ H (.ref a)) (ho : H a = some (.ins C dx fs)) (hc : Cls K C) (hn : NoAttr K C f) (hl : fs.length < 1000) (k : ∀ p H1, H p = none → Ex H H1 → H1 p = some (.lst xs) → D.nx σ (upd H1 a (.ins C dx (putF f (.ref p) fs)))) : sFld K ta tv f D σ H :=
  h H (Ex.refl H) _ fun p H1 hp e1 h1 => ha H1 e1 _ fun H2 e2 => ⟨a, C, dx, fs, rfl, (e1.trans e2) _ _ ho, hc, hn, hl, k p H2 hp (e1.trans e2) (e2 _ _ h1)⟩
theorem s_fldU {a C dx : Addr} {fs : List (Str × V)} {f : Str} {xs : List V} (h : EvU tv σ H xs) (ha : Ev ta σ H (.ref a)) (ho : H a = some (.ins C dx fs)) (hc : Cls K C) (hn : NoAttr K C f) (hl : fs.length < 1000) (k : ∀ p H1, H p = none → Ex H H1 → H1 p = some (.tup xs) → D.nx σ (upd H1 a (.ins C dx (putF f (.ref p) fs)))) : sFld K ta tv f D σ H :=
  h H (Ex.refl H) _ fun p H1 hp e1 h1 => ha H1 e1 _ fun H2 e2 => ⟨a, C, dx, fs, rfl, (e1.trans e2) _ _ ho, hc, hn, hl, k p H2 hp (e1.trans e2) (e2 _ _ h1)⟩
theorem q_fld {a C dx : Addr} {fs : List (Str × V)} {f : Str} (h : Ev tv σ H v) (ha : Ev ta σ H (.ref a)) (ho : H a = some (.ins C dx fs)) (hc : Cls K C) (hn : NoAttr K C f) (hl : fs.length < 1000) (k : ∀ H1, Ex H H1 → tz D σ (upd H1 a (.ins C dx (putF f v fs)))) : tSeq (sFld K ta tv f) tz D σ H :=
  s_fld (D := { D with nx := tz D }) h ha ho hc hn hl k
theorem q_fldL {a C dx : Addr} {fs : List (Str × V)} {f : Str} {xs : List V} (h : EvL tv σ H xs) (ha : Ev ta σ H (.ref a)) (ho : H a = some (.ins C dx fs)) (hc : Cls K C) (hn : NoAttr K C f) (hl : fs.length < 1000) (k : ∀ p H1, H p = none → Ex H H1 → H1 p = some (.lst xs) → tz D σ (upd H1 a (.ins C dx (putF f (.ref p) fs)))) : tSeq (sFld K ta tv f) tz D σ H :=
  s_fldL (D := { D with nx := tz D }) h ha ho hc hn hl k
theorem q_fldU {a C dx : Addr} {fs : List (Str × V)} {f : Str} {xs : List V} (h : EvU tv σ H xs) (ha : Ev ta σ H (.ref a)) (ho : H a = some (.ins C dx fs)) (hc : Cls K C) (hn : NoAttr K C f) (hl : fs.length < 1000) (k : ∀ p H1, H p = none → Ex H H1 → H1 p = some (.tup xs) → tz D σ (upd H1 a (.ins C dx (putF f (.ref p) fs)))) : tSeq (sFld K ta tv f) tz D σ H :=
  s_fldU (D := { D with nx := tz D }) h ha ho hc hn hl k
end
/-! ### whole numbers -/
theorem xor_sum : ∀ a b : Nat, (a ^^^ b) + 2 * (a &&& b) = a + b := by
  intro a
  induction a using Nat.strongRecOn with
  | ind a ih =>
    intro b
    by_cases h : a = 0
    · subst h; simp
    · have i := ih (a / 2) (by omega) (b / 2)
      have e1 : (a ^^^ b) / 2 = (a / 2) ^^^ (b / 2) := by
        have := @Nat.xor_div_two_pow a b 1
        simpa using this
      have e2 : (a &&& b) / 2 = (a / 2) &&& (b / 2) := by
        have := @Nat.and_div_two_pow a b 1
        simpa using this
      have e3 : (a ^^^ b) % 2 = (a + b) % 2 := by
        have t := @Nat.xor_mod_two_pow a b 1
        have t2 : (a ^^^ b) % 2 = (a % 2) ^^^ (b % 2) := by simpa using t
        rw [t2, Nat.add_mod]
        rcases Nat.mod_two_eq_zero_or_one a with h1 | h1 <;> rcases Nat.mod_two_eq_zero_or_one b with h2 | h2 <;> rw [h1, h2] <;> rfl
      have e4 : (a &&& b) % 2 = (a % 2) * (b % 2) := by
        have t := @Nat.and_mod_two_pow a b 1
        have t2 : (a &&& b) % 2 = (a % 2) &&& (b % 2) := by simpa using t
        rw [t2]
        rcases Nat.mod_two_eq_zero_or_one a with h1 | h1 <;> rcases Nat.mod_two_eq_zero_or_one b with h2 | h2 <;> rw [h1, h2] <;> rfl
      rcases Nat.mod_two_eq_zero_or_one a with h1 | h1 <;> rcases Nat.mod_two_eq_zero_or_one b with h2 | h2 <;> rw [h1, h2] at e4 <;> omega
theorem bitXor_nat (a b : Nat) : Builtin.bitXor (a : Int) (b : Int) = ((a ^^^ b : Nat) : Int) := by
  have e : Builtin.bitXor (a : Int) (b : Int) = (a : Int) + (b : Int) - 2 * Builtin.bitAnd (a : Int) (b : Int) := by
    unfold Builtin.bitXor
    rw [bitOr_and]
    omega
  have h := xor_sum a b
  rw [e, bitAnd_pp (Int.natCast_nonneg a) (Int.natCast_nonneg b), Int.toNat_natCast, Int.toNat_natCast]
  omega
theorem fmod_nat (m n : Nat) : Int.fmod (m : Int) (n : Int) = ((m % n : Nat) : Int) := by
  rw [Int.fmod_eq_emod_of_nonneg _ (by omega)]
  rfl
theorem fdiv_nat (m n : Nat) : Int.fdiv (m : Int) (n : Int) = ((m / n : Nat) : Int) := by
  rw [Int.fdiv_eq_ediv_of_nonneg _ (by omega)]
  rfl
end Gs
namespace Gs
open PySem PySem.Spec PyProof.Rows L2 Evl
theorem paired_at {α β : Type} {F : α → β → Prop} : ∀ {l : List α} {m : List β} {i : Nat} {a : α}, Paired F l m → l[i]? = some a → ∃ b, m[i]? = some b ∧ F a b
  | _, _, _, _, .nil, h => by simp at h
  | _, _, 0, _, .cons h _, e => by
    simp only [List.getElem?_cons_zero, Option.some.injEq] at e
    subst e
    exact ⟨_, rfl, h⟩
  | _, _, i + 1, _, .cons _ t, e => by
    obtain ⟨b, h1, h2⟩ := paired_at (i := i) t (by simpa using e)
    exact ⟨b, by simpa using h1, h2⟩
theorem foldl_take {α β : Type} (f : β → α → β) (b : β) (l : List α) (i : Nat) (a : α) (h : l[i]? = some a) : (l.take (i + 1)).foldl f b = f ((l.take i).foldl f b) a := by
  rw [List.take_add_one, h, List.foldl_append]
  rfl
section
variable {P : Program} {w : World} {K : PySem.W.Frag} {mg : Str → Option Value} {base : Heap} {vs : List V} {H : Hp} {Q : VK} {E : XK}
/-! ### the quadratic of a row's place -/
def cfOf (row : List Int) (k : Nat) : Int := if k = 0 then 1 else row.getD k 0
def quadF (k : Nat) (x : Int) (a : Int × Int) (pr : List Int × Int) : Int × Int := (a.1 + cfOf pr.1 k * cfOf pr.1 k, a.2 + cfOf pr.1 k * (pr.2 + cfOf pr.1 k * x))
def Prs (H : Hp) (ts : List Addr) (prs : List (List Int × Int)) : Prop := Paired (fun t (pr : List Int × Int) => ∃ r : Addr, H t = some (.tup [.ref r, .int pr.2]) ∧ H r = some (.lst (pr.1.map V.int))) ts prs
theorem Prs.ex {H H' : Hp} {ts : List Addr} {prs : List (List Int × Int)} (h : Prs H ts prs) (e : Ex H H') : Prs H' ts prs := paired_mono (fun _ _ ⟨r, h1, h2⟩ => ⟨r, e _ _ h1, e _ _ h2⟩) h
def sp_quadratic_of (K : PySem.W.Frag) : Sp := fun vs H Q _ => ∃ (l : Addr) (ts : List Addr) (prs : List (List Int × Int)) (k : Nat) (x pen : Int), vs = [.ref l, .int (k : Int), .int x, .int pen] ∧ SqL K H l (ts.map V.ref) ∧ Prs H ts prs ∧
  (∀ pr ∈ prs, k < pr.1.length ∧ Sm (cfOf pr.1 k)) ∧ RetU [.int (prs.foldl (quadF k x) (pen, 0)).1, .int (prs.foldl (quadF k x) (pen, 0)).2] H Q
theorem len_quadratic_of (h : sp_quadratic_of K vs H Q E) : vs.length = (["pairs", "place", "present", "penalty"] : List Str).length := by
  obtain ⟨_, _, _, _, _, _, rfl, _⟩ := h
  rfl
def t_quadratic_of (K : PySem.W.Frag) : TS :=
  (tSeq (tPar 4 5 (tCons (tVar 3) (tCons (tC (.int 0)) tNil)))
    (tSeq (tFor (iList K (tVar 0)) (gTup K 2 (gCons (gName 6) (gCons (gName 7) gNil))) (tSeq (tAsg (tIf (tTest (tOp rEq (tVar 1) (tC (.int 0)))) (tC (.int 1)) (tOp (rIxL K) (tVar 6) (tVar 1))) (gName 8))
    (tSeq (tAsg (tOp rAddI (tVar 4) (tOp rMulI (tVar 8) (tVar 8))) (gName 4))
    (tAsg (tOp rAddI (tVar 5) (tOp rMulI (tVar 8) (tOp rAddI (tVar 7) (tOp rMulI (tVar 8) (tVar 2))))) (gName 5)))))
    (tRet (tTup (tCons (tVar 4) (tCons (tVar 5) tNil))))))
theorem pure_quadratic_of (T : Txt K mg) (h : sp_quadratic_of K vs H Q E) : t_quadratic_of K { nx := fun _ H' => Q .non H', rt := Q } (start N_quadratic_of vs) H := by
  obtain ⟨l, ts, prs, k, x, pen, rfl, hl, hp, hb, kk⟩ := h
  refine q_par (ev_var rfl) ev_c fun H1 e1 => ?_
  refine q_forL (a := l) (xs := ts.map V.ref) (ev_var rfl) (ex_l e1 hl) (fun i σ H' => Ex H H' ∧ ∃ v6 v7 v8 : Option V, σ = [some (.ref l), some (.int (k : Int)), some (.int x), some (.int pen), some (.int ((prs.take i).foldl (quadF k x) (pen, 0)).1), some (.int ((prs.take i).foldl (quadF k x) (pen, 0)).2), v6, v7, v8])
    (fun H2 e2 => ⟨e1.trans e2, _, _, _, rfl⟩) (fun i σ H' _ p => ex_l p.1 hl) (fun i v σ H' hi p => ?_) (fun σ H' p => ?_)
  · obtain ⟨e', v6, v7, v8, rfl⟩ := p
    rw [List.getElem?_map, Option.map_eq_some_iff] at hi
    obtain ⟨t, ht, rfl⟩ := hi
    obtain ⟨pr, hpr, r, h1, h2⟩ := paired_at hp ht
    obtain ⟨hk, hsm⟩ := hb pr (List.mem_of_getElem? hpr)
    refine g_unp2 (st_of (e' _ _ h1)) ?_
    have hrow : SqL K H' r (pr.1.map V.int) := sq_of (e' _ _ h2)
    have hat : (pr.1.map V.int)[k]? = some (.int (pr.1.getD k 0)) := by
      rw [List.getElem?_map, List.getElem?_eq_getElem hk, List.getD_eq_getElem?_getD, List.getElem?_eq_getElem hk]
      rfl
    refine q_asg (v := .int (cfOf pr.1 k)) (ev_if (b := decide ((k : Int) = 0)) (et_test (ev_eqi (ev_var rfl) ev_c)) (fun hb2 => ?_) (fun hb2 => ?_)) fun H3 e3 => ?_
    · have k0 : k = 0 := by have := of_decide_eq_true hb2; omega
      rw [cfOf, if_pos k0]
      exact ev_c
    · have k0 : ¬ k = 0 := by have := of_decide_eq_false hb2; omega
      rw [cfOf, if_neg k0]
      exact ev_ixL (ev_var rfl) (ev_var rfl) hrow hat
    refine q_asg (ev_add (ev_var rfl) (ev_mul (ev_var rfl) (ev_var rfl) hsm.mulL)) fun H4 e4 => ?_
    refine s_asg (ev_add (ev_var rfl) (ev_mul (ev_var rfl) (ev_add (ev_var rfl) (ev_mul (ev_var rfl) (ev_var rfl) hsm.mulL)) hsm.mulL)) fun H5 e5 => ⟨((e'.trans e3).trans e4).trans e5, some (.ref r), some (.int pr.2), some (.int (cfOf pr.1 k)), ?_⟩
    rw [foldl_take (quadF k x) (pen, 0) prs i pr hpr]
    rfl
  · obtain ⟨e', v6, v7, v8, rfl⟩ := p
    have el : (ts.map V.ref).length = prs.length := by rw [List.length_map]; exact paired_len hp
    rw [el, List.take_length]
    exact s_retU (eu_tup (ea_cons (ev_var rfl) (ea_cons (ev_var rfl) ea_nil)) (by simp)) fun p H1 hp1 e1 h1 => kk p H1 (fresh_back e' hp1) (e'.trans e1) h1
theorem ok_quadratic_of (T : Txt K mg) : Has P w K mg base 1 d_quadratic_of.at_ ["pairs", "place", "present", "penalty"] (sp_quadratic_of K) := by
  refine Has.of (d := d_quadratic_of) T 5 rfl ⟨rfl, rfl⟩ sc_quadratic_of (fun _ _ _ _ _ _ us hl => match us, hl with | [_, _, _, _], _ => rfl) (fun vs H Q E h => len_quadratic_of h) fun cdv A outer s H vs Q E hr h => ⟨t_quadratic_of K, ?_, pure_quadratic_of T h⟩
  exact (pss_cons (ps_par (by rfl) sc_quadratic_of.nd rfl rfl (by decide) rfl rfl (pa_cons (pv 3) (pa_cons pe_int pa_nil)) (by rfl))
    (pss_cons (ps_for PassesOwn.never rfl (pi_list (pv 0)) (pg_tup rfl (pgs_cons (pg_name (i := 6) sc_quadratic_of.nd rfl (Or.inl rfl)) (pgs_cons (pg_name (i := 7) sc_quadratic_of.nd rfl (Or.inl rfl)) pgs_nil))) (pss_cons (ps_set (i := 8) sc_quadratic_of.nd rfl (Or.inl rfl) (pe_ifExp (pt_cmpR op_eq (pv 1) pe_int (nomark _)) pe_int (pe_ix ix_list (pv 6) (pv 1) (fun _ _ => rfl))))
    (pss_cons (ps_set (i := 4) sc_quadratic_of.nd rfl (Or.inl rfl) (pe_op op_add (pv 4) (pe_op op_mul (pv 8) (pv 8))))
    (pss_one (ps_set (i := 5) sc_quadratic_of.nd rfl (Or.inl rfl) (pe_op op_add (pv 5) (pe_op op_mul (pv 8) (pe_op op_add (pv 7) (pe_op op_mul (pv 8) (pv 2))))))))))
    (pss_one (ps_ret (pe_tup (pa_cons (pv 4) (pa_cons (pv 5) pa_nil)))))))
/-! ### similar rows in order -/
def sp_are_closer (K : PySem.W.Frag) : Sp := fun vs H Q _ => ∃ (a b : Addr) (p s p' s' : Int), vs = [.ref a, .ref b] ∧ SqT K H a [.int p, .int s] ∧ SqT K H b [.int p', .int s'] ∧ Sm p ∧ Sm p' ∧ Sm s ∧ Sm s' ∧ RetV (.bl (decide (p' * p' * s < p * p * s'))) H Q
theorem len_are_closer (h : sp_are_closer K vs H Q E) : vs.length = (["one", "other"] : List Str).length := by
  obtain ⟨_, _, _, _, _, _, rfl, _⟩ := h
  rfl
def t_are_closer (K : PySem.W.Frag) : TS :=
  (tRet (tOp rGtI (tOp rMulI (tOp rMulI (tOp (rIxT K) (tVar 0) (tC (.int 0))) (tOp (rIxT K) (tVar 0) (tC (.int 0)))) (tOp (rIxT K) (tVar 1) (tC (.int 1)))) (tOp rMulI (tOp rMulI (tOp (rIxT K) (tVar 1) (tC (.int 0))) (tOp (rIxT K) (tVar 1) (tC (.int 0)))) (tOp (rIxT K) (tVar 0) (tC (.int 1))))))
theorem pure_are_closer (T : Txt K mg) (h : sp_are_closer K vs H Q E) : t_are_closer K { nx := fun _ H' => Q .non H', rt := Q } (start N_are_closer vs) H := by
  obtain ⟨a, b, p, s, p', s', rfl, ha, hb, h1, h2, h3, h4, k⟩ := h
  refine s_ret (v := .bl (decide (p' * p' * s < p * p * s'))) (ev_gt (ev_mul (ev_mul ?_ ?_ h1.mulL) ?_ h4.mulR) (ev_mul (ev_mul ?_ ?_ h2.mulL) ?_ h3.mulR)) k
  · exact ev_ixT (j := 0) (ev_var rfl) ev_c ha rfl
  · exact ev_ixT (j := 0) (ev_var rfl) ev_c ha rfl
  · exact ev_ixT (j := 1) (ev_var rfl) ev_c hb rfl
  · exact ev_ixT (j := 0) (ev_var rfl) ev_c hb rfl
  · exact ev_ixT (j := 0) (ev_var rfl) ev_c hb rfl
  · exact ev_ixT (j := 1) (ev_var rfl) ev_c ha rfl
theorem ok_are_closer (T : Txt K mg) : Has P w K mg base 1 d_are_closer.at_ ["one", "other"] (sp_are_closer K) := by
  refine Has.of (d := d_are_closer) T 6 rfl ⟨rfl, rfl⟩ sc_are_closer (fun _ _ _ _ _ _ us hl => match us, hl with | [_, _], _ => rfl) (fun vs H Q E h => len_are_closer h) fun cdv A outer s H vs Q E hr h => ⟨t_are_closer K, ?_, pure_are_closer T h⟩
  exact (pss_one (ps_ret (pe_cmpR op_gt (pe_op op_mul (pe_op op_mul (pe_ix ix_tup (pv 0) pe_int (fun _ _ => rfl)) (pe_ix ix_tup (pv 0) pe_int (fun _ _ => rfl))) (pe_ix ix_tup (pv 1) pe_int (fun _ _ => rfl))) (pe_op op_mul (pe_op op_mul (pe_ix ix_tup (pv 1) pe_int (fun _ _ => rfl)) (pe_ix ix_tup (pv 1) pe_int (fun _ _ => rfl))) (pe_ix ix_tup (pv 0) pe_int (fun _ _ => rfl))) (nomark _))))
/-! ### a fraction -/
def sp_lowest_terms (K : PySem.W.Frag) : Sp := fun vs H Q _ => ∃ (a b : Nat), vs = [.int (a : Int), .int (b : Int)] ∧ 0 < b ∧ a < 2 ^ 200 ∧ b < 2 ^ 200 ∧ RetL [.int ((a : Int) / (Nat.gcd a b : Nat)), .int ((b : Int) / (Nat.gcd a b : Nat))] H Q
theorem len_lowest_terms (h : sp_lowest_terms K vs H Q E) : vs.length = (["top", "bottom"] : List Str).length := by
  obtain ⟨_, _, rfl, _⟩ := h
  rfl
def t_lowest_terms (K : PySem.W.Frag) : TS :=
  (tSeq (tPar 2 3 (tCons (tVar 0) (tCons (tVar 1) tNil)))
    (tSeq (tWhile (tTest (tOp rNe (tVar 3) (tC (.int 0)))) (tPar 2 3 (tCons (tVar 3) (tCons (tOp rModI (tVar 2) (tVar 3)) tNil))))
    (tRet (tLst (tCons (tOp rDivW (tVar 0) (tVar 2)) (tCons (tOp rDivW (tVar 1) (tVar 2)) tNil))))))
theorem pure_lowest_terms (T : Txt K mg) (h : sp_lowest_terms K vs H Q E) : t_lowest_terms K { nx := fun _ H' => Q .non H', rt := Q } (start N_lowest_terms vs) H := by
  obtain ⟨a, b, rfl, hb, ha2, hb2, k⟩ := h
  refine q_par (ev_var rfl) (ev_var rfl) fun H1 e1 => ?_
  refine q_while (fun m σ H' => Ex H H' ∧ ∃ x y : Nat, m = y ∧ Nat.gcd x y = Nat.gcd a b ∧ σ = [some (.int (a : Int)), some (.int (b : Int)), some (.int (x : Int)), some (.int (y : Int))]) b ⟨e1, a, b, rfl, rfl, rfl⟩ ?_
  rintro m σ H' ⟨e', x, y, rfl, hg, rfl⟩
  refine ⟨!decide ((m : Int) = 0), et_test (ev_nei (ev_var rfl) ev_c), fun ht H2 e2 => ?_, fun hf H2 e2 => ?_⟩
  · have hm : ¬ (m : Int) = 0 := of_decide_eq_false (by simpa using ht)
    refine ⟨_, fun _ _ q => q, ?_⟩
    refine s_par (ev_var rfl) (ev_mod (ev_var rfl) (ev_var rfl) hm) fun H3 e3 => ⟨x % m, Nat.mod_lt _ (by omega), (e'.trans e2).trans e3, m, x % m, rfl, ?_, ?_⟩
    · rw [← hg, Nat.gcd_comm m, ← Nat.gcd_rec, Nat.gcd_comm]
    · have em : (x : Int).fmod (m : Int) = ((x % m : Nat) : Int) := by
        rw [Int.fmod_eq_emod_of_nonneg _ (by omega)]
        rfl
      rw [em]
      rfl
  · have hm : (m : Int) = 0 := of_decide_eq_true (by simpa using hf)
    have m0 : m = 0 := by omega
    subst m0
    rw [Nat.gcd_zero_right] at hg
    subst hg
    have g0 : 0 < Nat.gcd a b := Nat.gcd_pos_of_pos_right _ hb
    have gle : Nat.gcd a b ≤ b := Nat.le_of_dvd hb (Nat.gcd_dvd_right a b)
    have gw : ((Nat.gcd a b : Nat) : Int).natAbs < 2 ^ 200 := by
      rw [Int.natAbs_natCast]
      omega
    refine s_retL (xs := [.int ((a : Int) / (Nat.gcd a b : Nat)), .int ((b : Int) / (Nat.gcd a b : Nat))]) (el_lst (ea_cons (ev_divW (ev_var rfl) (ev_var rfl) ?_) (ea_cons (ev_divW (ev_var rfl) (ev_var rfl) ?_) ea_nil)) (by simp)) fun p H3 hp e3 h3 => k p H3 (fresh_back (e'.trans e2) hp) ((e'.trans e2).trans e3) h3
    · exact wide_div (b := 200) (by omega) gw (by decide) (by decide)
    · exact wide_div (b := 200) (by omega) gw (by decide) (by decide)
theorem ok_lowest_terms (T : Txt K mg) : Has P w K mg base 1 d_lowest_terms.at_ ["top", "bottom"] (sp_lowest_terms K) := by
  refine Has.of (d := d_lowest_terms) T 8 rfl ⟨rfl, rfl⟩ sc_lowest_terms (fun _ _ _ _ _ _ us hl => match us, hl with | [_, _], _ => rfl) (fun vs H Q E h => len_lowest_terms h) fun cdv A outer s H vs Q E hr h => ⟨t_lowest_terms K, ?_, pure_lowest_terms T h⟩
  exact (pss_cons (ps_par (by rfl) sc_lowest_terms.nd rfl rfl (by decide) rfl rfl (pa_cons (pv 0) (pa_cons (pv 1) pa_nil)) (by rfl))
    (pss_cons (ps_while PassesOwn.never (pt_cmpR op_ne (pv 3) pe_int (nomark _)) (pss_one (ps_par (by rfl) sc_lowest_terms.nd rfl rfl (by decide) rfl rfl (pa_cons (pv 3) (pa_cons (pe_op op_modN (pv 2) (pv 3)) pa_nil)) (by rfl))))
    (pss_one (ps_ret (pe_lst (pa_cons (pe_op op_fdivW (pv 0) (pv 2)) (pa_cons (pe_op op_fdivW (pv 1) (pv 2)) pa_nil)))))))
end
end Gs
namespace Gs
open PySem PySem.Spec PyProof.Rows L2 Evl
/-! ### similar rows in order -/
abbrev Tr : Type := Nat × Int × Int
def closer (x y : Tr) : Bool := decide (y.2.1 * y.2.1 * x.2.2 < x.2.1 * x.2.1 * y.2.2)
def insC (x : Tr) : List Tr → List Tr
  | [] => [x]
  | y :: r => if closer x y then x :: y :: r else y :: insC x r
theorem insC_at {x : Tr} : ∀ {l : List Tr} {n : Nat}, (∀ j y, j < n → l[j]? = some y → closer x y = false) → n ≤ l.length → (∀ y, l[n]? = some y → closer x y = true) → l.take n ++ [x] ++ l.drop n = insC x l
  | [], n, _, hn, _ => by
    have n0 : n = 0 := by simpa using hn
    subst n0
    rfl
  | y :: r, 0, _, _, h => by
    rw [insC, if_pos (h y rfl)]
    rfl
  | y :: r, n + 1, h, hn, h' => by
    have hy : closer x y = false := h 0 y (by omega) rfl
    rw [insC, if_neg (by rw [hy]; decide), ← insC_at (l := r) (n := n) (fun j z hj e => h (j + 1) z (by omega) (by simpa using e)) (by simpa using hn) (fun z e => h' z (by simpa using e))]
    rfl
theorem insC_len (x : Tr) : ∀ l : List Tr, (insC x l).length = l.length + 1
  | [] => rfl
  | y :: r => by
    unfold insC
    split
    · rfl
    · rw [List.length_cons, insC_len x r, List.length_cons]
theorem insC_mem {x y : Tr} : ∀ {l : List Tr}, y ∈ insC x l → y = x ∨ y ∈ l
  | [], h => .inl (by simpa [insC] using h)
  | z :: r, h => by
    unfold insC at h
    split at h
    · simpa using h
    · rcases List.mem_cons.mp h with e | e
      · exact .inr (by rw [e]; exact List.mem_cons_self ..)
      · exact (insC_mem e).imp id (List.mem_cons_of_mem _)
def insAll (l : List Tr) : List Tr := l.foldl (fun l x => insC x l) []
theorem insFold_len : ∀ (l a : List Tr), (l.foldl (fun l x => insC x l) a).length = l.length + a.length
  | [], a => by simp
  | x :: r, a => by
    rw [List.foldl_cons, insFold_len r, insC_len, List.length_cons]
    omega
theorem insFold_mem {y : Tr} : ∀ {l a : List Tr}, y ∈ l.foldl (fun l x => insC x l) a → y ∈ l ∨ y ∈ a
  | [], _, h => .inr h
  | x :: r, a, h => by
    rcases insFold_mem (l := r) h with e | e
    · exact .inl (List.mem_cons_of_mem _ e)
    · rcases insC_mem e with e | e
      · exact .inl (by rw [e]; exact List.mem_cons_self ..)
      · exact .inr e
theorem paired_take {α β : Type} {F : α → β → Prop} : ∀ {l : List α} {m : List β} (n : Nat), Paired F l m → Paired F (l.take n) (m.take n)
  | _, _, 0, _ => .nil
  | _, _, _ + 1, .nil => .nil
  | _, _, n + 1, .cons h t => .cons h (paired_take n t)
theorem paired_drop {α β : Type} {F : α → β → Prop} : ∀ {l : List α} {m : List β} (n : Nat), Paired F l m → Paired F (l.drop n) (m.drop n)
  | _, _, 0, h => h
  | _, _, _ + 1, .nil => .nil
  | _, _, n + 1, .cons h t => paired_drop n t
theorem paired_app {α β : Type} {F : α → β → Prop} : ∀ {l l' : List α} {m m' : List β}, Paired F l m → Paired F l' m' → Paired F (l ++ l') (m ++ m')
  | _, _, _, _, .nil, h => h
  | _, _, _, _, .cons h t, h' => .cons h (paired_app t h')
section
variable {P : Program} {w : World} {K : PySem.W.Frag} {mg : Str → Option Value} {base : Heap} {vs : List V} {H H' : Hp} {Q : VK} {E : XK}
def Tri (H : Hp) (ts : List Addr) (trs : List Tr) : Prop := Paired (fun t (r : Tr) => H t = some (.tup [.int (r.1 : Int), .int r.2.1, .int r.2.2])) ts trs
theorem Tri.ex {ts : List Addr} {trs : List Tr} (h : Tri H ts trs) (e : Ex H H') : Tri H' ts trs := paired_mono (fun _ _ h => e _ _ h) h
theorem ev_are_closer {σ : L2.St} {ta tb : TE} {p s p' s' : Int} (ha : EvU ta σ H [.int p, .int s]) (hb : EvU tb σ H [.int p', .int s']) (h1 : Sm p) (h2 : Sm p') (h3 : Sm s) (h4 : Sm s') :
    Ev (tCall (sp_are_closer K) [] E0 (tCons ta (tCons tb tNil))) σ H (.bl (decide (p' * p' * s < p * p * s'))) := fun H1 e Q q =>
  ha H1 e _ fun a H2 _ e2 h2' => hb H2 (e.trans e2) _ fun b H3 _ e3 h3' =>
    ⟨a, b, p, s, p', s', rfl, st_of (e3 _ _ h2'), st_of h3', h1, h2, h3, h4, fun H4 e4 => q H4 ((e2.trans e3).trans e4)⟩
theorem s_insU {D : Ends} {σ : L2.St} {ta tb te : TE} {l : Addr} {xs ys : List V} {i : Nat} (hl : H l = some (.lst xs)) (ha : Ev ta σ H (.ref l)) (hi : Ev tb σ H (.int (i : Int))) (h : EvU te σ H ys) (hz : xs.length < 100000) (hi2 : i < 100000)
    (k : ∀ p H1, H p = none → Ex H H1 → H1 p = some (.tup ys) → D.nx σ (upd H1 l (.lst (xs.take i ++ [.ref p] ++ xs.drop i)))) :
    tDrop (tBM K "list" rInsert ta (tCons tb (tCons te tNil))) D σ H := ha H (Ex.refl H) _ fun H1 e1 =>
  ⟨Or.inl ⟨rfl, xs, sq_of (e1 l _ hl)⟩, hi H1 e1 _ fun H2 e2 => h H2 (e1.trans e2) _ fun p H3 hp e3 h3 =>
    ⟨l, xs, (i : Int), .ref p, rfl, rfl, e3 l _ (e2 l _ (e1 l _ hl)), sz_lt hz, by omega, by omega, k p H3 (fresh_back (e1.trans e2) hp) ((e1.trans e2).trans e3) h3⟩⟩
def sp_in_order (K : PySem.W.Frag) : Sp := fun vs H Q _ => ∃ (l : Addr) (ts : List Addr) (trs : List Tr), vs = [.ref l] ∧ SqL K H l (ts.map V.ref) ∧ Tri H ts trs ∧ trs.length ≤ 100 ∧ (∀ t ∈ trs, Sm t.2.1 ∧ Sm t.2.2) ∧
  RetL ((insAll trs).map fun t => .int (t.1 : Int)) H Q
theorem len_in_order (h : sp_in_order K vs H Q E) : vs.length = (["found"] : List Str).length := by
  obtain ⟨_, _, _, rfl, _⟩ := h
  rfl
def t_in_order (K : PySem.W.Frag) : TS :=
  (tSeq (tAsg (tLst tNil) (gName 1))
    (tSeq (tFor (iList K (tVar 0)) (gTup K 3 (gCons (gName 2) (gCons (gName 3) (gCons (gName 4) gNil)))) (tSeq (tAsg (tC (.int 0)) (gName 5))
    (tSeq (tWhile (tAnd (tTest (tOp rLtI (tVar 5) (tCB (rLenQ K) (tCons (tVar 1) tNil)))) (tNot (tB (tCall (sp_are_closer K) [] E0 (tCons (tTup (tCons (tVar 3) (tCons (tVar 4) tNil))) (tCons (tTup (tCons (tOp (rIxT K) (tOp (rIxL K) (tVar 1) (tVar 5)) (tC (.int 1))) (tCons (tOp (rIxT K) (tOp (rIxL K) (tVar 1) (tVar 5)) (tC (.int 2))) tNil))) tNil)))))) (tAsg (tOp rAddI (tVar 5) (tC (.int 1))) (gName 5)))
    (tDrop (tBM K "list" rInsert (tVar 1) (tCons (tVar 5) (tCons (tTup (tCons (tVar 2) (tCons (tVar 3) (tCons (tVar 4) tNil)))) tNil)))))))
    (tRet (tLc (iList K (tVar 1)) (gTup K 3 (gCons (gName 2) (gCons (gName 3) (gCons (gName 4) gNil)))) tYes (tVar 2) [2, 3, 4]))))
theorem pure_in_order (T : Txt K mg) (h : sp_in_order K vs H Q E) : t_in_order K { nx := fun _ H' => Q .non H', rt := Q } (start N_in_order vs) H := by
  obtain ⟨l, ts, trs, rfl, hl, ht, hlen, hsm, k⟩ := h
  have tslen : ts.length = trs.length := paired_len ht
  refine q_asgL (el_lst ea_nil (by simp)) fun d H1 hd e1 h1 => ?_
  refine q_forL (a := l) (xs := ts.map V.ref) (ev_var rfl) (ex_l e1 hl) (fun i σ H' => Ex H H' ∧ ∃ (us : List Addr) (v2 v3 v4 v5 : Option V), H' d = some (.lst (us.map V.ref)) ∧ Tri H' us (insAll (trs.take i)) ∧ σ = [some (.ref l), some (.ref d), v2, v3, v4, v5])
    (fun H2 e2 => ⟨e1.trans e2, [], none, none, none, none, e2 _ _ h1, .nil, rfl⟩) (fun i σ H' _ p => ex_l p.1 hl) (fun i v σ H' hi p => ?_) (fun σ H' p => ?_)
  · obtain ⟨e', us, v2, v3, v4, v5, hd', hus, rfl⟩ := p
    rw [List.getElem?_map, Option.map_eq_some_iff] at hi
    obtain ⟨t, ht0, rfl⟩ := hi
    obtain ⟨x, hx, hxt⟩ := paired_at ht ht0
    have hxs := hsm x (List.mem_of_getElem? hx)
    have lus : us.length = (insAll (trs.take i)).length := paired_len hus
    have hil : i < trs.length := (List.getElem?_eq_some_iff.mp hx).1
    have l2 : us.length = i := by rw [lus, insAll, insFold_len, List.length_take]; simp; omega
    have hsm2 : ∀ y ∈ insAll (trs.take i), Sm y.2.1 ∧ Sm y.2.2 := fun y hy => hsm y (by
      rcases insFold_mem hy with h | h
      · exact List.mem_of_mem_take h
      · cases h)
    refine g_unp3 (st_of (e' _ _ hxt)) ?_
    refine q_asg ev_c fun H2 e2 => ?_
    refine q_while (fun m σ H' => Ex H H' ∧ H' d = some (.lst (us.map V.ref)) ∧ Tri H' us (insAll (trs.take i)) ∧ ∃ n : Nat, m = us.length - n ∧ n ≤ us.length ∧ (∀ j y, j < n → (insAll (trs.take i))[j]? = some y → closer x y = false) ∧
      σ = [some (.ref l), some (.ref d), some (.int (x.1 : Int)), some (.int x.2.1), some (.int x.2.2), some (.int (n : Int))]) us.length ⟨e'.trans e2, e2 _ _ hd', hus.ex e2, 0, by simp, Nat.zero_le _, fun j y hj => by omega, rfl⟩ ?_
    rintro m σ H3 ⟨e3, hd3, hu3, n, rfl, hn, hno, rfl⟩
    refine ⟨_, et_and (et_test (ev_lt (ev_var rfl) (ev_lenL (ev_var rfl) (sq_of hd3)))) (b := !(match (insAll (trs.take i))[n]? with | some y => closer x y | none => false)) (fun hlt => ?_), fun hgo H4 e4 => ?_, fun hstop H4 e4 => ?_⟩
    · rw [List.length_map] at hlt
      have hlt : (n : Int) < (us.length : Int) := of_decide_eq_true hlt
      have hn2 : n < us.length := by omega
      obtain ⟨y, hy, hyt⟩ := paired_at hu3 (List.getElem?_eq_getElem hn2)
      have hys := hsm2 y (List.mem_of_getElem? hy)
      rw [hy]
      have hat : (us.map V.ref)[n]? = some (.ref us[n]) := by rw [List.getElem?_map, List.getElem?_eq_getElem hn2]; rfl
      refine et_not (et_B (ev_are_closer (eu_tup (ea_cons (ev_var rfl) (ea_cons (ev_var rfl) ea_nil)) (by simp)) (eu_tup (ea_cons ?_ (ea_cons ?_ ea_nil)) (by simp)) hxs.1 hys.1 hxs.2 hys.2))
      · exact ev_ixT (j := 1) (ev_ixL (ev_var rfl) (ev_var rfl) (sq_of hd3) hat) ev_c (st_of hyt) rfl
      · exact ev_ixT (j := 2) (ev_ixL (ev_var rfl) (ev_var rfl) (sq_of hd3) hat) ev_c (st_of hyt) rfl
    · obtain ⟨g1, g2⟩ := Bool.and_eq_true_iff.mp hgo
      rw [List.length_map] at g1
      have hlt : (n : Int) < (us.length : Int) := of_decide_eq_true g1
      refine ⟨_, fun _ _ q => q, ?_⟩
      refine s_asg (ev_add (ev_var rfl) ev_c) fun H5 e5 => ⟨us.length - (n + 1), by omega, (e3.trans e4).trans e5, e5 _ _ (e4 _ _ hd3), (hu3.ex e4).ex e5, n + 1, rfl, by omega, fun j y hj hy => ?_, rfl⟩
      by_cases hjn : j < n
      · exact hno j y hjn hy
      · have : j = n := by omega
        subst this
        rw [hy] at g2
        simpa using g2
    · refine s_insU (i := n) (e4 _ _ hd3) (ev_var rfl) (ev_var rfl) (eu_tup (ea_cons (ev_var rfl) (ea_cons (ev_var rfl) (ea_cons (ev_var rfl) ea_nil))) (by simp)) (by rw [List.length_map]; omega) (by omega) fun p H5 hp e5 h5 => ?_
      have hpd : p ≠ d := fun e => by
        rw [e, e4 _ _ hd3] at hp
        cases hp
      have key : (insAll (trs.take i)).take n ++ [x] ++ (insAll (trs.take i)).drop n = insAll (trs.take (i + 1)) := by
        rw [show insAll (trs.take (i + 1)) = insC x (insAll (trs.take i)) from foldl_take _ _ trs i x hx]
        refine insC_at hno (by rw [← lus]; exact hn) fun y hy => ?_
        have hn2 : n < us.length := by rw [lus]; exact (List.getElem?_eq_some_iff.mp hy).1
        rw [List.length_map] at hstop
        have d1 : decide ((n : Int) < (us.length : Int)) = true := decide_eq_true (by omega)
        rw [d1, hy] at hstop
        simpa using hstop
      have ex5 : Ex H (upd H5 d (.lst ((us.map V.ref).take n ++ [.ref p] ++ (us.map V.ref).drop n))) := Ex.mut ((e3.trans e4).trans e5) hd
      refine ⟨ex5, us.take n ++ [p] ++ us.drop n, _, _, _, _, ?_, ?_, rfl⟩
      · rw [upd_same, List.map_append, List.map_append, List.map_take, List.map_drop]
        rfl
      · rw [← key]
        have hne : ∀ t ∈ us, t ≠ d := fun t ht e => by
          obtain ⟨j, hj, rfl⟩ := List.mem_iff_getElem.mp ht
          obtain ⟨y, _, hyt⟩ := paired_at hu3 (List.getElem?_eq_getElem hj)
          rw [e, hd3] at hyt
          cases hyt
        have up : ∀ t r, H3 t = some (.tup r) → upd H5 d (.lst ((us.map V.ref).take n ++ [.ref p] ++ (us.map V.ref).drop n)) t = some (.tup r) := fun t r ht => by
          rw [upd_ne]
          · exact e5 _ _ (e4 _ _ ht)
          · intro e
            rw [e, hd3] at ht
            cases ht
        have hu5 : Tri (upd H5 d (.lst ((us.map V.ref).take n ++ [.ref p] ++ (us.map V.ref).drop n))) us (insAll (trs.take i)) := paired_mono (fun t r h => up t _ h) hu3
        refine paired_app (paired_app (paired_take n hu5) (.cons ?_ .nil)) (paired_drop n hu5)
        rw [upd_ne hpd]
        exact h5
  · obtain ⟨e', us, v2, v3, v4, v5, hd', hus, rfl⟩ := p
    rw [List.length_map, tslen, List.take_length] at hus
    have lus : us.length = (insAll trs).length := paired_len hus
    have l2 : us.length = trs.length := by rw [lus, insAll, insFold_len]; simp
    refine s_retL (xs := (insAll trs).map fun t => .int (t.1 : Int)) ?_ fun p H2 hp e2 h2 => k p H2 (fresh_back e' hp) (e'.trans e2) h2
    intro H2 e2 Q2 q2
    refine ⟨_, rfl, _, rfl, ⟨us.map V.ref, sq_of (e2 _ _ hd')⟩, ?_⟩
    refine lc_vals (walk_list (xs := us.map V.ref)) (by rw [List.length_map]; omega) (fun H4 e4 => sq_of (e4 _ _ (e2 _ _ hd'))) ((insAll trs).map fun t => .int (t.1 : Int)) (by rw [List.length_map, List.length_map, lus]) ?_ (fun Dl H4 hD e4 h4 => q2 Dl H4 hD e4 h4)
    intro i x z H4 H5 K1 hi hz e4 y k1
    obtain ⟨rfl, hx⟩ := y
    rw [List.getElem?_map, Option.map_eq_some_iff] at hx
    obtain ⟨t, ht0, rfl⟩ := hx
    obtain ⟨r, hr, hrt⟩ := paired_at hus ht0
    rw [List.getElem?_map, hr] at hz
    cases hz
    refine g_unp3 (st_of (e4 _ _ (e2 _ _ hrt))) ⟨rfl, ?_⟩
    exact ev_var rfl _ (Ex.refl _) _ fun H6 e6 => k1 H6 e6
theorem ok_in_order (T : Txt K mg) : Has P w K mg base 2 d_in_order.at_ ["found"] (sp_in_order K) := by
  refine Has.of (d := d_in_order) T 7 rfl ⟨rfl, rfl⟩ sc_in_order (fun _ _ _ _ _ _ us hl => match us, hl with | [_], _ => rfl) (fun vs H Q E h => len_in_order h) fun cdv A outer s H vs Q E hr h => ⟨t_in_order K, ?_, pure_in_order T h⟩
  exact (pss_cons (ps_set (i := 1) sc_in_order.nd rfl (Or.inl rfl) (pe_lst pa_nil))
    (pss_cons (ps_for PassesOwn.never rfl (pi_list (pv 0)) (pg_tup rfl (pgs_cons (pg_name (i := 2) sc_in_order.nd rfl (Or.inl rfl)) (pgs_cons (pg_name (i := 3) sc_in_order.nd rfl (Or.inl rfl)) (pgs_cons (pg_name (i := 4) sc_in_order.nd rfl (Or.inl rfl)) pgs_nil)))) (pss_cons (ps_set (i := 5) sc_in_order.nd rfl (Or.inl rfl) pe_int)
    (pss_cons (ps_while PassesOwn.never (PW.pt (pw_and (pt_cmpR op_lt (pv 5) (pe_callB cl_len (by rfl) T.f_len (by decide +kernel) (pa_cons (pv 1) pa_nil)) (nomark _)) (pw_and1 (pt_not (pt_val (pe_callH (ok_are_closer T) (hr.mono (by decide)) rfl T.g_are_closer (pa_cons (pe_tup (pa_cons (pv 3) (pa_cons (pv 4) pa_nil))) (pa_cons (pe_tup (pa_cons (pe_ix ix_tup (pe_ix ix_list (pv 1) (pv 5) (fun _ _ => rfl)) pe_int (fun _ _ => rfl)) (pa_cons (pe_ix ix_tup (pe_ix ix_list (pv 1) (pv 5) (fun _ _ => rfl)) pe_int (fun _ _ => rfl)) pa_nil))) pa_nil)))))))) (pss_one (ps_set (i := 5) sc_in_order.nd rfl (Or.inl rfl) (pe_op op_add (pv 5) pe_int))))
    (pss_one (ps_expr (pe_bm PySem.F.plainAttrs_list PySem.F.slot_list_insert PySem.F.type_list_insert cl_insert (pv 1) (pa_cons (pv 5) (pa_cons (pe_tup (pa_cons (pv 2) (pa_cons (pv 3) (pa_cons (pv 4) pa_nil)))) pa_nil))))))))
    (pss_one (ps_ret (pe_lc (own := [("number", 2), ("own", 3), ("square", 4)]) (g := (gTup K 3 (gCons (gName 2) (gCons (gName 3) (gCons (gName 4) gNil))))) (tt := tYes) rfl sc_in_order.nd (pi_list (pv 1)) (blkOk_by (own := [("number", 2), ("own", 3), ("square", 4)]) (N := N_in_order) (sc := defScope s_in_order) (by decide +kernel)) (fun _ _ _ _ _ => (pg_tup rfl (pgs_cons (pg_name (i := 2) sc_in_order.nd rfl (Or.inl rfl)) (pgs_cons (pg_name (i := 3) sc_in_order.nd rfl (Or.inl rfl)) (pgs_cons (pg_name (i := 4) sc_in_order.nd rfl (Or.inl rfl)) pgs_nil))))) (fun _ _ _ _ _ => pts_nil) (fun _ _ _ _ _ => (pv 2)))))))
end
end Gs
namespace Gs
open PySem PySem.Spec PyProof.Rows L2 Evl
section
variable {P : Program} {w : World} {K : PySem.W.Frag} {mg : Str → Option Value} {base : Heap} {vs : List V} {H H' : Hp} {Q : VK} {E : XK}
/-! ### settings -/
def sp_are_settings (K : PySem.W.Frag) : Sp := fun vs H Q _ => ∃ (a : Addr) (u i f l nn pe bp sd : Nat), vs = [.ref a] ∧ SqL K H a [.int (u : Int), .int (i : Int), .int (f : Int), .int (l : Int), .int (nn : Int), .int (pe : Int), .int (bp : Int), .int (sd : Int)] ∧
  RetV (.bl (Kp429.validSettings ⟨u, i, f, l, nn == 1, pe, bp, sd⟩ && decide (nn ≤ 1))) H Q
theorem len_are_settings (h : sp_are_settings K vs H Q E) : vs.length = (["numbers"] : List Str).length := by
  obtain ⟨_, _, _, _, _, _, _, _, _, rfl, _⟩ := h
  rfl
theorem valid_iff (s : Kp429.Settings) : Kp429.validSettings s = true ↔ 1 ≤ s.users ∧ s.users ≤ 8 ∧ 1 ≤ s.items ∧ s.items ≤ 8 ∧ s.factors ≤ 3 ∧ 1 ≤ s.limit ∧ s.limit ≤ 4096 ∧ s.penalty ≤ 100000000 ∧ s.biasPenalty ≤ 1000 := by
  simp only [Kp429.validSettings, Bool.and_eq_true, decide_eq_true_eq]
  constructor
  · rintro ⟨⟨⟨⟨⟨⟨⟨⟨h1, h2⟩, h3⟩, h4⟩, h5⟩, h6⟩, h7⟩, h8⟩, h9⟩
    exact ⟨h1, h2, h3, h4, h5, h6, h7, h8, h9⟩
  · rintro ⟨h1, h2, h3, h4, h5, h6, h7, h8, h9⟩
    exact ⟨⟨⟨⟨⟨⟨⟨⟨h1, h2⟩, h3⟩, h4⟩, h5⟩, h6⟩, h7⟩, h8⟩, h9⟩
theorem gUnl_at {n : Nat} {g : TGs} {a : Addr} {xs : List V} {σ : L2.St} {Q : L2.St → Hp → Prop} (h : SqL K H a xs) (hl : xs.length = n) (k : g xs σ H Q) : gUnl K n g (.ref a) σ H Q := ⟨a, xs, rfl, h, hl, k⟩
theorem retv_is {v w : V} (k : RetV v H Q) (e : Ex H H') (h : v = w) : RetV w H' Q := fun H2 e2 => h ▸ k H2 (e.trans e2)
def t_are_settings (K : PySem.W.Frag) : TS :=
  (tSeq (tAsg (tSl (rSlL K) (tVar 0) tNoPart (tPart (tC (.int 7)))) (gUnl K 7 (gCons (gName 1) (gCons (gName 2) (gCons (gName 3) (gCons (gName 4) (gCons (gName 5) (gCons (gName 6) (gCons (gName 7) gNil)))))))))
    (tSeq (tIfS (tOr (tNot (tTest (tChain rLeI rLeI (tC (.int 1)) (tVar 1) (tC (.int 8))))) (tOr (tNot (tTest (tChain rLeI rLeI (tC (.int 1)) (tVar 2) (tC (.int 8))))) (tTest (tOp rGtI (tVar 3) (tC (.int 3)))))) (tRet (tC (.bl false))) tNext)
    (tSeq (tIfS (tOr (tNot (tTest (tChain rLeI rLeI (tC (.int 1)) (tVar 4) (tC (.int 4096))))) (tTest (tOp rGtI (tVar 5) (tC (.int 1))))) (tRet (tC (.bl false))) tNext)
    (tRet (tAndV (tOp rLeI (tVar 6) (tC (.int 100000000))) (tOp rLeI (tVar 7) (tC (.int 1000))))))))
theorem pure_are_settings (T : Txt K mg) (h : sp_are_settings K vs H Q E) : t_are_settings K { nx := fun _ H' => Q .non H', rt := Q } (start N_are_settings vs) H := by
  obtain ⟨a, u, i, f, l, nn, pe, bp, sd, rfl, ha, k⟩ := h
  refine el_sl (ev_var rfl) eo_none (eo_some ev_c) ha H (Ex.refl H) _ fun p H1 hp e1 h1 => ?_
  refine gUnl_at (xs := [.int (u : Int), .int (i : Int), .int (f : Int), .int (l : Int), .int (nn : Int), .int (pe : Int), .int (bp : Int)]) (sq_of h1) rfl ?_
  refine ⟨_, _, rfl, _, _, rfl, _, _, rfl, _, _, rfl, _, _, rfl, _, _, rfl, _, _, rfl, rfl, ?_⟩
  refine q_when (et_or (et_not (et_test (ev_chainLe ev_c (ev_var rfl) ev_c))) fun _ => et_or (et_not (et_test (ev_chainLe ev_c (ev_var rfl) ev_c))) fun _ => et_test (ev_gt (ev_var rfl) ev_c)) (fun hb H2 e2 => ?_) (fun hb H2 e2 => ?_)
  · refine s_ret (v := .bl false) ev_c (retv_is k (e1.trans e2) ?_)
    congr 1
    apply Bool.eq_false_iff.mpr
    intro hh
    rw [Bool.and_eq_true, valid_iff, decide_eq_true_eq] at hh
    simp at hh hb
    omega
  refine q_when (et_or (et_not (et_test (ev_chainLe ev_c (ev_var rfl) ev_c))) fun _ => et_test (ev_gt (ev_var rfl) ev_c)) (fun hb2 H3 e3 => ?_) (fun hb2 H3 e3 => ?_)
  · refine s_ret (v := .bl false) ev_c (retv_is k ((e1.trans e2).trans e3) ?_)
    congr 1
    apply Bool.eq_false_iff.mpr
    intro hh
    rw [Bool.and_eq_true, valid_iff, decide_eq_true_eq] at hh
    simp at hh hb2
    omega
  refine s_ret (ev_andV (ev_le (ev_var rfl) ev_c) fun _ => ev_le (ev_var rfl) ev_c) (retv_is k ((e1.trans e2).trans e3) ?_)
  congr 1
  rw [Bool.eq_iff_iff, Bool.and_eq_true, Bool.and_eq_true, valid_iff]
  simp at hb hb2 ⊢
  omega
theorem ok_are_settings (T : Txt K mg) : Has P w K mg base 1 d_are_settings.at_ ["numbers"] (sp_are_settings K) := by
  refine Has.of (d := d_are_settings) T 9 rfl ⟨rfl, rfl⟩ sc_are_settings (fun _ _ _ _ _ _ us hl => match us, hl with | [_], _ => rfl) (fun vs H Q E h => len_are_settings h) fun cdv A outer s H vs Q E hr h => ⟨t_are_settings K, ?_, pure_are_settings T h⟩
  exact (pss_cons (ps_asg (pe_slice sl_list (pv 0) po_none (po_some pe_int)) (pg_unl rfl (pgs_cons (pg_name (i := 1) sc_are_settings.nd rfl (Or.inl rfl)) (pgs_cons (pg_name (i := 2) sc_are_settings.nd rfl (Or.inl rfl)) (pgs_cons (pg_name (i := 3) sc_are_settings.nd rfl (Or.inl rfl)) (pgs_cons (pg_name (i := 4) sc_are_settings.nd rfl (Or.inl rfl)) (pgs_cons (pg_name (i := 5) sc_are_settings.nd rfl (Or.inl rfl)) (pgs_cons (pg_name (i := 6) sc_are_settings.nd rfl (Or.inl rfl)) (pgs_cons (pg_name (i := 7) sc_are_settings.nd rfl (Or.inl rfl)) pgs_nil)))))))))
    (pss_cons (ps_if (PW.pt (pw_or (pt_not (pt_chain op_le op_le pe_int (pv 1) (pe_gint rfl T.i_MOST_ROWS))) (pw_or (pt_not (pt_chain op_le op_le pe_int (pv 2) (pe_gint rfl T.i_MOST_ROWS))) (pw_or1 (pt_cmpR op_gt (pv 3) (pe_gint rfl T.i_MOST_FACTORS) (nomark _)))))) (pss_one (ps_ret pe_bl)) pss_nil)
    (pss_cons (ps_if (PW.pt (pw_or (pt_not (pt_chain op_le op_le pe_int (pv 4) (pe_gint rfl T.i_MOST_LIMIT))) (pw_or1 (pt_cmpR op_gt (pv 5) pe_int (nomark _))))) (pss_one (ps_ret pe_bl)) pss_nil)
    (pss_one (ps_ret (pe_and (pe_cmpR op_le (pv 6) (pe_gint rfl T.i_MOST_PENALTY) (nomark _)) (pe_one (pe_cmpR op_le (pv 7) (pe_gint rfl T.i_MOST_BIAS_PENALTY) (nomark _)))))))))
theorem ev_are_settings {σ : L2.St} {ta : TE} {a : Addr} {u i f l nn pe bp sd : Nat} (ha : Ev ta σ H (.ref a)) (h : SqL K H a [.int (u : Int), .int (i : Int), .int (f : Int), .int (l : Int), .int (nn : Int), .int (pe : Int), .int (bp : Int), .int (sd : Int)]) :
    Ev (tCall (sp_are_settings K) [] E0 (tCons ta tNil)) σ H (.bl (Kp429.validSettings ⟨u, i, f, l, nn == 1, pe, bp, sd⟩ && decide (nn ≤ 1))) :=
  ev_call (ea_cons ha ea_nil) fun H1 e Q q E => ⟨a, u, i, f, l, nn, pe, bp, sd, rfl, ex_l e h, q⟩
/-! ### the hash -/
def bytesTo (j n : Nat) : List Nat := (List.range j).map fun i => n / 256 ^ i % 256
theorem bytes4 (n : Nat) : bytesTo 4 n = Kp429.bytesOf n := by
  have e : bytesTo 4 n = [n / 256 ^ 0 % 256, n / 256 ^ 1 % 256, n / 256 ^ 2 % 256, n / 256 ^ 3 % 256] := rfl
  rw [e, Nat.pow_zero, Nat.div_one]
  rfl
theorem bytes_succ (j n : Nat) : bytesTo (j + 1) n = bytesTo j n ++ [n / 256 ^ j % 256] := by
  unfold bytesTo
  rw [List.range_succ, List.map_append]
  rfl
def hAll (st : Nat → Nat → Nat) (s0 : Nat) (ns : List Nat) : Nat := (ns.flatMap Kp429.bytesOf).foldl st s0
theorem hAll_snoc (st : Nat → Nat → Nat) (s0 : Nat) (ns : List Nat) (i n : Nat) (h : ns[i]? = some n) : hAll st s0 (ns.take (i + 1)) = (Kp429.bytesOf n).foldl st (hAll st s0 (ns.take i)) := by
  unfold hAll
  rw [List.take_add_one, h, List.flatMap_append, List.foldl_append]
  simp
def sp_hashed (K : PySem.W.Frag) : Sp := fun vs H Q _ => ∃ (a : Addr) (ns : List Nat), vs = [.ref a] ∧ SqL K H a (ns.map fun (n : Nat) => V.int (n : Int)) ∧ RetV (.int (Kp429.hash ns : Nat)) H Q
theorem len_hashed (h : sp_hashed K vs H Q E) : vs.length = (["numbers"] : List Str).length := by
  obtain ⟨_, _, rfl, _⟩ := h
  rfl
def t_hashed (K : PySem.W.Frag) : TS :=
  (tSeq (tAsg (tC (.int 14695981039346656037)) (gName 1))
    (tSeq (tFor (iList K (tVar 0)) (gName 2) (tSeq (tAsg (tVar 2) (gName 3))
    (tFor (iRng1 (tCons (tC (.int 4)) tNil)) (gName 4) (tSeq (tAsg (tOp rModI (tOp rMulI (tOp rXorI (tVar 1) (tOp rModI (tVar 3) (tC (.int 256)))) (tC (.int 1099511628211))) (tC (.int 18446744073709551616))) (gName 1))
    (tAsg (tOp rDivI (tVar 3) (tC (.int 256))) (gName 3))))))
    (tRet (tVar 1))))
theorem hashed_run (st : Nat → Nat → Nat) (s0 : Nat) (hst : ∀ h b, st h b = (h ^^^ b) * 1099511628211 % 18446744073709551616) (hs0 : (14695981039346656037 : Int) = (s0 : Int)) (a : Addr) (ns : List Nat) (ha : SqL K H a (ns.map fun (n : Nat) => V.int (n : Int)))
    (k : RetV (.int (hAll st s0 ns : Nat)) H Q) : t_hashed K { nx := fun _ H' => Q .non H', rt := Q } (start N_hashed [.ref a]) H := by
  refine q_asg (v := .int (s0 : Int)) (ev_is ev_c (by rw [hs0])) fun H1 e1 => ?_
  refine q_forLn (a := a) (ev_var rfl) (ex_l e1 ha) (fun i σ H' => Ex H H' ∧ ∃ v2 v3 v4 : Option V, σ = [some (.ref a), some (.int (hAll st s0 (ns.take i) : Nat)), v2, v3, v4]) (fun H2 e2 => ⟨e1.trans e2, none, none, none, rfl⟩) (fun i σ H' _ p => ex_l p.1 ha) (fun i v σ H' hi p => ?_) (fun σ H' p => ?_)
  · obtain ⟨e', v2, v3, v4, rfl⟩ := p
    rw [List.getElem?_map, Option.map_eq_some_iff] at hi
    obtain ⟨n, hn, rfl⟩ := hi
    refine q_asg (v := .int (n : Int)) (ev_var rfl) fun H2 e2 => ?_
    refine s_forR1 (n := 4) (ea_cons ev_c ea_nil) ⟨by decide, by decide⟩ (fun j σ H' => Ex H H' ∧ ∃ v4 : Option V, σ = [some (.ref a), some (.int ((bytesTo j n).foldl st (hAll st s0 (ns.take i)) : Nat)), some (.int (n : Int)), some (.int (n / 256 ^ j : Nat)), v4]) (fun H3 e3 => ⟨(e'.trans e2).trans e3, v4, ?_⟩) (fun j σ H' hj p => ?_) (fun σ H' p => ?_)
    · rw [Nat.pow_zero, Nat.div_one]
      rfl
    · obtain ⟨e3, v4, rfl⟩ := p
      have hx : Builtin.bitXor (((bytesTo j n).foldl st (hAll st s0 (ns.take i)) : Nat) : Int) (((n / 256 ^ j % 256 : Nat)) : Int) = ((((bytesTo j n).foldl st (hAll st s0 (ns.take i))) ^^^ (n / 256 ^ j % 256) : Nat) : Int) := bitXor_nat _ _
      refine q_asg (v := .int ((bytesTo (j + 1) n).foldl st (hAll st s0 (ns.take i)) : Nat)) (ev_is (ev_mod (ev_mul (ev_xor (ev_var rfl) (ev_is (ev_mod (ev_var rfl) ev_c (by decide)) (w := .int ((n / 256 ^ j % 256 : Nat) : Int)) ?_)) ev_c (.inr ⟨by decide, by decide⟩)) ev_c (by decide)) ?_) fun H4 e4 => ?_
      · rw [show (256 : Int) = ((256 : Nat) : Int) from rfl, fmod_nat]
      · rw [hx, show (1099511628211 : Int) = ((1099511628211 : Nat) : Int) from rfl, show (18446744073709551616 : Int) = ((18446744073709551616 : Nat) : Int) from rfl, ← Int.natCast_mul, fmod_nat, bytes_succ, List.foldl_append, List.foldl_cons, List.foldl_nil, hst]
      · refine s_asg (v := .int (n / 256 ^ (j + 1) : Nat)) (ev_is (ev_div (ev_var rfl) ev_c ⟨by decide, by decide⟩) ?_) fun H5 e5 => ⟨(e3.trans e4).trans e5, _, rfl⟩
        rw [show (256 : Int) = ((256 : Nat) : Int) from rfl, fdiv_nat, Nat.div_div_eq_div_mul, Nat.pow_succ]
    · obtain ⟨e3, v4, rfl⟩ := p
      refine ⟨e3, some (.int (n : Int)), some (.int (n / 256 ^ (Int.toNat 4) : Nat)), v4, ?_⟩
      rw [hAll_snoc st s0 ns i n hn, ← bytes4]
      rfl
  · obtain ⟨e', v2, v3, v4, rfl⟩ := p
    rw [List.length_map, List.take_length]
    exact s_ret (v := .int (hAll st s0 ns : Nat)) (ev_var rfl) (retv_is k e' rfl)
theorem pure_hashed (T : Txt K mg) (h : sp_hashed K vs H Q E) : t_hashed K { nx := fun _ H' => Q .non H', rt := Q } (start N_hashed vs) H := by
  obtain ⟨a, ns, rfl, ha, k⟩ := h
  exact hashed_run (fun (h b : Nat) => (h ^^^ b) * 1099511628211 % 2 ^ 64) 14695981039346656037 (fun h b => by rw [show (2 : Nat) ^ 64 = 18446744073709551616 from rfl]) rfl a ns ha k
theorem ok_hashed (T : Txt K mg) : Has P w K mg base 1 d_hashed.at_ ["numbers"] (sp_hashed K) := by
  refine Has.of (d := d_hashed) T 10 rfl ⟨rfl, rfl⟩ sc_hashed (fun _ _ _ _ _ _ us hl => match us, hl with | [_], _ => rfl) (fun vs H Q E h => len_hashed h) fun cdv A outer s H vs Q E hr h => ⟨t_hashed K, ?_, pure_hashed T h⟩
  exact (pss_cons (ps_set (i := 1) sc_hashed.nd rfl (Or.inl rfl) (pe_gint rfl T.i_HASH_START))
    (pss_cons (ps_for PassesOwn.never rfl (pi_list (pv 0)) (pg_name (i := 2) sc_hashed.nd rfl (Or.inl rfl)) (pss_cons (ps_set (i := 3) sc_hashed.nd rfl (Or.inl rfl) (pv 2))
    (pss_one (ps_for PassesOwn.never rfl (pi_range1 rfl T.f_range (pa_cons pe_int pa_nil)) (pg_name (i := 4) sc_hashed.nd rfl (Or.inl rfl)) (pss_cons (ps_set (i := 1) sc_hashed.nd rfl (Or.inl rfl) (pe_op op_modN (pe_op op_mul (pe_op op_xor (pv 1) (pe_op op_modN (pv 3) pe_int)) (pe_gint rfl T.i_HASH_PRIME)) (pe_gint rfl T.i_HASH_SIZE)))
    (pss_one (ps_set (i := 3) sc_hashed.nd rfl (Or.inl rfl) (pe_op op_fdivN (pv 3) pe_int))))))))
    (pss_one (ps_ret (pv 1)))))
theorem ev_hashedN {σ : L2.St} {ta : TE} {xs : List V} {ns : List Nat} (ha : EvL ta σ H xs) (h : xs = ns.map fun (n : Nat) => V.int (n : Int)) : Ev (tCall (sp_hashed K) [] E0 (tCons ta tNil)) σ H (.int (Kp429.hash ns : Nat)) := fun H1 e Q q =>
  ha H1 e _ fun p H2 _ e2 h2 => ⟨p, ns, rfl, sq_of (by rw [← h]; exact h2), fun H3 e3 => q H3 (e2.trans e3)⟩
end
end Gs
namespace Gs
open PySem PySem.Spec PyProof.Rows L2 Evl
section
variable {P : Program} {w : World} {K : PySem.W.Frag} {mg : Str → Option Value} {base : Heap} {vs : List V} {H H' : Hp} {Q : VK} {E : XK}
/-! ### the object Settings -/
def SetAt (K : PySem.W.Frag) (H : Hp) (a : Addr) (s : Kp429.Settings) : Prop := ∃ dx m p : Addr, H a = some (.ins (He.ga K "Settings") dx [("many", .ref m), ("factors", .int (s.factors : Int)), ("limit", .int (s.limit : Int)), ("is_nonnegative", .bl s.nonnegative), ("penalties", .ref p), ("seed", .int (s.seed : Int))]) ∧
  H m = some (.tup [.int (s.users : Int), .int (s.items : Int)]) ∧ H p = some (.tup [.int (s.biasPenalty : Int), .int (s.penalty : Int)])
theorem SetAt.ex {a : Addr} {s : Kp429.Settings} (h : SetAt K H a s) (e : Ex H H') : SetAt K H' a s := by
  obtain ⟨dx, m, p, h1, h2, h3⟩ := h
  exact ⟨dx, m, p, e _ _ h1, e _ _ h2, e _ _ h3⟩
theorem ev_sfac (T : Txt K mg) {σ : L2.St} {ta : TE} {a : Addr} {s : Kp429.Settings} (ha : Ev ta σ H (.ref a)) (h : SetAt K H a s) : Ev (tFld K ta "factors") σ H (.int (s.factors : Int)) := by
  obtain ⟨dx, m, p, h1, h2, h3⟩ := h
  exact ev_fld ha h1 T.c_Settings T.n_Settings_factors rfl
theorem ev_slim (T : Txt K mg) {σ : L2.St} {ta : TE} {a : Addr} {s : Kp429.Settings} (ha : Ev ta σ H (.ref a)) (h : SetAt K H a s) : Ev (tFld K ta "limit") σ H (.int (s.limit : Int)) := by
  obtain ⟨dx, m, p, h1, h2, h3⟩ := h
  exact ev_fld ha h1 T.c_Settings T.n_Settings_limit rfl
theorem ev_snn (T : Txt K mg) {σ : L2.St} {ta : TE} {a : Addr} {s : Kp429.Settings} (ha : Ev ta σ H (.ref a)) (h : SetAt K H a s) : Ev (tFld K ta "is_nonnegative") σ H (.bl s.nonnegative) := by
  obtain ⟨dx, m, p, h1, h2, h3⟩ := h
  exact ev_fld ha h1 T.c_Settings T.n_Settings_is_nonnegative rfl
theorem ev_sseed (T : Txt K mg) {σ : L2.St} {ta : TE} {a : Addr} {s : Kp429.Settings} (ha : Ev ta σ H (.ref a)) (h : SetAt K H a s) : Ev (tFld K ta "seed") σ H (.int (s.seed : Int)) := by
  obtain ⟨dx, m, p, h1, h2, h3⟩ := h
  exact ev_fld ha h1 T.c_Settings T.n_Settings_seed rfl
/-- settings.many[kind], kind 0 or 1 -/
theorem ev_smany (T : Txt K mg) {σ : L2.St} {ta tk : TE} {a : Addr} {s : Kp429.Settings} {k : Nat} (ha : Ev ta σ H (.ref a)) (h : SetAt K H a s) (hk : Ev tk σ H (.int (k : Int))) (h1 : k ≤ 1) : Ev (tOp (rIxT K) (tFld K ta "many") tk) σ H (.int (Kp429.sizeOf s k : Nat)) := by
  obtain ⟨dx, m, p, h1', h2, h3⟩ := h
  refine ev_ixT (j := k) (ev_fld ha h1' T.c_Settings T.n_Settings_many rfl) hk (st_of h2) ?_
  match k, h1 with
  | 0, _ => rfl
  | 1, _ => rfl
theorem ev_smanyC (T : Txt K mg) {σ : L2.St} {ta : TE} {a : Addr} {s : Kp429.Settings} {k : Nat} (ha : Ev ta σ H (.ref a)) (h : SetAt K H a s) (h1 : k ≤ 1) : Ev (tOp (rIxT K) (tFld K ta "many") (tC (.int (k : Int)))) σ H (.int (Kp429.sizeOf s k : Nat)) := ev_smany T ha h ev_c h1
theorem ev_fldN {a C dx : Addr} {fs : List (Str × V)} {f : Str} {σ : L2.St} {ta : TE} {v : V} (h : Ev ta σ H (.ref a)) (ho : H a = some (.ins C dx fs)) (hc : Cls K C) (hn : NoAttr K C f) (hl : fs.lookup f = some v) : Ev (tFld K ta f) σ H v := ev_fld h ho hc hn hl
def sp_Settings_init (K : PySem.W.Frag) : Sp := fun vs H Q _ => ∃ (a l dx : Addr) (u i f lm nn pe bp sd : Nat), vs = [.ref a, .ref l] ∧ H a = some (.ins (He.ga K "Settings") dx []) ∧ H l = some (.lst [.int (u : Int), .int (i : Int), .int (f : Int), .int (lm : Int), .int (nn : Int), .int (pe : Int), .int (bp : Int), .int (sd : Int)]) ∧
  ∀ H2, Fr (· = a) H H2 → SetAt K H2 a ⟨u, i, f, lm, nn == 1, pe, bp, sd⟩ → Q .non H2
theorem len_Settings_init (h : sp_Settings_init K vs H Q E) : vs.length = (["self", "numbers"] : List Str).length := by
  obtain ⟨_, _, _, _, _, _, _, _, _, _, _, rfl, _⟩ := h
  rfl
def t_Settings_init (K : PySem.W.Frag) : TS :=
  (tSeq (sFld K (tVar 0) (tTup (tCons (tOp (rIxL K) (tVar 1) (tC (.int 0))) (tCons (tOp (rIxL K) (tVar 1) (tC (.int 1))) tNil))) "many")
    (tSeq (sFld K (tVar 0) (tOp (rIxL K) (tVar 1) (tC (.int 2))) "factors")
    (tSeq (sFld K (tVar 0) (tOp (rIxL K) (tVar 1) (tC (.int 3))) "limit")
    (tSeq (sFld K (tVar 0) (tOp rEq (tOp (rIxL K) (tVar 1) (tC (.int 4))) (tC (.int 1))) "is_nonnegative")
    (tSeq (sFld K (tVar 0) (tTup (tCons (tOp (rIxL K) (tVar 1) (tC (.int 6))) (tCons (tOp (rIxL K) (tVar 1) (tC (.int 5))) tNil))) "penalties")
    (sFld K (tVar 0) (tOp (rIxL K) (tVar 1) (tC (.int 7))) "seed"))))))
theorem pure_Settings_init (T : Txt K mg) (h : sp_Settings_init K vs H Q E) : t_Settings_init K { nx := fun _ H' => Q .non H', rt := Q } (start N_Settings_init vs) H := by
  obtain ⟨a, l, dx, u, i, f, lm, nn, pe, bp, sd, rfl, ha, hl, k⟩ := h
  have hal : l ≠ a := fun e => by rw [e, ha] at hl; cases hl
  have step : ∀ {H1 H2 : Hp} {o : HO}, H1 l = some (.lst [.int (u : Int), .int (i : Int), .int (f : Int), .int (lm : Int), .int (nn : Int), .int (pe : Int), .int (bp : Int), .int (sd : Int)]) → Ex H1 H2 → upd H2 a o l = some (.lst [.int (u : Int), .int (i : Int), .int (f : Int), .int (lm : Int), .int (nn : Int), .int (pe : Int), .int (bp : Int), .int (sd : Int)]) := fun h e => by
    rw [upd_ne hal]
    exact e _ _ h
  refine q_fldU (eu_tup (ea_cons (ev_ixL (j := 0) (ev_var rfl) ev_c (sq_of hl) rfl) (ea_cons (ev_ixL (j := 1) (ev_var rfl) ev_c (sq_of hl) rfl) ea_nil)) (by simp)) (ev_var rfl) ha T.c_Settings T.n_Settings_many (Nat.le_of_ble_eq_true rfl) fun m H1 hm e1 hm1 => ?_
  have hl1 := step (o := .ins (He.ga K "Settings") dx (putF "many" (.ref m) [])) hl e1
  refine q_fld (ev_ixL (j := 2) (ev_var rfl) ev_c (sq_of hl1) rfl) (ev_var rfl) upd_same T.c_Settings T.n_Settings_factors (Nat.le_of_ble_eq_true rfl) fun H2 e2 => ?_
  have hl2 := step (o := .ins (He.ga K "Settings") dx (putF "factors" (.int (f : Int)) (putF "many" (.ref m) []))) hl1 e2
  refine q_fld (ev_ixL (j := 3) (ev_var rfl) ev_c (sq_of hl2) rfl) (ev_var rfl) upd_same T.c_Settings T.n_Settings_limit (Nat.le_of_ble_eq_true rfl) fun H3 e3 => ?_
  have hl3 := step (o := .ins (He.ga K "Settings") dx (putF "limit" (.int (lm : Int)) (putF "factors" (.int (f : Int)) (putF "many" (.ref m) [])))) hl2 e3
  refine q_fld (v := .bl (nn == 1)) (ev_is (ev_eqi (ev_ixL (j := 4) (ev_var rfl) ev_c (sq_of hl3) rfl) ev_c) ?_) (ev_var rfl) upd_same T.c_Settings T.n_Settings_is_nonnegative (Nat.le_of_ble_eq_true rfl) fun H4 e4 => ?_
  · congr 1
    rw [Bool.eq_iff_iff]
    simp
    omega
  have hl4 := step (o := .ins (He.ga K "Settings") dx (putF "is_nonnegative" (.bl (nn == 1)) (putF "limit" (.int (lm : Int)) (putF "factors" (.int (f : Int)) (putF "many" (.ref m) []))))) hl3 e4
  refine q_fldU (eu_tup (ea_cons (ev_ixL (j := 6) (ev_var rfl) ev_c (sq_of hl4) rfl) (ea_cons (ev_ixL (j := 5) (ev_var rfl) ev_c (sq_of hl4) rfl) ea_nil)) (by simp)) (ev_var rfl) upd_same T.c_Settings T.n_Settings_penalties (Nat.le_of_ble_eq_true rfl) fun p H5 hp e5 hp5 => ?_
  have hl5 := step (o := .ins (He.ga K "Settings") dx (putF "penalties" (.ref p) (putF "is_nonnegative" (.bl (nn == 1)) (putF "limit" (.int (lm : Int)) (putF "factors" (.int (f : Int)) (putF "many" (.ref m) [])))))) hl4 e5
  refine s_fld (ev_ixL (j := 7) (ev_var rfl) ev_c (sq_of hl5) rfl) (ev_var rfl) upd_same T.c_Settings T.n_Settings_seed (Nat.le_of_ble_eq_true rfl) fun H6 e6 => ?_
  have hma : m ≠ a := fun e => by rw [e, ha] at hm; cases hm
  have hpa : p ≠ a := fun e => by rw [e, upd_same] at hp; cases hp
  refine k _ (((((((((((((Fr.refl (S := (· = a))).ex e1).upd rfl).ex e2).upd rfl).ex e3).upd rfl).ex e4).upd rfl).ex e5).upd rfl).ex e6).upd rfl) ⟨dx, m, p, upd_same, ?_, ?_⟩
  · have g : ∀ {Ha Hb : Hp} {o : HO}, Ha m = some (.tup [.int (u : Int), .int (i : Int)]) → Ex (upd Ha a o) Hb → Hb m = some (.tup [.int (u : Int), .int (i : Int)]) := fun h e => e _ _ (by rw [upd_ne hma]; exact h)
    rw [upd_ne hma]
    exact g (g (g (g (g hm1 e2) e3) e4) e5) e6
  · rw [upd_ne hpa]
    exact e6 _ _ (by rw [upd_ne hpa]; exact hp5)
theorem ok_Settings_init (T : Txt K mg) : Has P w K mg base 1 d_Settings_init.at_ ["self", "numbers"] (sp_Settings_init K) := by
  refine Has.of (d := d_Settings_init) T 11 rfl ⟨rfl, rfl⟩ sc_Settings_init (fun _ _ _ _ _ _ us hl => match us, hl with | [_, _], _ => rfl) (fun vs H Q E h => len_Settings_init h) fun cdv A outer s H vs Q E hr h => ⟨t_Settings_init K, ?_, pure_Settings_init T h⟩
  exact (pss_cons (ps_fld (pv 0) (pe_tup (pa_cons (pe_ix ix_list (pv 1) pe_int (fun _ _ => rfl)) (pa_cons (pe_ix ix_list (pv 1) pe_int (fun _ _ => rfl)) pa_nil))) rfl)
    (pss_cons (ps_fld (pv 0) (pe_ix ix_list (pv 1) pe_int (fun _ _ => rfl)) rfl)
    (pss_cons (ps_fld (pv 0) (pe_ix ix_list (pv 1) pe_int (fun _ _ => rfl)) rfl)
    (pss_cons (ps_fld (pv 0) (pe_cmpR op_eq (pe_ix ix_list (pv 1) pe_int (fun _ _ => rfl)) pe_int (nomark _)) rfl)
    (pss_cons (ps_fld (pv 0) (pe_tup (pa_cons (pe_ix ix_list (pv 1) pe_int (fun _ _ => rfl)) (pa_cons (pe_ix ix_list (pv 1) pe_int (fun _ _ => rfl)) pa_nil))) rfl)
    (pss_one (ps_fld (pv 0) (pe_ix ix_list (pv 1) pe_int (fun _ _ => rfl)) rfl)))))))
/-! ### its methods -/
def penOf (s : Kp429.Settings) (k : Nat) : Nat := if k = 0 then s.biasPenalty else s.penalty
def sp_Settings_penalty (K : PySem.W.Frag) : Sp := fun vs H Q _ => ∃ (a : Addr) (s : Kp429.Settings) (k : Nat), vs = [.ref a, .int (k : Int)] ∧ SetAt K H a s ∧ RetV (.int (penOf s k : Nat)) H Q
theorem len_Settings_penalty (h : sp_Settings_penalty K vs H Q E) : vs.length = (["self", "place"] : List Str).length := by
  obtain ⟨_, _, _, rfl, _⟩ := h
  rfl
def t_Settings_penalty (K : PySem.W.Frag) : TS :=
  (tRet (tOp (rIxT K) (tFld K (tVar 0) "penalties") (tIf (tTest (tOp rEq (tVar 1) (tC (.int 0)))) (tC (.int 0)) (tC (.int 1)))))
theorem pure_Settings_penalty (T : Txt K mg) (h : sp_Settings_penalty K vs H Q E) : t_Settings_penalty K { nx := fun _ H' => Q .non H', rt := Q } (start N_Settings_penalty vs) H := by
  obtain ⟨a, s, k, rfl, ⟨dx, m, p, h1, h2, h3⟩, q⟩ := h
  refine s_ret (v := .int (penOf s k : Nat)) ?_ q
  refine ev_ixT (j := if k = 0 then 0 else 1) (ev_fld (ev_var rfl) h1 T.c_Settings T.n_Settings_penalties rfl) (ev_if (et_test (ev_eqi (ev_var rfl) ev_c)) (fun hb => ?_) (fun hb => ?_)) (st_of h3) ?_
  · have k0 : k = 0 := by have := of_decide_eq_true hb; omega
    rw [if_pos k0]
    exact ev_c
  · have k0 : ¬ k = 0 := by have := of_decide_eq_false hb; omega
    rw [if_neg k0]
    exact ev_c
  · unfold penOf
    by_cases k0 : k = 0
    · rw [if_pos k0, if_pos k0]; rfl
    · rw [if_neg k0, if_neg k0]; rfl
theorem ok_Settings_penalty (T : Txt K mg) : Has P w K mg base 1 d_Settings_penalty.at_ ["self", "place"] (sp_Settings_penalty K) := by
  refine Has.of (d := d_Settings_penalty) T 12 rfl ⟨rfl, rfl⟩ sc_Settings_penalty (fun _ _ _ _ _ _ us hl => match us, hl with | [_, _], _ => rfl) (fun vs H Q E h => len_Settings_penalty h) fun cdv A outer s H vs Q E hr h => ⟨t_Settings_penalty K, ?_, pure_Settings_penalty T h⟩
  exact (pss_one (ps_ret (pe_ix ix_tup (pe_fld (pv 0) rfl) (pe_ifExp (pt_cmpR op_eq (pv 1) pe_int (nomark _)) pe_int pe_int) (fun _ _ => rfl))))
theorem ev_penalty (T : Txt K mg) {σ : L2.St} {ta tk : TE} {a : Addr} {s : Kp429.Settings} {k : Nat} (ha : Ev ta σ H (.ref a)) (h : SetAt K H a s) (hk : Ev tk σ H (.int (k : Int))) : Ev (tMeth (He.ga K "Settings") "penalty" (sp_Settings_penalty K) [] E0 ta (tCons tk tNil)) σ H (.int (penOf s k : Nat)) := by
  obtain ⟨dx, m, p, h1, h2, h3⟩ := id h
  exact ev_meth ha h1 rfl (ea_cons hk ea_nil) fun H1 e Q q E => ⟨a, s, k, rfl, h.ex e, q⟩
def sp_Settings_bounds (K : PySem.W.Frag) : Sp := fun vs H Q _ => ∃ (a : Addr) (s : Kp429.Settings) (k : Nat), vs = [.ref a, .int (k : Int)] ∧ SetAt K H a s ∧ RetU [.int (Kp429.lowest s k), .int (Kp429.highest s k)] H Q
theorem len_Settings_bounds (h : sp_Settings_bounds K vs H Q E) : vs.length = (["self", "place"] : List Str).length := by
  obtain ⟨_, _, _, rfl, _⟩ := h
  rfl
def t_Settings_bounds (K : PySem.W.Frag) : TS :=
  (tSeq (tIfS (tTest (tOp rEq (tVar 1) (tC (.int 0)))) (tRet (tTup (tCons (tOp rSubI (tC (.int 0)) (tC (.int 655360))) (tCons (tC (.int 655360)) tNil)))) tNext)
    (tRet (tTup (tCons (tIf (tB (tFld K (tVar 0) "is_nonnegative")) (tC (.int 0)) (tOp rSubI (tC (.int 0)) (tFld K (tVar 0) "limit"))) (tCons (tFld K (tVar 0) "limit") tNil)))))
theorem pure_Settings_bounds (T : Txt K mg) (h : sp_Settings_bounds K vs H Q E) : t_Settings_bounds K { nx := fun _ H' => Q .non H', rt := Q } (start N_Settings_bounds vs) H := by
  obtain ⟨a, s, k, rfl, hs, q⟩ := h
  refine q_when (et_test (ev_eqi (ev_var rfl) ev_c)) (fun hb H1 e1 => ?_) (fun hb H1 e1 => ?_)
  · have k0 : k = 0 := by have := of_decide_eq_true hb; omega
    refine s_retU (xs := [.int (Kp429.lowest s k), .int (Kp429.highest s k)]) (eu_tup (ea_cons ?_ (ea_cons ?_ ea_nil)) (by simp)) fun p H2 hp e2 h2 => q p H2 (fresh_back e1 hp) (e1.trans e2) h2
    · rw [Kp429.lowest, if_pos k0]
      exact ev_is (ev_sub ev_c ev_c) (by rfl)
    · rw [Kp429.highest, if_pos k0]
      exact ev_c
  · have k0 : ¬ k = 0 := by have := of_decide_eq_false hb; omega
    have hs1 := hs.ex e1
    refine s_retU (xs := [.int (Kp429.lowest s k), .int (Kp429.highest s k)]) (eu_tup (ea_cons ?_ (ea_cons ?_ ea_nil)) (by simp)) fun p H2 hp e2 h2 => q p H2 (fresh_back e1 hp) (e1.trans e2) h2
    · rw [Kp429.lowest, if_neg k0]
      refine ev_if (et_B (ev_snn T (ev_var rfl) hs1)) (fun hn => ?_) (fun hn => ?_)
      · rw [if_pos hn]
        exact ev_c
      · rw [if_neg (by rw [hn]; decide)]
        exact ev_is (ev_sub ev_c (ev_slim T (ev_var rfl) hs1)) (by rw [Int.zero_sub])
    · rw [Kp429.highest, if_neg k0]
      exact ev_slim T (ev_var rfl) hs1
theorem ok_Settings_bounds (T : Txt K mg) : Has P w K mg base 1 d_Settings_bounds.at_ ["self", "place"] (sp_Settings_bounds K) := by
  refine Has.of (d := d_Settings_bounds) T 13 rfl ⟨rfl, rfl⟩ sc_Settings_bounds (fun _ _ _ _ _ _ us hl => match us, hl with | [_, _], _ => rfl) (fun vs H Q E h => len_Settings_bounds h) fun cdv A outer s H vs Q E hr h => ⟨t_Settings_bounds K, ?_, pure_Settings_bounds T h⟩
  exact (pss_cons (ps_if (pt_cmpR op_eq (pv 1) pe_int (nomark _)) (pss_one (ps_ret (pe_tup (pa_cons (pe_op op_sub pe_int (pe_gint rfl T.i_BIAS_RANGE)) (pa_cons (pe_gint rfl T.i_BIAS_RANGE) pa_nil))))) pss_nil)
    (pss_one (ps_ret (pe_tup (pa_cons (pe_ifExp (pt_val (pe_fld (pv 0) rfl)) pe_int (pe_op op_sub pe_int (pe_fld (pv 0) rfl))) (pa_cons (pe_fld (pv 0) rfl) pa_nil))))))
theorem eu_bounds (T : Txt K mg) {σ : L2.St} {ta tk : TE} {a : Addr} {s : Kp429.Settings} {k : Nat} (ha : Ev ta σ H (.ref a)) (h : SetAt K H a s) (hk : Ev tk σ H (.int (k : Int))) : EvU (tMeth (He.ga K "Settings") "bounds" (sp_Settings_bounds K) [] E0 ta (tCons tk tNil)) σ H [.int (Kp429.lowest s k), .int (Kp429.highest s k)] := by
  obtain ⟨dx, m, p, h1, h2, h3⟩ := id h
  exact eu_meth ha h1 rfl (ea_cons hk ea_nil) fun H1 e Q q E => ⟨a, s, k, rfl, h.ex e, q⟩
def sp_Settings_first_factor (K : PySem.W.Frag) : Sp := fun vs H Q _ => ∃ (a : Addr) (s : Kp429.Settings) (kd n k : Nat), vs = [.ref a, .int (kd : Int), .int (n : Int), .int (k : Int)] ∧ SetAt K H a s ∧ k ≠ 0 ∧ RetV (.int (Kp429.firstValue s ⟨kd, n, k⟩)) H Q
theorem len_Settings_first_factor (h : sp_Settings_first_factor K vs H Q E) : vs.length = (["self", "kind", "number", "place"] : List Str).length := by
  obtain ⟨_, _, _, _, _, rfl, _⟩ := h
  rfl
def t_Settings_first_factor (K : PySem.W.Frag) : TS :=
  (tSeq (tAsg (tOp rDivI (tCall (sp_hashed K) [] E0 (tCons (tLst (tCons (tFld K (tVar 0) "seed") (tCons (tVar 1) (tCons (tVar 2) (tCons (tVar 3) tNil))))) tNil)) (tC (.int 65536))) (gName 4))
    (tSeq (tAsg (tCB rMin2 (tCons (tFld K (tVar 0) "limit") (tCons (tC (.int 64)) tNil))) (gName 5))
    (tRet (tIf (tB (tFld K (tVar 0) "is_nonnegative")) (tOp rModI (tVar 4) (tOp rAddI (tVar 5) (tC (.int 1)))) (tOp rSubI (tOp rModI (tVar 4) (tOp rAddI (tOp rMulI (tC (.int 2)) (tVar 5)) (tC (.int 1)))) (tVar 5))))))
theorem pure_Settings_first_factor (T : Txt K mg) (h : sp_Settings_first_factor K vs H Q E) : t_Settings_first_factor K { nx := fun _ H' => Q .non H', rt := Q } (start N_Settings_first_factor vs) H := by
  obtain ⟨a, s, kd, n, k, rfl, hs, k0, q⟩ := h
  refine q_asg (v := .int (Kp429.hash [s.seed, kd, n, k] / 65536 : Nat)) (ev_is (ev_div (ev_hashedN (ns := [s.seed, kd, n, k]) (el_lst (ea_cons (ev_sseed T (ev_var rfl) hs) (ea_cons (ev_var rfl) (ea_cons (ev_var rfl) (ea_cons (ev_var rfl) ea_nil)))) (by simp)) rfl) ev_c ⟨by decide, by decide⟩) ?_) fun H1 e1 => ?_
  · rw [show (65536 : Int) = ((65536 : Nat) : Int) from rfl, fdiv_nat]
  refine q_asg (v := .int (min s.limit 64 : Nat)) (ev_is (ev_min (ev_slim T (ev_var rfl) (hs.ex e1)) ev_c) ?_) fun H2 e2 => ?_
  · congr 1
    omega
  have two : CMul 2 ((min s.limit 64 : Nat) : Int) := .inl ⟨by omega, by omega⟩
  refine s_ret (v := .int (Kp429.firstValue s ⟨kd, n, k⟩)) ?_ (retv_is q (e1.trans e2) rfl)
  unfold Kp429.firstValue
  rw [if_neg k0]
  dsimp only
  refine ev_if (et_B (ev_snn T (ev_var rfl) ((hs.ex e1).ex e2))) (fun hn => ?_) (fun hn => ?_)
  · rw [if_pos hn]
    refine ev_is (ev_mod (ev_var rfl) (ev_add (ev_var rfl) ev_c) (by omega)) ?_
    rw [show ((min s.limit 64 : Nat) : Int) + 1 = ((min s.limit 64 + 1 : Nat) : Int) from rfl, fmod_nat]
  · rw [if_neg (by rw [hn]; decide)]
    refine ev_is (ev_sub (ev_mod (ev_var rfl) (ev_add (ev_mul ev_c (ev_var rfl) two) ev_c) (by omega)) (ev_var rfl)) ?_
    rw [show (2 : Int) * ((min s.limit 64 : Nat) : Int) + 1 = ((2 * min s.limit 64 + 1 : Nat) : Int) by omega, fmod_nat]
theorem ok_Settings_first_factor (T : Txt K mg) : Has P w K mg base 2 d_Settings_first_factor.at_ ["self", "kind", "number", "place"] (sp_Settings_first_factor K) := by
  refine Has.of (d := d_Settings_first_factor) T 14 rfl ⟨rfl, rfl⟩ sc_Settings_first_factor (fun _ _ _ _ _ _ us hl => match us, hl with | [_, _, _, _], _ => rfl) (fun vs H Q E h => len_Settings_first_factor h) fun cdv A outer s H vs Q E hr h => ⟨t_Settings_first_factor K, ?_, pure_Settings_first_factor T h⟩
  exact (pss_cons (ps_set (i := 4) sc_Settings_first_factor.nd rfl (Or.inl rfl) (pe_op op_fdivN (pe_callH (ok_hashed T) (hr.mono (by decide)) rfl T.g_hashed (pa_cons (pe_lst (pa_cons (pe_fld (pv 0) rfl) (pa_cons (pv 1) (pa_cons (pv 2) (pa_cons (pv 3) pa_nil))))) pa_nil)) pe_int))
    (pss_cons (ps_set (i := 5) sc_Settings_first_factor.nd rfl (Or.inl rfl) (pe_callB (cl_min2 rfl) (by rfl) T.f_min (by decide +kernel) (pa_cons (pe_fld (pv 0) rfl) (pa_cons (pe_gint rfl T.i_FIRST_MOST) pa_nil))))
    (pss_one (ps_ret (pe_ifExp (pt_val (pe_fld (pv 0) rfl)) (pe_op op_modN (pv 4) (pe_op op_add (pv 5) pe_int)) (pe_op op_sub (pe_op op_modN (pv 4) (pe_op op_add (pe_op op_mul pe_int (pv 5)) pe_int)) (pv 5)))))))
theorem ev_first_factor {σ : L2.St} {ta t1 t2 t3 : TE} {a : Addr} {s : Kp429.Settings} {kd n k : Nat} (ha : Ev ta σ H (.ref a)) (h : SetAt K H a s) (h1 : Ev t1 σ H (.int (kd : Int))) (h2 : Ev t2 σ H (.int (n : Int))) (h3 : Ev t3 σ H (.int (k : Int))) (k0 : k ≠ 0) :
    Ev (tMeth (He.ga K "Settings") "first_factor" (sp_Settings_first_factor K) [] E0 ta (tCons t1 (tCons t2 (tCons t3 tNil)))) σ H (.int (Kp429.firstValue s ⟨kd, n, k⟩)) := by
  obtain ⟨dx, m, p, g1, g2, g3⟩ := id h
  exact ev_meth ha g1 rfl (ea_cons h1 (ea_cons h2 (ea_cons h3 ea_nil))) fun H1 e Q q E => ⟨a, s, kd, n, k, rfl, h.ex e, k0, q⟩
def firstRow (s : Kp429.Settings) (kd n : Nat) : List Int := (List.range (s.factors + 1)).map fun k => Kp429.firstValue s ⟨kd, n, k⟩
def sp_Settings_first_row (K : PySem.W.Frag) : Sp := fun vs H Q _ => ∃ (a : Addr) (s : Kp429.Settings) (kd n : Nat), vs = [.ref a, .int (kd : Int), .int (n : Int)] ∧ SetAt K H a s ∧ s.factors ≤ 3 ∧ RetL ((firstRow s kd n).map V.int) H Q
theorem len_Settings_first_row (h : sp_Settings_first_row K vs H Q E) : vs.length = (["self", "kind", "number"] : List Str).length := by
  obtain ⟨_, _, _, _, rfl, _⟩ := h
  rfl
theorem firstRow_is (s : Kp429.Settings) (kd n : Nat) : (firstRow s kd n).map V.int = [V.int 0] ++ (List.range s.factors).map fun i => V.int (Kp429.firstValue s ⟨kd, n, i + 1⟩) := by
  unfold firstRow
  rw [List.range_succ_eq_map, List.map_cons, List.map_cons, List.map_map, List.map_map]
  rfl
def t_Settings_first_row (K : PySem.W.Frag) : TS :=
  (tRet (tOp rCat (tLst (tCons (tC (.int 0)) tNil)) (tLc (iRng2 (tCons (tC (.int 1)) (tCons (tOp rAddI (tFld K (tVar 0) "factors") (tC (.int 1))) tNil))) (gName 3) tYes (tMeth (He.ga K "Settings") "first_factor" (sp_Settings_first_factor K) [] E0 (tVar 0) (tCons (tVar 1) (tCons (tVar 2) (tCons (tVar 3) tNil)))) [3])))
theorem pure_Settings_first_row (T : Txt K mg) (h : sp_Settings_first_row K vs H Q E) : t_Settings_first_row K { nx := fun _ H' => Q .non H', rt := Q } (start N_Settings_first_row vs) H := by
  obtain ⟨a, s, kd, n, rfl, hs, hf, q⟩ := h
  rw [firstRow_is] at q
  refine s_retL (el_cat (el_lst (ea_cons ev_c ea_nil) (by simp)) (ys := (List.range s.factors).map fun i => V.int (Kp429.firstValue s ⟨kd, n, i + 1⟩)) ?_ (by simp; omega)) q
  intro H1 e1 Q1 q1
  refine run_ea (vs := [.int 1, .int ((s.factors : Int) + 1)]) (ea_cons ev_c (ea_cons (ev_add (ev_sfac T (ev_var rfl) (hs.ex e1)) ev_c) ea_nil)) fun H2 e2 => ⟨_, _, rfl, ⟨by decide, by decide, by omega, by omega⟩, ?_⟩
  refine lc_vals (walk_range (lo := 1) (n := ((s.factors : Int) + 1 - 1).toNat)) (by omega) (fun _ _ => True.intro) ((List.range s.factors).map fun i => V.int (Kp429.firstValue s ⟨kd, n, i + 1⟩)) (by simp) ?_ (fun Dl H3 hD e3 h3 => q1 Dl H3 (fresh_back e2 hD) (e2.trans e3) h3)
  intro i x z H4 H5 K1 hi hz e4 y k1
  obtain ⟨rfl, rfl⟩ := y
  rw [List.getElem?_map, Option.map_eq_some_iff] at hz
  obtain ⟨j, hj, rfl⟩ := hz
  have ej : j = i := by
    have := (List.getElem?_eq_some_iff.mp hj).2
    simpa using this.symm
  subst ej
  refine ⟨rfl, ?_⟩
  have hs5 := hs.ex ((e1.trans e2).trans e4)
  exact ev_first_factor (ev_var rfl) hs5 (ev_var rfl) (ev_var rfl) (ev_is (ev_var rfl) (by show V.int (1 + (j : Int)) = _; rw [Int.add_comm]; rfl)) (by omega) _ (Ex.refl _) _ fun H6 e6 => k1 H6 e6
theorem ok_Settings_first_row (T : Txt K mg) : Has P w K mg base 3 d_Settings_first_row.at_ ["self", "kind", "number"] (sp_Settings_first_row K) := by
  refine Has.of (d := d_Settings_first_row) T 15 rfl ⟨rfl, rfl⟩ sc_Settings_first_row (fun _ _ _ _ _ _ us hl => match us, hl with | [_, _, _], _ => rfl) (fun vs H Q E h => len_Settings_first_row h) fun cdv A outer s H vs Q E hr h => ⟨t_Settings_first_row K, ?_, pure_Settings_first_row T h⟩
  exact (pss_one (ps_ret (pe_op op_cat (pe_lst (pa_cons pe_int pa_nil)) (pe_lc (own := [("place", 3)]) (g := (gName 3)) (tt := tYes) rfl sc_Settings_first_row.nd (pi_range2 rfl T.f_range (pa_cons pe_int (pa_cons (pe_op op_add (pe_fld (pv 0) rfl) pe_int) pa_nil))) (blkOk_by (own := [("place", 3)]) (N := N_Settings_first_row) (sc := defScope s_Settings_first_row) (by decide +kernel)) (fun _ _ _ _ _ => (pg_name (i := 3) sc_Settings_first_row.nd rfl (Or.inl rfl))) (fun _ _ _ _ _ => pts_nil) (fun _ _ _ _ _ => (pe_methH (pv 0) T.c_Settings T.m_Settings_first_factor (ok_Settings_first_factor T) (hr.mono (by decide)) (pa_cons (pv 1) (pa_cons (pv 2) (pa_cons (pv 3) pa_nil)))))))))
theorem el_first_row {σ : L2.St} {ta t1 t2 : TE} {a : Addr} {s : Kp429.Settings} {kd n : Nat} (ha : Ev ta σ H (.ref a)) (h : SetAt K H a s) (h1 : Ev t1 σ H (.int (kd : Int))) (h2 : Ev t2 σ H (.int (n : Int))) (hf : s.factors ≤ 3) :
    EvL (tMeth (He.ga K "Settings") "first_row" (sp_Settings_first_row K) [] E0 ta (tCons t1 (tCons t2 tNil))) σ H ((firstRow s kd n).map V.int) := by
  obtain ⟨dx, m, p, g1, g2, g3⟩ := id h
  exact el_meth ha g1 rfl (ea_cons h1 (ea_cons h2 ea_nil)) fun H1 e Q q E => ⟨a, s, kd, n, rfl, h.ex e, hf, q⟩
end
end Gs
namespace Gs
open PySem PySem.Spec PyProof.Rows L2 Evl
def RowsAt (H : Hp) (rs : List Addr) (xss : List (List Int)) : Prop := Paired (fun r (xs : List Int) => H r = some (.lst (xs.map V.int))) rs xss
theorem paired_snoc {α β : Type} {F : α → β → Prop} {l : List α} {m : List β} {a : α} {b : β} (h : Paired F l m) (f : F a b) : Paired F (l ++ [a]) (m ++ [b]) := paired_app h (.cons f .nil)
theorem paired_mem {α β : Type} {F : α → β → Prop} {a : α} : ∀ {l : List α} {m : List β}, Paired F l m → a ∈ l → ∃ b ∈ m, F a b
  | _, _, .nil, h => by cases h
  | _, _, .cons f t, h => by
    rcases List.mem_cons.mp h with e | e
    · exact ⟨_, List.mem_cons_self .., by rw [e]; exact f⟩
    · obtain ⟨b, hb, g⟩ := paired_mem t e
      exact ⟨b, List.mem_cons_of_mem _ hb, g⟩
theorem paired_monoM {α β : Type} {F G : α → β → Prop} : ∀ {l : List α} {m : List β}, (∀ a ∈ l, ∀ b, F a b → G a b) → Paired F l m → Paired G l m
  | _, _, _, .nil => .nil
  | _, _, f, .cons h t => .cons (f _ (List.mem_cons_self ..) _ h) (paired_monoM (fun a ha => f a (List.mem_cons_of_mem _ ha)) t)
section
variable {P : Program} {w : World} {K : PySem.W.Frag} {mg : Str → Option Value} {base : Heap} {vs : List V} {H H' : Hp} {Q : VK} {E : XK}
theorem RowsAt.ex {rs : List Addr} {xss : List (List Int)} (h : RowsAt H rs xss) (e : Ex H H') : RowsAt H' rs xss := paired_mono (fun _ _ h => e _ _ h) h
theorem RowsAt.fr {S : Addr → Prop} {rs : List Addr} {xss : List (List Int)} (h : RowsAt H rs xss) (e : Fr S H H') (n : ∀ r ∈ rs, ¬ S r) : RowsAt H' rs xss := paired_monoM (fun r hr _ h => e _ _ (n r hr) h) h
/-! ### copies -/
def RetRows (xss : List (List Int)) (H : Hp) (Q : VK) : Prop := ∀ (p : Addr) (qs : List Addr) H2, H p = none → Ex H H2 → (∀ q ∈ qs, H q = none) → (p :: qs).Nodup → H2 p = some (.lst (qs.map V.ref)) → RowsAt H2 qs xss → Q (.ref p) H2
def sp_copies (K : PySem.W.Frag) : Sp := fun vs H Q _ => ∃ (a : Addr) (rs : List Addr) (xss : List (List Int)), vs = [.ref a] ∧ H a = some (.lst (rs.map V.ref)) ∧ RowsAt H rs xss ∧ rs.length ≤ 100 ∧ RetRows xss H Q
theorem len_copies (h : sp_copies K vs H Q E) : vs.length = (["rows"] : List Str).length := by
  obtain ⟨_, _, _, rfl, _⟩ := h
  rfl
def t_copies (K : PySem.W.Frag) : TS :=
  (tRet (tLc (iList K (tVar 0)) (gName 1) tYes (tCB (rListQ K) (tCons (tVar 1) tNil)) [1]))
theorem pure_copies (T : Txt K mg) (h : sp_copies K vs H Q E) : t_copies K { nx := fun _ H' => Q .non H', rt := Q } (start N_copies vs) H := by
  obtain ⟨a, rs, xss, rfl, ha, hr, hlen, k⟩ := h
  have lxs : rs.length = xss.length := paired_len hr
  refine ⟨_, rfl, a, rfl, ⟨rs.map V.ref, sq_of ha⟩, ?_⟩
  refine lc_run (H1 := H) (walk_list (xs := rs.map V.ref)) (fun H2 e2 => sq_of (e2 _ _ ha))
    (fun Dl i acc H' => ∃ qs : List Addr, acc = qs.map V.ref ∧ RowsAt H' qs (xss.take i) ∧ (∀ q ∈ qs, H q = none) ∧ (Dl :: qs).Nodup) (fun Dl hD => ⟨[], rfl, .nil, by simp, by simp⟩) (fun Dl i x H2 H3 acc K1 K0 hD hi e2 hacc hA y k1 k0 => ?_) (fun Dl H2 acc hD e2 hacc hA => ?_)
  · obtain ⟨qs, rfl, hq, hqn, hnd⟩ := hA
    obtain ⟨rfl, hx⟩ := y
    rw [List.getElem?_map, Option.map_eq_some_iff] at hx
    obtain ⟨r, hr0, rfl⟩ := hx
    obtain ⟨xs, hxs, hrx⟩ := paired_at hr hr0
    refine ⟨rfl, ?_⟩
    refine run_el (el_list (ev_var rfl) (sq_of (e2 _ _ hrx))) fun p H4 hp e4 h4 => k1 (.ref p) H4 e4 ?_ ⟨qs ++ [p], ?_, ?_, ?_, ?_⟩
    · rw [List.length_map]
      have l1 : qs.length = (xss.take i).length := paired_len hq
      rw [l1, List.length_take]
      rw [List.length_map] at hi
      omega
    · rw [List.map_append]
      rfl
    · have hup : ∀ q o, H3 q = some o → q ≠ Dl → upd H4 Dl (.lst (qs.map V.ref ++ [.ref p])) q = some o := fun q o hq hne => by
        rw [upd_ne hne]
        exact e4 _ _ hq
      have hpD : p ≠ Dl := fun e => by rw [e, hacc] at hp; cases hp
      rw [List.take_add_one, hxs]
      refine paired_snoc (paired_monoM (fun q hq _ h => hup q _ h (fun e => (List.nodup_cons.mp hnd).1 (by rw [← e]; exact hq))) hq) ?_
      rw [upd_ne hpD]
      exact h4
    · intro q hq
      rcases List.mem_append.mp hq with h | h
      · exact hqn q h
      · rw [List.mem_singleton.mp h]
        exact fresh_back e2 hp
    · have hpD : p ≠ Dl := fun e => by rw [e, hacc] at hp; cases hp
      have hpq : p ∉ qs := fun h => by
        obtain ⟨b, _, g⟩ := paired_mem hq h
        rw [hp] at g
        cases g
      obtain ⟨n1, n2⟩ := List.nodup_cons.mp hnd
      refine List.nodup_cons.mpr ⟨fun h => ?_, ?_⟩
      · rcases List.mem_append.mp h with h | h
        · exact n1 h
        · exact hpD (List.mem_singleton.mp h).symm
      · exact List.nodup_append.mpr ⟨n2, by simp, fun x hx y hy e => hpq (by rw [List.mem_singleton.mp hy] at e; rw [← e]; exact hx)⟩
  · obtain ⟨qs, rfl, hq, hqn, hnd⟩ := hA
    rw [List.length_map, lxs, List.take_length] at hq
    exact k Dl qs H2 hD e2 hqn hnd hacc hq
theorem ok_copies (T : Txt K mg) : Has P w K mg base 1 d_copies.at_ ["rows"] (sp_copies K) := by
  refine Has.of (d := d_copies) T 16 rfl ⟨rfl, rfl⟩ sc_copies (fun _ _ _ _ _ _ us hl => match us, hl with | [_], _ => rfl) (fun vs H Q E h => len_copies h) fun cdv A outer s H vs Q E hr h => ⟨t_copies K, ?_, pure_copies T h⟩
  exact (pss_one (ps_ret (pe_lc (own := [("row", 1)]) (g := (gName 1)) (tt := tYes) rfl sc_copies.nd (pi_list (pv 0)) (blkOk_by (own := [("row", 1)]) (N := N_copies) (sc := defScope s_copies) (by decide +kernel)) (fun _ _ _ _ _ => (pg_name (i := 1) sc_copies.nd rfl (Or.inl rfl))) (fun _ _ _ _ _ => pts_nil) (fun _ _ _ _ _ => (pe_callTy cl_list (by rfl) T.f_list (by decide +kernel) (pa_cons (pv 1) pa_nil))))))
/-! ### flat -/
def flatL (ps : List (Int × Int)) : List Int := ps.flatMap fun p => [p.1, p.2]
def PrsI (H : Hp) (ts : List Addr) (ps : List (Int × Int)) : Prop := Paired (fun t (p : Int × Int) => H t = some (.tup [.int p.1, .int p.2])) ts ps
theorem PrsI.ex {ts : List Addr} {ps : List (Int × Int)} (h : PrsI H ts ps) (e : Ex H H') : PrsI H' ts ps := paired_mono (fun _ _ h => e _ _ h) h
theorem flatL_len (ps : List (Int × Int)) : (flatL ps).length = 2 * ps.length := by
  unfold flatL
  induction ps with
  | nil => rfl
  | cons p r ih =>
    simp only [List.flatMap_cons, List.length_append, ih, List.length_cons, List.length_nil]
    omega
def sp_flat (K : PySem.W.Frag) : Sp := fun vs H Q _ => ∃ (a : Addr) (ts : List Addr) (ps : List (Int × Int)), vs = [.ref a] ∧ H a = some (.lst (ts.map V.ref)) ∧ PrsI H ts ps ∧ ps.length ≤ 100 ∧ RetL ((flatL ps).map V.int) H Q
theorem len_flat (h : sp_flat K vs H Q E) : vs.length = (["pairs"] : List Str).length := by
  obtain ⟨_, _, _, rfl, _⟩ := h
  rfl
theorem s_extL {D : Ends} {σ : L2.St} {ta te : TE} {l : Addr} {xs ys : List V} (hl : H l = some (.lst xs)) (ha : Ev ta σ H (.ref l)) (h : EvL te σ H ys) (hz : xs.length + ys.length ≤ 100000) (k : ∀ H1, Ex H H1 → D.nx σ (upd H1 l (.lst (xs ++ ys)))) :
    tDrop (tBM K "list" rExtend ta (tCons te tNil)) D σ H := ha H (Ex.refl H) _ fun H1 e1 =>
  ⟨Or.inl ⟨rfl, xs, sq_of (e1 l _ hl)⟩, h H1 e1 _ fun p H2 hp e2 h2 => ⟨l, p, xs, ys, rfl, rfl, e2 l _ (e1 l _ hl), h2, sz_of hz, k H2 (e1.trans e2)⟩⟩
theorem q_extL {D : Ends} {σ : L2.St} {ta te : TE} {tz : TS} {l : Addr} {xs ys : List V} (hl : H l = some (.lst xs)) (ha : Ev ta σ H (.ref l)) (h : EvL te σ H ys) (hz : xs.length + ys.length ≤ 100000) (k : ∀ H1, Ex H H1 → tz D σ (upd H1 l (.lst (xs ++ ys)))) :
    tSeq (tDrop (tBM K "list" rExtend ta (tCons te tNil))) tz D σ H := s_extL (D := { D with nx := tz D }) hl ha h hz k
theorem el_listT {σ : L2.St} {ta : TE} {p : Addr} {xs : List V} (ha : Ev ta σ H (.ref p)) (h : SqT K H p xs) : EvL (tCB (rListQ K) (tCons ta tNil)) σ H xs := fun H1 e Q q =>
  ha H1 e _ fun H2 e2 => ⟨p, xs, rfl, Or.inr (ex_t (e.trans e2) h), fun l hl => q l _ (fresh_back e2 hl) (e2.trans (Ex.new hl)) upd_same⟩
def t_flat (K : PySem.W.Frag) : TS :=
  (tSeq (tAsg (tLst tNil) (gName 1))
    (tSeq (tFor (iList K (tVar 0)) (gName 2) (tDrop (tBM K "list" rExtend (tVar 1) (tCons (tCB (rListQ K) (tCons (tVar 2) tNil)) tNil))))
    (tRet (tVar 1))))
theorem pure_flat (T : Txt K mg) (h : sp_flat K vs H Q E) : t_flat K { nx := fun _ H' => Q .non H', rt := Q } (start N_flat vs) H := by
  obtain ⟨a, ts, ps, rfl, ha, ht, hlen, k⟩ := h
  have lts : ts.length = ps.length := paired_len ht
  refine q_asgL (el_lst ea_nil (by simp)) fun d H1 hd e1 h1 => ?_
  refine q_forLn (a := a) (xs := ts.map V.ref) (ev_var rfl) (sq_of (e1 _ _ ha)) (fun i σ H' => Ex H H' ∧ ∃ v2 : Option V, H' d = some (.lst ((flatL (ps.take i)).map V.int)) ∧ σ = [some (.ref a), some (.ref d), v2])
    (fun H2 e2 => ⟨e1.trans e2, none, e2 _ _ h1, rfl⟩) (fun i σ H' _ p => sq_of (p.1 _ _ ha)) (fun i v σ H' hi p => ?_) (fun σ H' p => ?_)
  · obtain ⟨e', v2, hd', rfl⟩ := p
    rw [List.getElem?_map, Option.map_eq_some_iff] at hi
    obtain ⟨t, ht0, rfl⟩ := hi
    obtain ⟨p, hp, hpt⟩ := paired_at ht ht0
    have hil : i < ps.length := (List.getElem?_eq_some_iff.mp hp).1
    refine s_extL hd' (ev_var rfl) (el_listT (ev_var rfl) (st_of (e' _ _ hpt))) (by rw [List.length_map, flatL_len, List.length_take]; simp; omega) fun H2 e2 => ⟨Ex.mut (e'.trans e2) hd, some (.ref t), ?_, rfl⟩
    rw [upd_same, List.take_add_one, hp]
    unfold flatL
    rw [List.flatMap_append, List.map_append]
    rfl
  · obtain ⟨e', v2, hd', rfl⟩ := p
    rw [List.length_map, lts, List.take_length] at hd'
    refine ⟨_, rfl, ?_⟩
    exact k d H' hd e' hd'
theorem ok_flat (T : Txt K mg) : Has P w K mg base 1 d_flat.at_ ["pairs"] (sp_flat K) := by
  refine Has.of (d := d_flat) T 40 rfl ⟨rfl, rfl⟩ sc_flat (fun _ _ _ _ _ _ us hl => match us, hl with | [_], _ => rfl) (fun vs H Q E h => len_flat h) fun cdv A outer s H vs Q E hr h => ⟨t_flat K, ?_, pure_flat T h⟩
  exact (pss_cons (ps_set (i := 1) sc_flat.nd rfl (Or.inl rfl) (pe_lst pa_nil))
    (pss_cons (ps_for PassesOwn.never rfl (pi_list (pv 0)) (pg_name (i := 2) sc_flat.nd rfl (Or.inl rfl)) (pss_one (ps_expr (pe_bm PySem.F.plainAttrs_list PySem.F.slot_list_extend PySem.F.type_list_extend mt_extend (pv 1) (pa_cons (pe_callTy cl_list (by rfl) T.f_list (by decide +kernel) (pa_cons (pv 2) pa_nil)) pa_nil)))))
    (pss_one (ps_ret (pv 1)))))
end
end Gs
namespace Gs
open PySem PySem.Spec PyProof.Rows L2 Evl
/-! ### the object Model in the heap -/
structure MA where
  mo : Addr
  dx : Addr
  st : Addr
  lr : Addr
  dr : List Addr
  lq : Addr
  qs : List Addr
  rs : Addr
  lw : Addr
  l0 : Addr
  l1 : Addr
  w0 : List Addr
  w1 : List Addr
def MA.flds (A : MA) (b : Int) : List (Str × V) := [("settings", .ref A.st), ("ratings", .ref A.lr), ("raters", .ref A.lq), ("rests", .ref A.rs), ("base", .int b), ("rows", .ref A.lw)]
def MA.fp (A : MA) (b : Addr) : Prop := b = A.mo ∨ b = A.lr ∨ b = A.lq ∨ b = A.rs ∨ b = A.lw ∨ b = A.l0 ∨ b = A.l1 ∨ b ∈ A.dr ∨ b ∈ A.qs ∨ b ∈ A.w0 ∨ b ∈ A.w1
structure Roles (A : MA) (ρ : Addr → Nat) : Prop where
  mo : ρ A.mo = 0
  lr : ρ A.lr = 1
  lq : ρ A.lq = 2
  rs : ρ A.rs = 3
  lw : ρ A.lw = 4
  l0 : ρ A.l0 = 5
  l1 : ρ A.l1 = 6
  dr : ∀ d ∈ A.dr, ρ d = 7
  qs : ∀ d ∈ A.qs, ρ d = 8
  w0 : ∀ d ∈ A.w0, ρ d = 9
  w1 : ∀ d ∈ A.w1, ρ d = 10
  ndr : A.dr.Nodup
  nqs : A.qs.Nodup
  nw0 : A.w0.Nodup
  nw1 : A.w1.Nodup
def Agr (ρ : Addr → Nat) (T : Nat → Bool) (H H' : Hp) : Prop := ∀ b o, T (ρ b) = true → H b = some o → H' b = some o
section
variable {K : PySem.W.Frag} {ρ : Addr → Nat} {T : Nat → Bool} {H H' H1 : Hp} {A : MA} {p : Kp429.Parameters}
theorem agr_upd {b : Addr} {k : Nat} {o : HO} (hk : ρ b = k) : Agr ρ (fun i => i != k) H (upd H b o) := fun a u t h => by
  rw [upd_ne]
  · exact h
  · intro e
    rw [e, hk] at t
    simp at t
theorem agr_ex (e : Ex H H') : Agr ρ T H H' := fun b o _ h => e b o h
theorem Agr.trans (x : Agr ρ T H H1) (y : Agr ρ T H1 H') : Agr ρ T H H' := fun b o t h => y b o t (x b o t h)
theorem ne_role {a b : Addr} {i j : Nat} (h1 : ρ a = i) (h2 : ρ b = j) (h : i ≠ j) : a ≠ b := fun e => h (by rw [← h1, ← h2, e])
theorem role_new (ρ : Addr → Nat) (k : Nat) {X : List Addr} (hX : ∀ b ∈ X, H b = none) : ∃ ρ' : Addr → Nat, (∀ b ∈ X, ρ' b = k) ∧ ∀ a o, H a = some o → ρ' a = ρ a :=
  ⟨fun b => if b ∈ X then k else ρ b, fun b hb => if_pos hb, fun a o h => if_neg fun m => by rw [hX a m] at h; cases h⟩
/-- the parameters as they lie -/
structure PrmAt (K : PySem.W.Frag) (H : Hp) (A : MA) (p : Kp429.Parameters) : Prop where
  obj : H A.mo = some (.ins (He.ga K "Model") A.dx (A.flds p.base))
  lw : H A.lw = some (.lst [.ref A.l0, .ref A.l1])
  l0 : H A.l0 = some (.lst (A.w0.map V.ref))
  l1 : H A.l1 = some (.lst (A.w1.map V.ref))
  r0 : RowsAt H A.w0 p.users
  r1 : RowsAt H A.w1 p.items
theorem rows_agr {rs : List Addr} {xss : List (List Int)} {k : Nat} (h : RowsAt H rs xss) (hr : ∀ d ∈ rs, ρ d = k) (g : Agr ρ T H H') (t : T k = true) : RowsAt H' rs xss := paired_monoM (fun r m _ q => g _ _ (by rw [hr r m]; exact t) q) h
theorem PrmAt.agr (R : Roles A ρ) (h : PrmAt K H A p) (g : Agr ρ T H H') (t : (T 0 && T 4 && T 5 && T 6 && T 9 && T 10) = true) : PrmAt K H' A p := by
  simp only [Bool.and_eq_true] at t
  obtain ⟨⟨⟨⟨⟨t0, t4⟩, t5⟩, t6⟩, t9⟩, t10⟩ := t
  exact ⟨g _ _ (by rw [R.mo]; exact t0) h.obj, g _ _ (by rw [R.lw]; exact t4) h.lw, g _ _ (by rw [R.l0]; exact t5) h.l0, g _ _ (by rw [R.l1]; exact t6) h.l1, rows_agr h.r0 R.w0 g t9, rows_agr h.r1 R.w1 g t10⟩
theorem PrmAt.ex (h : PrmAt K H A p) (e : Ex H H') : PrmAt K H' A p := ⟨e _ _ h.obj, e _ _ h.lw, e _ _ h.l0, e _ _ h.l1, h.r0.ex e, h.r1.ex e⟩
/-- things that no step changes -/
def Kp : HO → Bool
  | .tup _ => true
  | .ins _ _ fs => (fs.lookup ("many" : Str)).isSome
  | _ => false
theorem SetAt.kp {a : Addr} {s : Kp429.Settings} (h : SetAt K H a s) (e : ∀ b o, Kp o = true → H b = some o → H' b = some o) : SetAt K H' a s := by
  obtain ⟨dx, m, p, h1, h2, h3⟩ := h
  exact ⟨dx, m, p, e _ _ rfl h1, e _ _ rfl h2, e _ _ rfl h3⟩
theorem SetAt.upd {a b : Addr} {s : Kp429.Settings} {u o : HO} (h : SetAt K H a s) (hb : H b = some u) (hu : Kp u = false) : SetAt K (L2.upd H b o) a s := h.kp fun c v kv hc => by
  rw [upd_ne]
  · exact hc
  · intro e
    rw [e, hb] at hc
    cases hc
    rw [hu] at kv
    cases kv
abbrev KD := List (Key × V)
def DictsAt (H : Hp) (ds : List Addr) (rat : List KD) : Prop := Paired (fun d (kvs : KD) => H d = some (.dK kvs)) ds rat
/-- all of it -/
structure LowAt (K : PySem.W.Frag) (H : Hp) (A : MA) (s : Kp429.Settings) (p : Kp429.Parameters) (rat : List KD) (rtr : List (List Int)) (rst : List (List Key × V)) : Prop where
  prm : PrmAt K H A p
  set : SetAt K H A.st s
  lr : H A.lr = some (.lst (A.dr.map V.ref))
  dr : DictsAt H A.dr rat
  lq : H A.lq = some (.lst (A.qs.map V.ref))
  qs : RowsAt H A.qs rtr
  rs : H A.rs = some (.dT rst)
  ro : ∃ ρ, Roles A ρ
variable {s : Kp429.Settings} {rat : List KD} {rtr : List (List Int)} {rst rst' : List (List Key × V)}
theorem dicts_agr {rs : List Addr} {k : Nat} (h : DictsAt H rs rat) (hr : ∀ d ∈ rs, ρ d = k) (g : Agr ρ T H H') (t : T k = true) : DictsAt H' rs rat := paired_monoM (fun r m _ q => g _ _ (by rw [hr r m]; exact t) q) h
theorem LowAt.ex (h : LowAt K H A s p rat rtr rst) (e : Ex H H') : LowAt K H' A s p rat rtr rst :=
  ⟨h.prm.ex e, h.set.ex e, e _ _ h.lr, paired_mono (fun _ _ q => e _ _ q) h.dr, e _ _ h.lq, h.qs.ex e, e _ _ h.rs, h.ro⟩
/-- what stands at the addresses of the footprint -/
theorem LowAt.kp (h : LowAt K H A s p rat rtr rst) {b : Addr} (hb : A.fp b) : ∃ u, H b = some u ∧ Kp u = false := by
  rcases hb with e | e | e | e | e | e | e | e | e | e | e
  · exact ⟨_, by rw [e]; exact h.prm.obj, rfl⟩
  · exact ⟨_, by rw [e]; exact h.lr, rfl⟩
  · exact ⟨_, by rw [e]; exact h.lq, rfl⟩
  · exact ⟨_, by rw [e]; exact h.rs, rfl⟩
  · exact ⟨_, by rw [e]; exact h.prm.lw, rfl⟩
  · exact ⟨_, by rw [e]; exact h.prm.l0, rfl⟩
  · exact ⟨_, by rw [e]; exact h.prm.l1, rfl⟩
  · obtain ⟨x, _, q⟩ := paired_mem h.dr e
    exact ⟨_, q, rfl⟩
  · obtain ⟨x, _, q⟩ := paired_mem h.qs e
    exact ⟨_, q, rfl⟩
  · obtain ⟨x, _, q⟩ := paired_mem h.prm.r0 e
    exact ⟨_, q, rfl⟩
  · obtain ⟨x, _, q⟩ := paired_mem h.prm.r1 e
    exact ⟨_, q, rfl⟩
theorem LowAt.out (h : LowAt K H A s p rat rtr rst) {b : Addr} {o : HO} (hb : H b = some o) (ho : Kp o = true) : ¬ A.fp b := fun f => by
  obtain ⟨u, h1, h2⟩ := h.kp f
  rw [h1] at hb
  cases hb
  rw [h2] at ho
  cases ho
theorem LowAt.new (h : LowAt K H A s p rat rtr rst) {b : Addr} (hb : H b = none) : ¬ A.fp b := fun f => by
  obtain ⟨u, h1, _⟩ := h.kp f
  rw [h1] at hb
  cases hb
/-- other things change -/
theorem LowAt.fr {S : Addr → Prop} (h : LowAt K H A s p rat rtr rst) (f : Fr S H H') (n : ∀ b, A.fp b → ¬ S b) (k : ∀ b o, Kp o = true → H b = some o → ¬ S b) : LowAt K H' A s p rat rtr rst := by
  have g : ∀ b o, A.fp b → H b = some o → H' b = some o := fun b o m hb => f b o (n b m) hb
  refine ⟨⟨g _ _ (.inl rfl) h.prm.obj, g _ _ (by simp [MA.fp]) h.prm.lw, g _ _ (by simp [MA.fp]) h.prm.l0, g _ _ (by simp [MA.fp]) h.prm.l1, ?_, ?_⟩, h.set.kp fun b o kv hb => f b o (k b o kv hb) hb, g _ _ (by simp [MA.fp]) h.lr, ?_, g _ _ (by simp [MA.fp]) h.lq, ?_, g _ _ (by simp [MA.fp]) h.rs, h.ro⟩
  · exact paired_monoM (fun r m _ q => g _ _ (by simp [MA.fp, m]) q) h.prm.r0
  · exact paired_monoM (fun r m _ q => g _ _ (by simp [MA.fp, m]) q) h.prm.r1
  · exact paired_monoM (fun r m _ q => g _ _ (by simp [MA.fp, m]) q) h.dr
  · exact paired_monoM (fun r m _ q => g _ _ (by simp [MA.fp, m]) q) h.qs
/-! #### single changes -/
theorem LowAt.putRst (h : LowAt K H A s p rat rtr rst) : LowAt K (upd H A.rs (.dT rst')) A s p rat rtr rst' := by
  obtain ⟨ρ, R⟩ := h.ro
  have g : Agr ρ (fun i => i != 3) H (upd H A.rs (.dT rst')) := agr_upd R.rs
  exact ⟨h.prm.agr R g (by decide), h.set.upd h.rs rfl, g _ _ (by rw [R.lr]; rfl) h.lr, dicts_agr h.dr R.dr g rfl, g _ _ (by rw [R.lq]; rfl) h.lq, rows_agr h.qs R.qs g rfl, upd_same, ⟨ρ, R⟩⟩
theorem paired_upd {α β : Type} {F F' : α → β → Prop} {d : α} {x : β} : ∀ {l : List α} {m : List β} {j : Nat}, l.Nodup → Paired F l m → l[j]? = some d → F' d x → (∀ a ∈ l, a ≠ d → ∀ b, F a b → F' a b) → Paired F' l (m.set j x)
  | _, _, _, _, .nil, hj, _, _ => by simp at hj
  | a :: l, b :: m, 0, nd, .cons h t, hj, hn, ho => by
    have e : a = d := by simpa using hj
    subst e
    have n1 := (List.nodup_cons.mp nd).1
    exact .cons hn (paired_monoM (fun c hc b q => ho c (List.mem_cons_of_mem _ hc) (fun e => n1 (by rw [← e]; exact hc)) b q) t)
  | a :: l, b :: m, j + 1, nd, .cons h t, hj, hn, ho => by
    obtain ⟨n1, n2⟩ := List.nodup_cons.mp nd
    have hj : l[j]? = some d := by simpa using hj
    have hd : d ∈ l := List.mem_of_getElem? hj
    exact .cons (ho a (List.mem_cons_self ..) (fun e => n1 (by rw [e]; exact hd)) b h) (paired_upd n2 t hj hn (fun c hc => ho c (List.mem_cons_of_mem _ hc)))
theorem LowAt.putDict {u : Nat} {d : Addr} {kvs' : KD} (h : LowAt K H A s p rat rtr rst) (hd : A.dr[u]? = some d) : LowAt K (upd H d (.dK kvs')) A s p (rat.set u kvs') rtr rst := by
  obtain ⟨ρ, R⟩ := h.ro
  have md : d ∈ A.dr := List.mem_of_getElem? hd
  have g : Agr ρ (fun i => i != 7) H (upd H d (.dK kvs')) := agr_upd (R.dr d md)
  obtain ⟨kvs, _, hk⟩ := paired_mem h.dr md
  exact ⟨h.prm.agr R g (by decide), h.set.upd hk rfl, g _ _ (by rw [R.lr]; rfl) h.lr, paired_upd R.ndr h.dr hd upd_same (fun a _ ne b q => by rw [upd_ne ne]; exact q), g _ _ (by rw [R.lq]; rfl) h.lq, rows_agr h.qs R.qs g rfl, g _ _ (by rw [R.rs]; rfl) h.rs, ⟨ρ, R⟩⟩
/-- a list of users is changed in place -/
theorem LowAt.putRater {i : Nat} {q : Addr} {xs' : List Int} (h : LowAt K H A s p rat rtr rst) (hq : A.qs[i]? = some q) : LowAt K (upd H q (.lst (xs'.map V.int))) A s p rat (rtr.set i xs') rst := by
  obtain ⟨ρ, R⟩ := h.ro
  have mq : q ∈ A.qs := List.mem_of_getElem? hq
  have g : Agr ρ (fun i => i != 8) H (upd H q (.lst (xs'.map V.int))) := agr_upd (R.qs q mq)
  obtain ⟨kvs, _, hk⟩ := paired_mem h.qs mq
  exact ⟨h.prm.agr R g (by decide), h.set.upd hk rfl, g _ _ (by rw [R.lr]; rfl) h.lr, dicts_agr h.dr R.dr g rfl, g _ _ (by rw [R.lq]; rfl) h.lq, paired_upd R.nqs h.qs hq upd_same (fun a _ ne b q => by rw [upd_ne ne]; exact q), g _ _ (by rw [R.rs]; rfl) h.rs, ⟨ρ, R⟩⟩
theorem nodup_set {α : Type} {l : List α} {x : α} (nd : l.Nodup) (hx : x ∉ l) (j : Nat) : (l.set j x).Nodup := by
  rw [List.nodup_iff_pairwise_ne]
  induction l generalizing j with
  | nil => simp
  | cons a l ih =>
    obtain ⟨n1, n2⟩ := List.nodup_cons.mp nd
    have hxl : x ∉ l := fun h => hx (List.mem_cons_of_mem _ h)
    cases j with
    | zero =>
      rw [List.set_cons_zero]
      exact List.nodup_iff_pairwise_ne.mp (List.nodup_cons.mpr ⟨hxl, n2⟩)
    | succ j =>
      rw [List.set_cons_succ, List.pairwise_cons]
      refine ⟨fun b hb e => ?_, ih n2 hxl j⟩
      rcases List.mem_or_eq_of_mem_set hb with h | h
      · exact n1 (by rw [e]; exact h)
      · exact hx (by rw [← h, ← e]; exact List.mem_cons_self ..)
theorem paired_setB {α β : Type} {F : α → β → Prop} {a : α} {b : β} : ∀ {l : List α} {m : List β} (j : Nat), Paired F l m → F a b → Paired F (l.set j a) (m.set j b)
  | _, _, _, .nil, _ => .nil
  | _, _, 0, .cons _ t, f => .cons f t
  | _, _, j + 1, .cons h t, f => .cons h (paired_setB j t f)
/-- a list of users is replaced -/
theorem LowAt.newRater {i : Nat} {q : Addr} {xs' : List Int} (h : LowAt K H A s p rat rtr rst) (hq : H q = some (.lst (xs'.map V.int))) (hn : ¬ A.fp q) : LowAt K (upd H A.lq (.lst ((A.qs.set i q).map V.ref))) { A with qs := A.qs.set i q } s p rat (rtr.set i xs') rst := by
  obtain ⟨ρ, R⟩ := h.ro
  have nq : q ≠ A.lq := fun e => hn (by rw [e]; simp [MA.fp])
  have g : Agr ρ (fun i => i != 2) H (upd H A.lq (.lst ((A.qs.set i q).map V.ref))) := agr_upd R.lq
  have P : PrmAt K (upd H A.lq (.lst ((A.qs.set i q).map V.ref))) A p := h.prm.agr R g (by decide)
  refine ⟨⟨P.obj, P.lw, P.l0, P.l1, P.r0, P.r1⟩, h.set.upd h.lq rfl, g _ _ (by rw [R.lr]; rfl) h.lr, dicts_agr h.dr R.dr g rfl, upd_same, ?_, g _ _ (by rw [R.rs]; rfl) h.rs, ?_⟩
  · exact paired_setB i (rows_agr h.qs R.qs g rfl) (by show upd H A.lq _ q = _; rw [upd_ne nq]; exact hq)
  · have hm : ∀ b, A.fp b → b ≠ q := fun b hb e => hn (by rw [← e]; exact hb)
    refine ⟨fun b => if b = q then 8 else ρ b, ⟨?_, ?_, ?_, ?_, ?_, ?_, ?_, fun d hd => ?_, fun d hd => ?_, fun d hd => ?_, fun d hd => ?_, R.ndr, nodup_set R.nqs (fun m => hn (by simp [MA.fp, m])) i, R.nw0, R.nw1⟩⟩
    · exact (if_neg (hm _ (by simp [MA.fp]))).trans R.mo
    · exact (if_neg (hm _ (by simp [MA.fp]))).trans R.lr
    · exact (if_neg (hm _ (by simp [MA.fp]))).trans R.lq
    · exact (if_neg (hm _ (by simp [MA.fp]))).trans R.rs
    · exact (if_neg (hm _ (by simp [MA.fp]))).trans R.lw
    · exact (if_neg (hm _ (by simp [MA.fp]))).trans R.l0
    · exact (if_neg (hm _ (by simp [MA.fp]))).trans R.l1
    · exact (if_neg (hm _ (by simp [MA.fp, hd]))).trans (R.dr d hd)
    · show (if d = q then 8 else ρ d) = 8
      by_cases e : d = q
      · rw [if_pos e]
      · rw [if_neg e]
        rcases List.mem_or_eq_of_mem_set hd with h | h
        · exact R.qs d h
        · exact (e h).elim
    · exact (if_neg (hm _ (by simp [MA.fp, hd]))).trans (R.w0 d hd)
    · exact (if_neg (hm _ (by simp [MA.fp, hd]))).trans (R.w1 d hd)
/-! rows -/
def rowsK (p : Kp429.Parameters) (k : Nat) : List (List Int) := if k = 0 then p.users else p.items
def MA.wK (A : MA) (k : Nat) : List Addr := if k = 0 then A.w0 else A.w1
def MA.lK (A : MA) (k : Nat) : Addr := if k = 0 then A.l0 else A.l1
theorem rowOf_rowsK (p : Kp429.Parameters) (k id : Nat) : Kp429.rowOf p k id = (rowsK p k).getD id [] := by
  unfold Kp429.rowOf rowsK
  split <;> rfl
theorem PrmAt.rK (h : PrmAt K H A p) (k : Nat) : RowsAt H (A.wK k) (rowsK p k) := by
  unfold MA.wK rowsK
  split
  · exact h.r0
  · exact h.r1
theorem PrmAt.lK (h : PrmAt K H A p) (k : Nat) : H (A.lK k) = some (.lst ((A.wK k).map V.ref)) := by
  unfold MA.wK MA.lK
  split
  · exact h.l0
  · exact h.l1
theorem LowAt.putRow {k n : Nat} {w : Addr} {xs' : List Int} (h : LowAt K H A s p rat rtr rst) (hw : (A.wK k)[n]? = some w) : LowAt K (upd H w (.lst (xs'.map V.int))) A s (Kp429.setRow p k n xs') rat rtr rst := by
  obtain ⟨ρ, R⟩ := h.ro
  have mw : w ∈ A.wK k := List.mem_of_getElem? hw
  by_cases k0 : k = 0
  · unfold MA.wK at hw mw
    rw [if_pos k0] at hw mw
    have g : Agr ρ (fun i => i != 9) H (upd H w (.lst (xs'.map V.int))) := agr_upd (R.w0 w mw)
    obtain ⟨kvs, _, hk⟩ := paired_mem h.prm.r0 mw
    unfold Kp429.setRow
    rw [if_pos k0]
    exact ⟨⟨g _ _ (by rw [R.mo]; rfl) h.prm.obj, g _ _ (by rw [R.lw]; rfl) h.prm.lw, g _ _ (by rw [R.l0]; rfl) h.prm.l0, g _ _ (by rw [R.l1]; rfl) h.prm.l1, paired_upd R.nw0 h.prm.r0 hw upd_same (fun a _ ne b q => by rw [upd_ne ne]; exact q), rows_agr h.prm.r1 R.w1 g rfl⟩,
      h.set.upd hk rfl, g _ _ (by rw [R.lr]; rfl) h.lr, dicts_agr h.dr R.dr g rfl, g _ _ (by rw [R.lq]; rfl) h.lq, rows_agr h.qs R.qs g rfl, g _ _ (by rw [R.rs]; rfl) h.rs, ⟨ρ, R⟩⟩
  · unfold MA.wK at hw mw
    rw [if_neg k0] at hw mw
    have g : Agr ρ (fun i => i != 10) H (upd H w (.lst (xs'.map V.int))) := agr_upd (R.w1 w mw)
    obtain ⟨kvs, _, hk⟩ := paired_mem h.prm.r1 mw
    unfold Kp429.setRow
    rw [if_neg k0]
    exact ⟨⟨g _ _ (by rw [R.mo]; rfl) h.prm.obj, g _ _ (by rw [R.lw]; rfl) h.prm.lw, g _ _ (by rw [R.l0]; rfl) h.prm.l0, g _ _ (by rw [R.l1]; rfl) h.prm.l1, rows_agr h.prm.r0 R.w0 g rfl, paired_upd R.nw1 h.prm.r1 hw upd_same (fun a _ ne b q => by rw [upd_ne ne]; exact q)⟩,
      h.set.upd hk rfl, g _ _ (by rw [R.lr]; rfl) h.lr, dicts_agr h.dr R.dr g rfl, g _ _ (by rw [R.lq]; rfl) h.lq, rows_agr h.qs R.qs g rfl, g _ _ (by rw [R.rs]; rfl) h.rs, ⟨ρ, R⟩⟩
theorem fp_wK {k : Nat} {w : Addr} (h : w ∈ A.wK k) : A.fp w := by
  unfold MA.wK at h
  split at h <;> simp [MA.fp, h]
/-! ### a step's trace -/
structure Moved (A : MA) (H : Hp) (A' : MA) (H' : Hp) : Prop where
  fr : Fr A.fp H H'
  fp : ∀ b, A'.fp b → A.fp b ∨ H b = none
  mo : A'.mo = A.mo
  st : A'.st = A.st
theorem Moved.refl : Moved A H A H := ⟨Fr.refl, fun _ h => .inl h, rfl, rfl⟩
theorem Moved.exR {A' : MA} (m : Moved A H A' H1) (e : Ex H1 H') : Moved A H A' H' := ⟨m.fr.ex e, m.fp, m.mo, m.st⟩
theorem Moved.exL {A' : MA} (e : Ex H H1) (m : Moved A H1 A' H') : Moved A H A' H' := ⟨(frEx e).trans m.fr, fun b h => (m.fp b h).imp id (fresh_back e), m.mo, m.st⟩
theorem Moved.trans {A1 A2 : MA} (m : Moved A H A1 H1) (n : Moved A1 H1 A2 H') : Moved A H A2 H' := by
  refine ⟨fun b o nb hb => ?_, fun b hb => ?_, n.mo.trans m.mo, n.st.trans m.st⟩
  · refine n.fr b o (fun f => ?_) (m.fr b o nb hb)
    rcases m.fp b f with h | h
    · exact nb h
    · rw [h] at hb
      cases hb
  · rcases n.fp b hb with h | h
    · exact m.fp b h
    · by_cases f : A.fp b
      · exact .inl f
      · right
        cases e : H b with
        | none => rfl
        | some o => rw [m.fr b o f e] at h; cases h
theorem Moved.upd {b : Addr} {o : HO} {A' : MA} (m : Moved A H A' H') (hb : A.fp b) : Moved A H A' (L2.upd H' b o) := ⟨m.fr.upd hb, m.fp, m.mo, m.st⟩
theorem Moved.out {b : Addr} {o : HO} {A' : MA} (m : Moved A H A' H') (n : ¬ A.fp b) (h : H b = some o) : ¬ A'.fp b ∧ H' b = some o := by
  refine ⟨fun f => ?_, m.fr b o n h⟩
  rcases m.fp b f with q | q
  · exact n q
  · rw [q] at h
    cases h
theorem Moved.toEx {H0 : Hp} {A' : MA} (m : Moved A H A' H') (e : Ex H0 H) (h : ∀ b, A.fp b → H0 b = none) : Ex H0 H' ∧ ∀ b, A'.fp b → H0 b = none := by
  refine ⟨m.fr.to e h, fun b f => ?_⟩
  rcases m.fp b f with q | q
  · exact h b q
  · exact fresh_back e q
end
end Gs
namespace Gs
open PySem PySem.Spec PyProof.Rows L2 Evl
open Kp429 (Rating isBefore insertRating)
/-! ### dicts as permutations -/
section
variable {κ α : Type} [DecidableEq κ]
theorem valV_mem {kvs : List (κ × V)} {k : κ} {v : V} (nd : (kvs.map (·.1)).Nodup) (h : (k, v) ∈ kvs) : valV kvs k = some v := by
  induction kvs with
  | nil => cases h
  | cons p r ih =>
    rw [List.map_cons, List.nodup_cons] at nd
    rcases List.mem_cons.mp h with e | e
    · subst e
      exact valV_pos rfl
    · rw [valV_neg fun q => nd.1 (by rw [q]; exact List.mem_map.mpr ⟨_, e, rfl⟩)]
      exact ih nd.2 e
theorem valV_none' {kvs : List (κ × V)} {k : κ} (h : k ∉ kvs.map (·.1)) : valV kvs k = none := by
  induction kvs with
  | nil => rfl
  | cons p r ih =>
    rw [List.map_cons, List.mem_cons, not_or] at h
    rw [valV_neg fun q => h.1 q.symm]
    exact ih h.2
/-- the pairs f a, g a, in some order -/
def DictOf (kvs : List (κ × V)) (L : List α) (f : α → κ) (g : α → V) : Prop := kvs.Perm (L.map fun a => (f a, g a))
variable {kvs : List (κ × V)} {L L' : List α} {f : α → κ} {g g' : α → V}
theorem DictOf.keys (h : DictOf kvs L f g) : (kvs.map (·.1)).Perm (L.map f) := by
  have := h.map (·.1)
  rw [List.map_map] at this
  exact this
theorem DictOf.len (h : DictOf kvs L f g) : kvs.length = L.length := by
  rw [h.length_eq, List.length_map]
theorem DictOf.get (h : DictOf kvs L f g) (nd : (L.map f).Nodup) {a : α} (ha : a ∈ L) : valV kvs (f a) = some (g a) :=
  valV_mem (h.keys.nodup_iff.mpr nd) (h.mem_iff.mpr (List.mem_map.mpr ⟨a, ha, rfl⟩))
theorem DictOf.none (h : DictOf kvs L f g) {k : κ} (hk : k ∉ L.map f) : valV kvs k = none := valV_none' fun m => hk (h.keys.mem_iff.mp m)
theorem DictOf.put_old (h : DictOf kvs L f g) (nd : (L.map f).Nodup) {a : α} (ha : a ∈ L) (v : V) : DictOf (putK kvs (f a) v) L f (fun b => if f b = f a then v else g b) := by
  unfold putK
  rw [if_pos (by rw [valV_any, h.get nd ha]; rfl)]
  have := h.map (fun kv => if kv.1 = f a then (kv.1, v) else kv)
  rw [List.map_map] at this
  refine this.trans (List.Perm.of_eq (List.map_congr_left fun b _ => ?_))
  show (if f b = f a then (f b, v) else (f b, g b)) = (f b, if f b = f a then v else g b)
  split <;> rfl
theorem DictOf.put_new (h : DictOf kvs L f g) {a : α} (ha : f a ∉ L.map f) : DictOf (putK kvs (f a) (g a)) (L ++ [a]) f g := by
  rw [putK_new _ (h.none ha)]
  unfold DictOf
  rw [List.map_append]
  exact h.append_right _
theorem DictOf.drop (h : DictOf kvs L f g) (k : κ) : DictOf (dropK kvs k) (L.filter fun a => decide (f a ≠ k)) f g := by
  have := h.filter (fun kv => decide (kv.1 ≠ k))
  rw [List.filter_map] at this
  exact this
theorem DictOf.congr (h : DictOf kvs L f g) (e : ∀ a ∈ L, g a = g' a) : DictOf kvs L f g' :=
  h.trans (List.Perm.of_eq (List.map_congr_left fun b hb => by rw [e b hb]))
theorem DictOf.perm (h : DictOf kvs L f g) (p : L.Perm L') : DictOf kvs L' f g := h.trans (p.map _)
end
theorem keysInt {α : Type} {L : List α} {f : α → Int} {g : α → V} {kvs : List (Key × V)} (h : DictOf kvs L (fun a => Sum.inl (f a)) g) : ∃ ks : List Int, kvs.map (·.1) = ks.map Sum.inl ∧ ks.Perm (L.map f) := by
  refine ⟨kvs.map fun kv => match kv.1 with | .inl i => i | .inr _ => 0, ?_, ?_⟩
  · rw [List.map_map]
    refine List.map_congr_left fun kv hkv => ?_
    obtain ⟨a, _, rfl⟩ := List.mem_map.mp (h.mem_iff.mp hkv)
    rfl
  · have := h.map fun kv : Key × V => match kv.1 with | .inl i => i | .inr _ => 0
    rw [List.map_map] at this
    exact this
theorem perm_sorted {ys zs : List Int} (p : ys.Perm zs) (h1 : ys.Pairwise (· ≤ ·)) (h2 : zs.Pairwise (· ≤ ·)) : ys = zs :=
  p.eq_of_pairwise (fun a b _ _ h h' => Int.le_antisymm h h') h1 h2
theorem inc_len : ∀ {l : List Nat} {a n : Nat}, l.Pairwise (· < ·) → (∀ x ∈ l, a ≤ x ∧ x < n) → l.length ≤ n - a
  | [], _, _, _, _ => Nat.zero_le _
  | x :: r, a, n, h, b => by
    rw [List.pairwise_cons] at h
    have i := inc_len (a := x + 1) (n := n) h.2 fun y hy => ⟨h.1 y hy, (b y (List.mem_cons_of_mem _ hy)).2⟩
    have q := b x (List.mem_cons_self ..)
    rw [List.length_cons]
    omega
/-! ### ratings -/
def Sorted (l : List Rating) : Prop := l.Pairwise fun a b => isBefore a b = true
theorem before_iff (a b : Rating) : isBefore a b = true ↔ a.user < b.user ∨ (a.user = b.user ∧ a.item < b.item) := by
  unfold isBefore
  simp
def ofK (l : List Rating) (k id : Nat) : List Rating := l.filter fun r => (if k = 0 then r.user else r.item) == id
theorem mem_ofK {l : List Rating} {k id : Nat} {r : Rating} : r ∈ ofK l k id ↔ r ∈ l ∧ (if k = 0 then r.user else r.item) = id := by
  unfold ofK
  rw [List.mem_filter, beq_iff_eq]
theorem ofK0_inc {l : List Rating} (h : Sorted l) (u : Nat) : ((ofK l 0 u).map Rating.item).Pairwise (· < ·) := by
  rw [List.pairwise_map]
  refine List.Pairwise.imp_of_mem ?_ (h.filter _)
  intro a b ha hb q
  have e1 := (mem_ofK.mp ha).2
  have e2 := (mem_ofK.mp hb).2
  rw [if_pos rfl] at e1 e2
  rcases (before_iff a b).mp q with q | q
  · omega
  · exact q.2
theorem ofK1_inc {l : List Rating} (h : Sorted l) (i : Nat) : ((ofK l 1 i).map Rating.user).Pairwise (· < ·) := by
  rw [List.pairwise_map]
  refine List.Pairwise.imp_of_mem ?_ (h.filter _)
  intro a b ha hb q
  have e1 := (mem_ofK.mp ha).2
  have e2 := (mem_ofK.mp hb).2
  rw [if_neg (by decide)] at e1 e2
  rcases (before_iff a b).mp q with q | q
  · exact q
  · omega
def Bd (l : List Rating) (nu ni : Nat) : Prop := ∀ r ∈ l, r.user < nu ∧ r.item < ni
theorem ofK_len {l : List Rating} {nu ni : Nat} (h : Sorted l) (b : Bd l nu ni) (h1 : nu ≤ 8) (h2 : ni ≤ 8) (k id : Nat) : (ofK l k id).length ≤ 8 := by
  by_cases k0 : k = 0
  · subst k0
    have := inc_len (a := 0) (n := 8) (ofK0_inc h id) fun x hx => by
      obtain ⟨r, hr, rfl⟩ := List.mem_map.mp hx
      have := b r (mem_ofK.mp hr).1
      omega
    rw [List.length_map] at this
    exact this
  · have e : ofK l k id = ofK l 1 id := by
      unfold ofK
      congr 1
      funext r
      rw [if_neg k0, if_neg (by decide)]
    rw [e]
    have := inc_len (a := 0) (n := 8) (ofK1_inc h id) fun x hx => by
      obtain ⟨r, hr, rfl⟩ := List.mem_map.mp hx
      have := b r (mem_ofK.mp hr).1
      omega
    rw [List.length_map] at this
    exact this
theorem all_len {l : List Rating} {nu ni : Nat} (h : Sorted l) (b : Bd l nu ni) (h1 : nu ≤ 8) (h2 : ni ≤ 8) : l.length ≤ 64 := by
  have := inc_len (l := l.map fun r => r.user * 8 + r.item) (a := 0) (n := 64) (by
    rw [List.pairwise_map]
    refine List.Pairwise.imp_of_mem ?_ h
    intro x y hx hy q
    have := b x hx
    have := b y hy
    rcases (before_iff x y).mp q with q | q <;> omega) fun x hx => by
      obtain ⟨r, hr, rfl⟩ := List.mem_map.mp hx
      have := b r hr
      omega
  rw [List.length_map] at this
  exact this
def keyR (r : Rating) : List Key := [.inl (r.user : Int), .inl (r.item : Int)]
theorem keyR_inj {a b : Rating} (h : keyR a = keyR b) : a.user = b.user ∧ a.item = b.item := by
  unfold keyR at h
  simp at h
  omega
theorem before_irr {a b : Rating} (h : isBefore a b = true) : ¬ (a.user = b.user ∧ a.item = b.item) := by
  rcases (before_iff a b).mp h with q | q <;> omega
theorem keyR_nodup {l : List Rating} (h : Sorted l) : (l.map keyR).Nodup := by
  rw [List.nodup_iff_pairwise_ne, List.pairwise_map]
  exact h.imp fun q e => before_irr q (keyR_inj e)
theorem item_nodup {l : List Rating} (h : Sorted l) (u : Nat) : ((ofK l 0 u).map fun r => (Sum.inl (r.item : Int) : Key)).Nodup := by
  rw [List.nodup_iff_pairwise_ne, List.pairwise_map]
  have := ofK0_inc h u
  rw [List.pairwise_map] at this
  exact this.imp fun q e => by
    simp at e
    omega
theorem sorted_uniq {l : List Rating} (h : Sorted l) {a b : Rating} (ha : a ∈ l) (hb : b ∈ l) (e : a.user = b.user ∧ a.item = b.item) : a = b := by
  induction l with
  | nil => cases ha
  | cons x r ih =>
    unfold Sorted at h
    rw [List.pairwise_cons] at h
    rcases List.mem_cons.mp ha with h1 | h1 <;> rcases List.mem_cons.mp hb with h2 | h2
    · rw [h1, h2]
    · rw [h1] at e
      exact (before_irr (h.1 b h2) e).elim
    · rw [h2] at e
      exact (before_irr (h.1 a h1) ⟨e.1.symm, e.2.symm⟩).elim
    · exact ih h.2 h1 h2
/-! the relation of a user's dict, an item's list, the rests -/
def gItem (r : Rating) : Key := .inl (r.item : Int)
def gVal (r : Rating) : V := .int (r.value : Int)
structure RatRel (l : List Rating) (rat : List KD) (rtr : List (List Int)) (nu ni : Nat) : Prop where
  nu : rat.length = nu
  ni : rtr.length = ni
  rat : ∀ u kvs, rat[u]? = some kvs → DictOf kvs (ofK l 0 u) gItem gVal
  rtr : ∀ i xs, rtr[i]? = some xs → xs = (ofK l 1 i).map fun r => (r.user : Int)
def RstOf (rst : List (List Key × V)) (l : List Rating) (g : Rating → Int) : Prop := DictOf rst l keyR (fun r => .int (g r))
theorem ratingOf_some {l : List Rating} {m : Kp429.Model} (hm : m.ratings = l) (h : Sorted l) {r : Rating} (hr : r ∈ l) : Kp429.ratingOf m r.user r.item = some r.value := by
  unfold Kp429.ratingOf
  rw [hm]
  cases e : l.find? fun q => q.user == r.user && q.item == r.item with
  | none =>
    have := List.find?_eq_none.mp e r hr
    simp at this
  | some q =>
    have h1 := List.mem_of_find?_eq_some e
    have h2 := List.find?_some e
    simp at h2
    rw [sorted_uniq h h1 hr h2]
    rfl
theorem ratingOf_none {m : Kp429.Model} {u i : Nat} (h : ∀ r ∈ m.ratings, ¬ (r.user = u ∧ r.item = i)) : Kp429.ratingOf m u i = none := by
  unfold Kp429.ratingOf
  rw [List.find?_eq_none.mpr fun r hr e => h r hr (by simpa using e)]
  rfl
/-- what the dict of a user tells of an item -/
theorem RatRel.get {l : List Rating} {rat : List KD} {rtr : List (List Int)} {nu ni u : Nat} {kvs : KD} (R : RatRel l rat rtr nu ni) (h : Sorted l) (hu : rat[u]? = some kvs) (m : Kp429.Model) (hm : m.ratings = l) (i : Nat) :
    valV kvs (.inl (i : Int)) = (Kp429.ratingOf m u i).map fun v => V.int (v : Int) := by
  have D := R.rat u kvs hu
  by_cases q : ∃ r ∈ l, r.user = u ∧ r.item = i
  · obtain ⟨r, hr, rfl, rfl⟩ := q
    rw [ratingOf_some hm h hr]
    exact D.get (item_nodup h _) (mem_ofK.mpr ⟨hr, rfl⟩)
  · rw [ratingOf_none (m := m) fun r hr e => q ⟨r, by rw [← hm]; exact hr, e⟩]
    refine D.none fun mm => ?_
    obtain ⟨r, hr, e⟩ := List.mem_map.mp mm
    obtain ⟨h1, h2⟩ := mem_ofK.mp hr
    rw [if_pos rfl] at h2
    unfold gItem at e
    simp at e
    exact q ⟨r, h1, h2, by omega⟩
/-! insertion -/
theorem insert_old {x : Rating} : ∀ {l : List Rating}, Sorted l → (∃ r ∈ l, r.user = x.user ∧ r.item = x.item) → insertRating x l = l.map fun r => if r.user = x.user ∧ r.item = x.item then x else r
  | [], _, ⟨r, h, _⟩ => by cases h
  | y :: l, h, ⟨r, hr, e⟩ => by
    unfold Sorted at h
    rw [List.pairwise_cons] at h
    have no : (y.user = x.user ∧ y.item = x.item) → l.map (fun r => if r.user = x.user ∧ r.item = x.item then x else r) = l := fun q => by
      conv => rhs; rw [← List.map_id l]
      refine List.map_congr_left fun z hz => ?_
      rw [if_neg fun w => before_irr (h.1 z hz) ⟨q.1.trans w.1.symm, q.2.trans w.2.symm⟩]
      rfl
    unfold insertRating
    by_cases b : isBefore x y = true
    · rcases List.mem_cons.mp hr with q | q
      · rw [q] at e
        exact (before_irr b ⟨e.1.symm, e.2.symm⟩).elim
      · have h1 := (before_iff x y).mp b
        have h2 := (before_iff y r).mp (h.1 r q)
        omega
    · rw [if_neg b]
      by_cases s : y.user = x.user ∧ y.item = x.item
      · rw [if_pos s, List.map_cons, if_pos s, no s]
      · rw [if_neg s, List.map_cons, if_neg s]
        congr 1
        refine insert_old h.2 ⟨r, ?_, e⟩
        rcases List.mem_cons.mp hr with q | q
        · rw [q] at e
          exact (s e).elim
        · exact q
theorem insert_new {x : Rating} : ∀ {l : List Rating}, (∀ r ∈ l, ¬ (r.user = x.user ∧ r.item = x.item)) → (insertRating x l).Perm (x :: l)
  | [], _ => List.Perm.refl _
  | y :: l, h => by
    unfold insertRating
    split
    · exact List.Perm.refl _
    · rw [if_neg (h y (List.mem_cons_self ..))]
      exact ((insert_new fun r hr => h r (List.mem_cons_of_mem _ hr)).cons y).trans (List.Perm.swap ..)
theorem insert_mem {x z : Rating} : ∀ {l : List Rating}, z ∈ insertRating x l → z = x ∨ z ∈ l
  | [], h => .inl (by simpa [insertRating] using h)
  | y :: l, h => by
    unfold insertRating at h
    split at h
    · simpa using h
    · split at h
      · rcases List.mem_cons.mp h with q | q
        · exact .inl q
        · exact .inr (List.mem_cons_of_mem _ q)
      · rcases List.mem_cons.mp h with q | q
        · exact .inr (by rw [q]; exact List.mem_cons_self ..)
        · exact (insert_mem q).imp id (List.mem_cons_of_mem _)
theorem insert_sorted {x : Rating} : ∀ {l : List Rating}, Sorted l → Sorted (insertRating x l)
  | [], _ => by
    unfold insertRating Sorted
    exact List.pairwise_singleton ..
  | y :: l, h => by
    have h' := h
    unfold Sorted at h
    rw [List.pairwise_cons] at h
    unfold insertRating
    by_cases b : isBefore x y = true
    · rw [if_pos b]
      refine List.pairwise_cons.mpr ⟨fun z hz => ?_, h'⟩
      rcases List.mem_cons.mp hz with q | q
      · rw [q]; exact b
      · have h1 := (before_iff x y).mp b
        have h2 := (before_iff y z).mp (h.1 z q)
        exact (before_iff x z).mpr (by omega)
    · rw [if_neg b]
      by_cases s : y.user = x.user ∧ y.item = x.item
      · rw [if_pos s]
        refine List.pairwise_cons.mpr ⟨fun z hz => ?_, h.2⟩
        have h2 := (before_iff y z).mp (h.1 z hz)
        exact (before_iff x z).mpr (by omega)
      · rw [if_neg s]
        refine List.pairwise_cons.mpr ⟨fun z hz => ?_, insert_sorted h.2⟩
        rcases insert_mem hz with q | q
        · rw [q]
          have h1 : ¬ (x.user < y.user ∨ (x.user = y.user ∧ x.item < y.item)) := fun q => b ((before_iff x y).mpr q)
          exact (before_iff y x).mpr (by omega)
        · exact h.1 z q
end Gs
namespace Gs
open PySem PySem.Spec PyProof.Rows L2 Evl
theorem paired_at2 {α β : Type} {F : α → β → Prop} : ∀ {l : List α} {m : List β} {i : Nat} {b : β}, Paired F l m → m[i]? = some b → ∃ a, l[i]? = some a ∧ F a b
  | _, _, _, _, .nil, h => by simp at h
  | _, _, 0, _, .cons h _, e => by
    simp only [List.getElem?_cons_zero, Option.some.injEq] at e
    subst e
    exact ⟨_, rfl, h⟩
  | _, _, i + 1, _, .cons _ t, e => by
    obtain ⟨b, h1, h2⟩ := paired_at2 (i := i) t (by simpa using e)
    exact ⟨b, by simpa using h1, h2⟩
/-- a row as it is used -/
def Good (xs : List Int) : Prop := xs ≠ [] ∧ xs.length ≤ 100 ∧ ∀ x ∈ xs, Sm x
theorem Good.at0 {xs : List Int} (h : Good xs) : (xs.map V.int)[0]? = some (.int (Kp429.place xs 0)) := by
  obtain ⟨h, _⟩ := h
  cases xs with
  | nil => exact (h rfl).elim
  | cons a r => rfl
theorem map_at {xs : List Int} {k : Nat} {x : Int} (h : xs[k]? = some x) : (xs.map V.int)[k]? = some (.int x) := by
  rw [List.getElem?_map, h]
  rfl
theorem map_ref_at {ws : List Addr} {k : Nat} {x : Addr} (h : ws[k]? = some x) : (ws.map V.ref)[k]? = some (.ref x) := by
  rw [List.getElem?_map, h]
  rfl
section
variable {P : Program} {w : World} {K : PySem.W.Frag} {mg : Str → Option Value} {base : Heap} {vs : List V} {H H' : Hp} {Q : VK} {E : XK} {A : MA} {p : Kp429.Parameters} {σ : L2.St} {ta tk tn tq : TE} {s : Kp429.Settings} {rat : List KD} {rtr : List (List Int)} {rst : List (List Key × V)}
/-! ### the model's fields -/
theorem ev_rows (T : Txt K mg) (ha : Ev ta σ H (.ref A.mo)) (h : PrmAt K H A p) : Ev (tFld K ta "rows") σ H (.ref A.lw) := ev_fld ha h.obj T.c_Model T.n_Model_rows rfl
theorem ev_base (T : Txt K mg) (ha : Ev ta σ H (.ref A.mo)) (h : PrmAt K H A p) : Ev (tFld K ta "base") σ H (.int p.base) := ev_fld ha h.obj T.c_Model T.n_Model_base rfl
theorem ev_settings (T : Txt K mg) (ha : Ev ta σ H (.ref A.mo)) (h : PrmAt K H A p) : Ev (tFld K ta "settings") σ H (.ref A.st) := ev_fld ha h.obj T.c_Model T.n_Model_settings rfl
theorem ev_ratings (T : Txt K mg) (ha : Ev ta σ H (.ref A.mo)) (h : PrmAt K H A p) : Ev (tFld K ta "ratings") σ H (.ref A.lr) := ev_fld ha h.obj T.c_Model T.n_Model_ratings rfl
theorem ev_raters (T : Txt K mg) (ha : Ev ta σ H (.ref A.mo)) (h : PrmAt K H A p) : Ev (tFld K ta "raters") σ H (.ref A.lq) := ev_fld ha h.obj T.c_Model T.n_Model_raters rfl
theorem ev_rests (T : Txt K mg) (ha : Ev ta σ H (.ref A.mo)) (h : PrmAt K H A p) : Ev (tFld K ta "rests") σ H (.ref A.rs) := ev_fld ha h.obj T.c_Model T.n_Model_rests rfl
theorem lw_at {k : Nat} (hk : k ≤ 1) : ([V.ref A.l0, V.ref A.l1])[k]? = some (.ref (A.lK k)) := by
  match k, hk with
  | 0, _ => rfl
  | 1, _ => rfl
theorem ev_rowsK (T : Txt K mg) {k : Nat} (ha : Ev ta σ H (.ref A.mo)) (h : PrmAt K H A p) (hk : Ev tk σ H (.int (k : Int))) (h1 : k ≤ 1) : Ev (tOp (rIxL K) (tFld K ta "rows") tk) σ H (.ref (A.lK k)) :=
  ev_ixL (ev_rows T ha h) hk (sq_of h.lw) (lw_at h1)
theorem ev_row (T : Txt K mg) {k n : Nat} {w : Addr} (ha : Ev ta σ H (.ref A.mo)) (h : PrmAt K H A p) (hk : Ev tk σ H (.int (k : Int))) (h1 : k ≤ 1) (hn : Ev tn σ H (.int (n : Int))) (hw : (A.wK k)[n]? = some w) :
    Ev (tOp (rIxL K) (tOp (rIxL K) (tFld K ta "rows") tk) tn) σ H (.ref w) :=
  ev_ixL (ev_rowsK T ha h hk h1) hn (sq_of (h.lK k)) (map_ref_at hw)
theorem ev_cell (T : Txt K mg) {k n q : Nat} {w : Addr} {xs : List Int} {x : Int} (ha : Ev ta σ H (.ref A.mo)) (h : PrmAt K H A p) (hk : Ev tk σ H (.int (k : Int))) (h1 : k ≤ 1) (hn : Ev tn σ H (.int (n : Int))) (hw : (A.wK k)[n]? = some w) (hq : Ev tq σ H (.int (q : Int)))
    (hx : H w = some (.lst (xs.map V.int))) (hv : xs[q]? = some x) : Ev (tOp (rIxL K) (tOp (rIxL K) (tOp (rIxL K) (tFld K ta "rows") tk) tn) tq) σ H (.int x) :=
  ev_ixL (ev_row T ha h hk h1 hn hw) hq (sq_of hx) (map_at hv)
/-! ### predictions -/
def sp_Model_predicted (K : PySem.W.Frag) : Sp := fun vs H Q _ => ∃ (A : MA) (p : Kp429.Parameters) (r : Addr) (xs ys : List Int) (i : Nat), vs = [.ref A.mo, .ref r, .int (i : Int)] ∧ PrmAt K H A p ∧ H r = some (.lst (xs.map V.int)) ∧ p.items[i]? = some ys ∧ Good xs ∧ Good ys ∧
  RetV (.int (Kp429.predictRows p.base xs ys)) H Q
theorem len_Model_predicted (h : sp_Model_predicted K vs H Q E) : vs.length = (["self", "row", "item"] : List Str).length := by
  obtain ⟨_, _, _, _, _, _, rfl, _⟩ := h
  rfl
def t_Model_predicted (K : PySem.W.Frag) : TS :=
  (tSeq (tAsg (tOp (rIxL K) (tOp (rIxL K) (tFld K (tVar 0) "rows") (tC (.int 1))) (tVar 2)) (gName 3))
    (tRet (tOp rAddI (tOp rAddI (tOp rAddI (tFld K (tVar 0) "base") (tOp (rIxL K) (tVar 1) (tC (.int 0)))) (tOp (rIxL K) (tVar 3) (tC (.int 0)))) (tCall (sp_product K) [] E0 (tCons (tVar 1) (tCons (tVar 3) tNil))))))
theorem pure_Model_predicted (T : Txt K mg) (h : sp_Model_predicted K vs H Q E) : t_Model_predicted K { nx := fun _ H' => Q .non H', rt := Q } (start N_Model_predicted vs) H := by
  obtain ⟨A, p, r, xs, ys, i, rfl, hp, hr, hy, gx, gy, k⟩ := h
  obtain ⟨w, hw, hwy⟩ := paired_at2 hp.r1 hy
  refine q_asg (ev_row (A := A) (p := p) T (k := 1) (n := i) (w := w) (ev_var rfl) hp ev_c (Nat.le_refl _) (ev_var rfl) hw) fun H1 e1 => ?_
  have hp1 := hp.ex e1
  have hr1 := e1 _ _ hr
  have hw1 := e1 _ _ hwy
  exact s_ret (v := .int (Kp429.predictRows p.base xs ys)) (ev_add (ev_add (ev_add (ev_base T (ev_var rfl) hp1) (ev_ixL (j := 0) (ev_var rfl) ev_c (sq_of hr1) gx.at0)) (ev_ixL (j := 0) (ev_var rfl) ev_c (sq_of hw1) gy.at0)) (ev_product (ev_var rfl) (ev_var rfl) (sq_of hr1) (sq_of hw1) gx.2.1 gx.2.2)) (retv_is k e1 rfl)
theorem ok_Model_predicted (T : Txt K mg) : Has P w K mg base 2 d_Model_predicted.at_ ["self", "row", "item"] (sp_Model_predicted K) := by
  refine Has.of (d := d_Model_predicted) T 20 rfl ⟨rfl, rfl⟩ sc_Model_predicted (fun _ _ _ _ _ _ us hl => match us, hl with | [_, _, _], _ => rfl) (fun vs H Q E h => len_Model_predicted h) fun cdv A outer s H vs Q E hr h => ⟨t_Model_predicted K, ?_, pure_Model_predicted T h⟩
  exact (pss_cons (ps_set (i := 3) sc_Model_predicted.nd rfl (Or.inl rfl) (pe_ix ix_list (pe_ix ix_list (pe_fld (pv 0) rfl) pe_int (fun _ _ => rfl)) (pv 2) (fun _ _ => rfl)))
    (pss_one (ps_ret (pe_op op_add (pe_op op_add (pe_op op_add (pe_fld (pv 0) rfl) (pe_ix ix_list (pv 1) pe_int (fun _ _ => rfl))) (pe_ix ix_list (pv 3) pe_int (fun _ _ => rfl))) (pe_callH (ok_product T) (hr.mono (by decide)) rfl T.g_product (pa_cons (pv 1) (pa_cons (pv 3) pa_nil)))))))
theorem ev_predicted {r : Addr} {xs ys : List Int} {i : Nat} (ha : Ev ta σ H (.ref A.mo)) (hp : PrmAt K H A p) (hr : Ev tk σ H (.ref r)) (hx : H r = some (.lst (xs.map V.int))) (hn : Ev tn σ H (.int (i : Int))) (hy : p.items[i]? = some ys) (gx : Good xs) (gy : Good ys) :
    Ev (tMeth (He.ga K "Model") "predicted" (sp_Model_predicted K) [] E0 ta (tCons tk (tCons tn tNil))) σ H (.int (Kp429.predictRows p.base xs ys)) :=
  ev_meth ha hp.obj rfl (ea_cons hr (ea_cons hn ea_nil)) fun H1 e Q q E => ⟨A, p, r, xs, ys, i, rfl, hp.ex e, e _ _ hx, hy, gx, gy, q⟩
theorem predict_is {u i : Nat} {xs ys : List Int} (hx : p.users[u]? = some xs) (hy : p.items[i]? = some ys) : Kp429.predict p u i = Kp429.predictRows p.base xs ys := by
  unfold Kp429.predict Kp429.rowOf
  rw [if_pos rfl, if_neg (by decide), List.getD_eq_getElem?_getD, List.getD_eq_getElem?_getD, hx, hy]
  rfl
/-- there is a row for the user and one for the item -/
def Both (p : Kp429.Parameters) (u i : Nat) : Prop := ∃ xs ys, p.users[u]? = some xs ∧ p.items[i]? = some ys ∧ Good xs ∧ Good ys
def sp_Model_prediction (K : PySem.W.Frag) : Sp := fun vs H Q _ => ∃ (A : MA) (p : Kp429.Parameters) (u i : Nat), vs = [.ref A.mo, .int (u : Int), .int (i : Int)] ∧ PrmAt K H A p ∧ Both p u i ∧ RetV (.int (Kp429.predict p u i)) H Q
theorem len_Model_prediction (h : sp_Model_prediction K vs H Q E) : vs.length = (["self", "user", "item"] : List Str).length := by
  obtain ⟨_, _, _, _, rfl, _⟩ := h
  rfl
def t_Model_prediction (K : PySem.W.Frag) : TS :=
  (tRet (tMeth (He.ga K "Model") "predicted" (sp_Model_predicted K) [] E0 (tVar 0) (tCons (tOp (rIxL K) (tOp (rIxL K) (tFld K (tVar 0) "rows") (tC (.int 0))) (tVar 1)) (tCons (tVar 2) tNil))))
theorem pure_Model_prediction (T : Txt K mg) (h : sp_Model_prediction K vs H Q E) : t_Model_prediction K { nx := fun _ H' => Q .non H', rt := Q } (start N_Model_prediction vs) H := by
  obtain ⟨A, p, u, i, rfl, hp, ⟨xs, ys, hx, hy, gx, gy⟩, k⟩ := h
  obtain ⟨w, hw, hwx⟩ := paired_at2 hp.r0 hx
  rw [predict_is hx hy] at k
  exact s_ret (ev_predicted (ev_var rfl) hp (ev_row (A := A) (p := p) T (k := 0) (n := u) (w := w) (ev_var rfl) hp ev_c (Nat.zero_le _) (ev_var rfl) hw) hwx (ev_var rfl) hy gx gy) k
theorem ok_Model_prediction (T : Txt K mg) : Has P w K mg base 3 d_Model_prediction.at_ ["self", "user", "item"] (sp_Model_prediction K) := by
  refine Has.of (d := d_Model_prediction) T 21 rfl ⟨rfl, rfl⟩ sc_Model_prediction (fun _ _ _ _ _ _ us hl => match us, hl with | [_, _, _], _ => rfl) (fun vs H Q E h => len_Model_prediction h) fun cdv A outer s H vs Q E hr h => ⟨t_Model_prediction K, ?_, pure_Model_prediction T h⟩
  exact (pss_one (ps_ret (pe_methH (pv 0) T.c_Model T.m_Model_predicted (ok_Model_predicted T) (hr.mono (by decide)) (pa_cons (pe_ix ix_list (pe_ix ix_list (pe_fld (pv 0) rfl) pe_int (fun _ _ => rfl)) (pv 1) (fun _ _ => rfl)) (pa_cons (pv 2) pa_nil)))))
theorem ev_prediction {u i : Nat} (ha : Ev ta σ H (.ref A.mo)) (hp : PrmAt K H A p) (hu : Ev tk σ H (.int (u : Int))) (hi : Ev tn σ H (.int (i : Int))) (b : Both p u i) :
    Ev (tMeth (He.ga K "Model") "prediction" (sp_Model_prediction K) [] E0 ta (tCons tk (tCons tn tNil))) σ H (.int (Kp429.predict p u i)) :=
  ev_meth ha hp.obj rfl (ea_cons hu (ea_cons hi ea_nil)) fun H1 e Q q E => ⟨A, p, u, i, rfl, hp.ex e, b, q⟩
/-! ### renew -/
def keyUI (u i : Nat) : List Key := [.inl (u : Int), .inl (i : Int)]
def sp_Model_renew (K : PySem.W.Frag) : Sp := fun vs H Q _ => ∃ (A : MA) (p : Kp429.Parameters) (u i : Nat) (d : Addr) (kvs : KD) (v : Int) (rst : List (List Key × V)), vs = [.ref A.mo, .int (u : Int), .int (i : Int)] ∧ PrmAt K H A p ∧ Both p u i ∧
  H A.lr = some (.lst (A.dr.map V.ref)) ∧ A.dr[u]? = some d ∧ Rd H d (.dK kvs) ∧ valV kvs (.inl (i : Int)) = some (.int v) ∧ H A.rs = some (.dT rst) ∧ rst.length < 1000 ∧
  ∀ H1, Ex H H1 → Q .non (upd H1 A.rs (.dT (putK rst (keyUI u i) (.int (65536 * v - Kp429.predict p u i)))))
theorem len_Model_renew (h : sp_Model_renew K vs H Q E) : vs.length = (["self", "user", "item"] : List Str).length := by
  obtain ⟨_, _, _, _, _, _, _, _, rfl, _⟩ := h
  rfl
theorem s_dputT {D : Ends} {td ty tv : TE} {a : Addr} {kvs : List (List Key × V)} {k : List Key} {v : V} (hv : Ev tv σ H v) (hd : Ev td σ H (.ref a)) (hk : EvU ty σ H (k.map kV)) (h : H a = some (.dT kvs)) (hl : kvs.length < 1000) (q : ∀ H1, Ex H H1 → D.nx σ (upd H1 a (.dT (putK kvs k v)))) : sDPut td ty tv D σ H :=
  hv H (Ex.refl H) _ fun H1 e1 => hd H1 e1 _ fun H2 e2 => hk H2 (e1.trans e2) _ fun b H3 _ e3 hb => ⟨a, _, rfl, DPut.t (((e1.trans e2).trans e3) _ _ h) hb (Nat.lt_of_lt_of_le hl (by decide)), q H3 ((e1.trans e2).trans e3)⟩
def t_Model_renew (K : PySem.W.Frag) : TS :=
  (sDPut (tFld K (tVar 0) "rests") (tTup (tCons (tVar 1) (tCons (tVar 2) tNil))) (tOp rSubI (tOp rMulI (tC (.int 65536)) (tDGet (tOp (rIxL K) (tFld K (tVar 0) "ratings") (tVar 1)) (tVar 2))) (tMeth (He.ga K "Model") "prediction" (sp_Model_prediction K) [] E0 (tVar 0) (tCons (tVar 1) (tCons (tVar 2) tNil)))))
theorem pure_Model_renew (T : Txt K mg) (h : sp_Model_renew K vs H Q E) : t_Model_renew K { nx := fun _ H' => Q .non H', rt := Q } (start N_Model_renew vs) H := by
  obtain ⟨A, p, u, i, d, kvs, v, rst, rfl, hp, b, hlr, hd, hkv, hv, hrs, hl, k⟩ := h
  refine s_dputT (a := A.rs) (k := keyUI u i) (v := .int (65536 * v - Kp429.predict p u i)) (ev_sub (ev_mul ev_c ?_ (.inl ⟨by decide, by decide⟩)) (ev_prediction (ev_var rfl) hp (ev_var rfl) (ev_var rfl) b)) (ev_rests T (ev_var rfl) hp) (eu_tup (ea_cons (ev_var rfl) (ea_cons (ev_var rfl) ea_nil)) (by simp [keyUI])) hrs hl k
  exact ev_dgetK (ev_ixL (ev_ratings T (ev_var rfl) hp) (ev_var rfl) (sq_of hlr) (map_ref_at hd)) (ev_var rfl) hkv hv
theorem ok_Model_renew (T : Txt K mg) : Has P w K mg base 4 d_Model_renew.at_ ["self", "user", "item"] (sp_Model_renew K) := by
  refine Has.of (d := d_Model_renew) T 22 rfl ⟨rfl, rfl⟩ sc_Model_renew (fun _ _ _ _ _ _ us hl => match us, hl with | [_, _, _], _ => rfl) (fun vs H Q E h => len_Model_renew h) fun cdv A outer s H vs Q E hr h => ⟨t_Model_renew K, ?_, pure_Model_renew T h⟩
  exact (pss_one (ps_dput (hu_of hr) (pe_fld (pv 0) rfl) (pe_tup (pa_cons (pv 1) (pa_cons (pv 2) pa_nil))) (pe_op op_sub (pe_op op_mul (pe_gint rfl T.i_UNIT) (pe_dget (hu_of hr) (pe_ix ix_list (pe_fld (pv 0) rfl) (pv 1) (fun _ _ => rfl)) (pv 2) (fun _ _ => rfl))) (pe_methH (pv 0) T.c_Model T.m_Model_prediction (ok_Model_prediction T) (hr.mono (by decide)) (pa_cons (pv 1) (pa_cons (pv 2) pa_nil)))) rfl))
end
end Gs
namespace Gs
open PySem PySem.Spec PyProof.Rows L2 Evl
open Kp429 (Rating Settings Parameters)
/-! ### what holds of a model between the calls -/
def RowOk (s : Settings) (row : List Int) : Prop := row.length = s.factors + 1 ∧ ∀ k x, row[k]? = some x → Kp429.lowest s k ≤ x ∧ x ≤ Kp429.highest s k
structure OkL (s : Settings) (l : List Rating) : Prop where
  vs : Kp429.validSettings s = true
  so : Sorted l
  rb : ∀ r ∈ l, r.user < s.users ∧ r.item < s.items ∧ 1 ≤ r.value ∧ r.value ≤ 10
structure OkP (s : Settings) (p : Parameters) : Prop where
  b0 : 0 ≤ p.base ∧ p.base ≤ 655360
  nu : p.users.length = s.users
  ni : p.items.length = s.items
  ru : ∀ row ∈ p.users, RowOk s row
  ri : ∀ row ∈ p.items, RowOk s row
structure Ok (m : Kp429.Model) : Prop where
  l : OkL m.settings m.ratings
  p : OkP m.settings m.parameters
section
variable {s : Settings} {l : List Rating} {p : Parameters} {rw_ : List Int} {k : Nat} {x : Int}
theorem OkL.users (h : OkL s l) : 1 ≤ s.users ∧ s.users ≤ 8 := by
  have := (valid_iff s).mp h.vs
  omega
theorem OkL.items (h : OkL s l) : 1 ≤ s.items ∧ s.items ≤ 8 := by
  have := (valid_iff s).mp h.vs
  omega
theorem OkL.bd (h : OkL s l) : Bd l s.users s.items := fun r hr => ⟨(h.rb r hr).1, (h.rb r hr).2.1⟩
theorem OkL.ofK_len (h : OkL s l) (k id : Nat) : (ofK l k id).length ≤ 8 := Gs.ofK_len h.so h.bd h.users.2 h.items.2 k id
theorem OkL.len (h : OkL s l) : l.length ≤ 64 := all_len h.so h.bd h.users.2 h.items.2
theorem low_ge (hv : Kp429.validSettings s = true) (k : Nat) : -655360 ≤ Kp429.lowest s k ∧ Kp429.lowest s k ≤ 0 := by
  have := (valid_iff s).mp hv
  unfold Kp429.lowest Kp429.biasLimit
  split
  · omega
  · split <;> omega
theorem high_le (hv : Kp429.validSettings s = true) (k : Nat) : Kp429.highest s k ≤ 655360 ∧ 0 ≤ Kp429.highest s k := by
  have := (valid_iff s).mp hv
  unfold Kp429.highest Kp429.biasLimit
  split <;> omega
theorem low_ge1 (hv : Kp429.validSettings s = true) {k : Nat} (k0 : k ≠ 0) : -4096 ≤ Kp429.lowest s k := by
  have := (valid_iff s).mp hv
  unfold Kp429.lowest
  rw [if_neg k0]
  split <;> omega
theorem high_le1 (hv : Kp429.validSettings s = true) {k : Nat} (k0 : k ≠ 0) : Kp429.highest s k ≤ 4096 := by
  have := (valid_iff s).mp hv
  unfold Kp429.highest
  rw [if_neg k0]
  omega
theorem RowOk.good (h : RowOk s rw_) (hv : Kp429.validSettings s = true) : Good rw_ := by
  have v := (valid_iff s).mp hv
  refine ⟨fun e => by have := h.1; rw [e] at this; simp at this, by rw [h.1]; omega, fun x hx => ?_⟩
  obtain ⟨k, hk, rfl⟩ := List.mem_iff_getElem.mp hx
  have b := h.2 k _ (List.getElem?_eq_getElem hk)
  have := low_ge hv k
  have := high_le hv k
  exact ⟨by omega, by omega⟩
theorem RowOk.at_ (h : RowOk s rw_) (hk : k ≤ s.factors) : rw_[k]? = some (Kp429.place rw_ k) := by
  unfold Kp429.place
  rw [List.getD_eq_getElem?_getD, List.getElem?_eq_getElem (by rw [h.1]; omega)]
  rfl
theorem RowOk.bnd (h : RowOk s rw_) (hk : k ≤ s.factors) : Kp429.lowest s k ≤ Kp429.place rw_ k ∧ Kp429.place rw_ k ≤ Kp429.highest s k := h.2 k _ (h.at_ hk)
theorem RowOk.set (h : RowOk s rw_) (hk : k ≤ s.factors) (h1 : Kp429.lowest s k ≤ x) (h2 : x ≤ Kp429.highest s k) : RowOk s (rw_.set k x) := by
  refine ⟨by rw [List.length_set]; exact h.1, fun j y hy => ?_⟩
  rw [List.getElem?_set] at hy
  by_cases e : k = j
  · subst e
    rw [if_pos rfl, if_pos (by rw [h.1]; omega)] at hy
    cases hy
    exact ⟨h1, h2⟩
  · rw [if_neg e] at hy
    exact h.2 j y hy
theorem OkP.allRows (h : OkP s p) (k : Nat) : ∀ row ∈ Gs.rowsK p k, RowOk s row := by
  unfold Gs.rowsK
  split
  · exact h.ru
  · exact h.ri
theorem OkP.lenK (h : OkP s p) (k : Nat) : (Gs.rowsK p k).length = Kp429.sizeOf s k := by
  unfold Gs.rowsK Kp429.sizeOf
  split
  · exact h.nu
  · exact h.ni
/-- the row is there -/
theorem OkP.rowAt (h : OkP s p) {n : Nat} (hn : n < Kp429.sizeOf s k) : (Gs.rowsK p k)[n]? = some (Kp429.rowOf p k n) ∧ RowOk s (Kp429.rowOf p k n) := by
  have hl : n < (Gs.rowsK p k).length := by rw [h.lenK]; exact hn
  have e : (Gs.rowsK p k)[n]? = some (Kp429.rowOf p k n) := by
    rw [rowOf_rowsK, List.getD_eq_getElem?_getD, List.getElem?_eq_getElem hl]
    rfl
  exact ⟨e, h.allRows k _ (List.mem_of_getElem? e)⟩
theorem OkP.both (h : OkP s p) (hv : Kp429.validSettings s = true) {u i : Nat} (hu : u < s.users) (hi : i < s.items) : Both p u i := by
  have h1 := h.rowAt (k := 0) (n := u) hu
  have h2 := h.rowAt (k := 1) (n := i) hi
  exact ⟨_, _, h1.1, h2.1, h1.2.good hv, h2.2.good hv⟩
/-! ### the quadratic -/
theorem products_comm : ∀ a b : List Int, (Kp429.products a b) = Kp429.products b a := by
  intro a b
  unfold Kp429.products
  generalize a.tail = a
  generalize b.tail = b
  induction a generalizing b with
  | nil => cases b <;> rfl
  | cons x a ih =>
    cases b with
    | nil => rfl
    | cons y b =>
      simp only [List.zip_cons_cons, List.map_cons, ih b, Int.mul_comm]
theorem quadF_fold (k : Nat) (x : Int) : ∀ (prs : List (List Int × Int)) (a b : Int), prs.foldl (quadF k x) (a, b) = (a + (prs.map fun pr => cfOf pr.1 k * cfOf pr.1 k).sum, b + (prs.map fun pr => cfOf pr.1 k * (pr.2 + cfOf pr.1 k * x)).sum)
  | [], a, b => by simp
  | pr :: r, a, b => by
    rw [List.foldl_cons]
    show r.foldl (quadF k x) (a + cfOf pr.1 k * cfOf pr.1 k, b + cfOf pr.1 k * (pr.2 + cfOf pr.1 k * x)) = _
    rw [quadF_fold k x r, List.map_cons, List.sum_cons, List.map_cons, List.sum_cons, Int.add_assoc, Int.add_assoc]
def otherOf (p : Parameters) (kd : Nat) (r : Rating) : List Int := Kp429.rowOf p (1 - kd) (if kd = 0 then r.item else r.user)
def prsOf (l : List Rating) (p : Parameters) (kd n : Nat) : List (List Int × Int) := (ofK l kd n).map fun r => (otherOf p kd r, Kp429.residual p r)
theorem quad_is {m : Kp429.Model} {kd n : Nat} (hk : kd ≤ 1) (k : Nat) :
    (prsOf m.ratings m.parameters kd n).foldl (quadF k (Kp429.place (Kp429.rowOf m.parameters kd n) k)) ((penOf m.settings k : Nat), 0) =
      ((Kp429.quadratic m.settings (Kp429.views m m.parameters kd n) (Kp429.rowOf m.parameters kd n) k).curvature, (Kp429.quadratic m.settings (Kp429.views m m.parameters kd n) (Kp429.rowOf m.parameters kd n) k).slope) := by
  rw [quadF_fold, prsOf, Kp429.quadratic]
  have hv : Kp429.views m m.parameters kd n = (ofK m.ratings kd n).map fun r => ⟨otherOf m.parameters kd r, Kp429.target r.value - m.parameters.base⟩ := rfl
  rw [hv, List.map_map, List.map_map, List.map_map, List.map_map]
  refine Prod.ext ?_ ?_
  · show _ + _ = _ + _
    rw [Int.add_comm]
    rfl
  · show 0 + _ = _
    rw [Int.zero_add]
    congr 1
    refine List.map_congr_left fun r hr => ?_
    have hr2 := (mem_ofK.mp hr).2
    show cfOf (otherOf m.parameters kd r) k * (Kp429.residual m.parameters r + cfOf (otherOf m.parameters kd r) k * Kp429.place (Kp429.rowOf m.parameters kd n) k) = cfOf (otherOf m.parameters kd r) k * (Kp429.target r.value - m.parameters.base - Kp429.place (otherOf m.parameters kd r) 0 - Kp429.place (Kp429.rowOf m.parameters kd n) 0 - (Kp429.products (Kp429.rowOf m.parameters kd n) (otherOf m.parameters kd r)).sum + Kp429.place (Kp429.rowOf m.parameters kd n) k * cfOf (otherOf m.parameters kd r) k)
    congr 1
    rw [Int.mul_comm (cfOf (otherOf m.parameters kd r) k)]
    congr 1
    unfold Kp429.residual Kp429.predict Kp429.predictRows otherOf
    match kd, hk with
    | 0, _ =>
      rw [if_pos rfl] at hr2
      rw [if_pos rfl, hr2]
      show _ = Kp429.target r.value - m.parameters.base - Kp429.place (Kp429.rowOf m.parameters 1 r.item) 0 - Kp429.place (Kp429.rowOf m.parameters 0 n) 0 - (Kp429.products (Kp429.rowOf m.parameters 0 n) (Kp429.rowOf m.parameters 1 r.item)).sum
      omega
    | 1, _ =>
      rw [if_neg (by decide)] at hr2
      rw [if_neg (by decide), hr2, products_comm (Kp429.rowOf m.parameters 1 n)]
      show _ = Kp429.target r.value - m.parameters.base - Kp429.place (Kp429.rowOf m.parameters 0 r.user) 0 - Kp429.place (Kp429.rowOf m.parameters 1 n) 0 - (Kp429.products (Kp429.rowOf m.parameters 0 r.user) (Kp429.rowOf m.parameters 1 n)).sum
      omega
theorem sum_le {α : Type} (f : α → Int) (B : Int) : ∀ l : List α, (∀ a ∈ l, 0 ≤ f a ∧ f a ≤ B) → 0 ≤ (l.map f).sum ∧ (l.map f).sum ≤ l.length * B
  | [], _ => by simp
  | a :: r, h => by
    have i := sum_le f B r fun b hb => h b (List.mem_cons_of_mem _ hb)
    have q := h a (List.mem_cons_self ..)
    rw [List.map_cons, List.sum_cons, List.length_cons, Int.natCast_add, Int.add_mul]
    omega
theorem sq_bnd {x : Int} (h1 : -4096 ≤ x) (h2 : x ≤ 4096) : 0 ≤ x * x ∧ x * x ≤ 16777216 := by
  have e : x * x = (x.natAbs : Int) * x.natAbs := by
    rw [← Int.natAbs_mul_self' x]
  have hb : x.natAbs ≤ 4096 := by omega
  have h3 : x.natAbs * x.natAbs ≤ 4096 * 4096 := Nat.mul_le_mul hb hb
  rw [e]
  refine ⟨by omega, ?_⟩
  have : ((x.natAbs * x.natAbs : Nat) : Int) ≤ (4096 * 4096 : Nat) := by exact_mod_cast h3
  omega
/-- the curvature fits a digit of 30 bits -/
theorem curv_bnd (hv : Kp429.validSettings s = true) {vs : List Kp429.View} (hl : vs.length ≤ 8) (hr : ∀ v ∈ vs, RowOk s v.other) (hk : k ≤ s.factors) (row : List Int) : 0 ≤ (Kp429.quadratic s vs row k).curvature ∧ 2 * (Kp429.quadratic s vs row k).curvature < 1073741824 := by
  have b := sum_le (fun v => Kp429.coefficient v k * Kp429.coefficient v k) 16777216 vs fun v hv' => by
    show 0 ≤ Kp429.coefficient v k * Kp429.coefficient v k ∧ _
    unfold Kp429.coefficient
    by_cases k0 : k = 0
    · rw [if_pos k0]; decide
    · rw [if_neg k0]
      have q := (hr v hv').bnd hk
      have := low_ge1 hv k0
      have := high_le1 hv k0
      exact sq_bnd (by omega) (by omega)
  have v := (valid_iff s).mp hv
  show 0 ≤ (vs.map fun v => Kp429.coefficient v k * Kp429.coefficient v k).sum + ((if k = 0 then s.biasPenalty else s.penalty : Nat) : Int) ∧ 2 * ((vs.map fun v => Kp429.coefficient v k * Kp429.coefficient v k).sum + ((if k = 0 then s.biasPenalty else s.penalty : Nat) : Int)) < 1073741824
  have h8 : (vs.length : Int) * 16777216 ≤ 134217728 := by omega
  split <;> omega
/-- the best value is within the bounds -/
theorem best_bnd (hv : Kp429.validSettings s = true) (q : Kp429.Quadratic) (h1 : Kp429.lowest s k ≤ x) (h2 : x ≤ Kp429.highest s k) : Kp429.lowest s k ≤ Kp429.bestValue s q k x ∧ Kp429.bestValue s q k x ≤ Kp429.highest s k := by
  unfold Kp429.bestValue Kp429.clamp
  split
  · exact ⟨h1, h2⟩
  · dsimp only
    split
    · exact ⟨h1, h2⟩
    · omega
end
end Gs
namespace Gs
open PySem PySem.Spec PyProof.Rows L2 Evl
/-! ### lists of new tuples -/
def TupsAt (H : Hp) (ts : List Addr) (zs : List (List V)) : Prop := Paired (fun t (z : List V) => H t = some (.tup z)) ts zs
def RetTs (zs : List (List V)) (H : Hp) (Q : VK) : Prop := ∀ (q : Addr) (ts : List Addr) H2, H q = none → Ex H H2 → H2 q = some (.lst (ts.map V.ref)) → TupsAt H2 ts zs → Q (.ref q) H2
def EvTs (te : TE) (σ : L2.St) (H : Hp) (zs : List (List V)) : Prop := ∀ H1, Ex H H1 → ∀ Q : VK, RetTs zs H1 Q → te σ H1 Q
section
variable {K : PySem.W.Frag} {H H' H1 : Hp} {Q : VK} {σ : L2.St} {te : TE} {zs : List (List V)}
theorem TupsAt.ex {ts : List Addr} (h : TupsAt H ts zs) (e : Ex H H') : TupsAt H' ts zs := paired_mono (fun _ _ h => e _ _ h) h
theorem TupsAt.kp {ts : List Addr} (h : TupsAt H ts zs) (e : ∀ b o, Kp o = true → H b = some o → H' b = some o) : TupsAt H' ts zs := paired_mono (fun _ _ h => e _ _ rfl h) h
theorem RetTs.ex (k : RetTs zs H Q) (e : Ex H H') : RetTs zs H' Q := fun q ts H2 hq e2 h2 ht => k q ts H2 (fresh_back e hq) (e.trans e2) h2 ht
theorem TupsAt.prs {ts : List Addr} {α : Type} {l : List α} {f g : α → Int} (h : TupsAt H ts (l.map fun a => [.int (f a), .int (g a)])) : PrsI H ts (l.map fun a => (f a, g a)) := by
  induction l generalizing ts with
  | nil => cases h; exact .nil
  | cons a r ih =>
    rw [List.map_cons] at h
    cases h with
    | cons h t => exact .cons h (ih t)
/-- a comprehension of new tuples whose contents are known -/
theorem lc_tups {J : It} {n : Nat} {G : Hp → Prop} {Y : Nat → Hp → V → Hp → Prop} (w : Walk J n G Y) {g : TG} {vs : List Nat} (hn : n < 100000) (hG : ∀ H2, Ex H1 H2 → G H2) (zs : List (List V)) (hz : zs.length = n)
    (hs : ∀ i x z H2 H3 (K1 : V → Hp → Prop), i < n → zs[i]? = some z → Ex H1 H2 → Y i H2 x H3 → (∀ t H6, Ex H2 H6 → H6 t = some (.tup z) → K1 (.ref t) H6) → g x (wipe σ vs) H3 fun σ2 H4 => wipe σ2 vs = wipe σ vs ∧ te σ2 H4 K1)
    (hd : ∀ (Dl : Addr) (ts : List Addr) H2, H1 Dl = none → Ex H1 H2 → H2 Dl = some (.lst (ts.map V.ref)) → TupsAt H2 ts zs → Q (.ref Dl) H2) :
    ∀ D, H1 D = none → ∃ W : Nat → Nat → Hp → Prop, (∃ m, W 0 m (upd H1 D (.lst []))) ∧ ∀ i m H, W i m H →
      (J.stop i H ∧ Q (.ref D) H) ∨ (J.go i H ∧ ∃ Nx : Hp → Prop, (∀ H', Nx H' → ∃ m', m' < m ∧ W (i + 1) m' H') ∧ ∀ x H', J.yld i H x H' → g x (wipe σ vs) H' fun σ2 H2 => wipe σ2 vs = wipe σ vs ∧ tYes σ2 H2 fun b H3 =>
        if b = true then te σ2 H3 fun y H4 => ∃ acc, H4 D = some (.lst acc) ∧ acc.length < sizeLine ∧ Nx (upd H4 D (.lst (acc ++ [y]))) else Nx H3) := by
  refine lc_run w hG (fun Dl i acc H => ∃ ts : List Addr, acc = ts.map V.ref ∧ TupsAt H ts (zs.take i)) (fun _ _ => ⟨[], rfl, .nil⟩) (fun Dl i x H2 H3 acc K1 K0 hD hi e1 ha hA y k1 _ => ?_) (fun Dl H2 acc hD e1 ha hA => ?_)
  · have hi2 : i < zs.length := by omega
    obtain ⟨ts, rfl, ht⟩ := hA
    refine hs i x zs[i] H2 H3 K1 hi (List.getElem?_eq_getElem hi2) e1 y fun t H6 e6 h6 => k1 _ H6 e6 (by
      have l1 := paired_len ht
      rw [List.length_take] at l1
      rw [List.length_map]
      omega) ⟨ts ++ [t], by rw [List.map_append]; rfl, ?_⟩
    have hne : ∀ b z, H6 b = some (.tup z) → upd H6 Dl (.lst (ts.map V.ref ++ [.ref t])) b = some (.tup z) := fun b z hb => by
      rw [upd_ne]
      · exact hb
      · intro e
        rw [e, e6 _ _ ha] at hb
        cases hb
    rw [List.take_add_one, List.getElem?_eq_getElem hi2]
    exact paired_snoc (paired_mono (fun b z hb => hne b z (e6 _ _ hb)) ht) (hne t _ h6)
  · obtain ⟨ts, rfl, ht⟩ := hA
    rw [List.take_of_length_le (Nat.le_of_eq hz)] at ht
    exact hd Dl ts H2 hD e1 ha ht
/-- a loop over such a list -/
theorem s_forTs {D : Ends} {tl : TE} {g : TG} {tu : TS} (h : EvTs tl σ H zs) (Pv : Addr → List Addr → Nat → L2.St → Hp → Prop) (h0 : ∀ q ts H1, H q = none → Ex H H1 → H1 q = some (.lst (ts.map V.ref)) → TupsAt H1 ts zs → Pv q ts 0 σ H1)
    (hl : ∀ q ts i σ' H', Pv q ts i σ' H' → H' q = some (.lst (ts.map V.ref)) ∧ TupsAt H' ts zs)
    (hs : ∀ q ts i t z σ' H', zs[i]? = some z → H' t = some (.tup z) → Pv q ts i σ' H' → g (.ref t) σ' H' fun σ2 H2 => tu { D with nx := Pv q ts (i + 1), ct := Pv q ts (i + 1), bk := D.nx } σ2 H2) (hd : ∀ q ts σ' H', Pv q ts zs.length σ' H' → D.nx σ' H') : tFor (iList K tl) g tu D σ H := by
  refine h H (Ex.refl H) _ fun q ts H1 hq e1 h1 ht => ⟨q, rfl, ⟨ts.map V.ref, sq_of h1⟩, ?_⟩
  have l1 : ts.length = zs.length := paired_len ht
  refine for_list (Pv q ts) (h0 q ts H1 hq e1 h1 ht) (fun i σ' H' _ p => sq_of (hl q ts i σ' H' p).1) (fun i x σ' H' hi p => ?_) (fun σ' H' p => hd q ts σ' H' (by rw [List.length_map, l1] at p; exact p))
  rw [List.getElem?_map, Option.map_eq_some_iff] at hi
  obtain ⟨t, ht0, rfl⟩ := hi
  obtain ⟨z, hz, htz⟩ := paired_at (hl q ts i σ' H' p).2 ht0
  exact hs q ts i t z σ' H' hz htz p
theorem q_forTs {D : Ends} {tl : TE} {g : TG} {tu tz : TS} (h : EvTs tl σ H zs) (Pv : Addr → List Addr → Nat → L2.St → Hp → Prop) (h0 : ∀ q ts H1, H q = none → Ex H H1 → H1 q = some (.lst (ts.map V.ref)) → TupsAt H1 ts zs → Pv q ts 0 σ H1)
    (hl : ∀ q ts i σ' H', Pv q ts i σ' H' → H' q = some (.lst (ts.map V.ref)) ∧ TupsAt H' ts zs)
    (hs : ∀ q ts i t z σ' H', zs[i]? = some z → H' t = some (.tup z) → Pv q ts i σ' H' → g (.ref t) σ' H' fun σ2 H2 => tu { D with nx := Pv q ts (i + 1), ct := Pv q ts (i + 1), bk := tz D } σ2 H2) (hd : ∀ q ts σ' H', Pv q ts zs.length σ' H' → tz D σ' H') : tSeq (tFor (iList K tl) g tu) tz D σ H :=
  s_forTs (D := { D with nx := tz D }) h Pv h0 hl hs hd
end
section
open Kp429 (Rating Settings Parameters)
variable {P : Program} {w : World} {K : PySem.W.Frag} {mg : Str → Option Value} {base : Heap} {vs : List V} {H H' : Hp} {Q : VK} {E : XK} {A : MA} {p : Parameters} {σ : L2.St} {ta tk tn tq : TE} {s : Settings} {rat : List KD} {rtr : List (List Int)} {rst : List (List Key × V)} {l : List Rating}
/-! ### cells -/
def cellV (r : Rating) : List V := [.int (r.user : Int), .int (r.item : Int)]
theorem natCast_pairwise {l : List Nat} (h : l.Pairwise (· < ·)) : (l.map fun (n : Nat) => (n : Int)).Pairwise (· ≤ ·) := by
  rw [List.pairwise_map]
  exact h.imp fun q => by omega
def sp_Model_cells (K : PySem.W.Frag) : Sp := fun vs H Q _ => ∃ (A : MA) (s : Settings) (p : Parameters) (rat : List KD) (rtr : List (List Int)) (rst : List (List Key × V)) (l : List Rating) (kd n : Nat), vs = [.ref A.mo, .int (kd : Int), .int (n : Int)] ∧ LowAt K H A s p rat rtr rst ∧ RatRel l rat rtr s.users s.items ∧ OkL s l ∧ kd ≤ 1 ∧ n < Kp429.sizeOf s kd ∧
  RetTs ((ofK l kd n).map cellV) H Q
theorem len_Model_cells (h : sp_Model_cells K vs H Q E) : vs.length = (["self", "kind", "number"] : List Str).length := by
  obtain ⟨_, _, _, _, _, _, _, _, _, rfl, _⟩ := h
  rfl
def t_Model_cells (K : PySem.W.Frag) : TS :=
  (tSeq (tIfS (tTest (tOp rEq (tVar 1) (tC (.int 0)))) (tRet (tLc (iList K (tCB rSortedD (tCons (tOp (rIxL K) (tFld K (tVar 0) "ratings") (tVar 2)) tNil))) (gName 4) tYes (tTup (tCons (tVar 2) (tCons (tVar 4) tNil))) [4])) tNext)
    (tRet (tLc (iList K (tOp (rIxL K) (tFld K (tVar 0) "raters") (tVar 2))) (gName 3) tYes (tTup (tCons (tVar 3) (tCons (tVar 2) tNil))) [3])))
theorem pure_Model_cells (T : Txt K mg) (h : sp_Model_cells K vs H Q E) : t_Model_cells K { nx := fun _ H' => Q .non H', rt := Q } (start N_Model_cells vs) H := by
  obtain ⟨A, s, p, rat, rtr, rst, l, kd, n, rfl, hL, hR, hO, hkd, hn, k⟩ := h
  refine q_when (et_test (ev_eqi (ev_var rfl) ev_c)) (fun hb H1 e1 => ?_) (fun hb H1 e1 => ?_)
  · have k0 : kd = 0 := by have := of_decide_eq_true hb; omega
    subst k0
    have hL1 := hL.ex e1
    have hnu : n < rat.length := by rw [hR.nu]; exact hn
    obtain ⟨d, hd, hdk⟩ := paired_at2 hL1.dr (List.getElem?_eq_getElem hnu)
    have D := hR.rat n _ (List.getElem?_eq_getElem hnu)
    obtain ⟨ks, hk1, hk2⟩ := keysInt (f := fun r : Rating => (r.item : Int)) D
    have hkl : ks.length ≤ 8 := by rw [hk2.length_eq, List.length_map]; exact hO.ofK_len 0 n
    refine run_ev (ev_ixL (ev_ratings T (ev_var rfl) hL1.prm) (ev_var rfl) (sq_of hL1.lr) (map_ref_at hd)) fun H2 e2 => ?_
    refine ⟨d, _, ks, rfl, .inl (e2 _ _ hdk), hk1, by omega, fun ys q hys hyo hq => ?_⟩
    have ey : ys = (ofK l 0 n).map fun r => (r.item : Int) := perm_sorted (hys.trans hk2) hyo (by
      have := natCast_pairwise (ofK0_inc hO.so n)
      rw [List.map_map] at this
      exact this)
    subst ey
    refine ⟨q, rfl, ⟨_, sq_of upd_same⟩, ?_⟩
    have e3 : Ex H1 (upd H2 q (.lst (((ofK l 0 n).map fun r => (r.item : Int)).map V.int))) := e2.trans (Ex.new hq)
    refine lc_tups (H1 := upd H2 q (.lst (((ofK l 0 n).map fun r => (r.item : Int)).map V.int))) (walk_list (xs := ((ofK l 0 n).map fun r => (r.item : Int)).map V.int)) (by rw [List.length_map, List.length_map]; have := hO.ofK_len 0 n; omega) (fun H4 e4 => sq_of (e4 _ _ upd_same)) ((ofK l 0 n).map cellV) (by simp) ?_ (fun Dl ts H4 hD e4 h4 ht => k Dl ts H4 (fresh_back (e1.trans e3) hD) ((e1.trans e3).trans e4) h4 ht)
    intro i x z H4 H5 K1 hi hz e4 y k1
    obtain ⟨rfl, hx⟩ := y
    rw [List.getElem?_map] at hz
    rw [List.getElem?_map, List.getElem?_map] at hx
    obtain ⟨r, hr, rfl⟩ := Option.map_eq_some_iff.mp hz
    rw [hr] at hx
    cases hx
    refine ⟨rfl, ?_⟩
    have ru : r.user = n := by
      have := (mem_ofK.mp (List.mem_of_getElem? hr)).2
      rw [if_pos rfl] at this
      exact this
    refine run_eu (eu_tup (ea_cons (ev_var rfl) (ea_cons (ev_var rfl) ea_nil)) (by simp)) fun t H6 _ e6 h6 => k1 t H6 e6 ?_
    rw [h6, ← ru]
    rfl
  · have k1 : kd = 1 := by have := of_decide_eq_false hb; omega
    subst k1
    have hL1 := hL.ex e1
    have hni : n < rtr.length := by rw [hR.ni]; exact hn
    obtain ⟨q, hq, hqx⟩ := paired_at2 hL1.qs (List.getElem?_eq_getElem hni)
    have D := hR.rtr n _ (List.getElem?_eq_getElem hni)
    rw [D] at hqx
    refine run_ev (ev_ixL (ev_raters T (ev_var rfl) hL1.prm) (ev_var rfl) (sq_of hL1.lq) (map_ref_at hq)) fun H2 e2 => ?_
    refine ⟨q, rfl, ⟨_, sq_of (e2 _ _ hqx)⟩, ?_⟩
    refine lc_tups (H1 := H2) (walk_list (xs := ((ofK l 1 n).map fun r => (r.user : Int)).map V.int)) (by rw [List.length_map, List.length_map]; have := hO.ofK_len 1 n; omega) (fun H4 e4 => sq_of (e4 _ _ (e2 _ _ hqx))) ((ofK l 1 n).map cellV) (by simp) ?_ (fun Dl ts H4 hD e4 h4 ht => k Dl ts H4 (fresh_back (e1.trans e2) hD) ((e1.trans e2).trans e4) h4 ht)
    intro i x z H4 H5 K1 hi hz e4 y k1
    obtain ⟨rfl, hx⟩ := y
    rw [List.getElem?_map] at hz
    rw [List.getElem?_map, List.getElem?_map] at hx
    obtain ⟨r, hr, rfl⟩ := Option.map_eq_some_iff.mp hz
    rw [hr] at hx
    cases hx
    refine ⟨rfl, ?_⟩
    have ru : r.item = n := by
      have := (mem_ofK.mp (List.mem_of_getElem? hr)).2
      rw [if_neg (by decide)] at this
      exact this
    refine run_eu (eu_tup (ea_cons (ev_var rfl) (ea_cons (ev_var rfl) ea_nil)) (by simp)) fun t H6 _ e6 h6 => k1 t H6 e6 ?_
    rw [h6, ← ru]
    rfl
theorem ok_Model_cells (T : Txt K mg) : Has P w K mg base 1 d_Model_cells.at_ ["self", "kind", "number"] (sp_Model_cells K) := by
  refine Has.of (d := d_Model_cells) T 26 rfl ⟨rfl, rfl⟩ sc_Model_cells (fun _ _ _ _ _ _ us hl => match us, hl with | [_, _, _], _ => rfl) (fun vs H Q E h => len_Model_cells h) fun cdv A outer s H vs Q E hr h => ⟨t_Model_cells K, ?_, pure_Model_cells T h⟩
  exact (pss_cons (ps_if (pt_cmpR op_eq (pv 1) pe_int (nomark _)) (pss_one (ps_ret (pe_lc (own := [("item", 4)]) (g := (gName 4)) (tt := tYes) rfl sc_Model_cells.nd (pi_list (pe_callB (cl_sortedD rfl) (by rfl) T.f_sorted (by decide +kernel) (pa_cons (pe_ix ix_list (pe_fld (pv 0) rfl) (pv 2) (fun _ _ => rfl)) pa_nil))) (blkOk_by (own := [("item", 4)]) (N := N_Model_cells) (sc := defScope s_Model_cells) (by decide +kernel)) (fun _ _ _ _ _ => (pg_name (i := 4) sc_Model_cells.nd rfl (Or.inl rfl))) (fun _ _ _ _ _ => pts_nil) (fun _ _ _ _ _ => (pe_tup (pa_cons (pv 2) (pa_cons (pv 4) pa_nil))))))) pss_nil)
    (pss_one (ps_ret (pe_lc (own := [("user", 3)]) (g := (gName 3)) (tt := tYes) rfl sc_Model_cells.nd (pi_list (pe_ix ix_list (pe_fld (pv 0) rfl) (pv 2) (fun _ _ => rfl))) (blkOk_by (own := [("user", 3)]) (N := N_Model_cells) (sc := defScope s_Model_cells) (by decide +kernel)) (fun _ _ _ _ _ => (pg_name (i := 3) sc_Model_cells.nd rfl (Or.inl rfl))) (fun _ _ _ _ _ => pts_nil) (fun _ _ _ _ _ => (pe_tup (pa_cons (pv 3) (pa_cons (pv 2) pa_nil))))))))
theorem et_cells {kd n : Nat} (ha : Ev ta σ H (.ref A.mo)) (hL : LowAt K H A s p rat rtr rst) (hR : RatRel l rat rtr s.users s.items) (hO : OkL s l) (hk : Ev tk σ H (.int (kd : Int))) (hn : Ev tn σ H (.int (n : Int))) (h1 : kd ≤ 1) (h2 : n < Kp429.sizeOf s kd) :
    EvTs (tMeth (He.ga K "Model") "cells" (sp_Model_cells K) [] E0 ta (tCons tk (tCons tn tNil))) σ H ((ofK l kd n).map cellV) := fun H1 e Q q =>
  ha H1 e _ fun H2 e2 => ⟨_, _, _, rfl, (e.trans e2) _ _ hL.prm.obj, rfl, (ea_cons hk (ea_cons hn ea_nil)) H2 (e.trans e2) _ fun H3 e3 =>
    ⟨A, s, p, rat, rtr, rst, l, kd, n, rfl, hL.ex ((e.trans e2).trans e3), hR, hO, h1, h2, q.ex (e2.trans e3)⟩⟩
end
end Gs
namespace Gs
open PySem PySem.Spec PyProof.Rows L2 Evl
section
open Kp429 (Rating Settings Parameters)
variable {P : Program} {w : World} {K : PySem.W.Frag} {mg : Str → Option Value} {base : Heap} {vs : List V} {H H' : Hp} {Q : VK} {E : XK} {A : MA} {p : Parameters} {σ : L2.St} {ta tk tn tq td ty : TE} {s : Settings} {rat : List KD} {rtr : List (List Int)} {rst : List (List Key × V)} {l : List Rating} {m : Kp429.Model}
/-- the model at A, between the calls -/
def MAt (K : PySem.W.Frag) (H : Hp) (A : MA) (m : Kp429.Model) : Prop := Ok m ∧ ∃ rat rtr rst, LowAt K H A m.settings m.parameters rat rtr rst ∧ RatRel m.ratings rat rtr m.settings.users m.settings.items ∧ RstOf rst m.ratings (Kp429.residual m.parameters)
theorem MAt.ex (h : MAt K H A m) (e : Ex H H') : MAt K H' A m := by
  obtain ⟨o, rat, rtr, rst, h1, h2, h3⟩ := h
  exact ⟨o, rat, rtr, rst, h1.ex e, h2, h3⟩
theorem MAt.prm (h : MAt K H A m) : PrmAt K H A m.parameters := by
  obtain ⟨o, rat, rtr, rst, h1, h2, h3⟩ := h
  exact h1.prm
theorem MAt.set (h : MAt K H A m) : SetAt K H A.st m.settings := by
  obtain ⟨o, rat, rtr, rst, h1, h2, h3⟩ := h
  exact h1.set
theorem ev_dgetT {a : Addr} {kvs : List (List Key × V)} {k : List Key} {v : V} (hd : Ev td σ H (.ref a)) (hk : EvU ty σ H (k.map kV)) (h : Rd H a (.dT kvs)) (hv : valV kvs k = some v) : Ev (tDGet td ty) σ H v := fun H1 e Q q =>
  hd H1 e _ fun H2 e2 => hk H2 (e.trans e2) _ fun b H3 _ e3 hb => ⟨a, v, rfl, .inr ⟨kvs, k, b, ex_rd ((e.trans e2).trans e3) h, rfl, hb, hv.symm⟩, q H3 (e2.trans e3)⟩
theorem rowAddr {k n : Nat} (hP : PrmAt K H A p) (ho : OkP s p) (hn : n < Kp429.sizeOf s k) : ∃ w, (A.wK k)[n]? = some w ∧ H w = some (.lst ((Kp429.rowOf p k n).map V.int)) ∧ RowOk s (Kp429.rowOf p k n) := by
  obtain ⟨h1, h2⟩ := ho.rowAt hn
  obtain ⟨w, h3, h4⟩ := paired_at2 (hP.rK k) h1
  exact ⟨w, h3, h4, h2⟩
theorem eu_quadratic_of {t1 t2 t3 t4 : TE} {a : Addr} {ts : List Addr} {prs : List (List Int × Int)} {k : Nat} {x pen : Int} (h1 : Ev t1 σ H (.ref a)) (h2 : Ev t2 σ H (.int (k : Int))) (h3 : Ev t3 σ H (.int x)) (h4 : Ev t4 σ H (.int pen))
    (ha : H a = some (.lst (ts.map V.ref))) (hp : Prs H ts prs) (hb : ∀ pr ∈ prs, k < pr.1.length ∧ Sm (cfOf pr.1 k)) :
    EvU (tCall (sp_quadratic_of K) [] E0 (tCons t1 (tCons t2 (tCons t3 (tCons t4 tNil))))) σ H [.int (prs.foldl (quadF k x) (pen, 0)).1, .int (prs.foldl (quadF k x) (pen, 0)).2] :=
  eu_call (ea_cons h1 (ea_cons h2 (ea_cons h3 (ea_cons h4 ea_nil)))) fun H1 e Q q E => ⟨a, ts, prs, k, x, pen, rfl, sq_of (e _ _ ha), hp.ex e, hb, q⟩
theorem row_coef {row : List Int} {k : Nat} (hv : Kp429.validSettings s = true) (h : RowOk s row) (hk : k ≤ s.factors) : k < row.length ∧ Sm (cfOf row k) := by
  refine ⟨by rw [h.1]; omega, ?_⟩
  unfold cfOf
  split
  · exact ⟨by decide, by decide⟩
  · have b := h.bnd hk
    have := low_ge hv k
    have := high_le hv k
    unfold Kp429.place at b
    exact ⟨by omega, by omega⟩
def qOf (m : Kp429.Model) (kd n k : Nat) : Kp429.Quadratic := Kp429.quadratic m.settings (Kp429.views m m.parameters kd n) (Kp429.rowOf m.parameters kd n) k
theorem other_ok {kd n : Nat} (ho : Ok m) (hk : kd ≤ 1) {r : Rating} (hr : r ∈ ofK m.ratings kd n) : RowOk m.settings (otherOf m.parameters kd r) := by
  have b := ho.l.rb r (mem_ofK.mp hr).1
  unfold otherOf
  match kd, hk with
  | 0, _ => exact (ho.p.rowAt (k := 1) (n := r.item) b.2.1).2
  | 1, _ => exact (ho.p.rowAt (k := 0) (n := r.user) b.1).2
theorem q_bnd {kd n k : Nat} (ho : Ok m) (hkd : kd ≤ 1) (hk : k ≤ m.settings.factors) : 0 ≤ (qOf m kd n k).curvature ∧ 2 * (qOf m kd n k).curvature < 1073741824 := by
  refine curv_bnd ho.l.vs ?_ (fun v hv => ?_) hk _
  · show (((ofK m.ratings kd n)).map _).length ≤ 8
    rw [List.length_map]
    exact ho.l.ofK_len kd n
  · have hv : v ∈ (ofK m.ratings kd n).map fun r => (⟨otherOf m.parameters kd r, Kp429.target r.value - m.parameters.base⟩ : Kp429.View) := hv
    obtain ⟨r, hr, rfl⟩ := List.mem_map.mp hv
    exact other_ok ho hkd hr
def sp_Model_quadratic (K : PySem.W.Frag) : Sp := fun vs H Q _ => ∃ (A : MA) (m : Kp429.Model) (kd n k : Nat), vs = [.ref A.mo, .int (kd : Int), .int (n : Int), .int (k : Int)] ∧ MAt K H A m ∧ kd ≤ 1 ∧ n < Kp429.sizeOf m.settings kd ∧ k ≤ m.settings.factors ∧
  RetU [.int (qOf m kd n k).curvature, .int (qOf m kd n k).slope] H Q
theorem len_Model_quadratic (h : sp_Model_quadratic K vs H Q E) : vs.length = (["self", "kind", "number", "place"] : List Str).length := by
  obtain ⟨_, _, _, _, _, rfl, _⟩ := h
  rfl
def t_Model_quadratic (K : PySem.W.Frag) : TS :=
  (tSeq (tAsg (tLst tNil) (gName 4))
    (tSeq (tFor (iList K (tMeth (He.ga K "Model") "cells" (sp_Model_cells K) [] E0 (tVar 0) (tCons (tVar 1) (tCons (tVar 2) tNil)))) (gTup K 2 (gCons (gName 5) (gCons (gName 6) gNil))) (tSeq (tAsg (tIf (tTest (tOp rEq (tVar 1) (tC (.int 0)))) (tOp (rIxL K) (tOp (rIxL K) (tFld K (tVar 0) "rows") (tC (.int 1))) (tVar 6)) (tOp (rIxL K) (tOp (rIxL K) (tFld K (tVar 0) "rows") (tC (.int 0))) (tVar 5))) (gName 7))
    (tDrop (tBM K "list" rAppend (tVar 4) (tCons (tTup (tCons (tVar 7) (tCons (tDGet (tFld K (tVar 0) "rests") (tTup (tCons (tVar 5) (tCons (tVar 6) tNil)))) tNil))) tNil)))))
    (tRet (tCall (sp_quadratic_of K) [] E0 (tCons (tVar 4) (tCons (tVar 3) (tCons (tOp (rIxL K) (tOp (rIxL K) (tOp (rIxL K) (tFld K (tVar 0) "rows") (tVar 1)) (tVar 2)) (tVar 3)) (tCons (tMeth (He.ga K "Settings") "penalty" (sp_Settings_penalty K) [] E0 (tFld K (tVar 0) "settings") (tCons (tVar 3) tNil)) tNil))))))))
theorem pure_Model_quadratic (T : Txt K mg) (h : sp_Model_quadratic K vs H Q E) : t_Model_quadratic K { nx := fun _ H' => Q .non H', rt := Q } (start N_Model_quadratic vs) H := by
  obtain ⟨A, m, kd, n, k, rfl, ⟨ho, rat, rtr, rst, hL, hR, hS⟩, hkd, hn, hk, kk⟩ := h
  refine q_asgL (el_lst ea_nil (by simp)) fun d H1 hd e1 h1 => ?_
  have hL1 := hL.ex e1
  refine q_forTs (et_cells (kd := kd) (n := n) (ev_var rfl) hL1 hR ho.l (ev_var rfl) (ev_var rfl) hkd hn) (fun q ts i σ H' => Ex H H' ∧ H' q = some (.lst (ts.map V.ref)) ∧ TupsAt H' ts ((ofK m.ratings kd n).map cellV) ∧ q ≠ d ∧ ∃ (us : List Addr) (v5 v6 v7 : Option V), H' d = some (.lst (us.map V.ref)) ∧
      Paired (fun t (pr : List Int × Int) => ∃ r : Addr, H' t = some (.tup [.ref r, .int pr.2]) ∧ H r = some (.lst (pr.1.map V.int))) us ((prsOf m.ratings m.parameters kd n).take i) ∧ σ = [some (.ref A.mo), some (.int (kd : Int)), some (.int (n : Int)), some (.int (k : Int)), some (.ref d), v5, v6, v7])
    (fun q ts H2 hq e2 h2 ht => ⟨e1.trans e2, h2, ht, (fun e => by rw [e, h1] at hq; cases hq), [], none, none, none, e2 _ _ h1, .nil, rfl⟩) (fun q ts i σ' H' p => ⟨p.2.1, p.2.2.1⟩) (fun q ts i t z σ' H' hz htz p => ?_) (fun q ts σ' H' p => ?_)
  · obtain ⟨e', hq, hts, hqd, us, v5, v6, v7, hd', hus, rfl⟩ := p
    rw [List.getElem?_map] at hz
    obtain ⟨r, hr, rfl⟩ := Option.map_eq_some_iff.mp hz
    have hrm := List.mem_of_getElem? hr
    have hrl := (mem_ofK.mp hrm).1
    have hrb := ho.l.rb r hrl
    refine g_unp2 (st_of htz) ?_
    have hP := hL.prm.ex e'
    obtain ⟨w, hw, hwx⟩ : ∃ w, H w = some (.lst ((otherOf m.parameters kd r).map V.int)) ∧ (if kd = 0 then (A.wK 1)[r.item]? else (A.wK 0)[r.user]?) = some w := by
      match kd, hkd with
      | 0, _ =>
        obtain ⟨w, h1, h2, _⟩ := rowAddr (k := 1) hL.prm ho.p hrb.2.1
        exact ⟨w, h2, h1⟩
      | 1, _ =>
        obtain ⟨w, h1, h2, _⟩ := rowAddr (k := 0) hL.prm ho.p hrb.1
        exact ⟨w, h2, h1⟩
    refine q_asg (v := .ref w) (ev_if (et_test (ev_eqi (ev_var rfl) ev_c)) (fun hb => ?_) (fun hb => ?_)) fun H2 e2 => ?_
    · have k0 : kd = 0 := by have := of_decide_eq_true hb; omega
      rw [if_pos k0] at hwx
      exact ev_row (A := A) (p := m.parameters) T (k := 1) (n := r.item) (ev_var rfl) hP ev_c (Nat.le_refl _) (ev_var rfl) hwx
    · have k0 : ¬ kd = 0 := by have := of_decide_eq_false hb; omega
      rw [if_neg k0] at hwx
      exact ev_row (A := A) (p := m.parameters) T (k := 0) (n := r.user) (ev_var rfl) hP ev_c (Nat.zero_le _) (ev_var rfl) hwx
    have hrs : valV rst (keyR r) = some (.int (Kp429.residual m.parameters r)) := DictOf.get hS (keyR_nodup ho.l.so) hrl
    refine s_appU (e2 _ _ hd') (ev_var rfl) (eu_tup (ea_cons (ev_var rfl) (ea_cons (ev_dgetT (k := keyR r) (ev_rests T (ev_var rfl) (hP.ex e2)) (eu_tup (ea_cons (ev_var rfl) (ea_cons (ev_var rfl) ea_nil)) (by simp [keyR])) (.inl (e2 _ _ (e' _ _ hL.rs))) hrs) ea_nil)) (by simp)) ?_ fun t2 H3 ht2 e3 h3 => ?_
    · have l1 := paired_len hus
      rw [List.length_take, prsOf, List.length_map] at l1
      have := ho.l.ofK_len kd n
      rw [List.length_map]
      omega
    · have hdn : ∀ b o, H3 b = some o → b ≠ d → upd H3 d (.lst (us.map V.ref ++ [.ref t2])) b = some o := fun b o hb ne => by
        rw [upd_ne ne]
        exact hb
      have e23 := e2.trans e3
      have tupd : ∀ b z, H3 b = some (.tup z) → b ≠ d := fun b z hb e => by
        rw [e, e23 _ _ hd'] at hb
        cases hb
      have rowd : ∀ b o, H b = some o → b ≠ d := fun b o hb e => by
        rw [e, hd] at hb
        cases hb
      refine ⟨Ex.mut (e'.trans e23) hd, hdn _ _ (e23 _ _ hq) hqd, paired_mono (fun b z hb => hdn _ _ (e23 _ _ hb) (tupd _ _ (e23 _ _ hb))) hts, hqd, us ++ [t2], _, _, _, ?_, ?_, rfl⟩
      · rw [upd_same, List.map_append]
        rfl
      · have hpi : (prsOf m.ratings m.parameters kd n)[i]? = some (otherOf m.parameters kd r, Kp429.residual m.parameters r) := by
          rw [prsOf, List.getElem?_map, hr]
          rfl
        rw [List.take_add_one, hpi]
        exact paired_snoc (paired_mono (fun t pr ⟨a, g1, g2⟩ => ⟨a, hdn _ _ (e23 _ _ g1) (tupd _ _ (e23 _ _ g1)), g2⟩) hus) ⟨w, hdn _ _ h3 (tupd _ _ h3), hw⟩
  · obtain ⟨e', hq, hts, hqd, us, v5, v6, v7, hd', hus, rfl⟩ := p
    have hP := hL.prm.ex e'
    obtain ⟨w, hw, hwx, hwr⟩ := rowAddr hP ho.p hn
    rw [List.length_map, List.take_of_length_le (Nat.le_of_eq (by rw [prsOf, List.length_map]))] at hus
    have hus : Prs H' us (prsOf m.ratings m.parameters kd n) := paired_mono (fun t pr ⟨a, g1, g2⟩ => ⟨a, g1, e' _ _ g2⟩) hus
    have q := quad_is (m := m) (n := n) hkd k
    refine s_retU (xs := [.int (qOf m kd n k).curvature, .int (qOf m kd n k).slope]) ?_ fun p H2 hp e2 h2 => kk p H2 (fresh_back e' hp) (e'.trans e2) h2
    have r := eu_quadratic_of (K := K) (σ := [some (.ref A.mo), some (.int (kd : Int)), some (.int (n : Int)), some (.int (k : Int)), some (.ref d), v5, v6, v7]) (k := k) (ev_var (i := 4) rfl) (ev_var (i := 3) rfl) (ev_cell (A := A) (p := m.parameters) T (k := kd) (n := n) (q := k) (ta := tVar 0) (tk := tVar 1) (tn := tVar 2) (tq := tVar 3) (ev_var rfl) hP (ev_var rfl) hkd (ev_var rfl) hw (ev_var rfl) hwx (hwr.at_ hk)) (ev_penalty T (ta := tFld K (tVar 0) "settings") (tk := tVar 3) (ev_settings T (ev_var rfl) hP) (hL.set.ex e') (ev_var rfl)) hd' hus (fun pr hpr => by
      obtain ⟨r, hr, rfl⟩ := List.mem_map.mp hpr
      exact row_coef ho.l.vs (other_ok ho hkd hr) hk)
    rw [q] at r
    exact r
theorem ok_Model_quadratic (T : Txt K mg) : Has P w K mg base 2 d_Model_quadratic.at_ ["self", "kind", "number", "place"] (sp_Model_quadratic K) := by
  refine Has.of (d := d_Model_quadratic) T 27 rfl ⟨rfl, rfl⟩ sc_Model_quadratic (fun _ _ _ _ _ _ us hl => match us, hl with | [_, _, _, _], _ => rfl) (fun vs H Q E h => len_Model_quadratic h) fun cdv A outer s H vs Q E hr h => ⟨t_Model_quadratic K, ?_, pure_Model_quadratic T h⟩
  exact (pss_cons (ps_set (i := 4) sc_Model_quadratic.nd rfl (Or.inl rfl) (pe_lst pa_nil))
    (pss_cons (ps_for PassesOwn.never rfl (pi_list (pe_methH (pv 0) T.c_Model T.m_Model_cells (ok_Model_cells T) (hr.mono (by decide)) (pa_cons (pv 1) (pa_cons (pv 2) pa_nil)))) (pg_tup rfl (pgs_cons (pg_name (i := 5) sc_Model_quadratic.nd rfl (Or.inl rfl)) (pgs_cons (pg_name (i := 6) sc_Model_quadratic.nd rfl (Or.inl rfl)) pgs_nil))) (pss_cons (ps_set (i := 7) sc_Model_quadratic.nd rfl (Or.inl rfl) (pe_ifExp (pt_cmpR op_eq (pv 1) pe_int (nomark _)) (pe_ix ix_list (pe_ix ix_list (pe_fld (pv 0) rfl) pe_int (fun _ _ => rfl)) (pv 6) (fun _ _ => rfl)) (pe_ix ix_list (pe_ix ix_list (pe_fld (pv 0) rfl) pe_int (fun _ _ => rfl)) (pv 5) (fun _ _ => rfl))))
    (pss_one (ps_expr (pe_bm PySem.F.plainAttrs_list PySem.F.slot_list_append PySem.F.type_list_append mt_append (pv 4) (pa_cons (pe_tup (pa_cons (pv 7) (pa_cons (pe_dget (hu_of hr) (pe_fld (pv 0) rfl) (pe_tup (pa_cons (pv 5) (pa_cons (pv 6) pa_nil))) (fun _ _ => rfl)) pa_nil))) pa_nil))))))
    (pss_one (ps_ret (pe_callH (ok_quadratic_of T) (hr.mono (by decide)) rfl T.g_quadratic_of (pa_cons (pv 4) (pa_cons (pv 3) (pa_cons (pe_ix ix_list (pe_ix ix_list (pe_ix ix_list (pe_fld (pv 0) rfl) (pv 1) (fun _ _ => rfl)) (pv 2) (fun _ _ => rfl)) (pv 3) (fun _ _ => rfl)) (pa_cons (pe_methH (pe_fld (pv 0) rfl) T.c_Settings T.m_Settings_penalty (ok_Settings_penalty T) (hr.mono (by decide)) (pa_cons (pv 3) pa_nil)) pa_nil)))))))))
theorem eu_quadratic {kd n k : Nat} (ha : Ev ta σ H (.ref A.mo)) (hM : MAt K H A m) (h1 : Ev tk σ H (.int (kd : Int))) (h2 : Ev tn σ H (.int (n : Int))) (h3 : Ev tq σ H (.int (k : Int))) (hkd : kd ≤ 1) (hn : n < Kp429.sizeOf m.settings kd) (hk : k ≤ m.settings.factors) :
    EvU (tMeth (He.ga K "Model") "quadratic" (sp_Model_quadratic K) [] E0 ta (tCons tk (tCons tn (tCons tq tNil)))) σ H [.int (qOf m kd n k).curvature, .int (qOf m kd n k).slope] :=
  eu_meth ha hM.prm.obj rfl (ea_cons h1 (ea_cons h2 (ea_cons h3 ea_nil))) fun H1 e Q q E => ⟨A, m, kd, n, k, rfl, hM.ex e, hkd, hn, hk, q⟩
/-! ### better -/
def betterV (m : Kp429.Model) (kd n k : Nat) : Int := Kp429.bestValue m.settings (qOf m kd n k) k (Kp429.place (Kp429.rowOf m.parameters kd n) k)
def sp_Model_better (K : PySem.W.Frag) : Sp := fun vs H Q _ => ∃ (A : MA) (m : Kp429.Model) (kd n k : Nat), vs = [.ref A.mo, .int (kd : Int), .int (n : Int), .int (k : Int)] ∧ MAt K H A m ∧ kd ≤ 1 ∧ n < Kp429.sizeOf m.settings kd ∧ k ≤ m.settings.factors ∧
  RetV (.int (betterV m kd n k)) H Q
theorem len_Model_better (h : sp_Model_better K vs H Q E) : vs.length = (["self", "kind", "number", "place"] : List Str).length := by
  obtain ⟨_, _, _, _, _, rfl, _⟩ := h
  rfl
def t_Model_better (K : PySem.W.Frag) : TS :=
  (tSeq (tAsg (tOp (rIxL K) (tOp (rIxL K) (tOp (rIxL K) (tFld K (tVar 0) "rows") (tVar 1)) (tVar 2)) (tVar 3)) (gName 4))
    (tRet (tCall (sp_best_value K) [] E0 (tCons (tVar 4) (tCons (tMeth (He.ga K "Model") "quadratic" (sp_Model_quadratic K) [] E0 (tVar 0) (tCons (tVar 1) (tCons (tVar 2) (tCons (tVar 3) tNil)))) (tCons (tMeth (He.ga K "Settings") "bounds" (sp_Settings_bounds K) [] E0 (tFld K (tVar 0) "settings") (tCons (tVar 3) tNil)) tNil))))))
theorem sm_of {x : Int} (h1 : -655360 ≤ x) (h2 : x ≤ 655360) : Sm x := ⟨by omega, by omega⟩
theorem pure_Model_better (T : Txt K mg) (h : sp_Model_better K vs H Q E) : t_Model_better K { nx := fun _ H' => Q .non H', rt := Q } (start N_Model_better vs) H := by
  obtain ⟨A, m, kd, n, k, rfl, hM, hkd, hn, hk, kk⟩ := h
  have ho := hM.1
  obtain ⟨w, hw, hwx, hwr⟩ := rowAddr hM.prm ho.p hn
  refine q_asg (ev_cell (A := A) (p := m.parameters) T (k := kd) (n := n) (q := k) (ev_var rfl) hM.prm (ev_var rfl) hkd (ev_var rfl) hw (ev_var rfl) hwx (hwr.at_ hk)) fun H1 e1 => ?_
  have hM1 := hM.ex e1
  have qb := q_bnd (n := n) ho hkd hk
  have lo := low_ge ho.l.vs k
  have hi := high_le ho.l.vs k
  have rb := hwr.bnd hk
  refine s_ret (v := .int (betterV m kd n k)) (ev_best_value (ev_var rfl) (eu_quadratic (A := A) (m := m) (ev_var rfl) hM1 (ev_var rfl) (ev_var rfl) (ev_var rfl) hkd hn hk) (eu_bounds T (ev_settings T (ev_var rfl) hM1.prm) hM1.set (ev_var rfl)) qb.1 qb.2 (sm_of (by omega) (by omega)) (sm_of (by omega) (by omega)) (sm_of (by omega) (by omega))) (retv_is kk e1 rfl)
theorem ok_Model_better (T : Txt K mg) : Has P w K mg base 3 d_Model_better.at_ ["self", "kind", "number", "place"] (sp_Model_better K) := by
  refine Has.of (d := d_Model_better) T 28 rfl ⟨rfl, rfl⟩ sc_Model_better (fun _ _ _ _ _ _ us hl => match us, hl with | [_, _, _, _], _ => rfl) (fun vs H Q E h => len_Model_better h) fun cdv A outer s H vs Q E hr h => ⟨t_Model_better K, ?_, pure_Model_better T h⟩
  exact (pss_cons (ps_set (i := 4) sc_Model_better.nd rfl (Or.inl rfl) (pe_ix ix_list (pe_ix ix_list (pe_ix ix_list (pe_fld (pv 0) rfl) (pv 1) (fun _ _ => rfl)) (pv 2) (fun _ _ => rfl)) (pv 3) (fun _ _ => rfl)))
    (pss_one (ps_ret (pe_callH (ok_best_value T) (hr.mono (by decide)) rfl T.g_best_value (pa_cons (pv 4) (pa_cons (pe_methH (pv 0) T.c_Model T.m_Model_quadratic (ok_Model_quadratic T) (hr.mono (by decide)) (pa_cons (pv 1) (pa_cons (pv 2) (pa_cons (pv 3) pa_nil)))) (pa_cons (pe_methH (pe_fld (pv 0) rfl) T.c_Settings T.m_Settings_bounds (ok_Settings_bounds T) (hr.mono (by decide)) (pa_cons (pv 3) pa_nil)) pa_nil)))))))
theorem ev_better {kd n k : Nat} (ha : Ev ta σ H (.ref A.mo)) (hM : MAt K H A m) (h1 : Ev tk σ H (.int (kd : Int))) (h2 : Ev tn σ H (.int (n : Int))) (h3 : Ev tq σ H (.int (k : Int))) (hkd : kd ≤ 1) (hn : n < Kp429.sizeOf m.settings kd) (hk : k ≤ m.settings.factors) :
    Ev (tMeth (He.ga K "Model") "better" (sp_Model_better K) [] E0 ta (tCons tk (tCons tn (tCons tq tNil)))) σ H (.int (betterV m kd n k)) :=
  ev_meth ha hM.prm.obj rfl (ea_cons h1 (ea_cons h2 (ea_cons h3 ea_nil))) fun H1 e Q q E => ⟨A, m, kd, n, k, rfl, hM.ex e, hkd, hn, hk, q⟩
end
end Gs
namespace Gs
open PySem PySem.Spec PyProof.Rows L2 Evl
section
open Kp429 (Rating Settings Parameters)
variable {P : Program} {w : World} {K : PySem.W.Frag} {mg : Str → Option Value} {base : Heap} {vs : List V} {H H' : Hp} {Q : VK} {E : XK} {A : MA} {p : Parameters} {σ : L2.St} {ta tk tn tq td ty : TE} {s : Settings} {rat : List KD} {rtr : List (List Int)} {rst : List (List Key × V)} {l : List Rating} {m : Kp429.Model}
/-! ### rows set -/
theorem rowsK_set_eq (p : Parameters) (kd n : Nat) (row : List Int) : rowsK (Kp429.setRow p kd n row) kd = (rowsK p kd).set n row := by
  unfold rowsK Kp429.setRow
  by_cases h : kd = 0
  · rw [if_pos h, if_pos h, if_pos h]
  · rw [if_neg h, if_neg h, if_neg h]
theorem rowsK_set_ne (p : Parameters) {kd kd' : Nat} (h1 : kd ≤ 1) (h2 : kd' ≤ 1) (h : kd' ≠ kd) (n : Nat) (row : List Int) : rowsK (Kp429.setRow p kd n row) kd' = rowsK p kd' := by
  unfold rowsK Kp429.setRow
  by_cases e : kd = 0
  · rw [if_pos e, if_neg (by omega), if_neg (by omega)]
  · rw [if_neg e, if_pos (by omega), if_pos (by omega)]
theorem rowOf_set_eq {p : Parameters} {kd n : Nat} {row : List Int} (hn : n < (rowsK p kd).length) : Kp429.rowOf (Kp429.setRow p kd n row) kd n = row := by
  rw [rowOf_rowsK, rowsK_set_eq, List.getD_eq_getElem?_getD, List.getElem?_set_self hn]
  rfl
theorem rowOf_set_ne {p : Parameters} {kd n kd' n' : Nat} {row : List Int} (h1 : kd ≤ 1) (h2 : kd' ≤ 1) (h : ¬ (kd' = kd ∧ n' = n)) : Kp429.rowOf (Kp429.setRow p kd n row) kd' n' = Kp429.rowOf p kd' n' := by
  rw [rowOf_rowsK, rowOf_rowsK]
  by_cases e : kd' = kd
  · subst e
    rw [rowsK_set_eq, List.getD_eq_getElem?_getD, List.getElem?_set_ne (fun q => h ⟨rfl, q.symm⟩), List.getD_eq_getElem?_getD]
  · rw [rowsK_set_ne p h1 h2 e]
theorem base_set (p : Parameters) (kd n : Nat) (row : List Int) : (Kp429.setRow p kd n row).base = p.base := by
  unfold Kp429.setRow
  split <;> rfl
theorem OkP.setRow (h : OkP s p) {kd n : Nat} {row : List Int} (hr : RowOk s row) : OkP s (Kp429.setRow p kd n row) := by
  unfold Kp429.setRow
  split
  · refine ⟨h.b0, by rw [List.length_set]; exact h.nu, h.ni, fun r hr' => ?_, h.ri⟩
    rcases List.mem_or_eq_of_mem_set hr' with q | q
    · exact h.ru r q
    · rw [q]; exact hr
  · refine ⟨h.b0, h.nu, by rw [List.length_set]; exact h.ni, h.ru, fun r hr' => ?_⟩
    rcases List.mem_or_eq_of_mem_set hr' with q | q
    · exact h.ri r q
    · rw [q]; exact hr
theorem residual_set {kd n : Nat} {row : List Int} (hk : kd ≤ 1) {r : Rating} (hr : ¬ (if kd = 0 then r.user else r.item) = n) : Kp429.residual (Kp429.setRow p kd n row) r = Kp429.residual p r := by
  unfold Kp429.residual Kp429.predict
  rw [base_set, rowOf_set_ne hk (by omega) (fun ⟨a, b⟩ => hr (by rw [if_pos a.symm]; exact b)), rowOf_set_ne hk (by omega) (fun ⟨a, b⟩ => hr (by rw [if_neg (by omega)]; exact b))]
/-! ### a residual anew, as a statement -/
theorem s_renew {D : Ends} {u i : Nat} {d : Addr} {kvs : KD} {v : Int} (ha : Ev ta σ H (.ref A.mo)) (hu : Ev tk σ H (.int (u : Int))) (hi : Ev tn σ H (.int (i : Int))) (hp : PrmAt K H A p) (b : Both p u i) (hlr : H A.lr = some (.lst (A.dr.map V.ref))) (hd : A.dr[u]? = some d) (hkv : Rd H d (.dK kvs))
    (hv : valV kvs (.inl (i : Int)) = some (.int v)) (hrs : H A.rs = some (.dT rst)) (hl : rst.length < 1000) (k : ∀ H1, Ex H H1 → D.nx σ (upd H1 A.rs (.dT (putK rst (keyUI u i) (.int (65536 * v - Kp429.predict p u i)))))) :
    tDrop (tMeth (He.ga K "Model") "renew" (sp_Model_renew K) [] E0 ta (tCons tk (tCons tn tNil))) D σ H :=
  ha H (Ex.refl H) _ fun H1 e1 => ⟨_, _, _, rfl, e1 _ _ hp.obj, rfl, (ea_cons hu (ea_cons hi ea_nil)) H1 e1 _ fun H2 e2 =>
    ⟨A, p, u, i, d, kvs, v, rst, rfl, hp.ex (e1.trans e2), b, (e1.trans e2) _ _ hlr, hd, ex_rd (e1.trans e2) hkv, hv, (e1.trans e2) _ _ hrs, hl, fun H3 e3 => k H3 ((e1.trans e2).trans e3)⟩⟩
theorem residual_is (p : Parameters) (r : Rating) : 65536 * (r.value : Int) - Kp429.predict p r.user r.item = Kp429.residual p r := rfl
/-- the dict of a user -/
theorem RatRel.dict {nu ni u : Nat} (R : RatRel l rat rtr nu ni) (hL : LowAt K H A s p rat rtr rst) (hu : u < nu) : ∃ d kvs, A.dr[u]? = some d ∧ rat[u]? = some kvs ∧ H d = some (.dK kvs) := by
  have h1 : u < rat.length := by rw [R.nu]; exact hu
  obtain ⟨d, hd, hk⟩ := paired_at2 hL.dr (List.getElem?_eq_getElem h1)
  exact ⟨d, _, hd, List.getElem?_eq_getElem h1, hk⟩
theorem RatRel.val {nu ni : Nat} {kvs : KD} (R : RatRel l rat rtr nu ni) (so : Sorted l) {r : Rating} (hr : r ∈ l) (hk : rat[r.user]? = some kvs) : valV kvs (.inl (r.item : Int)) = some (.int (r.value : Int)) :=
  (R.rat _ _ hk).get (f := gItem) (g := gVal) (item_nodup so _) (mem_ofK.mpr ⟨hr, rfl⟩)
/-! ### set_to -/
def setP (m : Kp429.Model) (kd n k : Nat) (x : Int) : Kp429.Model := Kp429.withParameters m (Kp429.setRow m.parameters kd n ((Kp429.rowOf m.parameters kd n).set k x))
def Kept (K : PySem.W.Frag) (A : MA) (H : Hp) (m' : Kp429.Model) (H' : Hp) : Prop := MAt K H' A m' ∧ Fr A.fp H H'
def sp_Model_set_to (K : PySem.W.Frag) : Sp := fun vs H Q _ => ∃ (A : MA) (m : Kp429.Model) (kd n k : Nat) (x : Int), vs = [.ref A.mo, .int (kd : Int), .int (n : Int), .int (k : Int), .int x] ∧ MAt K H A m ∧ kd ≤ 1 ∧ n < Kp429.sizeOf m.settings kd ∧ k ≤ m.settings.factors ∧
  (Kp429.lowest m.settings k ≤ x ∧ x ≤ Kp429.highest m.settings k) ∧ ∀ H', Kept K A H (setP m kd n k x) H' → Q .non H'
theorem len_Model_set_to (h : sp_Model_set_to K vs H Q E) : vs.length = (["self", "kind", "number", "place", "value"] : List Str).length := by
  obtain ⟨_, _, _, _, _, _, rfl, _⟩ := h
  rfl
theorem fp_rs : A.fp A.rs := by simp [MA.fp]
theorem LowAt.fresh {p' : Parameters} (h : LowAt K H A s p' rat rtr rst) {b c : Addr} (hb : H b = none) (hc : A.fp c) : b ≠ c := fun e => h.new hb (by rw [e]; exact hc)
def t_Model_set_to (K : PySem.W.Frag) : TS :=
  (tSeq (tAsg (tVar 4) (gSub (tOp (rIxL K) (tOp (rIxL K) (tFld K (tVar 0) "rows") (tVar 1)) (tVar 2)) (tVar 3) rSetL))
    (tFor (iList K (tMeth (He.ga K "Model") "cells" (sp_Model_cells K) [] E0 (tVar 0) (tCons (tVar 1) (tCons (tVar 2) tNil)))) (gTup K 2 (gCons (gName 5) (gCons (gName 6) gNil))) (tDrop (tMeth (He.ga K "Model") "renew" (sp_Model_renew K) [] E0 (tVar 0) (tCons (tVar 5) (tCons (tVar 6) tNil))))))
theorem pure_Model_set_to (T : Txt K mg) (h : sp_Model_set_to K vs H Q E) : t_Model_set_to K { nx := fun _ H' => Q .non H', rt := Q } (start N_Model_set_to vs) H := by
  obtain ⟨A, m, kd, n, k, x, rfl, ⟨ho, rat, rtr, rst, hL, hR, hS⟩, hkd, hn, hk, hx, kk⟩ := h
  obtain ⟨w, hw, hwx, hwr⟩ := rowAddr hL.prm ho.p hn
  refine q_setL (l := w) (j := k) hwx (v := .int x) (ev_var rfl) (ev_row (A := A) (p := m.parameters) T (k := kd) (n := n) (ev_var rfl) hL.prm (ev_var rfl) hkd (ev_var rfl) hw) (ev_var rfl) (by rw [List.length_map, hwr.1]; omega) fun H1 e1 => ?_
  rw [show ((Kp429.rowOf m.parameters kd n).map V.int).set k (V.int x) = ((Kp429.rowOf m.parameters kd n).set k x).map V.int from (List.map_set ..).symm]
  have hL1 := (hL.ex e1).putRow (xs' := (Kp429.rowOf m.parameters kd n).set k x) hw
  have hr' : RowOk m.settings ((Kp429.rowOf m.parameters kd n).set k x) := hwr.set hk hx.1 hx.2
  have hP' : OkP m.settings (Kp429.setRow m.parameters kd n ((Kp429.rowOf m.parameters kd n).set k x)) := ho.p.setRow hr'
  generalize hp' : Kp429.setRow m.parameters kd n ((Kp429.rowOf m.parameters kd n).set k x) = p' at hL1 hP'
  have hres : ∀ r : Rating, ¬ (if kd = 0 then r.user else r.item) = n → Kp429.residual p' r = Kp429.residual m.parameters r := fun r hr => by rw [← hp']; exact residual_set hkd hr
  have f1 : Fr A.fp H (upd H1 w (.lst (((Kp429.rowOf m.parameters kd n).set k x).map V.int))) := (frEx e1).upd (fp_wK (List.mem_of_getElem? hw))
  generalize upd H1 w (.lst (((Kp429.rowOf m.parameters kd n).set k x).map V.int)) = H2 at hL1 f1
  refine s_forTs (et_cells (kd := kd) (n := n) (ev_var rfl) hL1 hR ho.l (ev_var rfl) (ev_var rfl) hkd hn) (fun q ts i σ H' => ∃ rst', LowAt K H' A m.settings p' rat rtr rst' ∧ RstOf rst' m.ratings (fun r => if r ∈ (ofK m.ratings kd n).take i then Kp429.residual p' r else Kp429.residual m.parameters r) ∧ Fr A.fp H H' ∧ H' q = some (.lst (ts.map V.ref)) ∧
      TupsAt H' ts ((ofK m.ratings kd n).map cellV) ∧ q ≠ A.rs ∧ ∃ v5 v6 : Option V, σ = [some (.ref A.mo), some (.int (kd : Int)), some (.int (n : Int)), some (.int (k : Int)), some (.int x), v5, v6])
    (fun q ts H3 hq e3 h3 ht => ⟨rst, hL1.ex e3, ?_, f1.ex e3, h3, ht, hL1.fresh hq fp_rs, none, none, rfl⟩) (fun q ts i σ' H' ⟨_, p⟩ => ⟨p.2.2.2.1, p.2.2.2.2.1⟩) (fun q ts i t z σ' H' hz htz p => ?_) (fun q ts σ' H' p => ?_)
  · exact DictOf.congr hS fun r _ => by simp
  · obtain ⟨rst', hL', hS', f', hq, hts, hqr, v5, v6, rfl⟩ := p
    rw [List.getElem?_map] at hz
    obtain ⟨r, hr, rfl⟩ := Option.map_eq_some_iff.mp hz
    have hrm := List.mem_of_getElem? hr
    have hrl := (mem_ofK.mp hrm).1
    have hrb := ho.l.rb r hrl
    obtain ⟨d, kvs, hd, hkv, hdk⟩ := hR.dict hL' hrb.1
    refine g_unp2 (st_of htz) ?_
    refine s_renew (A := A) (p := p') (u := r.user) (i := r.item) (ev_var rfl) (ev_var rfl) (ev_var rfl) hL'.prm (hP'.both ho.l.vs hrb.1 hrb.2.1) hL'.lr hd (.inl hdk) (hR.val ho.l.so hrl hkv) hL'.rs (by rw [DictOf.len hS']; have := ho.l.len; omega) fun H3 e3 => ?_
    rw [residual_is]
    refine ⟨_, (hL'.ex e3).putRst, ?_, (f'.ex e3).upd fp_rs, ?_, ?_, hqr, _, _, rfl⟩
    · refine DictOf.congr (DictOf.put_old hS' (keyR_nodup ho.l.so) hrl (.int (Kp429.residual p' r))) fun b hb => ?_
      by_cases e : keyR b = keyR r
      · have := sorted_uniq ho.l.so hb hrl (keyR_inj e)
        subst this
        dsimp only
        rw [if_pos rfl, if_pos]
        rw [List.take_add_one, hr]
        simp
      · rw [if_neg e]
        have hne : b ≠ r := fun q => e (by rw [q])
        have : (b ∈ (ofK m.ratings kd n).take (i + 1)) ↔ (b ∈ (ofK m.ratings kd n).take i) := by
          rw [List.take_add_one, hr]
          simp [hne]
        simp only [this]
    · rw [upd_ne hqr]
      exact e3 _ _ hq
    · refine paired_mono (fun b z hb => ?_) hts
      rw [upd_ne]
      · exact e3 _ _ hb
      · intro e
        rw [e, hL'.rs] at hb
        cases hb
  · obtain ⟨rst', hL', hS', f', hq, hts, hqr, v5, v6, rfl⟩ := p
    refine kk H' ⟨⟨⟨ho.l, ?_⟩, rat, rtr, rst', ?_, hR, ?_⟩, f'⟩
    · show OkP m.settings (Kp429.setRow m.parameters kd n ((Kp429.rowOf m.parameters kd n).set k x))
      rw [hp']
      exact hP'
    · show LowAt K H' A m.settings (Kp429.setRow m.parameters kd n ((Kp429.rowOf m.parameters kd n).set k x)) rat rtr rst'
      rw [hp']
      exact hL'
    · show RstOf rst' m.ratings (Kp429.residual (Kp429.setRow m.parameters kd n ((Kp429.rowOf m.parameters kd n).set k x)))
      rw [hp']
      refine DictOf.congr hS' fun r hr => ?_
      rw [List.length_map, List.take_length]
      dsimp only
      by_cases e : r ∈ ofK m.ratings kd n
      · rw [if_pos e]
      · rw [if_neg e, hres r fun q => e (mem_ofK.mpr ⟨hr, q⟩)]
theorem ok_Model_set_to (T : Txt K mg) : Has P w K mg base 5 d_Model_set_to.at_ ["self", "kind", "number", "place", "value"] (sp_Model_set_to K) := by
  refine Has.of (d := d_Model_set_to) T 29 rfl ⟨rfl, rfl⟩ sc_Model_set_to (fun _ _ _ _ _ _ us hl => match us, hl with | [_, _, _, _, _], _ => rfl) (fun vs H Q E h => len_Model_set_to h) fun cdv A outer s H vs Q E hr h => ⟨t_Model_set_to K, ?_, pure_Model_set_to T h⟩
  exact (pss_cons (ps_asg (pv 4) (pg_sub (pe_ix ix_list (pe_ix ix_list (pe_fld (pv 0) rfl) (pv 1) (fun _ _ => rfl)) (pv 2) (fun _ _ => rfl)) (pv 3) set_list))
    (pss_one (ps_for PassesOwn.never rfl (pi_list (pe_methH (pv 0) T.c_Model T.m_Model_cells (ok_Model_cells T) (hr.mono (by decide)) (pa_cons (pv 1) (pa_cons (pv 2) pa_nil)))) (pg_tup rfl (pgs_cons (pg_name (i := 5) sc_Model_set_to.nd rfl (Or.inl rfl)) (pgs_cons (pg_name (i := 6) sc_Model_set_to.nd rfl (Or.inl rfl)) pgs_nil))) (pss_one (ps_expr (pe_methH (pv 0) T.c_Model T.m_Model_renew (ok_Model_renew T) (hr.mono (by decide)) (pa_cons (pv 5) (pa_cons (pv 6) pa_nil))))))))
theorem s_set_to {D : Ends} {kd n k : Nat} {x : Int} {tx : TE} (ha : Ev ta σ H (.ref A.mo)) (hM : MAt K H A m) (h1 : Ev tk σ H (.int (kd : Int))) (h2 : Ev tn σ H (.int (n : Int))) (h3 : Ev tq σ H (.int (k : Int))) (h4 : Ev tx σ H (.int x)) (hkd : kd ≤ 1) (hn : n < Kp429.sizeOf m.settings kd) (hk : k ≤ m.settings.factors)
    (hx : Kp429.lowest m.settings k ≤ x ∧ x ≤ Kp429.highest m.settings k) (q : ∀ H', Kept K A H (setP m kd n k x) H' → D.nx σ H') :
    tDrop (tMeth (He.ga K "Model") "set_to" (sp_Model_set_to K) [] E0 ta (tCons tk (tCons tn (tCons tq (tCons tx tNil))))) D σ H :=
  ha H (Ex.refl H) _ fun H1 e1 => ⟨_, _, _, rfl, e1 _ _ hM.prm.obj, rfl, (ea_cons h1 (ea_cons h2 (ea_cons h3 (ea_cons h4 ea_nil)))) H1 e1 _ fun H2 e2 =>
    ⟨A, m, kd, n, k, x, rfl, hM.ex (e1.trans e2), hkd, hn, hk, hx, fun H3 ⟨g1, g2⟩ => q H3 ⟨g1, (frEx (e1.trans e2)).trans g2⟩⟩⟩
end
end Gs
namespace Gs
open PySem PySem.Spec PyProof.Rows L2 Evl
open Kp429 (Rating Settings Parameters Coordinate)
/-! ### steps and sweeps -/
def atC (p : Parameters) (c : Coordinate) : Int := Kp429.place (Kp429.rowOf p c.kind c.id) c.place
def VC (s : Settings) (c : Coordinate) : Prop := c.kind ≤ 1 ∧ c.id < Kp429.sizeOf s c.kind ∧ c.place ≤ s.factors
section
variable {s : Settings} {l : List Rating} {p q : Parameters} {m : Kp429.Model}
theorem set_getD (row : List Int) (k : Nat) (h : k < row.length) : row.set k (Kp429.place row k) = row := by
  unfold Kp429.place
  rw [List.getD_eq_getElem?_getD, List.getElem?_eq_getElem h]
  exact List.set_getElem_self h
theorem setRow_same (ho : OkP s p) {kd n : Nat} (hn : n < Kp429.sizeOf s kd) : Kp429.setRow p kd n (Kp429.rowOf p kd n) = p := by
  have h := (ho.rowAt hn).1
  obtain ⟨hl, he⟩ := List.getElem?_eq_some_iff.mp h
  have e : (rowsK p kd).set n (Kp429.rowOf p kd n) = rowsK p kd := by
    rw [← he]
    exact List.set_getElem_self hl
  unfold Kp429.setRow
  unfold rowsK at e
  split
  · next h0 =>
    rw [if_pos h0] at e
    rw [e]
  · next h0 =>
    rw [if_neg h0] at e
    rw [e]
theorem setP_same (ho : Ok m) {kd n k : Nat} (hn : n < Kp429.sizeOf m.settings kd) (hk : k ≤ m.settings.factors) : setP m kd n k (Kp429.place (Kp429.rowOf m.parameters kd n) k) = m := by
  unfold setP
  rw [set_getD _ _ (by rw [(ho.p.rowAt hn).2.1]; omega), setRow_same ho.p hn]
  rfl
theorem place_set_eq {row : List Int} {k : Nat} {x : Int} (h : k < row.length) : Kp429.place (row.set k x) k = x := by
  unfold Kp429.place
  rw [List.getD_eq_getElem?_getD, List.getElem?_set_self h]
  rfl
theorem place_set_ne {row : List Int} {k j : Nat} {x : Int} (h : k ≠ j) : Kp429.place (row.set k x) j = Kp429.place row j := by
  unfold Kp429.place
  rw [List.getD_eq_getElem?_getD, List.getElem?_set_ne h, List.getD_eq_getElem?_getD]
/-- the step at c -/
def newC (m : Kp429.Model) (p : Parameters) (c : Coordinate) : Int := Kp429.bestValue m.settings (Kp429.quadratic m.settings (Kp429.views m p c.kind c.id) (Kp429.rowOf p c.kind c.id) c.place) c.place (atC p c)
theorem step1_is (m : Kp429.Model) (p : Parameters) (c : Coordinate) : Kp429.step1 m p c = Kp429.setRow p c.kind c.id ((Kp429.rowOf p c.kind c.id).set c.place (newC m p c)) := rfl
theorem step1_ok (hv : Kp429.validSettings m.settings = true) (ho : OkP m.settings p) {c : Coordinate} (hc : VC m.settings c) : OkP m.settings (Kp429.step1 m p c) := by
  rw [step1_is]
  have hr := (ho.rowAt hc.2.1).2
  have b := hr.bnd hc.2.2
  have q := best_bnd (k := c.place) hv (Kp429.quadratic m.settings (Kp429.views m p c.kind c.id) (Kp429.rowOf p c.kind c.id) c.place) b.1 b.2
  exact ho.setRow (hr.set hc.2.2 q.1 q.2)
theorem at_step_eq (ho : OkP m.settings p) {c : Coordinate} (hc : VC m.settings c) : atC (Kp429.step1 m p c) c = newC m p c := by
  rw [step1_is]
  unfold atC
  have hr := ho.rowAt hc.2.1
  rw [rowOf_set_eq (by rw [ho.lenK]; exact hc.2.1), place_set_eq (by rw [hr.2.1]; have := hc.2.2; omega)]
theorem at_step_ne (ho : OkP m.settings p) {c c' : Coordinate} (hc : VC m.settings c) (hc' : VC m.settings c') (h : c' ≠ c) : atC (Kp429.step1 m p c) c' = atC p c' := by
  rw [step1_is]
  unfold atC
  by_cases e : c'.kind = c.kind ∧ c'.id = c.id
  · have hp : c.place ≠ c'.place := fun q => h (by
      cases c; cases c'
      simp at e q ⊢
      exact ⟨e.1, e.2, q.symm⟩)
    rw [e.1, e.2, rowOf_set_eq (by rw [ho.lenK]; exact hc.2.1), place_set_ne hp]
  · rw [rowOf_set_ne hc.1 hc'.1 e]
theorem base_step (p : Parameters) (c : Coordinate) : (Kp429.step1 m p c).base = p.base := base_set ..
theorem fold_ok (hv : Kp429.validSettings m.settings = true) : ∀ {cs : List Coordinate} {p : Parameters}, OkP m.settings p → (∀ c ∈ cs, VC m.settings c) → OkP m.settings (cs.foldl (Kp429.step1 m) p)
  | [], _, h, _ => h
  | c :: cs, p, h, hc => fold_ok hv (cs := cs) (step1_ok hv h (hc c (List.mem_cons_self ..))) fun d hd => hc d (List.mem_cons_of_mem _ hd)
theorem fold_at (hv : Kp429.validSettings m.settings = true) : ∀ {cs : List Coordinate} {p : Parameters} {c : Coordinate}, OkP m.settings p → (∀ c ∈ cs, VC m.settings c) → VC m.settings c → c ∉ cs → atC (cs.foldl (Kp429.step1 m) p) c = atC p c
  | [], _, _, _, _, _, _ => rfl
  | d :: cs, p, c, h, hc, hcv, hn => by
    rw [List.mem_cons, not_or] at hn
    have hd := hc d (List.mem_cons_self ..)
    rw [List.foldl_cons, fold_at hv (step1_ok hv h hd) (fun d hd => hc d (List.mem_cons_of_mem _ hd)) hcv hn.2, at_step_ne h hd hcv hn.1]
theorem fold_base : ∀ {cs : List Coordinate} {p : Parameters}, (cs.foldl (Kp429.step1 m) p).base = p.base
  | [], _ => rfl
  | d :: cs, p => by rw [List.foldl_cons, fold_base (cs := cs), base_step]
/-- the steps that change something -/
def cntF (m : Kp429.Model) : List Coordinate → Parameters → Nat
  | [], _ => 0
  | c :: cs, p => (if atC p c ≠ newC m p c then 1 else 0) + cntF m cs (Kp429.step1 m p c)
theorem cntF_snoc (m : Kp429.Model) (c : Coordinate) : ∀ (cs : List Coordinate) (p : Parameters), cntF m (cs ++ [c]) p = cntF m cs p + (if atC (cs.foldl (Kp429.step1 m) p) c ≠ newC m (cs.foldl (Kp429.step1 m) p) c then 1 else 0)
  | [], p => by by_cases e : atC p c = newC m p c <;> simp [cntF, e]
  | d :: cs, p => by
    show _ + cntF m (cs ++ [c]) _ = _ + cntF m cs _ + _
    rw [cntF_snoc m c cs, List.foldl_cons, Nat.add_assoc]
theorem cntF_is (hv : Kp429.validSettings m.settings = true) : ∀ (cs : List Coordinate) (p : Parameters), OkP m.settings p → (∀ c ∈ cs, VC m.settings c) → cs.Nodup → cntF m cs p = cs.countP fun c => atC p c != atC (cs.foldl (Kp429.step1 m) p) c
  | [], _, _, _, _ => rfl
  | c :: cs, p, h, hc, nd => by
    obtain ⟨n1, n2⟩ := List.nodup_cons.mp nd
    have hcv := hc c (List.mem_cons_self ..)
    have hcs : ∀ d ∈ cs, VC m.settings d := fun d hd => hc d (List.mem_cons_of_mem _ hd)
    have h1 := step1_ok hv h hcv
    rw [List.countP_cons, List.foldl_cons]
    show (if atC p c ≠ newC m p c then 1 else 0) + cntF m cs (Kp429.step1 m p c) = _
    rw [cntF_is hv cs _ h1 hcs n2, fold_at hv h1 hcs hcv n1, at_step_eq h hcv, Nat.add_comm]
    congr 1
    · refine List.countP_congr fun d hd => ?_
      rw [at_step_ne h hcv (hcs d hd) (fun e => n1 (by rw [← e]; exact hd))]
    · by_cases e : atC p c = newC m p c <;> simp [e]
theorem coords_valid : ∀ c ∈ Kp429.coordinates s, VC s c := by
  intro c hc
  unfold Kp429.coordinates at hc
  rcases List.mem_append.mp hc with h | h
  · obtain ⟨u, hu, h⟩ := List.mem_flatMap.mp h
    obtain ⟨k, hk, rfl⟩ := List.mem_map.mp h
    rw [List.mem_range] at hu hk
    exact ⟨Nat.zero_le _, hu, by show k ≤ _; omega⟩
  · obtain ⟨u, hu, h⟩ := List.mem_flatMap.mp h
    obtain ⟨k, hk, rfl⟩ := List.mem_map.mp h
    rw [List.mem_range] at hu hk
    exact ⟨Nat.le_refl _, hu, by show k ≤ _; omega⟩
theorem coords_mem {c : Coordinate} (h : VC s c) : c ∈ Kp429.coordinates s := by
  obtain ⟨kd, n, k⟩ := c
  obtain ⟨h1, h2, h3⟩ := h
  unfold Kp429.coordinates
  match kd, h1 with
  | 0, _ => exact List.mem_append.mpr (.inl (List.mem_flatMap.mpr ⟨n, List.mem_range.mpr h2, List.mem_map.mpr ⟨k, List.mem_range.mpr (Nat.lt_succ_of_le h3), rfl⟩⟩))
  | 1, _ => exact List.mem_append.mpr (.inr (List.mem_flatMap.mpr ⟨n, List.mem_range.mpr h2, List.mem_map.mpr ⟨k, List.mem_range.mpr (Nat.lt_succ_of_le h3), rfl⟩⟩))
theorem nodup_grid (kd n f : Nat) : ((List.range n).flatMap fun u => (List.range f).map fun k => (⟨kd, u, k⟩ : Coordinate)).Nodup := by
  rw [List.nodup_iff_pairwise_ne, List.pairwise_flatMap]
  refine ⟨fun u _ => ?_, ?_⟩
  · rw [List.pairwise_map]
    exact (List.nodup_iff_pairwise_ne.mp List.nodup_range).imp fun h e => h (by injection e)
  · exact (List.nodup_iff_pairwise_ne.mp List.nodup_range).imp fun h x hx y hy e => by
      obtain ⟨k, _, rfl⟩ := List.mem_map.mp hx
      obtain ⟨j, _, rfl⟩ := List.mem_map.mp hy
      exact h (by injection e)
theorem coords_nodup : (Kp429.coordinates s).Nodup := by
  unfold Kp429.coordinates
  refine List.nodup_append.mpr ⟨nodup_grid .., nodup_grid .., fun x hx y hy e => ?_⟩
  obtain ⟨u, _, hx⟩ := List.mem_flatMap.mp hx
  obtain ⟨k, _, rfl⟩ := List.mem_map.mp hx
  obtain ⟨u', _, hy⟩ := List.mem_flatMap.mp hy
  obtain ⟨k', _, rfl⟩ := List.mem_map.mp hy
  injection e with e1
  exact absurd e1 (by decide)
theorem cnt_changes (ho : Ok m) : cntF m (Kp429.coordinates m.settings) m.parameters = Kp429.changes m.settings m.parameters (Kp429.sweep m m.parameters) :=
  cntF_is ho.l.vs _ _ ho.p coords_valid coords_nodup
theorem row_ext {s : Settings} {a b : List Int} (ha : RowOk s a) (hb : RowOk s b) (h : ∀ k, k ≤ s.factors → Kp429.place a k = Kp429.place b k) : a = b := by
  refine List.ext_getElem? fun k => ?_
  by_cases hk : k ≤ s.factors
  · rw [ha.at_ hk, hb.at_ hk, h k hk]
  · rw [List.getElem?_eq_none (by rw [ha.1]; omega), List.getElem?_eq_none (by rw [hb.1]; omega)]
theorem rows_ext (h1 : OkP s p) (h2 : OkP s q) {kd : Nat} (hk : kd ≤ 1) (h : ∀ c, VC s c → atC p c = atC q c) : rowsK p kd = rowsK q kd := by
  refine List.ext_getElem? fun n => ?_
  by_cases hn : n < Kp429.sizeOf s kd
  · obtain ⟨e1, r1⟩ := h1.rowAt hn
    obtain ⟨e2, r2⟩ := h2.rowAt hn
    rw [e1, e2, row_ext r1 r2 fun k hk' => h ⟨kd, n, k⟩ ⟨hk, hn, hk'⟩]
  · rw [List.getElem?_eq_none (by rw [h1.lenK]; omega), List.getElem?_eq_none (by rw [h2.lenK]; omega)]
theorem par_ext (h1 : OkP s p) (h2 : OkP s q) (hb : p.base = q.base) (h : ∀ c, VC s c → atC p c = atC q c) : p = q := by
  have e1 : p.users = q.users := rows_ext h1 h2 (kd := 0) (Nat.zero_le _) h
  have e2 : p.items = q.items := rows_ext h1 h2 (kd := 1) (Nat.le_refl _) h
  cases p; cases q
  simp at hb e1 e2 ⊢
  exact ⟨hb, e1, e2⟩
theorem sweep_ok (ho : Ok m) : OkP m.settings (Kp429.sweep m m.parameters) := fold_ok ho.l.vs ho.p coords_valid
theorem changes_zero (ho : Ok m) : Kp429.changes m.settings m.parameters (Kp429.sweep m m.parameters) = 0 ↔ Kp429.sweep m m.parameters = m.parameters := by
  constructor
  · intro h
    refine par_ext (sweep_ok ho) ho.p fold_base fun c hc => ?_
    have := List.countP_eq_zero.mp h c (coords_mem hc)
    simp at this
    exact this.symm
  · intro h
    rw [h]
    exact List.countP_eq_zero.mpr fun c _ => by simp
/-- the first step that would change something -/
theorem step_same (ho : OkP m.settings p) {c : Coordinate} (hc : VC m.settings c) (hv : Kp429.validSettings m.settings = true) : Kp429.step1 m p c = p ↔ newC m p c = atC p c := by
  constructor
  · intro h
    rw [← at_step_eq ho hc, h]
  · intro h
    refine par_ext (step1_ok hv ho hc) ho (base_step ..) fun d hd => ?_
    by_cases e : d = c
    · rw [e, at_step_eq ho hc, h]
    · exact at_step_ne ho hc hd e
end
end Gs
namespace Gs
open PySem PySem.Spec PyProof.Rows L2 Evl
section
open Kp429 (Rating Settings Parameters Coordinate)
variable {P : Program} {w : World} {K : PySem.W.Frag} {mg : Str → Option Value} {base : Heap} {vs : List V} {H H' H1 : Hp} {Q : VK} {E : XK} {A : MA} {p : Parameters} {σ : L2.St} {ta tk tn tq td ty : TE} {s : Settings} {m m' m2 : Kp429.Model}
theorem Kept.refl (h : MAt K H A m) : Kept K A H m H := ⟨h, Fr.refl⟩
theorem Kept.ex (h : Kept K A H m H') (e : Ex H' H1) : Kept K A H m H1 := ⟨h.1.ex e, h.2.ex e⟩
theorem Kept.exL (e : Ex H H') (h : Kept K A H' m H1) : Kept K A H m H1 := ⟨h.1, (frEx e).trans h.2⟩
theorem Kept.trans (h : Kept K A H m H') (g : Kept K A H' m2 H1) : Kept K A H m2 H1 := ⟨g.1, h.2.trans g.2⟩
theorem MAt.out (h : MAt K H A m) {b : Addr} {o : HO} (hb : H b = some o) (ho : Kp o = true) : ¬ A.fp b := by
  obtain ⟨_, _, _, _, hL, _⟩ := h
  exact hL.out hb ho
theorem MAt.new (h : MAt K H A m) {b : Addr} (hb : H b = none) : ¬ A.fp b := by
  obtain ⟨_, _, _, _, hL, _⟩ := h
  exact hL.new hb
theorem Kept.tup (h : MAt K H A m) (g : Kept K A H m' H') {ts : List Addr} {zs : List (List V)} (t : TupsAt H ts zs) : TupsAt H' ts zs := paired_mono (fun _ _ q => g.2 _ _ (h.out q rfl) q) t
/-! ### step -/
def stepM (m : Kp429.Model) (c : Coordinate) : Kp429.Model := Kp429.withParameters m (Kp429.step1 m m.parameters c)
def sp_Model_step (K : PySem.W.Frag) : Sp := fun vs H Q _ => ∃ (A : MA) (m : Kp429.Model) (kd n k : Nat), vs = [.ref A.mo, .int (kd : Int), .int (n : Int), .int (k : Int)] ∧ MAt K H A m ∧ VC m.settings ⟨kd, n, k⟩ ∧
  ∀ t H', Kept K A H (stepM m ⟨kd, n, k⟩) H' → H' t = some (.tup [.int (atC m.parameters ⟨kd, n, k⟩), .int (newC m m.parameters ⟨kd, n, k⟩)]) → Q (.ref t) H'
theorem len_Model_step (h : sp_Model_step K vs H Q E) : vs.length = (["self", "kind", "number", "place"] : List Str).length := by
  obtain ⟨_, _, _, _, _, rfl, _⟩ := h
  rfl
def t_Model_step (K : PySem.W.Frag) : TS :=
  (tSeq (tPar 4 5 (tCons (tOp (rIxL K) (tOp (rIxL K) (tOp (rIxL K) (tFld K (tVar 0) "rows") (tVar 1)) (tVar 2)) (tVar 3)) (tCons (tMeth (He.ga K "Model") "better" (sp_Model_better K) [] E0 (tVar 0) (tCons (tVar 1) (tCons (tVar 2) (tCons (tVar 3) tNil)))) tNil)))
    (tSeq (tIfS (tTest (tOp rNe (tVar 5) (tVar 4))) (tDrop (tMeth (He.ga K "Model") "set_to" (sp_Model_set_to K) [] E0 (tVar 0) (tCons (tVar 1) (tCons (tVar 2) (tCons (tVar 3) (tCons (tVar 5) tNil)))))) tNext)
    (tRet (tTup (tCons (tVar 4) (tCons (tVar 5) tNil))))))
theorem pure_Model_step (T : Txt K mg) (h : sp_Model_step K vs H Q E) : t_Model_step K { nx := fun _ H' => Q .non H', rt := Q } (start N_Model_step vs) H := by
  obtain ⟨A, m, kd, n, k, rfl, hM, ⟨hkd, hn, hk⟩, kk⟩ := h
  have ho := hM.1
  obtain ⟨w, hw, hwx, hwr⟩ := rowAddr hM.prm ho.p hn
  refine q_par (x := .int (atC m.parameters ⟨kd, n, k⟩)) (y := .int (newC m m.parameters ⟨kd, n, k⟩)) (ev_cell (A := A) (p := m.parameters) T (k := kd) (n := n) (q := k) (ev_var rfl) hM.prm (ev_var rfl) hkd (ev_var rfl) hw (ev_var rfl) hwx (hwr.at_ hk)) (ev_better (A := A) (m := m) (ev_var rfl) hM (ev_var rfl) (ev_var rfl) (ev_var rfl) hkd hn hk) fun H1 e1 => ?_
  have hM1 := hM.ex e1
  have fin : ∀ H2, Kept K A H (stepM m ⟨kd, n, k⟩) H2 → tRet (tTup (tCons (tVar 4) (tCons (tVar 5) tNil))) { nx := fun _ H' => Q .non H', rt := Q } [some (.ref A.mo), some (.int (kd : Int)), some (.int (n : Int)), some (.int (k : Int)), some (.int (atC m.parameters ⟨kd, n, k⟩)), some (.int (newC m m.parameters ⟨kd, n, k⟩))] H2 := fun H2 g =>
    s_retU (eu_tup (ea_cons (ev_var rfl) (ea_cons (ev_var rfl) ea_nil)) (by simp)) fun t H3 _ e3 h3 => kk t H3 (g.ex e3) h3
  refine q_when (et_test (ev_nei (ev_var rfl) (ev_var rfl))) (fun hb H2 e2 => ?_) (fun hb H2 e2 => ?_)
  · have rb := hwr.bnd hk
    have q := best_bnd (k := k) ho.l.vs (qOf m kd n k) rb.1 rb.2
    exact s_set_to (A := A) (m := m) (ev_var rfl) (hM1.ex e2) (ev_var rfl) (ev_var rfl) (ev_var rfl) (ev_var rfl) hkd hn hk q fun H3 g => fin H3 (Kept.exL (e1.trans e2) g)
  · have he : newC m m.parameters ⟨kd, n, k⟩ = atC m.parameters ⟨kd, n, k⟩ := by simpa using hb
    have hs : stepM m ⟨kd, n, k⟩ = m := by
      show setP m kd n k (newC m m.parameters ⟨kd, n, k⟩) = m
      rw [he]
      exact setP_same ho hn hk
    exact fin H2 (by rw [hs]; exact Kept.exL (e1.trans e2) (Kept.refl (hM1.ex e2)))
theorem ok_Model_step (T : Txt K mg) : Has P w K mg base 6 d_Model_step.at_ ["self", "kind", "number", "place"] (sp_Model_step K) := by
  refine Has.of (d := d_Model_step) T 30 rfl ⟨rfl, rfl⟩ sc_Model_step (fun _ _ _ _ _ _ us hl => match us, hl with | [_, _, _, _], _ => rfl) (fun vs H Q E h => len_Model_step h) fun cdv A outer s H vs Q E hr h => ⟨t_Model_step K, ?_, pure_Model_step T h⟩
  exact (pss_cons (ps_par (by rfl) sc_Model_step.nd rfl rfl (by decide) rfl rfl (pa_cons (pe_ix ix_list (pe_ix ix_list (pe_ix ix_list (pe_fld (pv 0) rfl) (pv 1) (fun _ _ => rfl)) (pv 2) (fun _ _ => rfl)) (pv 3) (fun _ _ => rfl)) (pa_cons (pe_methH (pv 0) T.c_Model T.m_Model_better (ok_Model_better T) (hr.mono (by decide)) (pa_cons (pv 1) (pa_cons (pv 2) (pa_cons (pv 3) pa_nil)))) pa_nil)) (by rfl))
    (pss_cons (ps_if (pt_cmpR op_ne (pv 5) (pv 4) (nomark _)) (pss_one (ps_expr (pe_methH (pv 0) T.c_Model T.m_Model_set_to (ok_Model_set_to T) (hr.mono (by decide)) (pa_cons (pv 1) (pa_cons (pv 2) (pa_cons (pv 3) (pa_cons (pv 5) pa_nil))))))) pss_nil)
    (pss_one (ps_ret (pe_tup (pa_cons (pv 4) (pa_cons (pv 5) pa_nil)))))))
/-- old, new = self.step(..) -/
theorem run_step {kd n k : Nat} {D : Ends} {g : TG} (ha : Ev ta σ H (.ref A.mo)) (hM : MAt K H A m) (h1 : Ev tk σ H (.int (kd : Int))) (h2 : Ev tn σ H (.int (n : Int))) (h3 : Ev tq σ H (.int (k : Int))) (hc : VC m.settings ⟨kd, n, k⟩)
    (q : ∀ t H', Kept K A H (stepM m ⟨kd, n, k⟩) H' → H' t = some (.tup [.int (atC m.parameters ⟨kd, n, k⟩), .int (newC m m.parameters ⟨kd, n, k⟩)]) → g (.ref t) σ H' D.nx) :
    tAsg (tMeth (He.ga K "Model") "step" (sp_Model_step K) [] E0 ta (tCons tk (tCons tn (tCons tq tNil)))) g D σ H :=
  ha H (Ex.refl H) _ fun H1 e1 => ⟨_, _, _, rfl, e1 _ _ hM.prm.obj, rfl, (ea_cons h1 (ea_cons h2 (ea_cons h3 ea_nil))) H1 e1 _ fun H2 e2 =>
    ⟨A, m, kd, n, k, rfl, hM.ex (e1.trans e2), hc, fun t H3 g ht => q t H3 (Kept.exL (e1.trans e2) g) ht⟩⟩
/-! ### parameters -/
def coordV (c : Coordinate) : List V := [.int (c.kind : Int), .int (c.id : Int), .int (c.place : Int)]
def rowC (s : Settings) (kd n : Nat) : List Coordinate := (List.range (s.factors + 1)).map fun k => ⟨kd, n, k⟩
def kindC (s : Settings) (kd j : Nat) : List Coordinate := (List.range j).flatMap (rowC s kd)
theorem kindC_succ (s : Settings) (kd j : Nat) : kindC s kd (j + 1) = kindC s kd j ++ rowC s kd j := by
  unfold kindC
  rw [List.range_succ, List.flatMap_append]
  simp
theorem coords_is (s : Settings) : Kp429.coordinates s = kindC s 0 s.users ++ kindC s 1 s.items := rfl
theorem kindC_len (s : Settings) (kd : Nat) : ∀ j, (kindC s kd j).length = j * (s.factors + 1)
  | 0 => by simp [kindC]
  | j + 1 => by
    rw [kindC_succ, List.length_append, kindC_len s kd j, rowC, List.length_map, List.length_range, Nat.succ_mul]
/-- the coordinates of the kinds below i -/
def kindsC (s : Settings) : Nat → List Coordinate
  | 0 => []
  | 1 => kindC s 0 s.users
  | _ => kindC s 0 s.users ++ kindC s 1 s.items
theorem kindsC_succ (s : Settings) {i : Nat} (h : i < 2) : kindsC s (i + 1) = kindsC s i ++ kindC s i (Kp429.sizeOf s i) := by
  match i, h with
  | 0, _ => rfl
  | 1, _ => rfl
theorem s_extTs {D : Ends} {l : Addr} {ts : List Addr} {zs : List (List V)} {te : TE} (hl : H l = some (.lst (ts.map V.ref))) (ha : Ev ta σ H (.ref l)) (h : EvTs te σ H zs) (hz : ts.length + zs.length ≤ 100000) (k : ∀ us H1, Ex H H1 → H1 l = some (.lst (ts.map V.ref)) → TupsAt H1 us zs → D.nx σ (upd H1 l (.lst ((ts ++ us).map V.ref)))) :
    tDrop (tBM K "list" rExtend ta (tCons te tNil)) D σ H := ha H (Ex.refl H) _ fun H1 e1 =>
  ⟨Or.inl ⟨rfl, _, sq_of (e1 l _ hl)⟩, h H1 e1 _ fun q us H2 hq e2 h2 ht => ⟨l, q, _, _, rfl, rfl, e2 l _ (e1 l _ hl), h2, sz_of (by rw [List.length_map, List.length_map, paired_len ht]; exact hz), by
    rw [← List.map_append]
    exact k us H2 (e1.trans e2) (e2 _ _ (e1 _ _ hl)) ht⟩⟩
theorem TupsAt.up {ts : List Addr} {zs : List (List V)} {l : Addr} {xs ys : List V} (h : TupsAt H ts zs) (hl : H l = some (.lst xs)) : TupsAt (upd H l (.lst ys)) ts zs := paired_mono (fun b z hb => by
  rw [upd_ne]
  · exact hb
  · intro e
    rw [e, hl] at hb
    cases hb) h
def sp_Model_parameters (K : PySem.W.Frag) : Sp := fun vs H Q _ => ∃ (A : MA) (m : Kp429.Model), vs = [.ref A.mo] ∧ MAt K H A m ∧ RetTs ((Kp429.coordinates m.settings).map coordV) H Q
theorem len_Model_parameters (h : sp_Model_parameters K vs H Q E) : vs.length = (["self"] : List Str).length := by
  obtain ⟨_, _, rfl, _⟩ := h
  rfl
def t_Model_parameters (K : PySem.W.Frag) : TS :=
  (tSeq (tAsg (tLst tNil) (gName 1))
    (tSeq (tFor (iRng1 (tCons (tC (.int 2)) tNil)) (gName 2) (tFor (iRng1 (tCons (tOp (rIxT K) (tFld K (tFld K (tVar 0) "settings") "many") (tVar 2)) tNil)) (gName 3) (tDrop (tBM K "list" rExtend (tVar 1) (tCons (tLc (iRng1 (tCons (tOp rAddI (tFld K (tFld K (tVar 0) "settings") "factors") (tC (.int 1))) tNil)) (gName 4) tYes (tTup (tCons (tVar 2) (tCons (tVar 3) (tCons (tVar 4) tNil)))) [4]) tNil)))))
    (tRet (tVar 1))))
theorem pure_Model_parameters (T : Txt K mg) (h : sp_Model_parameters K vs H Q E) : t_Model_parameters K { nx := fun _ H' => Q .non H', rt := Q } (start N_Model_parameters vs) H := by
  obtain ⟨A, m, rfl, hM, kk⟩ := h
  have hv := (valid_iff m.settings).mp hM.1.l.vs
  have szb : ∀ kd, Kp429.sizeOf m.settings kd ≤ 8 := fun kd => by unfold Kp429.sizeOf; split <;> omega
  have mulb : ∀ a b : Nat, a ≤ 8 → b ≤ 4 → a * b ≤ 32 := fun a b h1 h2 => Nat.mul_le_mul h1 h2
  refine q_asgL (el_lst ea_nil (by simp)) fun d H1 hd e1 h1 => ?_
  refine q_forR1 (n := 2) (ea_cons ev_c ea_nil) ⟨by decide, by decide⟩ (fun i σ H' => Ex H H' ∧ ∃ (ts : List Addr) (v2 v3 v4 : Option V), H' d = some (.lst (ts.map V.ref)) ∧ TupsAt H' ts ((kindsC m.settings i).map coordV) ∧ σ = [some (.ref A.mo), some (.ref d), v2, v3, v4])
    (fun H2 e2 => ⟨e1.trans e2, [], none, none, none, e2 _ _ h1, .nil, rfl⟩) (fun i σ H' hi p => ?_) (fun σ H' p => ?_)
  · obtain ⟨e', ts, v2, v3, v4, hd', ht, rfl⟩ := p
    have hi2 : i < 2 := by omega
    refine s_forR1 (n := (Kp429.sizeOf m.settings i : Nat)) (ea_cons (ev_smany T (k := i) (ev_settings T (A := A) (p := m.parameters) (ev_var rfl) (hM.prm.ex e')) (hM.set.ex e') (ev_var rfl) (by omega)) ea_nil) ⟨by omega, by have := szb i; omega⟩
      (fun j σ H' => Ex H H' ∧ ∃ (ts : List Addr) (v3 v4 : Option V), H' d = some (.lst (ts.map V.ref)) ∧ TupsAt H' ts ((kindsC m.settings i ++ kindC m.settings i j).map coordV) ∧ σ = [some (.ref A.mo), some (.ref d), some (.int (i : Int)), v3, v4])
      (fun H2 e2 => ⟨e'.trans e2, ts, v3, v4, e2 _ _ hd', by rw [show kindC m.settings i 0 = [] from rfl, List.append_nil]; exact ht.ex e2, rfl⟩) (fun j σ H' hj p => ?_) (fun σ H' p => ?_)
    · obtain ⟨e2, ts, v3, v4, hd2, ht2, rfl⟩ := p
      have hj2 : j < Kp429.sizeOf m.settings i := by omega
      refine s_extTs (zs := (rowC m.settings i j).map coordV) hd2 (ev_var rfl) (fun H3 e3 Q3 q3 => ?_) ?_ fun us H3 e3 hd3 hu => ?_
      · refine run_ea (vs := [.int ((m.settings.factors : Int) + 1)]) (ea_cons (ev_add (ev_sfac T (ev_settings T (A := A) (p := m.parameters) (ev_var rfl) (hM.prm.ex (e2.trans e3))) (hM.set.ex (e2.trans e3))) ev_c) ea_nil) fun H4 e4 => ⟨_, rfl, by omega, by omega, ?_⟩
        refine lc_tups (walk_range (lo := 0) (n := ((m.settings.factors : Int) + 1).toNat)) (by omega) (fun _ _ => True.intro) ((rowC m.settings i j).map coordV) (by simp [rowC]) ?_ (fun Dl ts H5 hD e5 h5 ht5 => q3 Dl ts H5 (fresh_back e4 hD) (e4.trans e5) h5 ht5)
        intro n x z H5 H6 K1 hn hz e5 y k1
        obtain ⟨rfl, rfl⟩ := y
        refine ⟨rfl, ?_⟩
        rw [rowC, List.map_map, List.getElem?_map, List.getElem?_range (by omega)] at hz
        cases hz
        refine run_eu (eu_tup (ea_cons (ev_var rfl) (ea_cons (ev_var rfl) (ea_cons (ev_var rfl) ea_nil))) (by simp)) fun t H7 _ e7 h7 => k1 t H7 e7 ?_
        rw [h7]
        show some (HO.tup [_, _, V.int (0 + (n : Int))]) = _
        rw [Int.zero_add]
        rfl
      · have l1 := paired_len ht2
        rw [List.length_map, List.length_append, kindC_len] at l1
        have l3 : (kindsC m.settings i).length ≤ 32 := by
          match i, hi2 with
          | 0, _ => exact Nat.zero_le _
          | 1, _ =>
            show (kindC m.settings 0 m.settings.users).length ≤ 32
            rw [kindC_len]
            exact mulb _ _ hv.2.1 (by omega)
        have l4 : j * (m.settings.factors + 1) ≤ 32 := mulb _ _ (by have := szb i; omega) (by omega)
        rw [List.length_map, rowC, List.length_map, List.length_range]
        omega
      · refine ⟨Ex.mut (e2.trans e3) hd, ts ++ us, some (.int (j : Int)), v4, upd_same, ?_, rfl⟩
        rw [show (kindsC m.settings i ++ kindC m.settings i (j + 1)).map coordV = (kindsC m.settings i ++ kindC m.settings i j).map coordV ++ (rowC m.settings i j).map coordV by rw [kindC_succ, ← List.append_assoc, List.map_append]]
        exact TupsAt.up (paired_app (ht2.ex e3) hu) hd3
    · obtain ⟨e2, ts, v3, v4, hd2, ht2, rfl⟩ := p
      refine ⟨e2, ts, some (.int (i : Int)), v3, v4, hd2, ?_, rfl⟩
      rw [kindsC_succ _ hi2]
      exact ht2
  · obtain ⟨e', ts, v2, v3, v4, hd', ht, rfl⟩ := p
    exact ⟨_, rfl, kk d ts H' hd e' hd' ht⟩
theorem ok_Model_parameters (T : Txt K mg) : Has P w K mg base 1 d_Model_parameters.at_ ["self"] (sp_Model_parameters K) := by
  refine Has.of (d := d_Model_parameters) T 31 rfl ⟨rfl, rfl⟩ sc_Model_parameters (fun _ _ _ _ _ _ us hl => match us, hl with | [_], _ => rfl) (fun vs H Q E h => len_Model_parameters h) fun cdv A outer s H vs Q E hr h => ⟨t_Model_parameters K, ?_, pure_Model_parameters T h⟩
  exact (pss_cons (ps_set (i := 1) sc_Model_parameters.nd rfl (Or.inl rfl) (pe_lst pa_nil))
    (pss_cons (ps_for PassesOwn.never rfl (pi_range1 rfl T.f_range (pa_cons pe_int pa_nil)) (pg_name (i := 2) sc_Model_parameters.nd rfl (Or.inr rfl)) (pss_one (ps_for PassesOwn.never rfl (pi_range1 rfl T.f_range (pa_cons (pe_ix ix_tup (pe_fld (pe_fld (pv 0) rfl) rfl) (pv 2) (fun _ _ => rfl)) pa_nil)) (pg_name (i := 3) sc_Model_parameters.nd rfl (Or.inr rfl)) (pss_one (ps_expr (pe_bm PySem.F.plainAttrs_list PySem.F.slot_list_extend PySem.F.type_list_extend mt_extend (pv 1) (pa_cons (pe_lc (own := [("place", 4)]) (g := (gName 4)) (tt := tYes) rfl sc_Model_parameters.nd (pi_range1 rfl T.f_range (pa_cons (pe_op op_add (pe_fld (pe_fld (pv 0) rfl) rfl) pe_int) pa_nil)) (blkOk_by (own := [("place", 4)]) (N := N_Model_parameters) (sc := defScope s_Model_parameters) (by decide +kernel)) (fun _ _ _ _ _ => (pg_name (i := 4) sc_Model_parameters.nd rfl (Or.inl rfl))) (fun _ _ _ _ _ => pts_nil) (fun _ _ _ _ _ => (pe_tup (pa_cons (pv 2) (pa_cons (pv 3) (pa_cons (pv 4) pa_nil)))))) pa_nil)))))))
    (pss_one (ps_ret (pv 1)))))
theorem et_parameters (ha : Ev ta σ H (.ref A.mo)) (hM : MAt K H A m) : EvTs (tMeth (He.ga K "Model") "parameters" (sp_Model_parameters K) [] E0 ta tNil) σ H ((Kp429.coordinates m.settings).map coordV) := fun H1 e Q q =>
  ha H1 e _ fun H2 e2 => ⟨_, _, _, rfl, (e.trans e2) _ _ hM.prm.obj, rfl, ⟨A, m, rfl, hM.ex (e.trans e2), q.ex e2⟩⟩
end
end Gs
namespace Gs
open PySem PySem.Spec PyProof.Rows L2 Evl
section
open Kp429 (Rating Settings Parameters Coordinate)
variable {P : Program} {w : World} {K : PySem.W.Frag} {mg : Str → Option Value} {base : Heap} {vs : List V} {H H' H1 : Hp} {Q : VK} {E : XK} {A : MA} {p : Parameters} {σ : L2.St} {ta tk tn tq td ty : TE} {s : Settings} {m m' m2 : Kp429.Model}
theorem q_step {kd n k : Nat} {D : Ends} {g : TG} {tz : TS} (ha : Ev ta σ H (.ref A.mo)) (hM : MAt K H A m) (h1 : Ev tk σ H (.int (kd : Int))) (h2 : Ev tn σ H (.int (n : Int))) (h3 : Ev tq σ H (.int (k : Int))) (hc : VC m.settings ⟨kd, n, k⟩)
    (q : ∀ t H', Kept K A H (stepM m ⟨kd, n, k⟩) H' → H' t = some (.tup [.int (atC m.parameters ⟨kd, n, k⟩), .int (newC m m.parameters ⟨kd, n, k⟩)]) → g (.ref t) σ H' (tz D)) :
    tSeq (tAsg (tMeth (He.ga K "Model") "step" (sp_Model_step K) [] E0 ta (tCons tk (tCons tn (tCons tq tNil)))) g) tz D σ H := run_step (D := { D with nx := tz D }) ha hM h1 h2 h3 hc q
/-! ### sweep -/
def sweepM (m : Kp429.Model) : Kp429.Model := Kp429.withParameters m (Kp429.sweep m m.parameters)
def chg (m : Kp429.Model) : Nat := Kp429.changes m.settings m.parameters (Kp429.sweep m m.parameters)
def mI (m : Kp429.Model) (i : Nat) : Kp429.Model := Kp429.withParameters m (((Kp429.coordinates m.settings).take i).foldl (Kp429.step1 m) m.parameters)
theorem mI_succ (m : Kp429.Model) {i : Nat} {c : Coordinate} (h : (Kp429.coordinates m.settings)[i]? = some c) : mI m (i + 1) = stepM (mI m i) c := by
  unfold mI
  rw [foldl_take _ _ _ _ _ h]
  rfl
def sp_Model_sweep (K : PySem.W.Frag) : Sp := fun vs H Q _ => ∃ (A : MA) (m : Kp429.Model), vs = [.ref A.mo] ∧ MAt K H A m ∧ ∀ H', Kept K A H (sweepM m) H' → Q (.int (chg m : Nat)) H'
theorem len_Model_sweep (h : sp_Model_sweep K vs H Q E) : vs.length = (["self"] : List Str).length := by
  obtain ⟨_, _, rfl, _⟩ := h
  rfl
def t_Model_sweep (K : PySem.W.Frag) : TS :=
  (tSeq (tAsg (tC (.int 0)) (gName 1))
    (tSeq (tFor (iList K (tMeth (He.ga K "Model") "parameters" (sp_Model_parameters K) [] E0 (tVar 0) tNil)) (gTup K 3 (gCons (gName 2) (gCons (gName 3) (gCons (gName 4) gNil)))) (tSeq (tAsg (tMeth (He.ga K "Model") "step" (sp_Model_step K) [] E0 (tVar 0) (tCons (tVar 2) (tCons (tVar 3) (tCons (tVar 4) tNil)))) (gTup K 2 (gCons (gName 5) (gCons (gName 6) gNil))))
    (tIfS (tTest (tOp rNe (tVar 5) (tVar 6))) (tAsg (tOp rAddI (tVar 1) (tC (.int 1))) (gName 1)) tNext)))
    (tRet (tVar 1))))
theorem pure_Model_sweep (T : Txt K mg) (h : sp_Model_sweep K vs H Q E) : t_Model_sweep K { nx := fun _ H' => Q .non H', rt := Q } (start N_Model_sweep vs) H := by
  obtain ⟨A, m, rfl, hM, kk⟩ := h
  refine q_asg ev_c fun H1 e1 => ?_
  have hM1 := hM.ex e1
  refine q_forTs (et_parameters (A := A) (m := m) (ev_var rfl) hM1) (fun q ts i σ H' => Kept K A H (mI m i) H' ∧ ¬ A.fp q ∧ H' q = some (.lst (ts.map V.ref)) ∧ TupsAt H' ts ((Kp429.coordinates m.settings).map coordV) ∧ ∃ v2 v3 v4 v5 v6 : Option V,
      σ = [some (.ref A.mo), some (.int (cntF m ((Kp429.coordinates m.settings).take i) m.parameters : Nat)), v2, v3, v4, v5, v6])
    (fun q ts H2 hq e2 h2 ht => ⟨Kept.exL (e1.trans e2) (Kept.refl (hM1.ex e2)), hM1.new hq, h2, ht, none, none, none, none, none, rfl⟩) (fun q ts i σ' H' p => ⟨p.2.2.1, p.2.2.2.1⟩) (fun q ts i t z σ' H' hz htz p => ?_) (fun q ts σ' H' p => ?_)
  · obtain ⟨g, hq, hqx, hts, v2, v3, v4, v5, v6, rfl⟩ := p
    rw [List.getElem?_map] at hz
    obtain ⟨⟨kd, n, k⟩, hc, rfl⟩ := Option.map_eq_some_iff.mp hz
    have hcv : VC m.settings ⟨kd, n, k⟩ := coords_valid _ (List.mem_of_getElem? hc)
    refine g_unp3 (st_of htz) ?_
    refine q_step (A := A) (m := mI m i) (kd := kd) (n := n) (k := k) (ev_var rfl) g.1 (ev_var rfl) (ev_var rfl) (ev_var rfl) hcv fun t2 H2 g2 ht2 => ?_
    refine g_unp2 (st_of ht2) ?_
    have g3 : Kept K A H (mI m (i + 1)) H2 := by
      rw [mI_succ m hc]
      exact g.trans g2
    have hqx2 := g2.2 _ _ hq hqx
    have hts2 := Kept.tup g.1 g2 hts
    have ec : cntF m ((Kp429.coordinates m.settings).take (i + 1)) m.parameters = cntF m ((Kp429.coordinates m.settings).take i) m.parameters + (if atC (mI m i).parameters ⟨kd, n, k⟩ ≠ newC m (mI m i).parameters ⟨kd, n, k⟩ then 1 else 0) := by
      rw [List.take_add_one, hc]
      exact cntF_snoc m _ _ _
    refine s_when (b := !decide (atC (mI m i).parameters ⟨kd, n, k⟩ = newC m (mI m i).parameters ⟨kd, n, k⟩)) (et_test (ev_nei (ev_var rfl) (ev_var rfl))) (fun hb H3 e3 => ?_) (fun hb H3 e3 => ?_)
    · have hne : atC (mI m i).parameters ⟨kd, n, k⟩ ≠ newC m (mI m i).parameters ⟨kd, n, k⟩ := by simpa using hb
      refine s_asg (v := .int (cntF m ((Kp429.coordinates m.settings).take (i + 1)) m.parameters : Nat)) (ev_is (ev_add (ev_var rfl) ev_c) ?_) fun H4 e4 => ⟨g3.ex (e3.trans e4), hq, (e3.trans e4) _ _ hqx2, hts2.ex (e3.trans e4), _, _, _, _, _, rfl⟩
      rw [ec, if_pos hne]
      rfl
    · have hne : atC (mI m i).parameters ⟨kd, n, k⟩ = newC m (mI m i).parameters ⟨kd, n, k⟩ := by simpa using hb
      refine ⟨g3.ex e3, hq, e3 _ _ hqx2, hts2.ex e3, some (.int (kd : Int)), some (.int (n : Int)), some (.int (k : Int)), some (.int (atC (mI m i).parameters ⟨kd, n, k⟩)), some (.int (newC m (mI m i).parameters ⟨kd, n, k⟩)), ?_⟩
      rw [ec, if_neg (fun e => e hne)]
      rfl
  · obtain ⟨g, hq, hqx, hts, v2, v3, v4, v5, v6, rfl⟩ := p
    rw [List.length_map, List.take_length, cnt_changes hM.1]
    rw [List.length_map, mI, List.take_length] at g
    exact s_ret (v := .int (chg m : Nat)) (ev_var rfl) fun H2 e2 => kk H2 (g.ex e2)
theorem ok_Model_sweep (T : Txt K mg) : Has P w K mg base 7 d_Model_sweep.at_ ["self"] (sp_Model_sweep K) := by
  refine Has.of (d := d_Model_sweep) T 32 rfl ⟨rfl, rfl⟩ sc_Model_sweep (fun _ _ _ _ _ _ us hl => match us, hl with | [_], _ => rfl) (fun vs H Q E h => len_Model_sweep h) fun cdv A outer s H vs Q E hr h => ⟨t_Model_sweep K, ?_, pure_Model_sweep T h⟩
  exact (pss_cons (ps_set (i := 1) sc_Model_sweep.nd rfl (Or.inl rfl) pe_int)
    (pss_cons (ps_for PassesOwn.never rfl (pi_list (pe_methH0 (pv 0) T.c_Model T.m_Model_parameters (ok_Model_parameters T) (hr.mono (by decide)))) (pg_tup rfl (pgs_cons (pg_name (i := 2) sc_Model_sweep.nd rfl (Or.inl rfl)) (pgs_cons (pg_name (i := 3) sc_Model_sweep.nd rfl (Or.inl rfl)) (pgs_cons (pg_name (i := 4) sc_Model_sweep.nd rfl (Or.inl rfl)) pgs_nil)))) (pss_cons (ps_asg (pe_methH (pv 0) T.c_Model T.m_Model_step (ok_Model_step T) (hr.mono (by decide)) (pa_cons (pv 2) (pa_cons (pv 3) (pa_cons (pv 4) pa_nil)))) (pg_tup rfl (pgs_cons (pg_name (i := 5) sc_Model_sweep.nd rfl (Or.inl rfl)) (pgs_cons (pg_name (i := 6) sc_Model_sweep.nd rfl (Or.inl rfl)) pgs_nil))))
    (pss_one (ps_if (pt_cmpR op_ne (pv 5) (pv 6) (nomark _)) (pss_one (ps_set (i := 1) sc_Model_sweep.nd rfl (Or.inl rfl) (pe_op op_add (pv 1) pe_int))) pss_nil))))
    (pss_one (ps_ret (pv 1)))))
/-- a value that a sweep gives -/
def EvM (K : PySem.W.Frag) (A : MA) (te : TE) (σ : L2.St) (H : Hp) (m' : Kp429.Model) (v : V) : Prop := ∀ H1, Ex H H1 → ∀ Q : VK, (∀ H2, Kept K A H1 m' H2 → Q v H2) → te σ H1 Q
theorem em_sweep (ha : Ev ta σ H (.ref A.mo)) (hM : MAt K H A m) : EvM K A (tMeth (He.ga K "Model") "sweep" (sp_Model_sweep K) [] E0 ta tNil) σ H (sweepM m) (.int (chg m : Nat)) := fun H1 e Q q =>
  ha H1 e _ fun H2 e2 => ⟨_, _, _, rfl, (e.trans e2) _ _ hM.prm.obj, rfl, ⟨A, m, rfl, hM.ex (e.trans e2), fun H3 g => q H3 (Kept.exL e2 g)⟩⟩
/-! ### train -/
def trainR (m : Kp429.Model) (n : Nat) : Parameters × Nat × Bool := Kp429.train m n m.parameters 0
def sp_Model_train (K : PySem.W.Frag) : Sp := fun vs H Q _ => ∃ (A : MA) (m : Kp429.Model) (n : Nat), vs = [.ref A.mo, .int (n : Int)] ∧ MAt K H A m ∧
  ∀ t H', Kept K A H (Kp429.withParameters m (trainR m n).1) H' → H' t = some (.tup [.int ((trainR m n).2.1 : Nat), .int (Kp429.flag (trainR m n).2.2 : Nat)]) → Q (.ref t) H'
theorem len_Model_train (h : sp_Model_train K vs H Q E) : vs.length = (["self", "most"] : List Str).length := by
  obtain ⟨_, _, _, rfl, _⟩ := h
  rfl
theorem train_stop {m : Kp429.Model} {p : Parameters} {c n : Nat} (h : Kp429.sweep m p = p) : Kp429.train m (c + 1) p n = (p, n + 1, true) := by
  unfold Kp429.train
  rw [if_pos h]
theorem train_go {m : Kp429.Model} {p : Parameters} {c n : Nat} (h : ¬ Kp429.sweep m p = p) : Kp429.train m (c + 1) p n = Kp429.train m c (Kp429.sweep m p) (n + 1) := by
  conv => lhs; unfold Kp429.train
  rw [if_neg h]
def t_Model_train (K : PySem.W.Frag) : TS :=
  (tSeq (tAsg (tC (.int 0)) (gName 2))
    (tSeq (tWhile (tTest (tOp rLtI (tVar 2) (tVar 1))) (tSeq (tAsg (tOp rAddI (tVar 2) (tC (.int 1))) (gName 2))
    (tIfS (tTest (tOp rEq (tMeth (He.ga K "Model") "sweep" (sp_Model_sweep K) [] E0 (tVar 0) tNil) (tC (.int 0)))) (tRet (tTup (tCons (tVar 2) (tCons (tC (.int 1)) tNil)))) tNext)))
    (tRet (tTup (tCons (tVar 2) (tCons (tC (.int 0)) tNil))))))
theorem pure_Model_train (T : Txt K mg) (h : sp_Model_train K vs H Q E) : t_Model_train K { nx := fun _ H' => Q .non H', rt := Q } (start N_Model_train vs) H := by
  obtain ⟨A, m, n, rfl, hM, kk⟩ := h
  refine q_asg ev_c fun H1 e1 => ?_
  refine q_while (fun μ σ H' => ∃ (p : Parameters) (made : Nat), μ = n - made ∧ made ≤ n ∧ Kept K A H (Kp429.withParameters m p) H' ∧ Kp429.train m (n - made) p made = trainR m n ∧ σ = [some (.ref A.mo), some (.int (n : Int)), some (.int (made : Int))]) n
    ⟨m.parameters, 0, rfl, Nat.zero_le _, Kept.exL e1 (Kept.refl (hM.ex e1)), rfl, rfl⟩ ?_
  rintro μ σ H' ⟨p, made, rfl, hmade, g, ht, rfl⟩
  refine ⟨_, et_test (ev_lt (ev_var rfl) (ev_var rfl)), fun hb H2 e2 => ?_, fun hb H2 e2 => ?_⟩
  · have hlt : made < n := by have := of_decide_eq_true hb; omega
    obtain ⟨c, hc⟩ : ∃ c, n - made = c + 1 := ⟨n - made - 1, by omega⟩
    refine ⟨_, fun _ _ q => q, ?_⟩
    refine q_asg (v := .int ((made + 1 : Nat) : Int)) (ev_is (ev_add (ev_var rfl) ev_c) (by rfl)) fun H3 e3 => ?_
    have g3 := g.ex (e2.trans e3)
    refine em_sweep (A := A) (m := Kp429.withParameters m p) (ev_var rfl) g3.1 H3 (Ex.refl _) _ fun H4 g4 => ?_
    have g5 : Kept K A H (Kp429.withParameters m (Kp429.sweep m p)) H4 := g3.trans g4
    have z := changes_zero g3.1.1
    refine ⟨rfl, _, rfl, ?_⟩
    by_cases hz : Kp429.sweep m p = p
    · have h0 : chg (Kp429.withParameters m p) = 0 := z.mpr hz
      rw [h0, show decide (V.int ((0 : Nat) : Int) = V.int 0) = true from decide_eq_true rfl]
      rw [hc, train_stop hz] at ht
      rw [hz] at g5
      refine s_retU (eu_tup (ea_cons (ev_var rfl) (ea_cons ev_c ea_nil)) (by simp)) fun t H5 _ e5 h5 => kk t H5 ?_ ?_
      · rw [← ht]
        exact g5.ex e5
      · rw [← ht]
        exact h5
    · have h0 : chg (Kp429.withParameters m p) ≠ 0 := fun e => hz (z.mp e)
      rw [show decide (V.int ((chg (Kp429.withParameters m p) : Nat) : Int) = V.int 0) = false from decide_eq_false fun e => h0 (by injection e with e; omega)]
      rw [hc, train_go hz] at ht
      refine ⟨n - (made + 1), by omega, Kp429.sweep m p, made + 1, rfl, by omega, g5, ?_, rfl⟩
      rw [← ht]
      congr 1
      omega
  · have hge : made = n := by have := of_decide_eq_false hb; omega
    subst hge
    rw [Nat.sub_self] at ht
    have ht : (p, made, false) = trainR m made := ht
    refine s_retU (eu_tup (ea_cons (ev_var rfl) (ea_cons ev_c ea_nil)) (by simp)) fun t H5 _ e5 h5 => kk t H5 ?_ ?_
    · rw [← ht]
      exact g.ex (e2.trans e5)
    · rw [← ht]
      exact h5
theorem ok_Model_train (T : Txt K mg) : Has P w K mg base 8 d_Model_train.at_ ["self", "most"] (sp_Model_train K) := by
  refine Has.of (d := d_Model_train) T 33 rfl ⟨rfl, rfl⟩ sc_Model_train (fun _ _ _ _ _ _ us hl => match us, hl with | [_, _], _ => rfl) (fun vs H Q E h => len_Model_train h) fun cdv A outer s H vs Q E hr h => ⟨t_Model_train K, ?_, pure_Model_train T h⟩
  exact (pss_cons (ps_set (i := 2) sc_Model_train.nd rfl (Or.inl rfl) pe_int)
    (pss_cons (ps_while PassesOwn.never (pt_cmpR op_lt (pv 2) (pv 1) (nomark _)) (pss_cons (ps_set (i := 2) sc_Model_train.nd rfl (Or.inl rfl) (pe_op op_add (pv 2) pe_int))
    (pss_one (ps_if (pt_cmpR op_eq (pe_methH0 (pv 0) T.c_Model T.m_Model_sweep (ok_Model_sweep T) (hr.mono (by decide))) pe_int (nomark _)) (pss_one (ps_ret (pe_tup (pa_cons (pv 2) (pa_cons pe_int pa_nil))))) pss_nil))))
    (pss_one (ps_ret (pe_tup (pa_cons (pv 2) (pa_cons pe_int pa_nil)))))))
end
end Gs
namespace Gs
open PySem PySem.Spec PyProof.Rows L2 Evl
section
open Kp429 (Rating Settings Parameters Coordinate)
variable {P : Program} {w : World} {K : PySem.W.Frag} {mg : Str → Option Value} {base : Heap} {vs : List V} {H H' H1 H3 : Hp} {Q : VK} {E : XK} {A : MA} {p : Parameters} {σ : L2.St} {ta tk tn tq td ty : TE} {s : Settings} {m m' m2 : Kp429.Model} {l : List Rating}
/-! ### a lock and back -/
theorem unlock {d : Addr} {u : HO} {od : Obj} (h1 : H1 d = some u) (e : Ex (upd H1 d (.frz od u)) H3) : Ex H1 (upd H3 d u) := fun b o hb => by
  by_cases q : b = d
  · rw [q] at hb ⊢
    rw [upd_same]
    rw [h1] at hb
    exact hb
  · rw [upd_ne q]
    exact e _ _ (by rw [upd_ne q]; exact hb)
theorem lock_fresh {d q : Addr} {x : HO} (h : upd H1 d x q = none) : H1 q = none ∧ q ≠ d := by
  have n : q ≠ d := fun e => by rw [e, upd_same] at h; cases h
  rw [upd_ne n] at h
  exact ⟨h, n⟩
/-! ### comprehensions begun -/
def LcB (J : It) (g : TG) (tt : TT) (te : TE) (vs : List Nat) (σ : L2.St) (H1 : Hp) (Q : VK) : Prop := ∀ D, H1 D = none → ∃ W : Nat → Nat → Hp → Prop, (∃ m, W 0 m (upd H1 D (.lst []))) ∧ ∀ i m H, W i m H →
      (J.stop i H ∧ Q (.ref D) H) ∨ (J.go i H ∧ ∃ Nx : Hp → Prop, (∀ H', Nx H' → ∃ m', m' < m ∧ W (i + 1) m' H') ∧ ∀ x H', J.yld i H x H' → g x (wipe σ vs) H' fun σ2 H2 => wipe σ2 vs = wipe σ vs ∧ tt σ2 H2 fun b H3 =>
        if b = true then te σ2 H3 fun y H4 => ∃ acc, H4 D = some (.lst acc) ∧ acc.length < sizeLine ∧ Nx (upd H4 D (.lst (acc ++ [y]))) else Nx H3)
theorem run_lcL {tl te : TE} {g : TG} {tt : TT} {ws : List Nat} {a : Addr} {xs : List V} (h : Ev tl σ H (.ref a)) (hx : SqL K H a xs) (k : ∀ H1, Ex H H1 → LcB (Itl K a) g tt te ws σ H1 Q) : tLc (iList K tl) g tt te ws σ H Q :=
  h H (Ex.refl H) _ fun H1 e1 => ⟨a, rfl, ⟨xs, ex_l e1 hx⟩, k H1 e1⟩
theorem run_lcV {td te : TE} {g : TG} {tt : TT} {ws : List Nat} {d : Addr} {o : Obj} {kvs : List (List Key × V)} (h : Ev td σ H (.ref d)) (hx : H d = some (.frz o (.dT kvs))) (k : ∀ H1, Ex H H1 → LcB (ItdT d o kvs) g tt te ws σ H1 Q) : tLc (iValsT td) g tt te ws σ H Q :=
  h H (Ex.refl H) _ fun H1 e1 => ⟨d, o, kvs, rfl, e1 _ _ hx, k H1 e1⟩
/-! ### sums -/
theorem perm_sum {a b : List Int} (h : a.Perm b) : a.sum = b.sum := by
  induction h with
  | nil => rfl
  | cons x _ ih => rw [List.sum_cons, List.sum_cons, ih]
  | swap x y l => rw [List.sum_cons, List.sum_cons, List.sum_cons, List.sum_cons]; omega
  | trans _ _ i j => rw [i, j]
theorem valsInt {κ α : Type} {L : List α} {f : α → κ} {g : α → Int} {kvs : List (κ × V)} (h : DictOf kvs L f (fun a => .int (g a))) : ∃ ns : List Int, kvs.map (·.2) = ns.map V.int ∧ ns.Perm (L.map g) := by
  refine ⟨kvs.map fun kv => match kv.2 with | .int i => i | _ => 0, ?_, ?_⟩
  · rw [List.map_map]
    refine List.map_congr_left fun kv hkv => ?_
    obtain ⟨a, _, rfl⟩ := List.mem_map.mp (h.mem_iff.mp hkv)
    rfl
  · have := h.map fun kv : κ × V => match kv.2 with | .int i => i | _ => 0
    rw [List.map_map] at this
    exact this
theorem sum_abs {α : Type} (f : α → Int) (B : Int) : ∀ l : List α, (∀ a ∈ l, -B ≤ f a ∧ f a ≤ B) → -(l.length * B) ≤ (l.map f).sum ∧ (l.map f).sum ≤ l.length * B
  | [], _ => by simp
  | a :: r, h => by
    have i := sum_abs f B r fun b hb => h b (List.mem_cons_of_mem _ hb)
    have q := h a (List.mem_cons_self ..)
    rw [List.map_cons, List.sum_cons, List.length_cons, Int.natCast_add, Int.add_mul]
    omega
theorem mul_bnd {x y : Int} (h1 : -4096 ≤ x ∧ x ≤ 4096) (h2 : -4096 ≤ y ∧ y ≤ 4096) : -16777216 ≤ x * y ∧ x * y ≤ 16777216 := by
  have a := sq_bnd (x := x + y) 
  have h3 : (x.natAbs * y.natAbs) ≤ 4096 * 4096 := Nat.mul_le_mul (by omega) (by omega)
  have e : (x * y).natAbs = x.natAbs * y.natAbs := Int.natAbs_mul x y
  omega
theorem tail_bnd (hv : Kp429.validSettings s = true) {row : List Int} (h : RowOk s row) : ∀ x ∈ row.tail, -4096 ≤ x ∧ x ≤ 4096 := by
  intro x hx
  obtain ⟨k, hk, rfl⟩ := List.mem_iff_getElem.mp hx
  rw [List.length_tail] at hk
  have e : row[k + 1]? = some (row.tail[k]'(by rw [List.length_tail]; omega)) := by
    rw [List.getElem?_eq_getElem (by omega), List.getElem_tail]
  have b := h.2 _ _ e
  have := low_ge1 hv (k := k + 1) (by omega)
  have := high_le1 hv (k := k + 1) (by omega)
  omega
theorem products_bnd (hv : Kp429.validSettings s = true) {a b : List Int} (ha : RowOk s a) (hb : RowOk s b) : -50331648 ≤ (Kp429.products a b).sum ∧ (Kp429.products a b).sum ≤ 50331648 := by
  have v := (valid_iff s).mp hv
  have q := sum_abs (fun x : Int × Int => x.1 * x.2) 16777216 (a.tail.zip b.tail) fun x hx => by
    have := List.of_mem_zip (a := x.1) (b := x.2) hx
    exact mul_bnd (tail_bnd hv ha _ this.1) (tail_bnd hv hb _ this.2)
  have hl : (a.tail.zip b.tail).length ≤ 3 := by
    rw [List.length_zip, List.length_tail, ha.1]
    omega
  have hl2 : ((a.tail.zip b.tail).length : Int) * 16777216 ≤ 50331648 := by omega
  unfold Kp429.products
  omega
theorem residual_bnd (hl : OkL s l) (hp : OkP s p) {r : Rating} (hr : r ∈ l) : Sm (Kp429.residual p r) := by
  have b := hl.rb r hr
  have r0 := (hp.rowAt (k := 0) (n := r.user) b.1).2
  have r1 := (hp.rowAt (k := 1) (n := r.item) b.2.1).2
  have q := products_bnd hl.vs r0 r1
  have b0 := r0.bnd (Nat.zero_le _)
  have b1 := r1.bnd (Nat.zero_le _)
  have lo := low_ge hl.vs 0
  have hi := high_le hl.vs 0
  have bb := hp.b0
  unfold Kp429.residual Kp429.target Kp429.unit Kp429.predict Kp429.predictRows
  exact ⟨by omega, by omega⟩
/-! ### the objective's parts -/
def sp_Model_error_part (K : PySem.W.Frag) : Sp := fun vs H Q _ => ∃ (A : MA) (m : Kp429.Model), vs = [.ref A.mo] ∧ MAt K H A m ∧ RetV (.int (Kp429.errorPart m m.parameters)) H Q
theorem len_Model_error_part (h : sp_Model_error_part K vs H Q E) : vs.length = (["self"] : List Str).length := by
  obtain ⟨_, _, rfl, _⟩ := h
  rfl
def t_Model_error_part (K : PySem.W.Frag) : TS :=
  (tRet (tCB (rSum K) (tCons (tLockE (tLc (iValsT (tFld K (tVar 0) "rests")) (gName 1) tYes (tOp rMulI (tVar 1) (tVar 1)) [1])) tNil)))
theorem pure_Model_error_part (T : Txt K mg) (h : sp_Model_error_part K vs H Q E) : t_Model_error_part K { nx := fun _ H' => Q .non H', rt := Q } (start N_Model_error_part vs) H := by
  obtain ⟨A, m, rfl, ⟨ho, rat, rtr, rst, hL, hR, hS⟩, k⟩ := h
  obtain ⟨ns, hns, hnp⟩ := valsInt hS
  have hlen : rst.length = ns.length := by
    have := congrArg List.length hns
    rw [List.length_map, List.length_map] at this
    exact this
  have hl64 : rst.length ≤ 64 := by rw [DictOf.len hS]; exact ho.l.len
  have hsum : (ns.map fun n => n * n).sum = Kp429.errorPart m m.parameters := by
    have := hnp.map fun n : Int => n * n
    rw [List.map_map] at this
    exact perm_sum this
  rw [← hsum] at k
  obtain ⟨ρ, R⟩ := hL.ro
  refine s_ret (v := .int ((ns.map fun n => n * n).sum)) (ev_sumN (xs := (ns.map fun n => n * n).map V.int) (fun H1 e Q1 q => ?_) rfl) k
  have h1 := e _ _ hL.rs
  refine ⟨A.rs, .dT rst, h1, True.intro, fun od => ?_⟩
  have hPf : PrmAt K (upd H1 A.rs (.frz od (.dT rst))) A m.parameters := (hL.prm.ex e).agr R (agr_upd R.rs) (by decide)
  refine run_lcV (ev_rests T (ev_var rfl) hPf) upd_same fun H2 e2 => ?_
  refine lc_vals (Q := fun v H' => H' A.rs = some (.frz od (.dT rst)) ∧ Q1 v (upd H' A.rs (.dT rst))) walk_valuesT (by omega) (fun H3 e3 => e3 _ _ (e2 _ _ upd_same)) ((ns.map fun n => n * n).map V.int) (by rw [List.length_map, List.length_map, hlen]) ?_ (fun Dl H3 hD e3 h3 => ?_)
  · intro i x z H4 H5 K1 hi hz e4 y k1
    obtain ⟨rfl, key, hx⟩ := y
    rw [List.getElem?_map, List.getElem?_map] at hz
    have hx2 : (rst.map (·.2))[i]? = some x := by rw [List.getElem?_map, hx]; rfl
    rw [hns, List.getElem?_map] at hx2
    obtain ⟨n, hn, rfl⟩ := Option.map_eq_some_iff.mp hx2
    rw [hn] at hz
    cases hz
    refine ⟨rfl, ?_⟩
    obtain ⟨r, hr, rfl⟩ := List.mem_map.mp (hnp.mem_iff.mp (List.mem_of_getElem? hn))
    exact ev_mul (ev_var rfl) (ev_var rfl) (residual_bnd ho.l ho.p hr).mulL _ (Ex.refl _) _ fun H6 e6 => k1 H6 e6
  · obtain ⟨g1, g2⟩ := lock_fresh (fresh_back e2 hD)
    exact ⟨e3 _ _ (e2 _ _ upd_same), q Dl _ g1 (unlock h1 (e2.trans e3)) (by rw [upd_ne g2]; exact h3)⟩
theorem ok_Model_error_part (T : Txt K mg) : Has P w K mg base 1 d_Model_error_part.at_ ["self"] (sp_Model_error_part K) := by
  refine Has.of (d := d_Model_error_part) T 34 rfl ⟨rfl, rfl⟩ sc_Model_error_part (fun _ _ _ _ _ _ us hl => match us, hl with | [_], _ => rfl) (fun vs H Q E h => len_Model_error_part h) fun cdv A outer s H vs Q E hr h => ⟨t_Model_error_part K, ?_, pure_Model_error_part T h⟩
  exact (pss_one (ps_ret (pe_callB (cr_sum rfl) (by rfl) T.f_sum (by decide +kernel) (pa_cons (pe_lock (pe_lc (own := [("residual", 1)]) (g := (gName 1)) (tt := tYes) rfl sc_Model_error_part.nd (pi_valuesT (pe_fld (pv 0) rfl)) (blkOk_by (own := [("residual", 1)]) (N := N_Model_error_part) (sc := defScope s_Model_error_part) (by decide +kernel)) (fun _ _ _ _ _ => (pg_name (i := 1) sc_Model_error_part.nd rfl (Or.inl rfl))) (fun _ _ _ _ _ => pts_nil) (fun _ _ _ _ _ => (pe_op op_mul (pv 1) (pv 1))))) pa_nil))))
theorem ev_error_part (ha : Ev ta σ H (.ref A.mo)) (hM : MAt K H A m) : Ev (tMeth (He.ga K "Model") "error_part" (sp_Model_error_part K) [] E0 ta tNil) σ H (.int (Kp429.errorPart m m.parameters)) := fun H1 e Q q =>
  ha H1 e _ fun H2 e2 => ⟨_, _, _, rfl, (e.trans e2) _ _ hM.prm.obj, rfl, ⟨A, m, rfl, hM.ex (e.trans e2), fun H3 e3 => q H3 (e2.trans e3)⟩⟩
theorem prod_self (row : List Int) : (Kp429.products row row).sum = (row.tail.map fun (x : Int) => x * x).sum := by
  unfold Kp429.products
  generalize row.tail = t
  congr 1
  induction t with
  | nil => rfl
  | cons x t ih => rw [List.zip_cons_cons, List.map_cons, List.map_cons, ih]
theorem pen_sum (s : Settings) : ∀ rows : List (List Int), (rows.map (Kp429.rowPenalty s)).sum = (s.biasPenalty : Int) * (rows.map fun row => Kp429.place row 0 * Kp429.place row 0).sum + (s.penalty : Int) * (rows.map fun row => (Kp429.products row row).sum).sum
  | [] => by simp
  | r :: rows => by
    rw [List.map_cons, List.sum_cons, pen_sum s rows, List.map_cons, List.sum_cons, List.map_cons, List.sum_cons, Int.mul_add, Int.mul_add, prod_self]
    unfold Kp429.rowPenalty
    omega
theorem penalty_is (s : Settings) (p : Parameters) : (s.biasPenalty : Int) * ((p.users ++ p.items).map fun row => Kp429.place row 0 * Kp429.place row 0).sum + (s.penalty : Int) * ((p.users ++ p.items).map fun row => (Kp429.products row row).sum).sum = Kp429.penaltyPart s p := by
  rw [← pen_sum, List.map_append, List.sum_append]
  rfl
def sp_Model_penalty_part (K : PySem.W.Frag) : Sp := fun vs H Q _ => ∃ (A : MA) (m : Kp429.Model), vs = [.ref A.mo] ∧ MAt K H A m ∧ RetV (.int (Kp429.penaltyPart m.settings m.parameters)) H Q
theorem len_Model_penalty_part (h : sp_Model_penalty_part K vs H Q E) : vs.length = (["self"] : List Str).length := by
  obtain ⟨_, _, rfl, _⟩ := h
  rfl
def t_Model_penalty_part (K : PySem.W.Frag) : TS :=
  (tSeq (tAsg (tOp rCat (tOp (rIxL K) (tFld K (tVar 0) "rows") (tC (.int 0))) (tOp (rIxL K) (tFld K (tVar 0) "rows") (tC (.int 1)))) (gName 1))
    (tSeq (tAsg (tCB (rSum K) (tCons (tLc (iList K (tVar 1)) (gName 4) tYes (tOp rMulI (tOp (rIxL K) (tVar 4) (tC (.int 0))) (tOp (rIxL K) (tVar 4) (tC (.int 0)))) [4]) tNil)) (gName 2))
    (tSeq (tAsg (tCB (rSum K) (tCons (tLc (iList K (tVar 1)) (gName 4) tYes (tCall (sp_squares K) [] E0 (tCons (tVar 4) tNil)) [4]) tNil)) (gName 3))
    (tRet (tOp rAddI (tOp rMulI (tOp (rIxT K) (tFld K (tFld K (tVar 0) "settings") "penalties") (tC (.int 0))) (tVar 2)) (tOp rMulI (tOp (rIxT K) (tFld K (tFld K (tVar 0) "settings") "penalties") (tC (.int 1))) (tVar 3)))))))
theorem pure_Model_penalty_part (T : Txt K mg) (h : sp_Model_penalty_part K vs H Q E) : t_Model_penalty_part K { nx := fun _ H' => Q .non H', rt := Q } (start N_Model_penalty_part vs) H := by
  obtain ⟨A, m, rfl, hM, k⟩ := h
  have ho := hM.1
  have hP := hM.prm
  have hv := (valid_iff m.settings).mp ho.l.vs
  have l0 : A.w0.length = m.parameters.users.length := paired_len hP.r0
  have l1 : A.w1.length = m.parameters.items.length := paired_len hP.r1
  have hrow : ∀ row ∈ m.parameters.users ++ m.parameters.items, RowOk m.settings row := fun row hr => by
    rcases List.mem_append.mp hr with h | h
    · exact ho.p.ru row h
    · exact ho.p.ri row h
  have llen : (A.w0 ++ A.w1).length = (m.parameters.users ++ m.parameters.items).length := by rw [List.length_append, List.length_append, l0, l1]
  have l16 : (A.w0 ++ A.w1).length ≤ 16 := by rw [llen, List.length_append, ho.p.nu, ho.p.ni]; omega
  refine q_asgL (el_catB (ev_rowsK (A := A) (p := m.parameters) T (k := 0) (ev_var rfl) hP ev_c (Nat.zero_le _)) (ev_rowsK (A := A) (p := m.parameters) T (k := 1) (ev_var rfl) hP ev_c (Nat.le_refl _)) (hP.lK 0) (hP.lK 1) (by rw [List.length_map, List.length_map]; show A.w0.length + A.w1.length ≤ _; rw [List.length_append] at l16; omega)) fun d H1 hd e1 h1 => ?_
  have h1 : H1 d = some (.lst ((A.w0 ++ A.w1).map V.ref)) := by rw [List.map_append]; exact h1
  have hRa : RowsAt H (A.w0 ++ A.w1) (m.parameters.users ++ m.parameters.items) := paired_app hP.r0 hP.r1
  refine q_asg (v := .int (((m.parameters.users ++ m.parameters.items).map fun row => Kp429.place row 0 * Kp429.place row 0).sum)) (ev_sumN (ns := (m.parameters.users ++ m.parameters.items).map fun row => Kp429.place row 0 * Kp429.place row 0) (fun H2 e2 Q2 q2 => ?_) rfl) fun H2 e2 => ?_
  · refine run_lcL (ev_var rfl) (sq_of (e2 _ _ h1)) fun H3 e3 => ?_
    refine lc_vals (walk_list (xs := (A.w0 ++ A.w1).map V.ref)) (by rw [List.length_map]; omega) (fun H4 e4 => sq_of (e4 _ _ ((e2.trans e3) _ _ h1))) (((m.parameters.users ++ m.parameters.items).map fun row => Kp429.place row 0 * Kp429.place row 0).map V.int) (by rw [List.length_map, List.length_map, List.length_map, llen]) ?_ (fun Dl H4 hD e4 h4 => q2 Dl H4 (fresh_back e3 hD) (e3.trans e4) h4)
    intro i x z H4 H5 K1 hi hz e4 y k1
    obtain ⟨rfl, hx⟩ := y
    rw [List.getElem?_map] at hx
    obtain ⟨r, hr, rfl⟩ := Option.map_eq_some_iff.mp hx
    obtain ⟨row, hrow0, hrx⟩ := paired_at hRa hr
    rw [List.getElem?_map, List.getElem?_map, hrow0] at hz
    cases hz
    refine ⟨rfl, ?_⟩
    have g := (hrow row (List.mem_of_getElem? hrow0)).good ho.l.vs
    have hrx5 := (((e1.trans e2).trans e3).trans e4) _ _ hrx
    have sm : Sm (Kp429.place row 0) := by
      have b := (hrow row (List.mem_of_getElem? hrow0)).bnd (Nat.zero_le _)
      have := low_ge ho.l.vs 0
      have := high_le ho.l.vs 0
      exact sm_of (by omega) (by omega)
    exact ev_mul (ev_ixL (j := 0) (ev_var rfl) ev_c (sq_of hrx5) g.at0) (ev_ixL (j := 0) (ev_var rfl) ev_c (sq_of hrx5) g.at0) sm.mulL _ (Ex.refl _) _ fun H6 e6 => k1 H6 e6
  refine q_asg (v := .int (((m.parameters.users ++ m.parameters.items).map fun row => (Kp429.products row row).sum).sum)) (ev_sumN (ns := (m.parameters.users ++ m.parameters.items).map fun row => (Kp429.products row row).sum) (fun H3 e3 Q3 q3 => ?_) rfl) fun H3 e3 => ?_
  · refine run_lcL (ev_var rfl) (sq_of ((e2.trans e3) _ _ h1)) fun H4 e4 => ?_
    refine lc_vals (walk_list (xs := (A.w0 ++ A.w1).map V.ref)) (by rw [List.length_map]; omega) (fun H5 e5 => sq_of (e5 _ _ (((e2.trans e3).trans e4) _ _ h1))) (((m.parameters.users ++ m.parameters.items).map fun row => (Kp429.products row row).sum).map V.int) (by rw [List.length_map, List.length_map, List.length_map, llen]) ?_ (fun Dl H5 hD e5 h5 => q3 Dl H5 (fresh_back e4 hD) (e4.trans e5) h5)
    intro i x z H5 H6 K1 hi hz e5 y k1
    obtain ⟨rfl, hx⟩ := y
    rw [List.getElem?_map] at hx
    obtain ⟨r, hr, rfl⟩ := Option.map_eq_some_iff.mp hx
    obtain ⟨row, hrow0, hrx⟩ := paired_at hRa hr
    rw [List.getElem?_map, List.getElem?_map, hrow0] at hz
    cases hz
    refine ⟨rfl, ?_⟩
    have g := (hrow row (List.mem_of_getElem? hrow0)).good ho.l.vs
    have hrx5 := ((((e1.trans e2).trans e3).trans e4).trans e5) _ _ hrx
    exact ev_squares (ev_var rfl) (sq_of hrx5) g.2.1 g.2.2 _ (Ex.refl _) _ fun H7 e7 => k1 H7 e7
  have e3' := (e1.trans e2).trans e3
  obtain ⟨dx, mm, pp, s1, s2, s3⟩ := hM.set.ex e3'
  refine s_ret (v := .int (Kp429.penaltyPart m.settings m.parameters)) (ev_is (ev_add (ev_mul (ev_ixT (j := 0) (ev_fld (ev_settings T (A := A) (ev_var rfl) (hP.ex e3')) s1 T.c_Settings T.n_Settings_penalties rfl) ev_c (st_of s3) rfl) (ev_var rfl) (.inl ⟨by omega, by omega⟩)) (ev_mul (ev_ixT (j := 1) (ev_fld (ev_settings T (A := A) (ev_var rfl) (hP.ex e3')) s1 T.c_Settings T.n_Settings_penalties rfl) ev_c (st_of s3) rfl) (ev_var rfl) (.inl ⟨by omega, by omega⟩))) ?_) (retv_is k e3' rfl)
  rw [← penalty_is]
theorem ok_Model_penalty_part (T : Txt K mg) : Has P w K mg base 3 d_Model_penalty_part.at_ ["self"] (sp_Model_penalty_part K) := by
  refine Has.of (d := d_Model_penalty_part) T 35 rfl ⟨rfl, rfl⟩ sc_Model_penalty_part (fun _ _ _ _ _ _ us hl => match us, hl with | [_], _ => rfl) (fun vs H Q E h => len_Model_penalty_part h) fun cdv A outer s H vs Q E hr h => ⟨t_Model_penalty_part K, ?_, pure_Model_penalty_part T h⟩
  exact (pss_cons (ps_set (i := 1) sc_Model_penalty_part.nd rfl (Or.inl rfl) (pe_op op_cat (pe_ix ix_list (pe_fld (pv 0) rfl) pe_int (fun _ _ => rfl)) (pe_ix ix_list (pe_fld (pv 0) rfl) pe_int (fun _ _ => rfl))))
    (pss_cons (ps_set (i := 2) sc_Model_penalty_part.nd rfl (Or.inl rfl) (pe_callB (cr_sum rfl) (by rfl) T.f_sum (by decide +kernel) (pa_cons (pe_lc (own := [("row", 4)]) (g := (gName 4)) (tt := tYes) rfl sc_Model_penalty_part.nd (pi_list (pv 1)) (blkOk_by (own := [("row", 4)]) (N := N_Model_penalty_part) (sc := defScope s_Model_penalty_part) (by decide +kernel)) (fun _ _ _ _ _ => (pg_name (i := 4) sc_Model_penalty_part.nd rfl (Or.inl rfl))) (fun _ _ _ _ _ => pts_nil) (fun _ _ _ _ _ => (pe_op op_mul (pe_ix ix_list (pv 4) pe_int (fun _ _ => rfl)) (pe_ix ix_list (pv 4) pe_int (fun _ _ => rfl))))) pa_nil)))
    (pss_cons (ps_set (i := 3) sc_Model_penalty_part.nd rfl (Or.inl rfl) (pe_callB (cr_sum rfl) (by rfl) T.f_sum (by decide +kernel) (pa_cons (pe_lc (own := [("row", 4)]) (g := (gName 4)) (tt := tYes) rfl sc_Model_penalty_part.nd (pi_list (pv 1)) (blkOk_by (own := [("row", 4)]) (N := N_Model_penalty_part) (sc := defScope s_Model_penalty_part) (by decide +kernel)) (fun _ _ _ _ _ => (pg_name (i := 4) sc_Model_penalty_part.nd rfl (Or.inl rfl))) (fun _ _ _ _ _ => pts_nil) (fun _ _ _ _ _ => (pe_callH (ok_squares T) (hr.mono (by decide)) rfl T.g_squares (pa_cons (pv 4) pa_nil)))) pa_nil)))
    (pss_one (ps_ret (pe_op op_add (pe_op op_mul (pe_ix ix_tup (pe_fld (pe_fld (pv 0) rfl) rfl) pe_int (fun _ _ => rfl)) (pv 2)) (pe_op op_mul (pe_ix ix_tup (pe_fld (pe_fld (pv 0) rfl) rfl) pe_int (fun _ _ => rfl)) (pv 3))))))))
theorem ev_penalty_part (ha : Ev ta σ H (.ref A.mo)) (hM : MAt K H A m) : Ev (tMeth (He.ga K "Model") "penalty_part" (sp_Model_penalty_part K) [] E0 ta tNil) σ H (.int (Kp429.penaltyPart m.settings m.parameters)) := fun H1 e Q q =>
  ha H1 e _ fun H2 e2 => ⟨_, _, _, rfl, (e.trans e2) _ _ hM.prm.obj, rfl, ⟨A, m, rfl, hM.ex (e.trans e2), fun H3 e3 => q H3 (e2.trans e3)⟩⟩
def sp_Model_objective (K : PySem.W.Frag) : Sp := fun vs H Q _ => ∃ (A : MA) (m : Kp429.Model), vs = [.ref A.mo] ∧ MAt K H A m ∧ RetV (.int (Kp429.objective m m.parameters)) H Q
theorem len_Model_objective (h : sp_Model_objective K vs H Q E) : vs.length = (["self"] : List Str).length := by
  obtain ⟨_, _, rfl, _⟩ := h
  rfl
def t_Model_objective (K : PySem.W.Frag) : TS :=
  (tRet (tOp rAddI (tMeth (He.ga K "Model") "error_part" (sp_Model_error_part K) [] E0 (tVar 0) tNil) (tMeth (He.ga K "Model") "penalty_part" (sp_Model_penalty_part K) [] E0 (tVar 0) tNil)))
theorem pure_Model_objective (T : Txt K mg) (h : sp_Model_objective K vs H Q E) : t_Model_objective K { nx := fun _ H' => Q .non H', rt := Q } (start N_Model_objective vs) H := by
  obtain ⟨A, m, rfl, hM, k⟩ := h
  exact s_ret (v := .int (Kp429.objective m m.parameters)) (ev_add (ev_error_part (ev_var rfl) hM) (ev_penalty_part (ev_var rfl) hM)) k
theorem ok_Model_objective (T : Txt K mg) : Has P w K mg base 4 d_Model_objective.at_ ["self"] (sp_Model_objective K) := by
  refine Has.of (d := d_Model_objective) T 36 rfl ⟨rfl, rfl⟩ sc_Model_objective (fun _ _ _ _ _ _ us hl => match us, hl with | [_], _ => rfl) (fun vs H Q E h => len_Model_objective h) fun cdv A outer s H vs Q E hr h => ⟨t_Model_objective K, ?_, pure_Model_objective T h⟩
  exact (pss_one (ps_ret (pe_op op_add (pe_methH0 (pv 0) T.c_Model T.m_Model_error_part (ok_Model_error_part T) (hr.mono (by decide))) (pe_methH0 (pv 0) T.c_Model T.m_Model_penalty_part (ok_Model_penalty_part T) (hr.mono (by decide))))))
theorem ev_objective (ha : Ev ta σ H (.ref A.mo)) (hM : MAt K H A m) : Ev (tMeth (He.ga K "Model") "objective" (sp_Model_objective K) [] E0 ta tNil) σ H (.int (Kp429.objective m m.parameters)) := fun H1 e Q q =>
  ha H1 e _ fun H2 e2 => ⟨_, _, _, rfl, (e.trans e2) _ _ hM.prm.obj, rfl, ⟨A, m, rfl, hM.ex (e.trans e2), fun H3 e3 => q H3 (e2.trans e3)⟩⟩
end
end Gs
namespace Gs
open PySem PySem.Spec PyProof.Rows L2 Evl
section
open Kp429 (Rating Settings Parameters Coordinate insertRating)
variable {s : Settings} {l : List Rating} {p : Parameters} {rat : List KD} {rtr : List (List Int)} {rst : List (List Key × V)} {nu ni u i v : Nat} {kvs : KD} {xs xs' : List Int}
theorem DictOf.of_map {κ α β : Type} [DecidableEq κ] {kvs : List (κ × V)} {L : List α} {f : β → κ} {g : β → V} {h : α → β} (d : DictOf kvs L (fun a => f (h a)) (fun a => g (h a))) : DictOf kvs (L.map h) f g := by
  unfold DictOf at d ⊢
  rw [List.map_map]
  exact d
theorem DictOf.congrF {κ α : Type} [DecidableEq κ] {kvs : List (κ × V)} {L : List α} {f f' : α → κ} {g g' : α → V} (d : DictOf kvs L f g) (e : ∀ a ∈ L, f a = f' a) (e2 : ∀ a ∈ L, g a = g' a) : DictOf kvs L f' g' :=
  d.trans (List.Perm.of_eq (List.map_congr_left fun a ha => by rw [e a ha, e2 a ha]))
def same (x r : Rating) : Prop := r.user = x.user ∧ r.item = x.item
instance (x r : Rating) : Decidable (same x r) := inferInstanceAs (Decidable (_ ∧ _))
def putR (x r : Rating) : Rating := if r.user = x.user ∧ r.item = x.item then x else r
theorem putR_user (x r : Rating) : (putR x r).user = r.user := by
  unfold putR
  split
  · next h => exact h.1.symm
  · rfl
theorem putR_item (x r : Rating) : (putR x r).item = r.item := by
  unfold putR
  split
  · next h => exact h.2.symm
  · rfl
theorem ofK_map (x : Rating) (l : List Rating) (k id : Nat) : ofK (l.map (putR x)) k id = (ofK l k id).map (putR x) := by
  unfold ofK
  rw [List.filter_map]
  congr 1
  refine List.filter_congr fun r _ => ?_
  show ((if k = 0 then (putR x r).user else (putR x r).item) == id) = _
  rw [putR_user, putR_item]
theorem ofK_perm {a b : List Rating} (h : a.Perm b) (k id : Nat) : (ofK a k id).Perm (ofK b k id) := h.filter _
theorem ofK_cons (x : Rating) (l : List Rating) (k id : Nat) : ofK (x :: l) k id = if (if k = 0 then x.user else x.item) = id then x :: ofK l k id else ofK l k id := by
  unfold ofK
  rw [List.filter_cons]
  by_cases h : (if k = 0 then x.user else x.item) = id
  · rw [if_pos h, if_pos (beq_iff_eq.mpr h)]
  · rw [if_neg h, if_neg (fun e => h (beq_iff_eq.mp e))]
theorem users_inc (h : Sorted l) (i : Nat) : ((ofK l 1 i).map fun r => (r.user : Int)).Pairwise (· ≤ ·) := by
  have := natCast_pairwise (ofK1_inc h i)
  rw [List.map_map] at this
  exact this
theorem OkL.insert (h : OkL s l) (hu : u < s.users) (hi : i < s.items) (h1 : 1 ≤ v) (h2 : v ≤ 10) : OkL s (insertRating ⟨u, i, v⟩ l) := by
  refine ⟨h.vs, insert_sorted h.so, fun r hr => ?_⟩
  rcases insert_mem hr with e | e
  · rw [e]
    exact ⟨hu, hi, h1, h2⟩
  · exact h.rb r e
theorem rate_rel_new {x : Rating} (so : Sorted l) (hn : ∀ r ∈ l, ¬ (r.user = x.user ∧ r.item = x.item)) (R : RatRel l rat rtr nu ni) (hk : rat[x.user]? = some kvs) (hx : rtr[x.item]? = some xs) (p : xs'.Perm (xs ++ [(x.user : Int)])) (q : xs'.Pairwise (· ≤ ·)) :
    RatRel (insertRating x l) (rat.set x.user (putK kvs (gItem x) (gVal x))) (rtr.set x.item xs') nu ni := by
  have pm := insert_new hn
  have so' := insert_sorted (x := x) so
  refine ⟨by rw [List.length_set]; exact R.nu, by rw [List.length_set]; exact R.ni, fun w kv hw => ?_, fun j ys hj => ?_⟩
  · rw [List.getElem?_set] at hw
    by_cases e : x.user = w
    · subst e
      rw [if_pos rfl, if_pos (List.getElem?_eq_some_iff.mp hk).1] at hw
      cases hw
      have D := R.rat _ _ hk
      have D2 := D.put_new (a := x) (fun m => by
        obtain ⟨r, hr, e⟩ := List.mem_map.mp m
        obtain ⟨h1, h2⟩ := mem_ofK.mp hr
        rw [if_pos rfl] at h2
        unfold gItem at e
        simp at e
        exact hn r h1 ⟨h2, by omega⟩)
      refine D2.perm ?_
      refine (List.perm_append_singleton ..).trans ?_
      refine (List.Perm.of_eq ?_).trans (ofK_perm pm 0 x.user).symm
      rw [ofK_cons, if_pos rfl, if_pos rfl]
    · rw [if_neg e] at hw
      refine (R.rat _ _ hw).perm ?_
      refine (List.Perm.of_eq ?_).trans (ofK_perm pm 0 w).symm
      rw [ofK_cons, if_pos rfl, if_neg e]
  · rw [List.getElem?_set] at hj
    by_cases e : x.item = j
    · subst e
      rw [if_pos rfl, if_pos (List.getElem?_eq_some_iff.mp hx).1] at hj
      cases hj
      refine perm_sorted (p.trans ?_) q (users_inc so' _)
      rw [R.rtr _ _ hx]
      refine (List.perm_append_singleton ..).trans ?_
      refine List.Perm.trans (List.Perm.of_eq ?_) ((ofK_perm pm 1 x.item).map fun r => (r.user : Int)).symm
      rw [ofK_cons, if_neg (show ¬ (1 : Nat) = 0 by decide), if_pos rfl]
      rfl
    · rw [if_neg e] at hj
      rw [R.rtr _ _ hj]
      refine perm_sorted ?_ (users_inc so _) (users_inc so' _)
      refine List.Perm.trans (List.Perm.of_eq ?_) ((ofK_perm pm 1 j).map fun r => (r.user : Int)).symm
      rw [ofK_cons, if_neg (show ¬ (1 : Nat) = 0 by decide), if_neg e]
theorem rate_rel_old {x r0 : Rating} (so : Sorted l) (h0 : r0 ∈ l) (e0 : r0.user = x.user ∧ r0.item = x.item) (R : RatRel l rat rtr nu ni) (hk : rat[x.user]? = some kvs) :
    RatRel (insertRating x l) (rat.set x.user (putK kvs (gItem x) (gVal x))) rtr nu ni := by
  have em : insertRating x l = l.map (putR x) := insert_old so ⟨r0, h0, e0⟩
  rw [em]
  refine ⟨by rw [List.length_set]; exact R.nu, R.ni, fun w kv hw => ?_, fun j ys hj => ?_⟩
  · rw [ofK_map]
    refine DictOf.of_map ?_
    rw [List.getElem?_set] at hw
    by_cases e : x.user = w
    · subst e
      rw [if_pos rfl, if_pos (List.getElem?_eq_some_iff.mp hk).1] at hw
      cases hw
      have g0 : gItem x = gItem r0 := by unfold gItem; rw [e0.2]
      rw [g0]
      refine ((R.rat _ _ hk).put_old (item_nodup so _) (mem_ofK.mpr ⟨h0, e0.1⟩) (gVal x)).congrF (fun b _ => by unfold gItem; rw [putR_item]) fun b hb => ?_
      have hbu := (mem_ofK.mp hb).2
      rw [if_pos rfl] at hbu
      by_cases q : b.item = x.item
      · rw [if_pos (by rw [← g0]; unfold gItem; rw [q]), putR, if_pos ⟨hbu, q⟩]
      · rw [if_neg (by rw [← g0]; unfold gItem; simp; omega), putR, if_neg (fun z => q z.2)]
    · rw [if_neg e] at hw
      refine (R.rat _ _ hw).congrF (fun b _ => by unfold gItem; rw [putR_item]) fun b hb => ?_
      have hbu := (mem_ofK.mp hb).2
      rw [if_pos rfl] at hbu
      rw [putR, if_neg (fun z => e (by rw [← z.1]; exact hbu))]
  · rw [R.rtr _ _ hj, ofK_map, List.map_map]
    refine List.map_congr_left fun b _ => ?_
    show (b.user : Int) = ((putR x b).user : Int)
    rw [putR_user]
theorem rate_rst_new {x : Rating} {g : Rating → Int} (hn : ∀ r ∈ l, ¬ (r.user = x.user ∧ r.item = x.item)) (S : RstOf rst l g) : RstOf (putK rst (keyR x) (.int (g x))) (insertRating x l) g := by
  refine DictOf.perm (L := l ++ [x]) (DictOf.put_new (a := x) S fun m => ?_) ((List.perm_append_singleton ..).trans (insert_new hn).symm)
  obtain ⟨r, hr, e⟩ := List.mem_map.mp m
  exact hn r hr (keyR_inj e)
theorem rate_rst_old {x r0 : Rating} {g : Rating → Int} (so : Sorted l) (h0 : r0 ∈ l) (e0 : r0.user = x.user ∧ r0.item = x.item) (S : RstOf rst l g) : RstOf (putK rst (keyR x) (.int (g x))) (insertRating x l) g := by
  have em : insertRating x l = l.map (putR x) := insert_old so ⟨r0, h0, e0⟩
  rw [em]
  refine DictOf.of_map ?_
  have k0 : keyR x = keyR r0 := by unfold keyR; rw [e0.1, e0.2]
  rw [k0]
  refine (DictOf.put_old S (keyR_nodup so) h0 (.int (g x))).congrF (fun b _ => by unfold keyR; rw [putR_user, putR_item]) fun b hb => ?_
  by_cases q : b.user = x.user ∧ b.item = x.item
  · rw [if_pos (by rw [← k0]; unfold keyR; rw [q.1, q.2]), putR, if_pos q]
  · rw [if_neg (fun z => q (keyR_inj (z.trans k0.symm))), putR, if_neg q]
/-! ### a rating removed -/
def unR (l : List Rating) (u i : Nat) : List Rating := l.filter fun r => !(r.user == u && r.item == i)
theorem unR_mem {r : Rating} : r ∈ unR l u i ↔ r ∈ l ∧ ¬ (r.user = u ∧ r.item = i) := by
  unfold unR
  rw [List.mem_filter]
  by_cases h1 : r.user = u <;> by_cases h2 : r.item = i <;> simp [h1, h2]
theorem OkL.filter (h : OkL s l) (f : Rating → Bool) : OkL s (l.filter f) := ⟨h.vs, h.so.filter _, fun r hr => h.rb r (List.mem_filter.mp hr).1⟩
theorem erase_filter {k : Int} : ∀ {ns : List Int} {j : Nat}, ns.Nodup → ns[j]? = some k → ns.eraseIdx j = ns.filter fun n => decide (n ≠ k)
  | [], j, _, h => by simp at h
  | a :: r, 0, nd, h => by
    have e : a = k := by simpa using h
    subst e
    obtain ⟨n1, n2⟩ := List.nodup_cons.mp nd
    rw [List.eraseIdx_cons_zero, List.filter_cons, if_neg (by simp)]
    exact (List.filter_eq_self.mpr fun b hb => by
      simp
      exact fun e => n1 (by rw [← e]; exact hb)).symm
  | a :: r, j + 1, nd, h => by
    obtain ⟨n1, n2⟩ := List.nodup_cons.mp nd
    have h : r[j]? = some k := by simpa using h
    have hk : k ∈ r := List.mem_of_getElem? h
    rw [List.eraseIdx_cons_succ, List.filter_cons, if_pos (by simp; exact fun e => n1 (by rw [e]; exact hk)), erase_filter n2 h]
theorem users_nodup (so : Sorted l) (i : Nat) : ((ofK l 1 i).map fun r => (r.user : Int)).Nodup := by
  rw [List.nodup_iff_pairwise_ne, List.pairwise_map]
  have := ofK1_inc so i
  rw [List.pairwise_map] at this
  exact this.imp fun q e => by omega
theorem unrate_rel {r : Rating} {j : Nat} (so : Sorted l) (hr : r ∈ l) (R : RatRel l rat rtr nu ni) (hk : rat[r.user]? = some kvs) (hx : rtr[r.item]? = some xs) (hj : xs[j]? = some (r.user : Int)) :
    RatRel (unR l r.user r.item) (rat.set r.user (dropK kvs (gItem r))) (rtr.set r.item (xs.eraseIdx j)) nu ni := by
  refine ⟨by rw [List.length_set]; exact R.nu, by rw [List.length_set]; exact R.ni, fun w kv hw => ?_, fun j' ys hj' => ?_⟩
  · rw [List.getElem?_set] at hw
    by_cases e : r.user = w
    · subst e
      rw [if_pos rfl, if_pos (List.getElem?_eq_some_iff.mp hk).1] at hw
      cases hw
      refine ((R.rat _ _ hk).drop (gItem r)).perm (List.Perm.of_eq ?_)
      unfold ofK unR
      rw [List.filter_filter, List.filter_filter]
      refine List.filter_congr fun b hb => ?_
      rw [if_pos rfl]
      unfold gItem
      rw [Bool.eq_iff_iff]
      simp
      omega
    · rw [if_neg e] at hw
      refine (R.rat _ _ hw).perm (List.Perm.of_eq ?_)
      unfold ofK unR
      rw [List.filter_filter]
      refine List.filter_congr fun b hb => ?_
      rw [if_pos rfl]
      by_cases h1 : b.user = w
      · have : b.user ≠ r.user := fun z => e (by rw [← z, h1])
        simp [h1, this]
        omega
      · simp [h1]
  · rw [List.getElem?_set] at hj'
    by_cases e : r.item = j'
    · subst e
      rw [if_pos rfl, if_pos (List.getElem?_eq_some_iff.mp hx).1] at hj'
      cases hj'
      have hxs := R.rtr _ _ hx
      rw [erase_filter (by rw [hxs]; exact users_nodup so _) hj, hxs, List.filter_map]
      congr 1
      unfold ofK unR
      rw [List.filter_filter, List.filter_filter]
      refine List.filter_congr fun b hb => ?_
      rw [if_neg (by decide)]
      rw [Bool.eq_iff_iff]
      simp
      omega
    · rw [if_neg e] at hj'
      rw [R.rtr _ _ hj']
      congr 1
      unfold ofK unR
      rw [List.filter_filter]
      refine List.filter_congr fun b hb => ?_
      rw [if_neg (by decide)]
      by_cases h1 : b.item = j'
      · have : b.item ≠ r.item := fun z => e (by rw [← z, h1])
        simp [h1, this]
        omega
      · simp [h1]
theorem unrate_rst {r : Rating} {g : Rating → Int} (S : RstOf rst l g) : RstOf (dropK rst (keyR r)) (unR l r.user r.item) g := by
  refine DictOf.perm (DictOf.drop S (keyR r)) (List.Perm.of_eq ?_)
  unfold unR
  refine List.filter_congr fun b hb => ?_
  by_cases h : b.user = r.user ∧ b.item = r.item
  · have e : keyR b = keyR r := by unfold keyR; rw [h.1, h.2]
    simp [e, h.1, h.2]
  · have e : keyR b ≠ keyR r := fun z => h (keyR_inj z)
    simp [e]
    omega
end
end Gs
namespace Gs
open PySem PySem.Spec PyProof.Rows L2 Evl
section
open Kp429 (Rating Settings Parameters Coordinate insertRating)
variable {P : Program} {w : World} {K : PySem.W.Frag} {mg : Str → Option Value} {base : Heap} {vs : List V} {H H' H1 H3 : Hp} {Q : VK} {E : XK} {A A' : MA} {p : Parameters} {σ : L2.St} {ta tk tn tq td ty tv tb te : TE} {s : Settings} {m m' m2 : Kp429.Model} {l : List Rating} {rst : List (List Key × V)} {kvs : KD}
theorem ev_dnotinK {a : Addr} {k : Int} {b : Bool} (hk : Ev ty σ H (.int k)) (hd : Ev td σ H (.ref a)) (h : H a = some (.dK kvs)) (hb : (!(valV kvs (.inl k)).isSome) = b) : Ev (tDNotIn ty td) σ H (.bl b) := fun H1 e Q q =>
  hk H1 e _ fun H2 e2 => hd H2 (e.trans e2) _ fun H3 e3 => ⟨a, _, rfl, .inl ⟨kvs, .inl k, .inl (((e.trans e2).trans e3) _ _ h), rfl, rfl⟩, by rw [hb]; exact q H3 (e2.trans e3)⟩
theorem q_dputK {D : Ends} {tz : TS} {a : Addr} {k : Int} {v : V} (hv : Ev tv σ H v) (hd : Ev td σ H (.ref a)) (hk : Ev ty σ H (.int k)) (h : H a = some (.dK kvs)) (hl : kvs.length < 1000) (q : ∀ H1, Ex H H1 → tz D σ (upd H1 a (.dK (putK kvs (.inl k) v)))) : tSeq (sDPut td ty tv) tz D σ H :=
  hv H (Ex.refl H) _ fun H1 e1 => hd H1 e1 _ fun H2 e2 => hk H2 (e1.trans e2) _ fun H3 e3 => ⟨a, _, rfl, .inl ⟨kvs, .inl k, ((e1.trans e2).trans e3) _ _ h, rfl, Nat.lt_of_lt_of_le hl (by decide), rfl⟩, q H3 ((e1.trans e2).trans e3)⟩
/-- xs[i] = sorted(ns) -/
theorem s_setSorted {D : Ends} {a : Addr} {xs : List V} {j : Nat} {ns : List Int} {tl : TE} (hs : EvL te σ H (ns.map V.int)) (ho : Ev ta σ H (.ref a)) (hi : Ev tb σ H (.int (j : Int))) (hl : H a = some (.lst xs)) (hj : j < xs.length)
    (k : ∀ (ns' : List Int) q H1, ns'.Perm ns → ns'.Pairwise (· ≤ ·) → H q = none → Ex H H1 → H1 q = some (.lst (ns'.map V.int)) → D.nx σ (upd H1 a (.lst (xs.set j (.ref q))))) : tAsg (tCB (rSortedI K) (tCons te tNil)) (gSub ta tb rSetL) D σ H :=
  hs H (Ex.refl H) _ fun q0 H1 _ e1 h1 => ⟨q0, ns, rfl, sq_of h1, fun ns' q hp hs hq => by
    have e2 : Ex H (upd H1 q (.lst (ns'.map V.int))) := e1.trans (Ex.new hq)
    exact ho _ e2 _ fun H3 e3 => hi H3 (e2.trans e3) _ fun H4 e4 => ⟨a, xs, (j : Int), j, rfl, rfl, ((e2.trans e3).trans e4) _ _ hl, ixN_nat hj, k ns' q H4 hp hs (fresh_back e1 hq) ((e2.trans e3).trans e4) (e4 _ _ (e3 _ _ upd_same))⟩⟩
theorem Moved.upd' {D : Addr} {o : HO} {u : Nat} {H1 : Hp} (m : Moved A H A' H1) (hd : A'.dr[u]? = some D) (hk : A.fp D) : Moved A H A' (L2.upd H1 D o) := m.upd hk
/-! ### rate -/
def rateM (m : Kp429.Model) (u i v : Nat) : Kp429.Model := { m with ratings := insertRating ⟨u, i, v⟩ m.ratings }
def sp_Model_rate (K : PySem.W.Frag) : Sp := fun vs H Q _ => ∃ (A : MA) (m : Kp429.Model) (u i v : Nat), vs = [.ref A.mo, .int (u : Int), .int (i : Int), .int (v : Int)] ∧ MAt K H A m ∧ u < m.settings.users ∧ i < m.settings.items ∧ 1 ≤ v ∧ v ≤ 10 ∧
  ∀ A' H', MAt K H' A' (rateM m u i v) → Moved A H A' H' → Q .non H'
theorem len_Model_rate (h : sp_Model_rate K vs H Q E) : vs.length = (["self", "user", "item", "value"] : List Str).length := by
  obtain ⟨_, _, _, _, _, rfl, _⟩ := h
  rfl
def t_Model_rate (K : PySem.W.Frag) : TS :=
  (tSeq (tIfS (tB (tDNotIn (tVar 2) (tOp (rIxL K) (tFld K (tVar 0) "ratings") (tVar 1)))) (tAsg (tCB (rSortedI K) (tCons (tOp rCat (tOp (rIxL K) (tFld K (tVar 0) "raters") (tVar 2)) (tLst (tCons (tVar 1) tNil))) tNil)) (gSub (tFld K (tVar 0) "raters") (tVar 2) rSetL)) tNext)
    (tSeq (sDPut (tOp (rIxL K) (tFld K (tVar 0) "ratings") (tVar 1)) (tVar 2) (tVar 3))
    (tDrop (tMeth (He.ga K "Model") "renew" (sp_Model_renew K) [] E0 (tVar 0) (tCons (tVar 1) (tCons (tVar 2) tNil))))))
theorem pure_Model_rate (T : Txt K mg) (h : sp_Model_rate K vs H Q E) : t_Model_rate K { nx := fun _ H' => Q .non H', rt := Q } (start N_Model_rate vs) H := by
  obtain ⟨A, m, u, i, v, rfl, ⟨ho, rat, rtr, rst, hL, hR, hS⟩, hu, hi, hv1, hv2, kk⟩ := h
  obtain ⟨d, kvs, hd, hkv, hdk⟩ := hR.dict hL hu
  have hl8 : kvs.length ≤ 8 := by rw [DictOf.len (hR.rat _ _ hkv)]; exact ho.l.ofK_len 0 u
  have fin : ∀ (A2 : MA) H2 (rtr2 : List (List Int)), LowAt K H2 A2 m.settings m.parameters rat rtr2 rst → RatRel (insertRating ⟨u, i, v⟩ m.ratings) (rat.set u (putK kvs (.inl (i : Int)) (.int (v : Int)))) rtr2 m.settings.users m.settings.items →
      RstOf (putK rst (keyUI u i) (.int (65536 * (v : Int) - Kp429.predict m.parameters u i))) (insertRating ⟨u, i, v⟩ m.ratings) (Kp429.residual m.parameters) → Moved A H A2 H2 → A2.dr = A.dr → A2.rs = A.rs →
      (tSeq (sDPut (tOp (rIxL K) (tFld K (tVar 0) "ratings") (tVar 1)) (tVar 2) (tVar 3)) (tDrop (tMeth (He.ga K "Model") "renew" (sp_Model_renew K) [] E0 (tVar 0) (tCons (tVar 1) (tCons (tVar 2) tNil))))) { nx := fun _ H' => Q .non H', rt := Q } [some (.ref A.mo), some (.int (u : Int)), some (.int (i : Int)), some (.int (v : Int))] H2 := by
    intro A2 H2 rtr2 hL2 hR2 hS2 mv hdr hrs2
    have hd2 : A2.dr[u]? = some d := by rw [hdr]; exact hd
    have hdk2 : H2 d = some (.dK kvs) := by
      obtain ⟨d', h1, h2⟩ := paired_at2 hL2.dr hkv
      rw [hd2] at h1
      cases h1
      exact h2
    rw [← mv.mo]
    refine q_dputK (ev_var rfl) (ev_ixL (ev_ratings T (A := A2) (p := m.parameters) (ev_var rfl) hL2.prm) (ev_var rfl) (sq_of hL2.lr) (map_ref_at hd2)) (ev_var rfl) hdk2 (by omega) fun H3 e3 => ?_
    have hL3 := (hL2.ex e3).putDict (kvs' := putK kvs (.inl (i : Int)) (.int (v : Int))) hd2
    refine s_renew (A := A2) (p := m.parameters) (u := u) (i := i) (ev_var rfl) (ev_var rfl) (ev_var rfl) hL3.prm (ho.p.both ho.l.vs hu hi) hL3.lr hd2 (.inl upd_same) (by rw [valV_put, if_pos rfl]) hL3.rs (by rw [DictOf.len hS]; have := ho.l.len; omega) fun H4 e4 => ?_
    refine kk A2 _ ⟨⟨ho.l.insert hu hi hv1 hv2, ho.p⟩, _, _, _, (hL3.ex e4).putRst, hR2, hS2⟩ ?_
    have hfd : A.fp d := .inr (.inr (.inr (.inr (.inr (.inr (.inr (.inl (List.mem_of_getElem? hd))))))))
    exact ((((mv.exR e3).upd hfd).exR e4).upd (by rw [hrs2]; exact fp_rs))
  by_cases hex : ∃ r ∈ m.ratings, r.user = u ∧ r.item = i
  · obtain ⟨r0, hr0, e0⟩ := hex
    have hval : valV kvs (.inl (i : Int)) = some (.int (r0.value : Int)) := by
      have := hR.val ho.l.so hr0 (by rw [e0.1]; exact hkv)
      rw [e0.2] at this
      exact this
    refine q_when (b := false) (et_B (ev_dnotinK (ev_var rfl) (ev_ixL (ev_ratings T (A := A) (p := m.parameters) (ev_var rfl) hL.prm) (ev_var rfl) (sq_of hL.lr) (map_ref_at hd)) hdk (by rw [hval]; rfl))) (fun hb => by cases hb) (fun _ H2 e2 => ?_)
    exact fin A H2 rtr (hL.ex e2) (rate_rel_old (x := ⟨u, i, v⟩) ho.l.so hr0 e0 hR hkv) (rate_rst_old (x := ⟨u, i, v⟩) ho.l.so hr0 e0 hS) (Moved.refl.exR e2) rfl rfl
  · have hno : ∀ r ∈ m.ratings, ¬ (r.user = u ∧ r.item = i) := fun r hr e => hex ⟨r, hr, e⟩
    have hval : valV kvs (.inl (i : Int)) = none := (hR.rat _ _ hkv).none fun mm => by
      obtain ⟨r, hr, e⟩ := List.mem_map.mp mm
      obtain ⟨h1, h2⟩ := mem_ofK.mp hr
      rw [if_pos rfl] at h2
      unfold gItem at e
      simp at e
      exact hno r h1 ⟨h2, by omega⟩
    have hil : i < rtr.length := by rw [hR.ni]; exact hi
    obtain ⟨q, hq, hqx⟩ := paired_at2 hL.qs (List.getElem?_eq_getElem hil)
    have hx8 : (rtr[i]).length ≤ 8 := by rw [hR.rtr _ _ (List.getElem?_eq_getElem hil), List.length_map]; exact ho.l.ofK_len 1 i
    refine q_when (b := true) (et_B (ev_dnotinK (ev_var rfl) (ev_ixL (ev_ratings T (A := A) (p := m.parameters) (ev_var rfl) hL.prm) (ev_var rfl) (sq_of hL.lr) (map_ref_at hd)) hdk (by rw [hval]; rfl))) (fun _ H2 e2 => ?_) (fun hb => by cases hb)
    have hL2 := hL.ex e2
    refine s_setSorted (ns := rtr[i] ++ [(u : Int)]) (j := i) (tl := tVar 0) (by
      rw [List.map_append]
      exact el_catL (ev_ixL (ev_raters T (A := A) (p := m.parameters) (ev_var rfl) hL2.prm) (ev_var rfl) (sq_of hL2.lq) (map_ref_at hq)) (el_lst (ea_cons (ev_var rfl) ea_nil) (by simp)) (e2 _ _ hqx) (by rw [List.length_map]; simp; omega)) (ev_raters T (A := A) (p := m.parameters) (ev_var rfl) hL2.prm) (ev_var rfl) hL2.lq (by rw [List.length_map, paired_len hL.qs]; exact hil) fun ns' q' H3 hp hs hq' e3 h3 => ?_
    have hnf : ¬ A.fp q' := hL2.new hq'
    have hL3 := (hL2.ex e3).newRater (i := i) h3 hnf
    rw [List.map_set] at hL3
    refine fin { A with qs := A.qs.set i q' } _ (rtr.set i ns') hL3 (rate_rel_new (x := ⟨u, i, v⟩) ho.l.so hno hR hkv (List.getElem?_eq_getElem hil) hp hs) (rate_rst_new (x := ⟨u, i, v⟩) hno hS) ⟨(frEx (e2.trans e3)).upd (by simp [MA.fp]), fun b hb => ?_, rfl, rfl⟩ rfl rfl
    rcases hb with e | e | e | e | e | e | e | e | e | e | e
    · exact .inl (by simp [MA.fp, e])
    · exact .inl (by simp [MA.fp, e])
    · exact .inl (by simp [MA.fp, e])
    · exact .inl (by simp [MA.fp, e])
    · exact .inl (by simp [MA.fp, e])
    · exact .inl (by simp [MA.fp, e])
    · exact .inl (by simp [MA.fp, e])
    · exact .inl (.inr (.inr (.inr (.inr (.inr (.inr (.inr (.inl e))))))))
    · rcases List.mem_or_eq_of_mem_set e with h | h
      · exact .inl (.inr (.inr (.inr (.inr (.inr (.inr (.inr (.inr (.inl h)))))))))
      · exact .inr (by rw [h]; exact fresh_back e2 hq')
    · exact .inl (.inr (.inr (.inr (.inr (.inr (.inr (.inr (.inr (.inr (.inl e))))))))))
    · exact .inl (.inr (.inr (.inr (.inr (.inr (.inr (.inr (.inr (.inr (.inr e))))))))))
theorem ok_Model_rate (T : Txt K mg) : Has P w K mg base 5 d_Model_rate.at_ ["self", "user", "item", "value"] (sp_Model_rate K) := by
  refine Has.of (d := d_Model_rate) T 23 rfl ⟨rfl, rfl⟩ sc_Model_rate (fun _ _ _ _ _ _ us hl => match us, hl with | [_, _, _, _], _ => rfl) (fun vs H Q E h => len_Model_rate h) fun cdv A outer s H vs Q E hr h => ⟨t_Model_rate K, ?_, pure_Model_rate T h⟩
  exact (pss_cons (ps_if (pt_cmp (pc_dnotin (hu_of hr) (pv 2) (pe_ix ix_list (pe_fld (pv 0) rfl) (pv 1) (fun _ _ => rfl)))) (pss_one (ps_asg (pe_callB cr_sortedI (by rfl) T.f_sorted (by decide +kernel) (pa_cons (pe_op op_cat (pe_ix ix_list (pe_fld (pv 0) rfl) (pv 2) (fun _ _ => rfl)) (pe_lst (pa_cons (pv 1) pa_nil))) pa_nil)) (pg_sub (pe_fld (pv 0) rfl) (pv 2) set_list))) pss_nil)
    (pss_cons (ps_dput (hu_of hr) (pe_ix ix_list (pe_fld (pv 0) rfl) (pv 1) (fun _ _ => rfl)) (pv 2) (pv 3) rfl)
    (pss_one (ps_expr (pe_methH (pv 0) T.c_Model T.m_Model_renew (ok_Model_renew T) (hr.mono (by decide)) (pa_cons (pv 1) (pa_cons (pv 2) pa_nil)))))))
end
end Gs
namespace Gs
open PySem PySem.Spec PyProof.Rows L2 Evl
section
open Kp429 (Rating Settings Parameters Coordinate insertRating)
variable {P : Program} {w : World} {K : PySem.W.Frag} {mg : Str → Option Value} {base : Heap} {vs : List V} {H H' H1 H3 : Hp} {Q : VK} {E : XK} {A A' : MA} {p : Parameters} {σ : L2.St} {ta tk tn tq td ty tv tb te : TE} {s : Settings} {m m' m2 : Kp429.Model} {l : List Rating} {rst : List (List Key × V)} {kvs : KD}
theorem fp_dr {d : Addr} {u : Nat} (h : A.dr[u]? = some d) : A.fp d := .inr (.inr (.inr (.inr (.inr (.inr (.inr (.inl (List.mem_of_getElem? h))))))))
theorem fp_qs {d : Addr} {u : Nat} (h : A.qs[u]? = some d) : A.fp d := .inr (.inr (.inr (.inr (.inr (.inr (.inr (.inr (.inl (List.mem_of_getElem? h)))))))))
/-- xs.remove(k) -/
theorem q_remI {D : Ends} {tz : TS} {a : Addr} {ns : List Int} {k : Int} {j : Nat} (ha : Ev ta σ H (.ref a)) (hk : Ev tk σ H (.int k)) (h : H a = some (.lst (ns.map V.int))) (hj : ns[j]? = some k) (hn : ∀ i : Nat, i < j → ns[i]? ≠ some k) (q : ∀ H1, Ex H H1 → tz D σ (upd H1 a (.lst ((ns.eraseIdx j).map V.int)))) :
    tSeq (tDrop (tBM K "list" rRemI ta (tCons tk tNil))) tz D σ H := ha H (Ex.refl H) _ fun H1 e1 =>
  ⟨Or.inl ⟨rfl, _, sq_of (e1 _ _ h)⟩, hk H1 e1 _ fun H2 e2 => ⟨a, ns, k, j, rfl, rfl, e2 _ _ (e1 _ _ h), hj, hn, q H2 (e1.trans e2)⟩⟩
theorem q_dpopT {D : Ends} {tz : TS} {a : Addr} {kvs : List (List Key × V)} {k : List Key} {v : V} (hd : Ev td σ H (.ref a)) (hk : EvU ty σ H (k.map kV)) (h : H a = some (.dT kvs)) (hv : valV kvs k = some v) (q : ∀ H1, Ex H H1 → tz D σ (upd H1 a (.dT (dropK kvs k)))) : tSeq (tDrop (tDPopT td ty)) tz D σ H :=
  hd H (Ex.refl H) _ fun H1 e1 => ⟨a, rfl, .inr ⟨kvs, .inl (e1 _ _ h)⟩, hk H1 e1 _ fun b H2 _ e2 hb => ⟨kvs, k, b, v, (e1.trans e2) _ _ h, rfl, hb, hv, q H2 (e1.trans e2)⟩⟩
theorem s_retPop1 {D : Ends} {a : Addr} {k : Int} {v : V} (hd : Ev td σ H (.ref a)) (hk : Ev ty σ H (.int k)) (h : H a = some (.dK kvs)) (hv : valV kvs (.inl k) = some v) (q : ∀ H1, Ex H H1 → D.rt v (upd H1 a (.dK (dropK kvs (.inl k))))) : tRet (tDPop1 td ty) D σ H :=
  hd H (Ex.refl H) _ fun H1 e1 => ⟨a, rfl, .inl ⟨kvs, .inl (e1 _ _ h)⟩, hk H1 e1 _ fun H2 e2 => ⟨kvs, .inl k, v, (e1.trans e2) _ _ h, rfl, hv, q H2 (e1.trans e2)⟩⟩
/-! ### unrate -/
def unrateM (m : Kp429.Model) (u i : Nat) : Kp429.Model := { m with ratings := unR m.ratings u i }
def sp_Model_unrate (K : PySem.W.Frag) : Sp := fun vs H Q _ => ∃ (A : MA) (m : Kp429.Model) (r : Rating), vs = [.ref A.mo, .int (r.user : Int), .int (r.item : Int)] ∧ MAt K H A m ∧ r ∈ m.ratings ∧
  ∀ H', Kept K A H (unrateM m r.user r.item) H' → Q (.int (r.value : Int)) H'
theorem len_Model_unrate (h : sp_Model_unrate K vs H Q E) : vs.length = (["self", "user", "item"] : List Str).length := by
  obtain ⟨_, _, _, rfl, _⟩ := h
  rfl
def t_Model_unrate (K : PySem.W.Frag) : TS :=
  (tSeq (tDrop (tBM K "list" rRemI (tOp (rIxL K) (tFld K (tVar 0) "raters") (tVar 2)) (tCons (tVar 1) tNil)))
    (tSeq (tDrop (tDPopT (tFld K (tVar 0) "rests") (tTup (tCons (tVar 1) (tCons (tVar 2) tNil)))))
    (tRet (tDPop1 (tOp (rIxL K) (tFld K (tVar 0) "ratings") (tVar 1)) (tVar 2)))))
theorem pure_Model_unrate (T : Txt K mg) (h : sp_Model_unrate K vs H Q E) : t_Model_unrate K { nx := fun _ H' => Q .non H', rt := Q } (start N_Model_unrate vs) H := by
  obtain ⟨A, m, r, rfl, ⟨ho, rat, rtr, rst, hL, hR, hS⟩, hr, kk⟩ := h
  have hrb := ho.l.rb r hr
  obtain ⟨d, kvs, hd, hkv, hdk⟩ := hR.dict hL hrb.1
  have hil : r.item < rtr.length := by rw [hR.ni]; exact hrb.2.1
  obtain ⟨q, hq, hqx⟩ := paired_at2 hL.qs (List.getElem?_eq_getElem hil)
  have hxs := hR.rtr _ _ (List.getElem?_eq_getElem hil)
  have nd : (rtr[r.item]).Nodup := by rw [hxs]; exact users_nodup ho.l.so _
  have hmem : (r.user : Int) ∈ rtr[r.item] := by
    rw [hxs]
    exact List.mem_map.mpr ⟨r, mem_ofK.mpr ⟨hr, rfl⟩, rfl⟩
  obtain ⟨j, hjl, hje⟩ := List.mem_iff_getElem.mp hmem
  have hj : (rtr[r.item])[j]? = some (r.user : Int) := by rw [List.getElem?_eq_getElem hjl, hje]
  refine q_remI (j := j) (ns := rtr[r.item]) (ev_ixL (ev_raters T (A := A) (p := m.parameters) (ev_var rfl) hL.prm) (ev_var rfl) (sq_of hL.lq) (map_ref_at hq)) (ev_var rfl) hqx hj (fun i hi e => ?_) fun H1 e1 => ?_
  · obtain ⟨hil2, hie⟩ := List.getElem?_eq_some_iff.mp e
    have := (List.getElem_inj nd).mp (hie.trans hje.symm)
    omega
  have hL1 := (hL.ex e1).putRater (xs' := (rtr[r.item]).eraseIdx j) hq
  have hrs : valV rst (keyR r) = some (.int (Kp429.residual m.parameters r)) := DictOf.get hS (keyR_nodup ho.l.so) hr
  refine q_dpopT (k := keyR r) (ev_rests T (A := A) (p := m.parameters) (ev_var rfl) hL1.prm) (eu_tup (ea_cons (ev_var rfl) (ea_cons (ev_var rfl) ea_nil)) (by simp [keyR])) hL1.rs hrs fun H2 e2 => ?_
  have hL2 := (hL1.ex e2).putRst (rst' := dropK rst (keyR r))
  have hdk2 : upd H2 A.rs (.dT (dropK rst (keyR r))) d = some (.dK kvs) := by
    obtain ⟨d', h1, h2⟩ := paired_at2 hL2.dr hkv
    rw [hd] at h1
    cases h1
    exact h2
  refine s_retPop1 (ev_ixL (ev_ratings T (A := A) (p := m.parameters) (ev_var rfl) hL2.prm) (ev_var rfl) (sq_of hL2.lr) (map_ref_at hd)) (ev_var rfl) hdk2 (hR.val ho.l.so hr hkv) fun H3 e3 => ?_
  have hL3 := (hL2.ex e3).putDict (kvs' := dropK kvs (.inl (r.item : Int))) hd
  exact kk _ ⟨⟨⟨ho.l.filter _, ho.p⟩, _, _, _, hL3, unrate_rel ho.l.so hr hR hkv (List.getElem?_eq_getElem hil) hj, unrate_rst hS⟩, (((((frEx e1).upd (fp_qs hq)).ex e2).upd fp_rs).ex e3).upd (fp_dr hd)⟩
theorem ok_Model_unrate (T : Txt K mg) : Has P w K mg base 1 d_Model_unrate.at_ ["self", "user", "item"] (sp_Model_unrate K) := by
  refine Has.of (d := d_Model_unrate) T 24 rfl ⟨rfl, rfl⟩ sc_Model_unrate (fun _ _ _ _ _ _ us hl => match us, hl with | [_, _, _], _ => rfl) (fun vs H Q E h => len_Model_unrate h) fun cdv A outer s H vs Q E hr h => ⟨t_Model_unrate K, ?_, pure_Model_unrate T h⟩
  exact (pss_cons (ps_expr (pe_bm PySem.F.plainAttrs_list PySem.F.slot_list_remove PySem.F.type_list_remove mt_remove (pe_ix ix_list (pe_fld (pv 0) rfl) (pv 2) (fun _ _ => rfl)) (pa_cons (pv 1) pa_nil)))
    (pss_cons (ps_expr (pe_dpopT (hu_of hr) (pe_fld (pv 0) rfl) (pe_tup (pa_cons (pv 1) (pa_cons (pv 2) pa_nil))) ⟨rfl, rfl, rfl, rfl⟩))
    (pss_one (ps_ret (pe_dpop1 (pe_ix ix_list (pe_fld (pv 0) rfl) (pv 1) (fun _ _ => rfl)) (pv 2) ⟨rfl, rfl, rfl, rfl⟩)))))
theorem em_unrate {r : Rating} (ha : Ev ta σ H (.ref A.mo)) (hM : MAt K H A m) (hu : Ev tk σ H (.int (r.user : Int))) (hi : Ev tn σ H (.int (r.item : Int))) (hr : r ∈ m.ratings) : EvM K A (tMeth (He.ga K "Model") "unrate" (sp_Model_unrate K) [] E0 ta (tCons tk (tCons tn tNil))) σ H (unrateM m r.user r.item) (.int (r.value : Int)) := fun H1 e Q q =>
  ha H1 e _ fun H2 e2 => ⟨_, _, _, rfl, (e.trans e2) _ _ hM.prm.obj, rfl, (ea_cons hu (ea_cons hi ea_nil)) H2 (e.trans e2) _ fun H3 e3 => ⟨A, m, r, rfl, hM.ex ((e.trans e2).trans e3), hr, fun H4 g => q H4 (Kept.exL (e2.trans e3) g)⟩⟩
/-! ### forget -/
def forgetI (m : Kp429.Model) (u j : Nat) : Kp429.Model := { m with ratings := m.ratings.filter fun r => decide (r ∉ (ofK m.ratings 0 u).take j) }
theorem forgetI_zero (m : Kp429.Model) (u : Nat) : forgetI m u 0 = m := by
  unfold forgetI
  have : (m.ratings.filter fun r => decide (r ∉ (ofK m.ratings 0 u).take 0)) = m.ratings := List.filter_eq_self.mpr fun r _ => by simp
  rw [this]
theorem forgetI_succ {u j : Nat} {r : Rating} (so : Sorted m.ratings) (h : (ofK m.ratings 0 u)[j]? = some r) : forgetI m u (j + 1) = unrateM (forgetI m u j) r.user r.item := by
  unfold forgetI unrateM unR
  dsimp only
  congr 1
  rw [List.filter_filter]
  refine List.filter_congr fun b hb => ?_
  have hr := (mem_ofK.mp (List.mem_of_getElem? h)).1
  have e : b ∈ (ofK m.ratings 0 u).take (j + 1) ↔ b ∈ (ofK m.ratings 0 u).take j ∨ b = r := by
    rw [List.take_add_one, h]
    simp
  have e2 : b = r ↔ b.user = r.user ∧ b.item = r.item := ⟨fun q => by rw [q]; exact ⟨rfl, rfl⟩, sorted_uniq so hb hr⟩
  rw [Bool.eq_iff_iff, Bool.and_eq_true, decide_eq_true_iff, decide_eq_true_iff, e, e2]
  by_cases h1 : b.user = r.user <;> by_cases h2 : b.item = r.item <;> simp [h1, h2]
theorem forgetI_all (m : Kp429.Model) (u : Nat) : forgetI m u (ofK m.ratings 0 u).length = { m with ratings := m.ratings.filter fun r => r.user != u } := by
  unfold forgetI
  rw [List.take_length]
  congr 1
  refine List.filter_congr fun b hb => ?_
  have : b ∈ ofK m.ratings 0 u ↔ b.user = u := by rw [mem_ofK]; exact ⟨fun h => h.2, fun h => ⟨hb, h⟩⟩
  rw [Bool.eq_iff_iff, decide_eq_true_iff, this]
  simp
def forgetM (m : Kp429.Model) (u : Nat) : Kp429.Model := { m with ratings := m.ratings.filter fun r => r.user != u }
def sp_Model_forget (K : PySem.W.Frag) : Sp := fun vs H Q _ => ∃ (A : MA) (m : Kp429.Model) (u : Nat), vs = [.ref A.mo, .int (u : Int)] ∧ MAt K H A m ∧ u < m.settings.users ∧
  ∀ H', Kept K A H (forgetM m u) H' → Q (.int ((m.ratings.filter fun r => r.user == u).length : Nat)) H'
theorem len_Model_forget (h : sp_Model_forget K vs H Q E) : vs.length = (["self", "user"] : List Str).length := by
  obtain ⟨_, _, _, rfl, _⟩ := h
  rfl
/-- sorted(d), the keys ints -/
theorem el_sortedD {a : Addr} {ks zs : List Int} (hd : Ev td σ H (.ref a)) (h : H a = some (.dK kvs)) (hk : kvs.map (·.1) = ks.map Sum.inl) (hl : ks.length < 64) (hz : ∀ ys : List Int, ys.Perm ks → ys.Pairwise (· ≤ ·) → ys = zs) : EvL (tCB rSortedD (tCons td tNil)) σ H (zs.map V.int) := fun H1 e Q q =>
  hd H1 e _ fun H2 e2 => ⟨a, kvs, ks, rfl, .inl ((e.trans e2) _ _ h), hk, hl, fun ys p hp hs hp2 => by
    rw [hz ys hp hs]
    exact q p _ (fresh_back e2 hp2) (e2.trans (Ex.new hp2)) upd_same⟩
def t_Model_forget (K : PySem.W.Frag) : TS :=
  (tSeq (tAsg (tCB rSortedD (tCons (tOp (rIxL K) (tFld K (tVar 0) "ratings") (tVar 1)) tNil)) (gName 2))
    (tSeq (tFor (iList K (tVar 2)) (gName 3) (tDrop (tMeth (He.ga K "Model") "unrate" (sp_Model_unrate K) [] E0 (tVar 0) (tCons (tVar 1) (tCons (tVar 3) tNil)))))
    (tRet (tCB (rLenQ K) (tCons (tVar 2) tNil)))))
theorem pure_Model_forget (T : Txt K mg) (h : sp_Model_forget K vs H Q E) : t_Model_forget K { nx := fun _ H' => Q .non H', rt := Q } (start N_Model_forget vs) H := by
  obtain ⟨A, m, u, rfl, hM, hu, kk⟩ := h
  obtain ⟨ho, rat, rtr, rst, hL, hR, hS⟩ := id hM
  obtain ⟨d, kvs, hd, hkv, hdk⟩ := hR.dict hL hu
  obtain ⟨ks, hk1, hk2⟩ := keysInt (f := fun r : Rating => (r.item : Int)) (hR.rat _ _ hkv)
  have l8 := ho.l.ofK_len 0 u
  have hkl : ks.length ≤ 8 := by rw [hk2.length_eq, List.length_map]; exact l8
  refine q_asgL (el_sortedD (zs := (ofK m.ratings 0 u).map fun r => (r.item : Int)) (ev_ixL (ev_ratings T (A := A) (p := m.parameters) (ev_var rfl) hL.prm) (ev_var rfl) (sq_of hL.lr) (map_ref_at hd)) hdk hk1 (by omega) fun ys hys hyo => perm_sorted (hys.trans hk2) hyo (by
      have := natCast_pairwise (ofK0_inc ho.l.so u)
      rw [List.map_map] at this
      exact this)) fun q H1 hq e1 h1 => ?_
  refine q_forLn (a := q) (xs := ((ofK m.ratings 0 u).map fun r => (r.item : Int)).map V.int) (ev_var rfl) (sq_of h1) (fun j σ H' => Kept K A H (forgetI m u j) H' ∧ H' q = some (.lst (((ofK m.ratings 0 u).map fun r => (r.item : Int)).map V.int)) ∧ ∃ v3 : Option V, σ = [some (.ref A.mo), some (.int (u : Int)), some (.ref q), v3])
    (fun H2 e2 => ⟨by rw [forgetI_zero]; exact Kept.exL (e1.trans e2) (Kept.refl (hM.ex (e1.trans e2))), e2 _ _ h1, none, rfl⟩) (fun j σ H' _ p => sq_of p.2.1) (fun j v σ H' hj p => ?_) (fun σ H' p => ?_)
  · obtain ⟨g, hq', v3, rfl⟩ := p
    rw [List.getElem?_map, List.getElem?_map] at hj
    obtain ⟨x, hx, rfl⟩ := Option.map_eq_some_iff.mp hj
    obtain ⟨r, hr, rfl⟩ := Option.map_eq_some_iff.mp hx
    obtain ⟨hrl, hru⟩ := mem_ofK.mp (List.mem_of_getElem? hr)
    rw [if_pos rfl] at hru
    have hrj : r ∈ (forgetI m u j).ratings := by
      refine List.mem_filter.mpr ⟨hrl, ?_⟩
      rw [decide_eq_true_iff]
      intro hm
      obtain ⟨i, hi, hie⟩ := List.mem_iff_getElem.mp hm
      rw [List.length_take] at hi
      rw [List.getElem_take] at hie
      obtain ⟨hj2, hje⟩ := List.getElem?_eq_some_iff.mp hr
      have nd : (ofK m.ratings 0 u).Nodup := by
        rw [List.nodup_iff_pairwise_ne]
        exact List.Pairwise.imp (fun {a b : Rating} (q : Kp429.isBefore a b = true) (e : a = b) => before_irr q ⟨by rw [e], by rw [e]⟩) (List.Pairwise.filter _ ho.l.so)
      have := (List.getElem_inj nd).mp (hie.trans hje.symm)
      omega
    have hnf : ¬ A.fp q := hM.new hq
    refine em_unrate (A := A) (m := forgetI m u j) (r := r) (ev_var rfl) g.1 (by rw [hru]; exact ev_var rfl) (ev_var rfl) hrj H' (Ex.refl _) _ fun H2 g2 => ⟨?_, g2.2 _ _ hnf hq', _, rfl⟩
    rw [forgetI_succ ho.l.so hr]
    exact g.trans g2
  · obtain ⟨g, hq', v3, rfl⟩ := p
    rw [List.length_map, List.length_map, forgetI_all] at g
    refine s_ret (v := .int ((m.ratings.filter fun r => r.user == u).length : Nat)) (ev_is (ev_lenL (ev_var rfl) (sq_of hq')) ?_) fun H2 e2 => kk H2 (g.ex e2)
    rw [List.length_map, List.length_map]
    rfl
theorem ok_Model_forget (T : Txt K mg) : Has P w K mg base 2 d_Model_forget.at_ ["self", "user"] (sp_Model_forget K) := by
  refine Has.of (d := d_Model_forget) T 25 rfl ⟨rfl, rfl⟩ sc_Model_forget (fun _ _ _ _ _ _ us hl => match us, hl with | [_, _], _ => rfl) (fun vs H Q E h => len_Model_forget h) fun cdv A outer s H vs Q E hr h => ⟨t_Model_forget K, ?_, pure_Model_forget T h⟩
  exact (pss_cons (ps_set (i := 2) sc_Model_forget.nd rfl (Or.inl rfl) (pe_callB (cl_sortedD rfl) (by rfl) T.f_sorted (by decide +kernel) (pa_cons (pe_ix ix_list (pe_fld (pv 0) rfl) (pv 1) (fun _ _ => rfl)) pa_nil)))
    (pss_cons (ps_for PassesOwn.never rfl (pi_list (pv 2)) (pg_name (i := 3) sc_Model_forget.nd rfl (Or.inl rfl)) (pss_one (ps_expr (pe_methH (pv 0) T.c_Model T.m_Model_unrate (ok_Model_unrate T) (hr.mono (by decide)) (pa_cons (pv 1) (pa_cons (pv 3) pa_nil))))))
    (pss_one (ps_ret (pe_callB cl_len (by rfl) T.f_len (by decide +kernel) (pa_cons (pv 2) pa_nil))))))
theorem em_forget {u : Nat} (ha : Ev ta σ H (.ref A.mo)) (hM : MAt K H A m) (hu : Ev tk σ H (.int (u : Int))) (hl : u < m.settings.users) : EvM K A (tMeth (He.ga K "Model") "forget" (sp_Model_forget K) [] E0 ta (tCons tk tNil)) σ H (forgetM m u) (.int ((m.ratings.filter fun r => r.user == u).length : Nat)) := fun H1 e Q q =>
  ha H1 e _ fun H2 e2 => ⟨_, _, _, rfl, (e.trans e2) _ _ hM.prm.obj, rfl, (ea_cons hu ea_nil) H2 (e.trans e2) _ fun H3 e3 => ⟨A, m, u, rfl, hM.ex ((e.trans e2).trans e3), hl, fun H4 g => q H4 (Kept.exL (e2.trans e3) g)⟩⟩
end
end Gs
namespace Gs
open PySem PySem.Spec PyProof.Rows L2 Evl
section
open Kp429 (Rating Settings Parameters Coordinate)
theorem perm_lift {α β : Type} {h : α → β} : ∀ {L : List α} {a : List β}, a.Perm (L.map h) → ∃ L' : List α, L'.Perm L ∧ a = L'.map h
  | [], a, p => ⟨[], List.Perm.refl _, p.eq_nil⟩
  | x :: L, a, p => by
    have m : h x ∈ a := p.mem_iff.mpr (by simp)
    obtain ⟨s, t, rfl⟩ := List.append_of_mem m
    have p2 : (s ++ t).Perm (L.map h) := by
      have := (List.perm_middle (a := h x) (l₁ := s) (l₂ := t)).symm.trans p
      exact (List.perm_cons (h x)).mp this
    obtain ⟨L', h1, h2⟩ := perm_lift p2
    obtain ⟨L1, L2', e, e1, e2⟩ := List.map_eq_append_iff.mp h2.symm
    subst e
    refine ⟨L1 ++ x :: L2', (List.perm_middle).trans (h1.cons x), ?_⟩
    rw [List.map_append, List.map_cons, e1, e2]
theorem DictOf.lift {κ α : Type} [DecidableEq κ] {kvs : List (κ × V)} {L : List α} {f : α → κ} {g : α → V} (d : DictOf kvs L f g) : ∃ L' : List α, L'.Perm L ∧ kvs = L'.map fun a => (f a, g a) := perm_lift d
def upTo (l : List Rating) (n : Nat) : List Rating := (List.range n).flatMap fun u => ofK l 0 u
theorem upTo_succ (l : List Rating) (n : Nat) : upTo l (n + 1) = upTo l n ++ ofK l 0 n := by
  unfold upTo
  rw [List.range_succ, List.flatMap_append]
  simp
theorem upTo_cons (r : Rating) (l : List Rating) : ∀ n, (upTo (r :: l) n).Perm (if r.user < n then r :: upTo l n else upTo l n)
  | 0 => by simp [upTo]
  | n + 1 => by
    rw [upTo_succ, upTo_succ, ofK_cons, if_pos rfl]
    have ih := upTo_cons r l n
    by_cases h1 : r.user < n
    · rw [if_pos h1] at ih
      rw [if_neg (show ¬ r.user = n by omega), if_pos (show r.user < n + 1 by omega)]
      exact ih.append_right _
    · rw [if_neg h1] at ih
      by_cases h2 : r.user = n
      · rw [if_pos h2, if_pos (show r.user < n + 1 by omega)]
        exact List.perm_middle.trans ((ih.append_right _).cons r)
      · rw [if_neg h2, if_neg (show ¬ r.user < n + 1 by omega)]
        exact ih.append_right _
theorem upTo_perm {n : Nat} : ∀ {l : List Rating}, (∀ r ∈ l, r.user < n) → (upTo l n).Perm l
  | [], _ => by
    have : upTo [] n = [] := by
      unfold upTo ofK
      simp
    rw [this]
  | r :: l, h => by
    have q := upTo_cons r l n
    rw [if_pos (h r (List.mem_cons_self ..))] at q
    exact q.trans ((upTo_perm fun x hx => h x (List.mem_cons_of_mem _ hx)).cons r)
theorem mem_upTo {l : List Rating} {n : Nat} {r : Rating} (h : r ∈ upTo l n) : r ∈ l ∧ r.user < n := by
  unfold upTo at h
  obtain ⟨u, hu, h⟩ := List.mem_flatMap.mp h
  obtain ⟨h1, h2⟩ := mem_ofK.mp h
  rw [if_pos rfl] at h2
  rw [List.mem_range] at hu
  exact ⟨h1, by omega⟩
/-! ### the first parameters -/
theorem sum_cast : ∀ l : List Nat, (l.map fun (n : Nat) => (n : Int)).sum = (l.sum : Nat)
  | [] => rfl
  | n :: l => by rw [List.map_cons, List.sum_cons, sum_cast l, List.sum_cons, Int.natCast_add]
theorem vals_sum (l : List Rating) : (l.map fun r => (r.value : Int)).sum = ((l.map Rating.value).sum : Nat) := by
  rw [← sum_cast, List.map_map]
  rfl
theorem nsum_le (B : Nat) : ∀ l : List Nat, (∀ n ∈ l, n ≤ B) → l.sum ≤ l.length * B
  | [], _ => by simp
  | n :: l, h => by
    have i := nsum_le B l fun x hx => h x (List.mem_cons_of_mem _ hx)
    have q := h n (List.mem_cons_self ..)
    rw [List.sum_cons, List.length_cons, Nat.succ_mul]
    omega
variable {s : Settings} {l : List Rating}
theorem base_bnd (h : OkL s l) : 0 ≤ Kp429.baseOf l ∧ Kp429.baseOf l ≤ 655360 := by
  unfold Kp429.baseOf
  split
  · decide
  · next hne =>
    have b := nsum_le 10 (l.map Rating.value) fun n hn => by
      obtain ⟨r, hr, rfl⟩ := List.mem_map.mp hn
      exact (h.rb r hr).2.2.2
    rw [List.length_map] at b
    have hl : 0 < l.length := by
      cases l with
      | nil => simp at hne
      | cons a r => simp
    refine ⟨Int.natCast_nonneg _, ?_⟩
    have : 65536 * (l.map Rating.value).sum / l.length ≤ 655360 := by
      refine Nat.div_le_of_le_mul ?_
      rw [Nat.mul_comm l.length]
      omega
    exact Int.ofNat_le.mpr this
theorem first_bnd (hv : Kp429.validSettings s = true) (kd n k : Nat) : Kp429.lowest s k ≤ Kp429.firstValue s ⟨kd, n, k⟩ ∧ Kp429.firstValue s ⟨kd, n, k⟩ ≤ Kp429.highest s k := by
  have v := (valid_iff s).mp hv
  by_cases k0 : k = 0
  · have e : Kp429.firstValue s ⟨kd, n, k⟩ = 0 := by
      unfold Kp429.firstValue
      exact if_pos k0
    rw [e]
    exact ⟨(low_ge hv k).2, (high_le hv k).2⟩
  · unfold Kp429.firstValue Kp429.lowest Kp429.highest
    rw [if_neg k0, if_neg k0, if_neg k0]
    dsimp only
    generalize Kp429.hash [s.seed, kd, n, k] / 65536 = h
    have h1 : h % (min s.limit 64 + 1) < min s.limit 64 + 1 := Nat.mod_lt _ (by omega)
    have h2 : h % (2 * min s.limit 64 + 1) < 2 * min s.limit 64 + 1 := Nat.mod_lt _ (by omega)
    split <;> omega
theorem firstRow_ok (hv : Kp429.validSettings s = true) (kd n : Nat) : RowOk s (firstRow s kd n) := by
  refine ⟨by rw [firstRow, List.length_map, List.length_range], fun k x hx => ?_⟩
  rw [firstRow, List.getElem?_map] at hx
  obtain ⟨j, hj, rfl⟩ := Option.map_eq_some_iff.mp hx
  have : j = k := by
    have := (List.getElem?_eq_some_iff.mp hj).2
    simpa using this.symm
  rw [this]
  exact first_bnd hv kd n k
theorem firstRows_is (s : Settings) (kd n : Nat) : Kp429.firstRows s kd n = (List.range n).map (firstRow s kd) := rfl
theorem initial_ok (h : OkL s l) : OkP s (Kp429.initial s l) := by
  refine ⟨base_bnd h, ?_, ?_, fun row hr => ?_, fun row hr => ?_⟩
  · show (Kp429.firstRows s 0 s.users).length = _
    rw [firstRows_is, List.length_map, List.length_range]
  · show (Kp429.firstRows s 1 s.items).length = _
    rw [firstRows_is, List.length_map, List.length_range]
  · have hr : row ∈ Kp429.firstRows s 0 s.users := hr
    rw [firstRows_is] at hr
    obtain ⟨n, _, rfl⟩ := List.mem_map.mp hr
    exact firstRow_ok h.vs 0 n
  · have hr : row ∈ Kp429.firstRows s 1 s.items := hr
    rw [firstRows_is] at hr
    obtain ⟨n, _, rfl⟩ := List.mem_map.mp hr
    exact firstRow_ok h.vs 1 n
end
end Gs
namespace Gs
open PySem PySem.Spec PyProof.Rows L2 Evl
section
open Kp429 (Rating Settings Parameters Coordinate)
variable {P : Program} {w : World} {K : PySem.W.Frag} {mg : Str → Option Value} {base : Heap} {vs : List V} {H H' H1 H3 : Hp} {Q : VK} {E : XK} {A A' : MA} {p : Parameters} {σ : L2.St} {ta tk tn tq td ty tv tb te : TE} {s : Settings} {m m' m2 : Kp429.Model} {l : List Rating} {rat : List KD} {rtr : List (List Int)} {rst : List (List Key × V)} {kvs : KD}
/-! ### new objects in a comprehension -/
def ObjsAt (H : Hp) (qs : List Addr) (os : List HO) : Prop := Paired (fun q (o : HO) => H q = some o) qs os
theorem paired_unmap {α β γ : Type} {F : α → γ → Prop} {f : β → γ} : ∀ {l : List α} {m : List β}, Paired F l (m.map f) → Paired (fun a b => F a (f b)) l m
  | _, [], h => by cases h; exact .nil
  | _, _ :: _, h => by
    rw [List.map_cons] at h
    cases h with
    | cons h t => exact .cons h (paired_unmap t)
theorem lc_objs {J : It} {n : Nat} {G : Hp → Prop} {Y : Nat → Hp → V → Hp → Prop} (w : Walk J n G Y) {g : TG} {ws : List Nat} (hn : n < 100000) (hG : ∀ H2, Ex H1 H2 → G H2) (os : List HO) (hz : os.length = n)
    (hs : ∀ i x o H2 H3 (K1 : V → Hp → Prop), i < n → os[i]? = some o → Ex H1 H2 → Y i H2 x H3 → (∀ q H6, H2 q = none → Ex H2 H6 → H6 q = some o → K1 (.ref q) H6) → g x (wipe σ ws) H3 fun σ2 H4 => wipe σ2 ws = wipe σ ws ∧ te σ2 H4 K1)
    (hd : ∀ (Dl : Addr) (qs : List Addr) H2, H1 Dl = none → Ex H1 H2 → (∀ q ∈ qs, H1 q = none) → (Dl :: qs).Nodup → H2 Dl = some (.lst (qs.map V.ref)) → ObjsAt H2 qs os → Q (.ref Dl) H2) : LcB J g tYes te ws σ H1 Q := by
  refine lc_run w hG (fun Dl i acc H' => ∃ qs : List Addr, acc = qs.map V.ref ∧ ObjsAt H' qs (os.take i) ∧ (∀ q ∈ qs, H1 q = none) ∧ (Dl :: qs).Nodup) (fun Dl hD => ⟨[], rfl, .nil, by simp, by simp⟩) (fun Dl i x H2 H3 acc K1 K0 hD hi e2 hacc hA y k1 k0 => ?_) (fun Dl H2 acc hD e2 hacc hA => ?_)
  · obtain ⟨qs, rfl, hq, hqn, hnd⟩ := hA
    have hi2 : i < os.length := by omega
    refine hs i x os[i] H2 H3 K1 hi (List.getElem?_eq_getElem hi2) e2 y fun q H6 hq6 e6 h6 => k1 (.ref q) H6 e6 ?_ ⟨qs ++ [q], ?_, ?_, ?_, ?_⟩
    · have l1 := paired_len hq
      rw [List.length_take] at l1
      rw [List.length_map]
      omega
    · rw [List.map_append]
      rfl
    · have hpD : q ≠ Dl := fun e => by rw [e, hacc] at hq6; cases hq6
      rw [List.take_add_one, List.getElem?_eq_getElem hi2]
      refine paired_snoc (paired_monoM (fun b hb o h => ?_) hq) ?_
      · rw [upd_ne (fun e => (List.nodup_cons.mp hnd).1 (by rw [← e]; exact hb))]
        exact e6 _ _ h
      · rw [upd_ne hpD]
        exact h6
    · intro b hb
      rcases List.mem_append.mp hb with h | h
      · exact hqn b h
      · rw [List.mem_singleton.mp h]
        exact fresh_back e2 hq6
    · have hpD : q ≠ Dl := fun e => by rw [e, hacc] at hq6; cases hq6
      have hpq : q ∉ qs := fun h => by
        obtain ⟨b, _, g⟩ := paired_mem hq h
        rw [hq6] at g
        cases g
      obtain ⟨n1, n2⟩ := List.nodup_cons.mp hnd
      refine List.nodup_cons.mpr ⟨fun h => ?_, ?_⟩
      · rcases List.mem_append.mp h with h | h
        · exact n1 h
        · exact hpD (List.mem_singleton.mp h).symm
      · exact List.nodup_append.mpr ⟨n2, by simp, fun x hx y hy e => hpq (by rw [List.mem_singleton.mp hy] at e; rw [← e]; exact hx)⟩
  · obtain ⟨qs, rfl, hq, hqn, hnd⟩ := hA
    rw [List.take_of_length_le (Nat.le_of_eq hz)] at hq
    exact hd Dl qs H2 hD e2 hqn hnd hacc hq
/-! ### more single changes -/
theorem LowAt.putBase {b : Int} (h : LowAt K H A s p rat rtr rst) : LowAt K (upd H A.mo (.ins (He.ga K "Model") A.dx (A.flds b))) A s { p with base := b } rat rtr rst := by
  obtain ⟨ρ, R⟩ := h.ro
  have g : Agr ρ (fun i => i != 0) H (upd H A.mo (.ins (He.ga K "Model") A.dx (A.flds b))) := agr_upd R.mo
  exact ⟨⟨upd_same, g _ _ (by rw [R.lw]; rfl) h.prm.lw, g _ _ (by rw [R.l0]; rfl) h.prm.l0, g _ _ (by rw [R.l1]; rfl) h.prm.l1, rows_agr h.prm.r0 R.w0 g rfl, rows_agr h.prm.r1 R.w1 g rfl⟩,
    h.set.upd h.prm.obj rfl, g _ _ (by rw [R.lr]; rfl) h.lr, dicts_agr h.dr R.dr g rfl, g _ _ (by rw [R.lq]; rfl) h.lq, rows_agr h.qs R.qs g rfl, g _ _ (by rw [R.rs]; rfl) h.rs, ⟨ρ, R⟩⟩
theorem LowAt.newRests {q : Addr} (h : LowAt K H A s p rat rtr rst) (hq : H q = some (.dT [])) (hn : ¬ A.fp q) : LowAt K (upd H A.mo (.ins (He.ga K "Model") A.dx (({ A with rs := q } : MA).flds p.base))) { A with rs := q } s p rat rtr [] := by
  obtain ⟨ρ, R⟩ := h.ro
  have g : Agr ρ (fun i => i != 0) H (upd H A.mo (.ins (He.ga K "Model") A.dx (({ A with rs := q } : MA).flds p.base))) := agr_upd R.mo
  have nq : q ≠ A.mo := fun e => hn (by rw [e]; exact .inl rfl)
  have hm : ∀ b, A.fp b → b ≠ q := fun b hb e => hn (by rw [← e]; exact hb)
  refine ⟨⟨upd_same, g _ _ (by rw [R.lw]; rfl) h.prm.lw, g _ _ (by rw [R.l0]; rfl) h.prm.l0, g _ _ (by rw [R.l1]; rfl) h.prm.l1, rows_agr h.prm.r0 R.w0 g rfl, rows_agr h.prm.r1 R.w1 g rfl⟩,
    h.set.upd h.prm.obj rfl, g _ _ (by rw [R.lr]; rfl) h.lr, dicts_agr h.dr R.dr g rfl, g _ _ (by rw [R.lq]; rfl) h.lq, rows_agr h.qs R.qs g rfl, (by show upd H A.mo _ q = _; rw [upd_ne nq]; exact hq), fun b => if b = q then 3 else ρ b, ?_⟩
  exact ⟨(if_neg (hm _ (by simp [MA.fp]))).trans R.mo, (if_neg (hm _ (by simp [MA.fp]))).trans R.lr, (if_neg (hm _ (by simp [MA.fp]))).trans R.lq, if_pos rfl, (if_neg (hm _ (by simp [MA.fp]))).trans R.lw, (if_neg (hm _ (by simp [MA.fp]))).trans R.l0, (if_neg (hm _ (by simp [MA.fp]))).trans R.l1,
    fun d hd => (if_neg (hm _ (by simp [MA.fp, hd]))).trans (R.dr d hd), fun d hd => (if_neg (hm _ (by simp [MA.fp, hd]))).trans (R.qs d hd), fun d hd => (if_neg (hm _ (by simp [MA.fp, hd]))).trans (R.w0 d hd), fun d hd => (if_neg (hm _ (by simp [MA.fp, hd]))).trans (R.w1 d hd), R.ndr, R.nqs, R.nw0, R.nw1⟩
def MA.putK (A : MA) (k : Nat) (q : Addr) (ws : List Addr) : MA := if k = 0 then { A with l0 := q, w0 := ws } else { A with l1 := q, w1 := ws }
def rowsPut (p : Parameters) (k : Nat) (xss : List (List Int)) : Parameters := if k = 0 then { p with users := xss } else { p with items := xss }
theorem LowAt.newRows {k : Nat} {q : Addr} {ws : List Addr} {xss : List (List Int)} (h : LowAt K H A s p rat rtr rst) (hk : k ≤ 1) (hq : H q = some (.lst (ws.map V.ref))) (hw : RowsAt H ws xss) (hn : ∀ b, b ∈ q :: ws → ¬ A.fp b) (nd : (q :: ws).Nodup) :
    LowAt K (upd H A.lw (.lst (([V.ref A.l0, V.ref A.l1]).set k (.ref q)))) (A.putK k q ws) s (rowsPut p k xss) rat rtr rst := by
  obtain ⟨ρ, R⟩ := h.ro
  obtain ⟨n1, n2⟩ := List.nodup_cons.mp nd
  have g : Agr ρ (fun i => i != 4) H (upd H A.lw (.lst (([V.ref A.l0, V.ref A.l1]).set k (.ref q)))) := agr_upd R.lw
  have nq : q ≠ A.lw := fun e => hn q (List.mem_cons_self ..) (by rw [e]; simp [MA.fp])
  have hm : ∀ b, A.fp b → b ≠ q := fun b hb e => hn q (List.mem_cons_self ..) (by rw [← e]; exact hb)
  have hmw : ∀ b, A.fp b → b ∉ ws := fun b hb e => hn b (List.mem_cons_of_mem _ e) hb
  have hw2 : RowsAt (upd H A.lw (.lst (([V.ref A.l0, V.ref A.l1]).set k (.ref q)))) ws xss := paired_monoM (fun r hr _ z => by
    rw [upd_ne (fun e => hmw A.lw (by simp [MA.fp]) (by rw [← e]; exact hr))]
    exact z) hw
  have hq2 : upd H A.lw (.lst (([V.ref A.l0, V.ref A.l1]).set k (.ref q))) q = some (.lst (ws.map V.ref)) := by rw [upd_ne nq]; exact hq
  match k, hk with
  | 0, _ =>
    refine ⟨⟨g _ _ (by rw [show (A.putK 0 q ws).mo = A.mo from rfl, R.mo]; rfl) h.prm.obj, upd_same, hq2, g _ _ (by rw [show (A.putK 0 q ws).l1 = A.l1 from rfl, R.l1]; rfl) h.prm.l1, hw2, rows_agr h.prm.r1 R.w1 g rfl⟩,
      h.set.upd h.prm.lw rfl, g _ _ (by rw [show (A.putK 0 q ws).lr = A.lr from rfl, R.lr]; rfl) h.lr, dicts_agr h.dr R.dr g rfl, g _ _ (by rw [show (A.putK 0 q ws).lq = A.lq from rfl, R.lq]; rfl) h.lq, rows_agr h.qs R.qs g rfl, g _ _ (by rw [show (A.putK 0 q ws).rs = A.rs from rfl, R.rs]; rfl) h.rs, fun b => if b = q then 5 else if b ∈ ws then 9 else ρ b, ?_⟩
    have ol : ∀ b, A.fp b → (if b = q then 5 else if b ∈ ws then 9 else ρ b) = ρ b := fun b hb => by rw [if_neg (hm b hb), if_neg (hmw b hb)]
    exact ⟨(ol _ (by simp [MA.fp, MA.putK])).trans R.mo, (ol _ (by simp [MA.fp, MA.putK])).trans R.lr, (ol _ (by simp [MA.fp, MA.putK])).trans R.lq, (ol _ (by simp [MA.fp, MA.putK])).trans R.rs, (ol _ (by simp [MA.fp, MA.putK])).trans R.lw, if_pos rfl, (ol _ (by simp [MA.fp, MA.putK])).trans R.l1,
      fun d hd => (ol _ (.inr (.inr (.inr (.inr (.inr (.inr (.inr (.inl hd))))))))).trans (R.dr d hd), fun d hd => (ol _ (.inr (.inr (.inr (.inr (.inr (.inr (.inr (.inr (.inl hd)))))))))).trans (R.qs d hd),
      fun d hd => by
        have hd : d ∈ ws := hd
        show (if d = q then 5 else if d ∈ ws then 9 else ρ d) = 9
        rw [if_neg (fun e => n1 (by rw [← e]; exact hd)), if_pos hd],
      fun d hd => (ol _ (.inr (.inr (.inr (.inr (.inr (.inr (.inr (.inr (.inr (.inr hd))))))))))).trans (R.w1 d hd), R.ndr, R.nqs, n2, R.nw1⟩
  | 1, _ =>
    refine ⟨⟨g _ _ (by rw [show (A.putK 1 q ws).mo = A.mo from rfl, R.mo]; rfl) h.prm.obj, upd_same, g _ _ (by rw [show (A.putK 1 q ws).l0 = A.l0 from rfl, R.l0]; rfl) h.prm.l0, hq2, rows_agr h.prm.r0 R.w0 g rfl, hw2⟩,
      h.set.upd h.prm.lw rfl, g _ _ (by rw [show (A.putK 1 q ws).lr = A.lr from rfl, R.lr]; rfl) h.lr, dicts_agr h.dr R.dr g rfl, g _ _ (by rw [show (A.putK 1 q ws).lq = A.lq from rfl, R.lq]; rfl) h.lq, rows_agr h.qs R.qs g rfl, g _ _ (by rw [show (A.putK 1 q ws).rs = A.rs from rfl, R.rs]; rfl) h.rs, fun b => if b = q then 6 else if b ∈ ws then 10 else ρ b, ?_⟩
    have ol : ∀ b, A.fp b → (if b = q then 6 else if b ∈ ws then 10 else ρ b) = ρ b := fun b hb => by rw [if_neg (hm b hb), if_neg (hmw b hb)]
    exact ⟨(ol _ (by simp [MA.fp, MA.putK])).trans R.mo, (ol _ (by simp [MA.fp, MA.putK])).trans R.lr, (ol _ (by simp [MA.fp, MA.putK])).trans R.lq, (ol _ (by simp [MA.fp, MA.putK])).trans R.rs, (ol _ (by simp [MA.fp, MA.putK])).trans R.lw, (ol _ (by simp [MA.fp, MA.putK])).trans R.l0, if_pos rfl,
      fun d hd => (ol _ (.inr (.inr (.inr (.inr (.inr (.inr (.inr (.inl hd))))))))).trans (R.dr d hd), fun d hd => (ol _ (.inr (.inr (.inr (.inr (.inr (.inr (.inr (.inr (.inl hd)))))))))).trans (R.qs d hd),
      fun d hd => (ol _ (.inr (.inr (.inr (.inr (.inr (.inr (.inr (.inr (.inr (.inl hd))))))))))).trans (R.w0 d hd),
      fun d hd => by
        have hd : d ∈ ws := hd
        show (if d = q then 6 else if d ∈ ws then 10 else ρ d) = 10
        rw [if_neg (fun e => n1 (by rw [← e]; exact hd)), if_pos hd], R.ndr, R.nqs, R.nw0, n2⟩
theorem fp_putK {k : Nat} {q b : Addr} {ws : List Addr} (hk : k ≤ 1) (h : (A.putK k q ws).fp b) : A.fp b ∨ b ∈ q :: ws := by
  match k, hk with
  | 0, _ =>
    rcases h with e | e | e | e | e | e | e | e | e | e | e
    · exact .inl (by simp [MA.fp, e, MA.putK])
    · exact .inl (by simp [MA.fp, e, MA.putK])
    · exact .inl (by simp [MA.fp, e, MA.putK])
    · exact .inl (by simp [MA.fp, e, MA.putK])
    · exact .inl (by simp [MA.fp, e, MA.putK])
    · exact .inr (by rw [e]; exact List.mem_cons_self ..)
    · exact .inl (by simp [MA.fp, e, MA.putK])
    · exact .inl (.inr (.inr (.inr (.inr (.inr (.inr (.inr (.inl e))))))))
    · exact .inl (.inr (.inr (.inr (.inr (.inr (.inr (.inr (.inr (.inl e)))))))))
    · exact .inr (List.mem_cons_of_mem _ e)
    · exact .inl (.inr (.inr (.inr (.inr (.inr (.inr (.inr (.inr (.inr (.inr e))))))))))
  | 1, _ =>
    rcases h with e | e | e | e | e | e | e | e | e | e | e
    · exact .inl (by simp [MA.fp, e, MA.putK])
    · exact .inl (by simp [MA.fp, e, MA.putK])
    · exact .inl (by simp [MA.fp, e, MA.putK])
    · exact .inl (by simp [MA.fp, e, MA.putK])
    · exact .inl (by simp [MA.fp, e, MA.putK])
    · exact .inl (by simp [MA.fp, e, MA.putK])
    · exact .inr (by rw [e]; exact List.mem_cons_self ..)
    · exact .inl (.inr (.inr (.inr (.inr (.inr (.inr (.inr (.inl e))))))))
    · exact .inl (.inr (.inr (.inr (.inr (.inr (.inr (.inr (.inr (.inl e)))))))))
    · exact .inl (.inr (.inr (.inr (.inr (.inr (.inr (.inr (.inr (.inr (.inl e))))))))))
    · exact .inr (List.mem_cons_of_mem _ e)
theorem fp_newRests {q b : Addr} (h : ({ A with rs := q } : MA).fp b) : A.fp b ∨ b = q := by
  rcases h with e | e | e | e | e | e | e | e | e | e | e
  · exact .inl (by simp [MA.fp, e])
  · exact .inl (by simp [MA.fp, e])
  · exact .inl (by simp [MA.fp, e])
  · exact .inr e
  · exact .inl (by simp [MA.fp, e])
  · exact .inl (by simp [MA.fp, e])
  · exact .inl (by simp [MA.fp, e])
  · exact .inl (.inr (.inr (.inr (.inr (.inr (.inr (.inr (.inl e))))))))
  · exact .inl (.inr (.inr (.inr (.inr (.inr (.inr (.inr (.inr (.inl e)))))))))
  · exact .inl (.inr (.inr (.inr (.inr (.inr (.inr (.inr (.inr (.inr (.inl e))))))))))
  · exact .inl (.inr (.inr (.inr (.inr (.inr (.inr (.inr (.inr (.inr (.inr e))))))))))
theorem dp_ints : ∀ ns : List Int, DpAll K H (ns.map V.int) (ns.map PyData.int)
  | [] => .nil
  | n :: r => .cons (.int n) (dp_ints r)
/-- xs != [] -/
theorem ev_neNil {a : Addr} {ns : List Int} (ha : Ev ta σ H (.ref a)) (h : H a = some (.lst (ns.map V.int))) : Ev (tOp (rNeD K) ta (tLst tNil)) σ H (.bl (!ns.isEmpty)) := by
  refine ev_opL (xs := []) ha (el_lst ea_nil (by simp)) fun q H1 hq e1 => rv_val fun H2 e2 Q k => ⟨.list (ns.map PyData.int), .list ([].map PyData.int), .lst (sq_of (e2 _ _ (e1 _ _ h))) (dp_ints ns), .lst (sq_of (e2 _ _ hq)) .nil, PySem.W.ke_shaped_ints ns, PySem.W.ke_shaped_ints [], ?_⟩
  · have e : PyData.eqv (.list (ns.map PyData.int)) (.list ([].map PyData.int)) = ns.isEmpty := by
      cases ns <;> rfl
    rw [e]
    exact k
end
end Gs
namespace Gs
open PySem PySem.Spec PyProof.Rows L2 Evl
section
open Kp429 (Rating Settings Parameters Coordinate)
variable {P : Program} {w : World} {K : PySem.W.Frag} {mg : Str → Option Value} {base : Heap} {vs : List V} {H H' H1 H2 H3 : Hp} {Q : VK} {E : XK} {A A' : MA} {p : Parameters} {σ : L2.St} {ta tk tn tq td ty tv tb te : TE} {s : Settings} {m m' m2 : Kp429.Model} {l : List Rating} {rat : List KD} {rtr : List (List Int)} {rst : List (List Key × V)} {kvs : KD}
/-- [d[k] for k in d] -/
theorem el_vals {d : Addr} {rs : List Rating} {u : Nat} (hd : σ[2]? = some (some (.ref d))) (hdw : ∀ x, wipe (σ.set 5 x) [5] = wipe σ [5]) (h2 : ∀ x, ((wipe σ [5]).set 5 (some x))[2]? = some (some (.ref d)) ∧ ((wipe σ [5]).set 5 (some x))[5]? = some (some x)) (hw : ∀ x, wipe ((wipe σ [5]).set 5 (some x)) [5] = wipe σ [5]) (h : H d = some (.dK (rs.map fun r => (gItem r, gVal r)))) (nd : (rs.map gItem).Nodup) (hl : rs.length ≤ 64) :
    EvL (tLockE (tLc (iKeys (tVar 2)) (gName 5) tYes (tDGet (tVar 2) (tVar 5)) [5])) σ H ((rs.map fun r => (r.value : Int)).map V.int) := fun H1 e Q q => by
  have h1 := e _ _ h
  refine ⟨d, .dK (rs.map fun r => (gItem r, gVal r)), h1, True.intro, fun od => ?_⟩
  refine ⟨_, hd, d, od, rfl, .inl ⟨_, upd_same, ?_⟩⟩
  refine lc_vals (Q := fun v H' => H' d = some (.frz od (.dK (rs.map fun r => (gItem r, gVal r)))) ∧ Q v (upd H' d (.dK (rs.map fun r => (gItem r, gVal r))))) walk_keys (by rw [List.length_map]; omega) (fun H3 e3 => e3 _ _ upd_same) ((rs.map fun r => (r.value : Int)).map V.int) (by simp) ?_ (fun Dl H3 hD e3 h3 => ?_)
  · intro i x z H4 H5 K1 hi hz e4 y k1
    obtain ⟨rfl, key, v, hkv, rfl⟩ := y
    rw [List.getElem?_map] at hkv
    obtain ⟨r, hr, hrv⟩ := Option.map_eq_some_iff.mp hkv
    cases hrv
    rw [List.getElem?_map, List.getElem?_map, hr] at hz
    cases hz
    refine ⟨hw _, ?_⟩
    have hv : valV (rs.map fun r => (gItem r, gVal r)) (gItem r) = some (gVal r) := valV_mem (by rw [List.map_map]; exact nd) (List.mem_map.mpr ⟨r, List.mem_of_getElem? hr, rfl⟩)
    exact ⟨_, (h2 _).1, _, (h2 _).2, d, gVal r, rfl, .inl ⟨_, gItem r, .inr ⟨od, e4 _ _ upd_same⟩, rfl, hv.symm⟩, k1 _ (Ex.refl _)⟩
  · obtain ⟨g1, g2⟩ := lock_fresh hD
    exact ⟨e3 _ _ upd_same, q Dl _ g1 (unlock h1 e3) (by rw [upd_ne g2]; exact h3)⟩
theorem upd_comm {a b : Addr} {x y : HO} (h : a ≠ b) : upd (upd H a x) b y = upd (upd H b y) a x := by
  funext c
  by_cases h1 : c = a
  · subst h1
    rw [upd_ne h, upd_same, upd_same]
  · by_cases h2 : c = b
    · subst h2
      rw [upd_same, upd_ne h1, upd_same]
    · rw [upd_ne h2, upd_ne h1, upd_ne h1, upd_ne h2]
theorem agr_un {ρ : Addr → Nat} {d : Addr} {k : Nat} {o : HO} (hk : ρ d = k) : Agr ρ (fun i => i != k) (upd H d o) H := fun a u t h => by
  rw [upd_ne] at h
  · exact h
  · intro e
    rw [e, hk] at t
    simp at t
theorem ex_upd {d : Addr} {o : HO} (e : Ex H H1) : Ex (upd H d o) (upd H1 d o) := fun b u h => by
  by_cases q : b = d
  · rw [q, upd_same] at h ⊢
    exact h
  · rw [upd_ne q] at h ⊢
    exact e _ _ h
theorem upd_back {d : Addr} {o : HO} (h : H d = some o) (x : HO) : upd (upd H d x) d o = H := by
  funext c
  by_cases h1 : c = d
  · rw [h1, upd_same, h]
  · rw [upd_ne h1, upd_ne h1]
theorem nodup_unmap {α β : Type} {f : α → β} {l : List α} (h : (l.map f).Nodup) : l.Nodup := by
  rw [List.nodup_iff_pairwise_ne, List.pairwise_map] at h
  rw [List.nodup_iff_pairwise_ne]
  exact h.imp fun q e => q (by rw [e])
/-- loops begun -/
def ForB (J : It) (g : TG) (tb : TS) (D : Ends) (σ : L2.St) (H : Hp) : Prop := ∃ W : Nat → Nat → L2.St → Hp → Prop, (∃ m, W 0 m σ H) ∧ ∀ i m σ H, W i m σ H →
      (J.stop i H ∧ D.nx σ H) ∨ (J.go i H ∧ ∃ N : L2.St → Hp → Prop, (∀ σ' H', N σ' H' → ∃ m', m' < m ∧ W (i + 1) m' σ' H') ∧ ∀ x H', J.yld i H x H' → g x σ H' fun σ2 H2 => tb { D with nx := N, ct := N, bk := D.nx } σ2 H2)
theorem s_forE {D : Ends} {g : TG} {tu : TS} {a : Addr} {xs : List V} (h : Ev te σ H (.ref a)) (hx : SqL K H a xs) (k : ∀ H1, Ex H H1 → ForB (Ite K a) g tu D σ H1) : tFor (iEnum K (tCons te tNil)) g tu D σ H :=
  h H (Ex.refl H) _ fun H1 e1 => ⟨a, xs, rfl, ex_l e1 hx, k H1 e1⟩
/-! ### reset -/
def resetM (s : Settings) (l : List Rating) : Kp429.Model := ⟨s, l, Kp429.initial s l⟩
def sp_Model_reset (K : PySem.W.Frag) : Sp := fun vs H Q _ => ∃ (A : MA) (s : Settings) (l : List Rating) (p : Parameters) (rat : List KD) (rtr : List (List Int)) (rst : List (List Key × V)), vs = [.ref A.mo] ∧ LowAt K H A s p rat rtr rst ∧ RatRel l rat rtr s.users s.items ∧ OkL s l ∧
  ∀ A' H', MAt K H' A' (resetM s l) → Moved A H A' H' → Q .non H'
theorem len_Model_reset (h : sp_Model_reset K vs H Q E) : vs.length = (["self"] : List Str).length := by
  obtain ⟨_, _, _, _, _, _, _, rfl, _⟩ := h
  rfl
theorem rel_rs (R : RatRel l rat rtr s.users s.items) (hO : OkL s l) {u : Nat} (hu : rat[u]? = some kvs) : ∃ rs : List Rating, rs.Perm (ofK l 0 u) ∧ kvs = (rs.map fun r => (gItem r, gVal r)) ∧ (rs.map gItem).Nodup ∧ rs.length ≤ 8 := by
  obtain ⟨rs, h1, h2⟩ := (R.rat u kvs hu).lift
  exact ⟨rs, h1, h2, (h1.map gItem).nodup_iff.mpr (item_nodup hO.so u), by rw [h1.length_eq]; exact hO.ofK_len 0 u⟩
def t_Model_reset (K : PySem.W.Frag) : TS :=
  (tSeq (tAsg (tLst tNil) (gName 1))
    (tSeq (tFor (iList K (tFld K (tVar 0) "ratings")) (gName 2) (tDrop (tBM K "list" rExtend (tVar 1) (tCons (tLockE (tLc (iKeys (tVar 2)) (gName 5) tYes (tDGet (tVar 2) (tVar 5)) [5])) tNil))))
    (tSeq (sFld K (tVar 0) (tIf (tTest (tOp (rNeD K) (tVar 1) (tLst tNil))) (tOp rDivI (tOp rMulI (tC (.int 65536)) (tCB (rSum K) (tCons (tVar 1) tNil))) (tCB (rLenQ K) (tCons (tVar 1) tNil))) (tC (.int 0))) "base")
    (tSeq (tFor (iRng1 (tCons (tC (.int 2)) tNil)) (gName 3) (tAsg (tLc (iRng1 (tCons (tOp (rIxT K) (tFld K (tFld K (tVar 0) "settings") "many") (tVar 3)) tNil)) (gName 6) tYes (tMeth (He.ga K "Settings") "first_row" (sp_Settings_first_row K) [] E0 (tFld K (tVar 0) "settings") (tCons (tVar 3) (tCons (tVar 6) tNil))) [6]) (gSub (tFld K (tVar 0) "rows") (tVar 3) rSetL)))
    (tSeq (sFld K (tVar 0) tDNewT "rests")
    (tFor (iEnum K (tCons (tFld K (tVar 0) "ratings") tNil)) (gTup K 2 (gCons (gName 4) (gCons (gName 2) gNil))) (tLock (tFor (iKeys (tVar 2)) (gName 5) (tDrop (tMeth (He.ga K "Model") "renew" (sp_Model_renew K) [] E0 (tVar 0) (tCons (tVar 4) (tCons (tVar 5) tNil))))))))))))
/-- the last part: the rests, one by one -/
theorem reset_rests (T : Txt K mg) {D : Ends} {v1 v2 v3 v4 v5 v6 : Option V} (hL : LowAt K H A s p rat rtr []) (hR : RatRel l rat rtr s.users s.items) (hO : OkL s l) (hP : OkP s p) (k : ∀ σ H', MAt K H' A ⟨s, l, p⟩ → Fr A.fp H H' → D.nx σ H') :
    tFor (iEnum K (tCons (tFld K (tVar 0) "ratings") tNil)) (gTup K 2 (gCons (gName 4) (gCons (gName 2) gNil))) (tLock (tFor (iKeys (tVar 2)) (gName 5) (tDrop (tMeth (He.ga K "Model") "renew" (sp_Model_renew K) [] E0 (tVar 0) (tCons (tVar 4) (tCons (tVar 5) tNil)))))) D [some (.ref A.mo), v1, v2, v3, v4, v5, v6] H := by
  have ldr : A.dr.length = s.users := by rw [paired_len hL.dr, hR.nu]
  refine s_forE (ev_ratings T (A := A) (p := p) (ev_var rfl) hL.prm) (sq_of hL.lr) fun H1 e1 => ?_
  refine for_it (walk_enum (xs := A.dr.map V.ref)) (fun i σ H' => ∃ rst', LowAt K H' A s p rat rtr rst' ∧ RstOf rst' (upTo l i) (Kp429.residual p) ∧ Fr A.fp H H' ∧ ∃ v2 v4 v5, σ = [some (.ref A.mo), v1, v2, v3, v4, v5, v6]) ⟨[], hL.ex e1, List.Perm.refl _, frEx e1, _, _, _, rfl⟩ (fun i σ H' _ p => by
    obtain ⟨_, hL', _⟩ := p
    exact sq_of hL'.lr) (fun i x σ H2 H3 hi p y => ?_) (fun σ H' p => ?_)
  · obtain ⟨rst', hL', hS', f', v2, v4, v5, rfl⟩ := p
    obtain ⟨Tp, x1, y1, rfl, hT, rfl, hx, hy⟩ := y
    cases hx
    have hy : (A.dr.map V.ref)[i]? = some y1 := hy
    rw [List.getElem?_map] at hy
    obtain ⟨d, hd, rfl⟩ := Option.map_eq_some_iff.mp hy
    have hiu : i < s.users := by rw [← ldr]; exact (List.getElem?_eq_some_iff.mp hd).1
    obtain ⟨kvs, hkv, hdk⟩ := paired_at hL'.dr hd
    obtain ⟨rs, hrs1, rfl, hnd, hrl⟩ := rel_rs hR hO hkv
    have ex3 : Ex H2 (upd H2 Tp (.tup [.int (i : Int), .ref d])) := Ex.new hT
    have hL3 := hL'.ex ex3
    have f3 := f'.ex ex3
    refine g_unp2 (st_of upd_same) ?_
    generalize upd H2 Tp (.tup [.int (i : Int), .ref d]) = H4 at hL3 f3 ex3
    have hdk4 : H4 d = some (.dK (rs.map fun r => (gItem r, gVal r))) := ex3 _ _ hdk
    refine ⟨d, _, hdk4, True.intro, fun od => ?_⟩
    refine ⟨_, rfl, d, od, rfl, .inl ⟨_, upd_same, ?_⟩⟩
    have fin : ∀ σ' H', (∃ rst', H' d = some (.frz od (.dK (rs.map fun r => (gItem r, gVal r)))) ∧ LowAt K (upd H' d (.dK (rs.map fun r => (gItem r, gVal r)))) A s p rat rtr rst' ∧ RstOf rst' (upTo l i ++ rs.take ((rs.map fun r => (gItem r, gVal r)).length)) (Kp429.residual p) ∧ Fr A.fp H (upd H' d (.dK (rs.map fun r => (gItem r, gVal r)))) ∧ ∃ v5, σ' = [some (.ref A.mo), v1, some (.ref d), v3, some (.int (i : Int)), v5, v6]) →
        H' d = some (.frz od (.dK (rs.map fun r => (gItem r, gVal r)))) ∧ ∃ rst', LowAt K (upd H' d (.dK (rs.map fun r => (gItem r, gVal r)))) A s p rat rtr rst' ∧ RstOf rst' (upTo l (i + 1)) (Kp429.residual p) ∧ Fr A.fp H (upd H' d (.dK (rs.map fun r => (gItem r, gVal r)))) ∧ ∃ v2 v4 v5, σ' = [some (.ref A.mo), v1, v2, v3, v4, v5, v6] := by
      rintro σ' H' ⟨rst', g1, g2, g3, g4, v5', rfl⟩
      refine ⟨g1, rst', g2, ?_, g4, _, _, _, rfl⟩
      rw [List.length_map, List.take_length] at g3
      rw [upTo_succ]
      exact DictOf.perm g3 (hrs1.append_left _)
    refine for_it (D := { nx := fun σ' H' => H' d = some (.frz od (.dK (rs.map fun r => (gItem r, gVal r)))) ∧ ∃ rst', LowAt K (upd H' d (.dK (rs.map fun r => (gItem r, gVal r)))) A s p rat rtr rst' ∧ RstOf rst' (upTo l (i + 1)) (Kp429.residual p) ∧ Fr A.fp H (upd H' d (.dK (rs.map fun r => (gItem r, gVal r)))) ∧ ∃ v2 v4 v5, σ' = [some (.ref A.mo), v1, v2, v3, v4, v5, v6], rt := fun v H' => H' d = some (.frz od (.dK (rs.map fun r => (gItem r, gVal r)))) ∧ D.rt v (upd H' d (.dK (rs.map fun r => (gItem r, gVal r)))), bk := fun σ' H' => H' d = some (.frz od (.dK (rs.map fun r => (gItem r, gVal r)))) ∧ D.nx σ' (upd H' d (.dK (rs.map fun r => (gItem r, gVal r)))), ct := fun σ' H' => H' d = some (.frz od (.dK (rs.map fun r => (gItem r, gVal r)))) ∧ ∃ rst', LowAt K (upd H' d (.dK (rs.map fun r => (gItem r, gVal r)))) A s p rat rtr rst' ∧ RstOf rst' (upTo l (i + 1)) (Kp429.residual p) ∧ Fr A.fp H (upd H' d (.dK (rs.map fun r => (gItem r, gVal r)))) ∧ ∃ v2 v4 v5, σ' = [some (.ref A.mo), v1, v2, v3, v4, v5, v6] })
      walk_keys (fun j σ' H' => ∃ rst', H' d = some (.frz od (.dK (rs.map fun r => (gItem r, gVal r)))) ∧ LowAt K (upd H' d (.dK (rs.map fun r => (gItem r, gVal r)))) A s p rat rtr rst' ∧ RstOf rst' (upTo l i ++ rs.take j) (Kp429.residual p) ∧ Fr A.fp H (upd H' d (.dK (rs.map fun r => (gItem r, gVal r)))) ∧ ∃ v5, σ' = [some (.ref A.mo), v1, some (.ref d), v3, some (.int (i : Int)), v5, v6])
      ⟨rst', upd_same, by rw [upd_back hdk4]; exact hL3, by simpa using hS', by rw [upd_back hdk4]; exact f3, v5, rfl⟩ (fun j σ' H' _ p => by obtain ⟨_, q, _⟩ := p; exact q) (fun j x σ' H' H'' hj p y => ?_) fin
    obtain ⟨rst2, g1, g2, g3, g4, v5', rfl⟩ := p
    obtain ⟨rfl, key, v, hkv2, rfl⟩ := y
    rw [List.getElem?_map] at hkv2
    obtain ⟨r, hr, hrv⟩ := Option.map_eq_some_iff.mp hkv2
    cases hrv
    obtain ⟨hrl2, hru⟩ := mem_ofK.mp (hrs1.mem_iff.mp (List.mem_of_getElem? hr))
    rw [if_pos rfl] at hru
    have hrb := hO.rb r hrl2
    obtain ⟨ρ, R⟩ := g2.ro
    have hρ : ρ d = 7 := R.dr d (List.mem_of_getElem? hd)
    have ag : Agr ρ (fun i => i != 7) (upd H'' d (.dK (rs.map fun r => (gItem r, gVal r)))) H'' := agr_un hρ
    have hv : valV (rs.map fun r => (gItem r, gVal r)) (.inl (r.item : Int)) = some (.int (r.value : Int)) := valV_mem (by rw [List.map_map]; exact hnd) (List.mem_map.mpr ⟨r, List.mem_of_getElem? hr, rfl⟩)
    have hdrs : d ≠ A.rs := ne_role hρ R.rs (by decide)
    have hdu : A.dr[r.user]? = some d := by rw [hru]; exact hd
    have hlen : rst2.length < 1000 := by
      have l64 := hO.len
      have := (upTo_perm (n := s.users) (l := l) fun r hr => (hO.rb r hr).1).length_eq
      rw [DictOf.len g3, List.length_append, List.length_take]
      have hsub : (upTo l i).length ≤ 64 := by
        have : (upTo l i).length ≤ i * 8 := by
          unfold upTo
          rw [List.length_flatMap]
          have := nsum_le 8 ((List.range i).map fun u => (ofK l 0 u).length) fun n hn => by
            obtain ⟨u, _, rfl⟩ := List.mem_map.mp hn
            exact hO.ofK_len 0 u
          rw [List.length_map, List.length_range] at this
          exact this
        have := hO.users
        omega
      omega
    refine s_renew (A := A) (p := p) (u := r.user) (i := r.item) (ev_var rfl) (by rw [hru]; exact ev_var rfl) (ev_var rfl) (g2.prm.agr R ag (by decide)) (hP.both hO.vs hrb.1 hrb.2.1) (ag _ _ (by rw [R.lr]; rfl) g2.lr) hdu (.inr ⟨od, g1⟩) hv (ag _ _ (by rw [R.rs]; rfl) g2.rs) hlen fun H5 e5 => ?_
    rw [residual_is]
    have eL : LowAt K (upd (upd H5 d (.dK (rs.map fun r => (gItem r, gVal r)))) A.rs (.dT (putK rst2 (keyUI r.user r.item) (.int (Kp429.residual p r))))) A s p rat rtr (putK rst2 (keyUI r.user r.item) (.int (Kp429.residual p r))) := (g2.ex (ex_upd e5)).putRst
    refine ⟨_, by rw [upd_ne hdrs]; exact e5 _ _ g1, by rw [upd_comm (Ne.symm hdrs)]; exact eL, ?_, by rw [upd_comm (Ne.symm hdrs)]; exact (g4.ex (ex_upd e5)).upd fp_rs, _, rfl⟩
    rw [List.take_add_one, hr, ← List.append_assoc]
    refine DictOf.put_new (a := r) (f := keyR) (g := fun r => V.int (Kp429.residual p r)) g3 fun mm => ?_
    obtain ⟨b, hb, e⟩ := List.mem_map.mp mm
    have e := keyR_inj e
    rcases List.mem_append.mp hb with q | q
    · have := (mem_upTo q).2
      omega
    · have hbl := (mem_ofK.mp (hrs1.mem_iff.mp (List.mem_of_mem_take q))).1
      have : b = r := sorted_uniq hO.so hbl hrl2 e
      subst this
      obtain ⟨i', hi', hie⟩ := List.mem_iff_getElem.mp q
      rw [List.length_take] at hi'
      rw [List.getElem_take] at hie
      obtain ⟨hj2, hje⟩ := List.getElem?_eq_some_iff.mp hr
      have ndr : rs.Nodup := nodup_unmap hnd
      have := (List.getElem_inj ndr).mp (hie.trans hje.symm)
      omega
  · obtain ⟨rst', hL', hS', f', v2, v4, v5, rfl⟩ := p
    rw [List.length_map, ldr] at hS'
    refine k _ H' ⟨⟨hO, hP⟩, rat, rtr, rst', hL', hR, DictOf.perm hS' (upTo_perm fun r hr => (hO.rb r hr).1)⟩ f'
end
end Gs
namespace Gs
open PySem PySem.Spec PyProof.Rows L2 Evl
section
open Kp429 (Rating Settings Parameters Coordinate)
variable {P : Program} {w : World} {K : PySem.W.Frag} {mg : Str → Option Value} {base : Heap} {vs : List V} {H H' H1 H2 H3 : Hp} {Q : VK} {E : XK} {A A' : MA} {p : Parameters} {σ : L2.St} {ta tk tn tq td ty tv tb te : TE} {s : Settings} {m m' m2 : Kp429.Model} {l : List Rating} {rat : List KD} {rtr : List (List Int)} {rst : List (List Key × V)} {kvs : KD}
theorem run_lcR1 {tn te : TE} {g : TG} {tt : TT} {ws : List Nat} {n : Int} (h : Ev tn σ H (.int n)) (hn : 0 ≤ n ∧ n ≤ 40000) (k : ∀ H1, Ex H H1 → LcB (Itr 0 n.toNat) g tt te ws σ H1 Q) : tLc (iRng1 (tCons tn tNil)) g tt te ws σ H Q :=
  h H (Ex.refl H) _ fun H1 e1 => ⟨n, rfl, by omega, by omega, k H1 e1⟩
theorem g_setL {l : Addr} {xs : List V} {j : Nat} {v : V} {Q : L2.St → Hp → Prop} (ho : Ev ta σ H (.ref l)) (hi : Ev tb σ H (.int (j : Int))) (hl : H l = some (.lst xs)) (hj : j < xs.length) (k : ∀ H1, Ex H H1 → Q σ (upd H1 l (.lst (xs.set j v)))) : gSub ta tb rSetL v σ H Q :=
  ho H (Ex.refl H) _ fun H2 e2 => hi H2 e2 _ fun H3 e3 => ⟨l, xs, (j : Int), j, rfl, rfl, (e2.trans e3) l _ hl, ixN_nat hj, k H3 (e2.trans e3)⟩
theorem q_fldNewT {D : Ends} {tz : TS} {a C dx : Addr} {fs : List (Str × V)} {f : Str} (ha : ∀ H1, Ex H H1 → Ev ta σ H1 (.ref a)) (ho : H a = some (.ins C dx fs)) (hc : Cls K C) (hn : NoAttr K C f) (hl : fs.length < 1000) (k : ∀ q H1, H q = none → Ex H H1 → H1 q = some (.dT []) → tz D σ (upd H1 a (.ins C dx (putF f (.ref q) fs)))) : tSeq (sFld K ta tDNewT f) tz D σ H :=
  fun q hq => ha _ (Ex.new hq) _ (Ex.refl _) _ fun H2 e2 => ⟨a, C, dx, fs, rfl, ((Ex.new hq).trans e2) _ _ ho, hc, hn, hl, k q H2 hq ((Ex.new hq).trans e2) (e2 _ _ upd_same)⟩
/-- the parameters as reset goes on -/
def pR (s : Settings) (p : Parameters) (b : Int) : Nat → Parameters
  | 0 => { p with base := b }
  | 1 => { p with base := b, users := Kp429.firstRows s 0 s.users }
  | _ => ⟨b, Kp429.firstRows s 0 s.users, Kp429.firstRows s 1 s.items⟩
theorem pR_succ (s : Settings) (p : Parameters) (b : Int) {i : Nat} (h : i < 2) : pR s p b (i + 1) = rowsPut (pR s p b i) i (Kp429.firstRows s i (Kp429.sizeOf s i)) := by
  match i, h with
  | 0, _ => rfl
  | 1, _ => rfl
theorem fp_lw : A.fp A.lw := by simp [MA.fp]
theorem fp_mo : A.fp A.mo := by simp [MA.fp]
theorem pure_Model_reset (T : Txt K mg) (h : sp_Model_reset K vs H Q E) : t_Model_reset K { nx := fun _ H' => Q .non H', rt := Q } (start N_Model_reset vs) H := by
  obtain ⟨A, s, l, p, rat, rtr, rst, rfl, hL, hR, hO, kk⟩ := h
  have hv := (valid_iff s).mp hO.vs
  have ldr : A.dr.length = s.users := by rw [paired_len hL.dr, hR.nu]
  have h64 := hO.len
  have upl : ∀ i, i ≤ s.users → (upTo l i).length ≤ 64 := fun i hi => by
    have := nsum_le 8 ((List.range i).map fun u => (ofK l 0 u).length) fun n hn => by
      obtain ⟨u, _, rfl⟩ := List.mem_map.mp hn
      exact hO.ofK_len 0 u
    rw [List.length_map, List.length_range] at this
    unfold upTo
    rw [List.length_flatMap]
    omega
  refine q_asgL (el_lst ea_nil (by simp)) fun d H1 hd e1 h1 => ?_
  refine q_forLn (a := A.lr) (xs := A.dr.map V.ref) (ev_ratings T (A := A) (p := p) (ev_var rfl) (hL.prm.ex e1)) (sq_of (e1 _ _ hL.lr)) (fun i σ H' => Ex H H' ∧ ∃ (ns : List Int) (v2 : Option V), H' d = some (.lst (ns.map V.int)) ∧ ns.Perm ((upTo l i).map fun r => (r.value : Int)) ∧ σ = [some (.ref A.mo), some (.ref d), v2, none, none, none, none])
    (fun H2 e2 => ⟨e1.trans e2, [], none, e2 _ _ h1, List.Perm.refl _, rfl⟩) (fun i σ H' _ p => sq_of (p.1 _ _ hL.lr)) (fun i v σ H' hi p => ?_) (fun σ H' p => ?_)
  · obtain ⟨e', ns, v2, hd', hns, rfl⟩ := p
    rw [List.getElem?_map] at hi
    obtain ⟨du, hdu, rfl⟩ := Option.map_eq_some_iff.mp hi
    have hil : i < s.users := by rw [← ldr]; exact (List.getElem?_eq_some_iff.mp hdu).1
    obtain ⟨kvs, hkv, hdk⟩ := paired_at hL.dr hdu
    obtain ⟨rs, hrs1, rfl, hnd, hrl⟩ := rel_rs hR hO hkv
    have hl2 := upl i (by omega)
    refine s_extL hd' (ev_var rfl) (el_vals (d := du) (rs := rs) (u := i) rfl (fun _ => rfl) (fun _ => ⟨rfl, rfl⟩) (fun _ => rfl) (e' _ _ hdk) hnd (by omega)) (by rw [List.length_map, List.length_map, List.length_map, hns.length_eq, List.length_map]; omega) fun H2 e2 => ⟨Ex.mut (e'.trans e2) hd, ns ++ rs.map (fun r => (r.value : Int)), some (.ref du), by rw [upd_same, List.map_append], ?_, rfl⟩
    rw [upTo_succ, List.map_append]
    exact hns.append (hrs1.map _)
  obtain ⟨e', ns, v2, hd', hns, rfl⟩ := p
  rw [List.length_map, ldr] at hns
  have hnl : ns.Perm (l.map fun r => (r.value : Int)) := hns.trans ((upTo_perm fun r hr => (hO.rb r hr).1).map _)
  have hsum : ns.sum = ((l.map Rating.value).sum : Nat) := by rw [perm_sum hnl, vals_sum]
  have hlen : ns.length = l.length := by rw [hnl.length_eq, List.length_map]
  have hL1 := hL.ex e'
  refine q_fld (v := .int (Kp429.baseOf l)) (ev_if (et_test (ev_neNil (ev_var rfl) hd')) (fun hb => ?_) (fun hb => ?_)) (ev_var rfl) hL1.prm.obj T.c_Model T.n_Model_base (Nat.le_of_ble_eq_true rfl) fun H2 e2 => ?_
  · have l0 : 0 < l.length := by
      rw [← hlen]
      cases ns with
      | nil => simp at hb
      | cons a r => simp
    refine ev_is (ev_div (ev_mul ev_c (ev_sum (ev_var rfl) (sq_of hd')) (.inl ⟨by decide, by decide⟩)) (ev_lenL (ev_var rfl) (sq_of hd')) ⟨by rw [List.length_map, hlen]; omega, by rw [List.length_map, hlen]; omega⟩) ?_
    rw [List.length_map, hsum, hlen, show (65536 : Int) = ((65536 : Nat) : Int) from rfl, ← Int.natCast_mul, fdiv_nat]
    unfold Kp429.baseOf
    rw [if_neg (by cases l with | nil => simp at l0 | cons a r => simp)]
  · have l0 : l = [] := by
      cases ns with
      | nil => exact List.length_eq_zero_iff.mp hlen.symm
      | cons a r => simp at hb
    rw [l0]
    exact ev_c
  have hL2 : LowAt K (upd H2 A.mo (.ins (He.ga K "Model") A.dx (putF "base" (.int (Kp429.baseOf l)) (A.flds p.base)))) A s (pR s p (Kp429.baseOf l) 0) rat rtr rst := (hL1.ex e2).putBase
  have mv2 : Moved A H A (upd H2 A.mo (.ins (He.ga K "Model") A.dx (putF "base" (.int (Kp429.baseOf l)) (A.flds p.base)))) := (Moved.refl.exR (e'.trans e2)).upd fp_mo
  generalize upd H2 A.mo (.ins (He.ga K "Model") A.dx (putF "base" (.int (Kp429.baseOf l)) (A.flds p.base))) = H3 at hL2 mv2
  refine q_forR1 (n := 2) (ea_cons ev_c ea_nil) ⟨by decide, by decide⟩ (fun i σ H' => ∃ A2, LowAt K H' A2 s (pR s p (Kp429.baseOf l) i) rat rtr rst ∧ Moved A H A2 H' ∧ ∃ v3 : Option V, σ = [some (.ref A.mo), some (.ref d), v2, v3, none, none, none])
    (fun H4 e4 => ⟨A, hL2.ex e4, mv2.exR e4, none, rfl⟩) (fun i σ H' hi p => ?_) (fun σ H' p => ?_)
  · obtain ⟨A2, hL', mv, v3, rfl⟩ := p
    have hi2 : i < 2 := by omega
    rw [← mv.mo]
    have sz8 : Kp429.sizeOf s i ≤ 8 := by unfold Kp429.sizeOf; split <;> omega
    refine run_lcR1 (n := (Kp429.sizeOf s i : Nat)) (ev_smany T (ev_settings T (A := A2) (p := pR s p (Kp429.baseOf l) i) (ev_var rfl) hL'.prm) hL'.set (ev_var rfl) (by omega)) ⟨by omega, by omega⟩ fun H4 e4 => ?_
    have hL4 := hL'.ex e4
    refine lc_objs (walk_range (lo := 0) (n := ((Kp429.sizeOf s i : Nat) : Int).toNat)) (by omega) (fun _ _ => True.intro) ((Kp429.firstRows s i (Kp429.sizeOf s i)).map fun row => HO.lst (row.map V.int)) (by rw [List.length_map, firstRows_is, List.length_map, List.length_range]; omega) ?_ (fun Dl qs H5 hD e5 hqn hnd h5 hob => ?_)
    · intro n x o H5 H6 K1 hn ho e5 y k1
      obtain ⟨rfl, rfl⟩ := y
      rw [firstRows_is, List.map_map, List.getElem?_map, List.getElem?_range (by omega)] at ho
      cases ho
      refine ⟨rfl, ?_⟩
      refine run_el (el_first_row (s := s) (kd := i) (n := n) (ev_settings T (A := A2) (p := pR s p (Kp429.baseOf l) i) (ev_var rfl) (hL4.ex e5).prm) (hL4.ex e5).set (ev_var rfl) (ev_is (ev_var rfl) (by show V.int (0 + (n : Int)) = _; rw [Int.zero_add])) (by omega)) fun q H7 hq e7 h7 => k1 q H7 hq e7 h7
    · have hL5 := hL4.ex e5
      refine g_setL (j := i) (ev_rows T (A := A2) (p := pR s p (Kp429.baseOf l) i) (ev_var rfl) hL5.prm) (ev_var rfl) hL5.prm.lw (by simpa using hi2) fun H6 e6 => ?_
      have hfr : ∀ b, b ∈ Dl :: qs → H' b = none := fun b hb => by
        rcases List.mem_cons.mp hb with e | e
        · rw [e]; exact fresh_back e4 hD
        · exact fresh_back e4 (hqn b e)
      have mvk : Moved A2 H' (A2.putK i Dl qs) (upd H6 A2.lw (.lst (([V.ref A2.l0, V.ref A2.l1]).set i (.ref Dl)))) := by
        refine ⟨(frEx ((e4.trans e5).trans e6)).upd fp_lw, fun b hb => (fp_putK (by omega) hb).imp id (hfr b), ?_, ?_⟩
        · unfold MA.putK
          split <;> rfl
        · unfold MA.putK
          split <;> rfl
      refine ⟨A2.putK i Dl qs, ?_, mv.trans mvk, _, rfl⟩
      rw [pR_succ _ _ _ hi2]
      exact (hL5.ex e6).newRows (by omega) (e6 _ _ h5) (RowsAt.ex (paired_unmap (F := fun q (o : HO) => H5 q = some o) hob) e6) (fun b hb => hL'.new (hfr b hb)) hnd
  · obtain ⟨A2, hL', mv, v3, rfl⟩ := p
    rw [← mv.mo]
    refine q_fldNewT (fun H4 e4 => ev_var rfl) hL'.prm.obj T.c_Model T.n_Model_rests (Nat.le_of_ble_eq_true rfl) fun q H4 hq e4 h4 => ?_
    have hL5 := (hL'.ex e4).newRests h4 (hL'.new hq)
    have mv5 : Moved A2 H' { A2 with rs := q } (upd H4 A2.mo (.ins (He.ga K "Model") A2.dx (({ A2 with rs := q } : MA).flds (pR s p (Kp429.baseOf l) (Int.toNat 2)).base))) := ⟨(frEx e4).upd fp_mo, fun b hb => (fp_newRests hb).imp id (fun e => by rw [e]; exact hq), rfl, rfl⟩
    refine reset_rests T (A := { A2 with rs := q }) (s := s) (p := pR s p (Kp429.baseOf l) 2) hL5 hR hO (initial_ok hO) fun σ H6 hM f6 => kk { A2 with rs := q } H6 hM ?_
    exact (mv.trans mv5).trans ⟨f6, fun b hb => .inl hb, rfl, rfl⟩
theorem ok_Model_reset (T : Txt K mg) : Has P w K mg base 5 d_Model_reset.at_ ["self"] (sp_Model_reset K) := by
  refine Has.of (d := d_Model_reset) T 18 rfl ⟨rfl, rfl⟩ sc_Model_reset (fun _ _ _ _ _ _ us hl => match us, hl with | [_], _ => rfl) (fun vs H Q E h => len_Model_reset h) fun cdv A outer s H vs Q E hr h => ⟨t_Model_reset K, ?_, pure_Model_reset T h⟩
  exact (pss_cons (ps_set (i := 1) sc_Model_reset.nd rfl (Or.inl rfl) (pe_lst pa_nil))
    (pss_cons (ps_for PassesOwn.never rfl (pi_list (pe_fld (pv 0) rfl)) (pg_name (i := 2) sc_Model_reset.nd rfl (Or.inr rfl)) (pss_one (ps_expr (pe_bm PySem.F.plainAttrs_list PySem.F.slot_list_extend PySem.F.type_list_extend mt_extend (pv 1) (pa_cons (pe_lock (pe_lc (own := [("item", 5)]) (g := (gName 5)) (tt := tYes) rfl sc_Model_reset.nd (pi_keys (pv 2)) (blkOk_by (own := [("item", 5)]) (N := N_Model_reset) (sc := defScope s_Model_reset) (by decide +kernel)) (fun _ _ _ _ _ => (pg_name (i := 5) sc_Model_reset.nd rfl (Or.inl rfl))) (fun _ _ _ _ _ => pts_nil) (fun _ _ _ _ _ => (pe_dget (hu_of hr) (pv 2) (pv 5) (fun _ _ => rfl))))) pa_nil)))))
    (pss_cons (ps_fld (pv 0) (pe_ifExp (pt_cmpR (op_neD hr.units) (pv 1) (pe_lst pa_nil) (nomark _)) (pe_op op_fdivN (pe_op op_mul (pe_gint rfl T.i_UNIT) (pe_callB (cr_sum rfl) (by rfl) T.f_sum (by decide +kernel) (pa_cons (pv 1) pa_nil))) (pe_callB cl_len (by rfl) T.f_len (by decide +kernel) (pa_cons (pv 1) pa_nil))) pe_int) rfl)
    (pss_cons (ps_for PassesOwn.never rfl (pi_range1 rfl T.f_range (pa_cons pe_int pa_nil)) (pg_name (i := 3) sc_Model_reset.nd rfl (Or.inr rfl)) (pss_one (ps_asg (pe_lc (own := [("number", 6)]) (g := (gName 6)) (tt := tYes) rfl sc_Model_reset.nd (pi_range1 rfl T.f_range (pa_cons (pe_ix ix_tup (pe_fld (pe_fld (pv 0) rfl) rfl) (pv 3) (fun _ _ => rfl)) pa_nil)) (blkOk_by (own := [("number", 6)]) (N := N_Model_reset) (sc := defScope s_Model_reset) (by decide +kernel)) (fun _ _ _ _ _ => (pg_name (i := 6) sc_Model_reset.nd rfl (Or.inl rfl))) (fun _ _ _ _ _ => pts_nil) (fun _ _ _ _ _ => (pe_methH (pe_fld (pv 0) rfl) T.c_Settings T.m_Settings_first_row (ok_Settings_first_row T) (hr.mono (by decide)) (pa_cons (pv 3) (pa_cons (pv 6) pa_nil))))) (pg_sub (pe_fld (pv 0) rfl) (pv 3) set_list))))
    (pss_cons (ps_fld (pv 0) pe_dnewT rfl)
    (pss_one (ps_for PassesOwn.never rfl (pi_enum rfl T.f_enumerate (pa_cons (pe_fld (pv 0) rfl) pa_nil)) (pg_tup rfl (pgs_cons (pg_name (i := 4) sc_Model_reset.nd rfl (Or.inl rfl)) (pgs_cons (pg_name (i := 2) sc_Model_reset.nd rfl (Or.inr rfl)) pgs_nil))) (pss_one (ps_lock (ps_for PassesOwn.never rfl (pi_keys (pv 2)) (pg_name (i := 5) sc_Model_reset.nd rfl (Or.inl rfl)) (pss_one (ps_expr (pe_methH (pv 0) T.c_Model T.m_Model_renew (ok_Model_renew T) (hr.mono (by decide)) (pa_cons (pv 4) (pa_cons (pv 5) pa_nil)))))))))))))))
theorem s_reset {D : Ends} (ha : Ev ta σ H (.ref A.mo)) (hL : LowAt K H A s p rat rtr rst) (hR : RatRel l rat rtr s.users s.items) (hO : OkL s l) (k : ∀ A' H', MAt K H' A' (resetM s l) → Moved A H A' H' → D.nx σ H') : tDrop (tMeth (He.ga K "Model") "reset" (sp_Model_reset K) [] E0 ta tNil) D σ H :=
  ha H (Ex.refl H) _ fun H1 e1 => ⟨_, _, _, rfl, e1 _ _ hL.prm.obj, rfl, ⟨A, s, l, p, rat, rtr, rst, rfl, hL.ex e1, hR, hO, fun A' H2 g mv => k A' H2 g (mv.exL e1)⟩⟩
end
end Gs
namespace Gs
open PySem PySem.Spec PyProof.Rows L2 Evl
section
open Kp429 (Rating Settings Parameters Coordinate)
variable {P : Program} {w : World} {K : PySem.W.Frag} {mg : Str → Option Value} {base : Heap} {vs : List V} {H H' H1 H2 H3 : Hp} {Q : VK} {E : XK} {A A' : MA} {p : Parameters} {σ : L2.St} {ta tk tn tq td ty tv tb te : TE} {s : Settings} {m m' m2 : Kp429.Model} {l : List Rating} {rat : List KD} {rtr : List (List Int)} {rst : List (List Key × V)} {kvs : KD}
theorem fld_end {a C dx : Addr} {fs : List (Str × V)} {f : Str} {y : V} {Nx : L2.St → Hp → Prop} (ha : Ev ta σ H (.ref a)) (ho : H a = some (.ins C dx fs)) (hc : Cls K C) (hn : NoAttr K C f) (hl : fs.length < 1000) (k : ∀ H1, Ex H H1 → Nx σ (upd H1 a (.ins C dx (putF f y fs)))) :
    ta σ H fun x H2 => ∃ a C dx fs, x = .ref a ∧ H2 a = some (.ins C dx fs) ∧ Cls K C ∧ NoAttr K C f ∧ fs.length < 1000 ∧ Nx σ (upd H2 a (.ins C dx (putF f y fs))) :=
  ha H (Ex.refl H) _ fun H2 e2 => ⟨a, C, dx, fs, rfl, e2 _ _ ho, hc, hn, hl, k H2 e2⟩
theorem q_fldBy {D : Ends} {tz : TS} {f : Str} (h : tv σ H fun y H1 => ta σ H1 fun x H2 => ∃ a C dx fs, x = .ref a ∧ H2 a = some (.ins C dx fs) ∧ Cls K C ∧ NoAttr K C f ∧ fs.length < 1000 ∧ tz D σ (upd H2 a (.ins C dx (putF f y fs)))) : tSeq (sFld K ta tv f) tz D σ H := h
theorem lst_by {xs : List V} {Q : VK} {tr : TA} (h : tr σ H fun vs H1 => vs.length ≤ sizeLine ∧ ∀ p, H1 p = none → Q (.ref p) (upd H1 p (.lst vs))) : tLst tr σ H Q := h
theorem cons_by {Q : List V → Hp → Prop} {tr : TA} (h : ta σ H fun x H1 => tr σ H1 fun xs H2 => Q (x :: xs) H2) : tCons ta tr σ H Q := h
theorem neN {a b : Addr} {o : HO} (h1 : H a = some o) (h2 : H b = none) : b ≠ a := fun e => by rw [e, h1] at h2; cases h2
theorem rel_empty (s : Settings) : RatRel [] (List.replicate s.users []) (List.replicate s.items []) s.users s.items := by
  refine ⟨List.length_replicate, List.length_replicate, fun u kvs h => ?_, fun i xs h => ?_⟩
  · rw [List.getElem?_replicate] at h
    split at h
    · cases h
      exact List.Perm.refl _
    · cases h
  · rw [List.getElem?_replicate] at h
    split at h
    · cases h
      rfl
    · cases h
theorem okl_empty (hv : Kp429.validSettings s = true) : OkL s [] := ⟨hv, List.Pairwise.nil, fun r h => by cases h⟩
theorem paired_rep {α β : Type} {F : α → β → Prop} {b : β} : ∀ {l : List α} {n : Nat}, Paired F l (List.replicate n b) → ∀ a ∈ l, F a b
  | [], _, _, a, h => by cases h
  | x :: l, 0, h, a, ha => by cases h
  | x :: l, n + 1, h, a, ha => by
    rw [List.replicate_succ] at h
    cases h with
    | cons h t =>
      rcases List.mem_cons.mp ha with e | e
      · rw [e]; exact h
      · exact paired_rep t a e
theorem paired_all {α β : Type} {F : α → β → Prop} {b : β} : ∀ {l : List α}, (∀ a ∈ l, F a b) → Paired F l (List.replicate l.length b)
  | [], _ => .nil
  | x :: l, h => .cons (h x (List.mem_cons_self ..)) (paired_all fun a ha => h a (List.mem_cons_of_mem _ ha))
/-! ### __init__ -/
def sp_Model_init (K : PySem.W.Frag) : Sp := fun vs H Q _ => ∃ (mo st dx : Addr) (s : Settings), vs = [.ref mo, .ref st] ∧ H mo = some (.ins (He.ga K "Model") dx []) ∧ SetAt K H st s ∧ Kp429.validSettings s = true ∧
  ∀ A' H', MAt K H' A' (resetM s []) → Fr (· = mo) H H' → (∀ b, A'.fp b → b = mo ∨ H b = none) → A'.mo = mo → A'.st = st → Q .non H'
theorem len_Model_init (h : sp_Model_init K vs H Q E) : vs.length = (["self", "settings"] : List Str).length := by
  obtain ⟨_, _, _, _, rfl, _⟩ := h
  rfl
def t_Model_init (K : PySem.W.Frag) : TS :=
  (tSeq (sFld K (tVar 0) (tVar 1) "settings")
    (tSeq (sFld K (tVar 0) (tLc (iRng1 (tCons (tOp (rIxT K) (tFld K (tVar 1) "many") (tC (.int 0))) tNil)) (gName 2) tYes tDNewK [2]) "ratings")
    (tSeq (sFld K (tVar 0) (tLc (iRng1 (tCons (tOp (rIxT K) (tFld K (tVar 1) "many") (tC (.int 1))) tNil)) (gName 3) tYes (tLst tNil) [3]) "raters")
    (tSeq (sFld K (tVar 0) tDNewT "rests")
    (tSeq (sFld K (tVar 0) (tC (.int 0)) "base")
    (tSeq (sFld K (tVar 0) (tLst (tCons (tLst tNil) (tCons (tLst tNil) tNil))) "rows")
    (tDrop (tMeth (He.ga K "Model") "reset" (sp_Model_reset K) [] E0 (tVar 0) tNil))))))))
theorem pure_Model_init (T : Txt K mg) (h : sp_Model_init K vs H Q E) : t_Model_init K { nx := fun _ H' => Q .non H', rt := Q } (start N_Model_init vs) H := by
  obtain ⟨mo, st, dx, s, rfl, hmo, hset, hvs, kk⟩ := h
  have hv := (valid_iff s).mp hvs
  refine q_fld (v := .ref st) (ev_var rfl) (ev_var rfl) hmo T.c_Model T.n_Model_settings (Nat.le_of_ble_eq_true rfl) fun H1 e1 => ?_
  have s1 : SetAt K (upd H1 mo (.ins (He.ga K "Model") dx (putF "settings" (.ref st) []))) st s := (hset.ex e1).upd (e1 _ _ hmo) rfl
  have m1 : upd H1 mo (.ins (He.ga K "Model") dx (putF "settings" (.ref st) [])) mo = some (.ins (He.ga K "Model") dx [("settings", .ref st)]) := upd_same
  have f1 : Fr (· = mo) H (upd H1 mo (.ins (He.ga K "Model") dx (putF "settings" (.ref st) []))) := (frEx e1).upd rfl
  generalize upd H1 mo (.ins (He.ga K "Model") dx (putF "settings" (.ref st) [])) = Ha at s1 m1 f1
  -- ratings
  refine q_fldBy ?_
  refine run_lcR1 (n := (s.users : Int)) (ev_smanyC T (k := 0) (ev_var rfl) s1 (Nat.zero_le _)) ⟨by omega, by omega⟩ fun Ha1 ea1 => ?_
  refine lc_objs (walk_range (lo := 0) (n := ((s.users : Int)).toNat)) (by omega) (fun _ _ => True.intro) (List.replicate s.users (.dK [])) (by rw [List.length_replicate]; omega) (fun i x o Hb Hb2 K1 hi ho eb y k1 => ?_) (fun lr dr Hb hlr eb hdrn hdnd hlrb hdrb => ?_)
  · obtain ⟨rfl, rfl⟩ := y
    rw [List.getElem?_replicate] at ho
    split at ho
    · cases ho
      exact ⟨rfl, fun q hq => k1 q _ hq (Ex.new hq) upd_same⟩
    · cases ho
  have ea := ea1.trans eb
  refine fld_end (ev_var rfl) (ea _ _ m1) T.c_Model T.n_Model_ratings (Nat.le_of_ble_eq_true rfl) fun Hc ec => ?_
  have dr1 : ∀ d ∈ dr, Hb d = some (.dK []) := paired_rep (F := fun q (o : HO) => Hb q = some o) hdrb
  have nlr : lr ≠ mo := neN (ea1 _ _ m1) hlr
  have ndr : ∀ d ∈ dr, d ≠ mo := fun d hd => neN (ea1 _ _ m1) (hdrn d hd)
  have lr_new : Ha lr = none := fresh_back ea1 hlr
  have dr_new : ∀ d ∈ dr, Ha d = none := fun d hd => fresh_back ea1 (hdrn d hd)
  have aec := ea.trans ec
  have s2 : SetAt K (upd Hc mo (.ins (He.ga K "Model") dx (putF "ratings" (.ref lr) [("settings", .ref st)]))) st s := (s1.ex aec).upd (aec _ _ m1) rfl
  have m2 : upd Hc mo (.ins (He.ga K "Model") dx (putF "ratings" (.ref lr) [("settings", .ref st)])) mo = some (.ins (He.ga K "Model") dx [("settings", .ref st), ("ratings", .ref lr)]) := upd_same
  have lr2 : upd Hc mo (.ins (He.ga K "Model") dx (putF "ratings" (.ref lr) [("settings", .ref st)])) lr = some (.lst (dr.map V.ref)) := by rw [upd_ne nlr]; exact ec _ _ hlrb
  have dr2 : ∀ d ∈ dr, upd Hc mo (.ins (He.ga K "Model") dx (putF "ratings" (.ref lr) [("settings", .ref st)])) d = some (.dK []) := fun d hd => by rw [upd_ne (ndr d hd)]; exact ec _ _ (dr1 d hd)
  have f2 : Fr (· = mo) Ha (upd Hc mo (.ins (He.ga K "Model") dx (putF "ratings" (.ref lr) [("settings", .ref st)]))) := (frEx aec).upd rfl
  have ldr : dr.length = s.users := by rw [paired_len hdrb, List.length_replicate]
  generalize upd Hc mo (.ins (He.ga K "Model") dx (putF "ratings" (.ref lr) [("settings", .ref st)])) = Hd at s2 m2 lr2 dr2 f2
  -- raters
  refine q_fldBy ?_
  refine run_lcR1 (n := (s.items : Int)) (ev_smanyC T (k := 1) (ev_var rfl) s2 (Nat.le_refl _)) ⟨by omega, by omega⟩ fun Hd1 ed1 => ?_
  refine lc_objs (walk_range (lo := 0) (n := ((s.items : Int)).toNat)) (by omega) (fun _ _ => True.intro) (List.replicate s.items (.lst [])) (by rw [List.length_replicate]; omega) (fun i x o Hx' Hb2 K1 hi ho eb y k1 => ?_) (fun lq qs Hx hlq ee hqsn hqnd hlqb hqsb => ?_)
  · obtain ⟨rfl, rfl⟩ := y
    rw [List.getElem?_replicate] at ho
    split at ho
    · cases ho
      exact ⟨rfl, run_el (el_lst ea_nil (by simp)) fun q H6 hq e6 h6 => k1 q H6 hq e6 h6⟩
    · cases ho
  have ed := ed1.trans ee
  refine fld_end (ev_var rfl) (ed _ _ m2) T.c_Model T.n_Model_raters (Nat.le_of_ble_eq_true rfl) fun Hf ef => ?_
  have qs1 : ∀ d ∈ qs, Hx d = some (.lst []) := paired_rep (F := fun q (o : HO) => Hx q = some o) hqsb
  have nlq : lq ≠ mo := neN (ed1 _ _ m2) hlq
  have nqs : ∀ d ∈ qs, d ≠ mo := fun d hd => neN (ed1 _ _ m2) (hqsn d hd)
  have lq_new : Hd lq = none := fresh_back ed1 hlq
  have qs_new : ∀ d ∈ qs, Hd d = none := fun d hd => fresh_back ed1 (hqsn d hd)
  have aef := ed.trans ef
  have s3 : SetAt K (upd Hf mo (.ins (He.ga K "Model") dx (putF "raters" (.ref lq) [("settings", .ref st), ("ratings", .ref lr)]))) st s := (s2.ex aef).upd (aef _ _ m2) rfl
  have m3 : upd Hf mo (.ins (He.ga K "Model") dx (putF "raters" (.ref lq) [("settings", .ref st), ("ratings", .ref lr)])) mo = some (.ins (He.ga K "Model") dx [("settings", .ref st), ("ratings", .ref lr), ("raters", .ref lq)]) := upd_same
  have lq3 : upd Hf mo (.ins (He.ga K "Model") dx (putF "raters" (.ref lq) [("settings", .ref st), ("ratings", .ref lr)])) lq = some (.lst (qs.map V.ref)) := by rw [upd_ne nlq]; exact ef _ _ hlqb
  have qs3 : ∀ d ∈ qs, upd Hf mo (.ins (He.ga K "Model") dx (putF "raters" (.ref lq) [("settings", .ref st), ("ratings", .ref lr)])) d = some (.lst []) := fun d hd => by rw [upd_ne (nqs d hd)]; exact ef _ _ (qs1 d hd)
  have f3 : Fr (· = mo) Hd (upd Hf mo (.ins (He.ga K "Model") dx (putF "raters" (.ref lq) [("settings", .ref st), ("ratings", .ref lr)]))) := (frEx aef).upd rfl
  have lqs : qs.length = s.items := by rw [paired_len hqsb, List.length_replicate]
  generalize upd Hf mo (.ins (He.ga K "Model") dx (putF "raters" (.ref lq) [("settings", .ref st), ("ratings", .ref lr)])) = Hg at s3 m3 lq3 qs3 f3
  -- rests
  refine q_fldNewT (fun H4 e4 => ev_var rfl) m3 T.c_Model T.n_Model_rests (Nat.le_of_ble_eq_true rfl) fun rs Hh hrs eh hrsb => ?_
  have nrs : rs ≠ mo := neN m3 hrs
  have m4 : upd Hh mo (.ins (He.ga K "Model") dx (putF "rests" (.ref rs) [("settings", .ref st), ("ratings", .ref lr), ("raters", .ref lq)])) mo = some (.ins (He.ga K "Model") dx [("settings", .ref st), ("ratings", .ref lr), ("raters", .ref lq), ("rests", .ref rs)]) := upd_same
  have s4 : SetAt K (upd Hh mo (.ins (He.ga K "Model") dx (putF "rests" (.ref rs) [("settings", .ref st), ("ratings", .ref lr), ("raters", .ref lq)]))) st s := (s3.ex eh).upd (eh _ _ m3) rfl
  have rs4 : upd Hh mo (.ins (He.ga K "Model") dx (putF "rests" (.ref rs) [("settings", .ref st), ("ratings", .ref lr), ("raters", .ref lq)])) rs = some (.dT []) := by rw [upd_ne nrs]; exact hrsb
  have f4 : Fr (· = mo) Hg (upd Hh mo (.ins (He.ga K "Model") dx (putF "rests" (.ref rs) [("settings", .ref st), ("ratings", .ref lr), ("raters", .ref lq)]))) := (frEx eh).upd rfl
  generalize upd Hh mo (.ins (He.ga K "Model") dx (putF "rests" (.ref rs) [("settings", .ref st), ("ratings", .ref lr), ("raters", .ref lq)])) = Hi at s4 m4 rs4 f4
  -- base
  refine q_fld (v := .int 0) ev_c (ev_var rfl) m4 T.c_Model T.n_Model_base (Nat.le_of_ble_eq_true rfl) fun Hj ej => ?_
  have m5 : upd Hj mo (.ins (He.ga K "Model") dx (putF "base" (.int 0) [("settings", .ref st), ("ratings", .ref lr), ("raters", .ref lq), ("rests", .ref rs)])) mo = some (.ins (He.ga K "Model") dx [("settings", .ref st), ("ratings", .ref lr), ("raters", .ref lq), ("rests", .ref rs), ("base", .int 0)]) := upd_same
  have s5 : SetAt K (upd Hj mo (.ins (He.ga K "Model") dx (putF "base" (.int 0) [("settings", .ref st), ("ratings", .ref lr), ("raters", .ref lq), ("rests", .ref rs)]))) st s := (s4.ex ej).upd (ej _ _ m4) rfl
  have f5 : Fr (· = mo) Hi (upd Hj mo (.ins (He.ga K "Model") dx (putF "base" (.int 0) [("settings", .ref st), ("ratings", .ref lr), ("raters", .ref lq), ("rests", .ref rs)]))) := (frEx ej).upd rfl
  generalize upd Hj mo (.ins (He.ga K "Model") dx (putF "base" (.int 0) [("settings", .ref st), ("ratings", .ref lr), ("raters", .ref lq), ("rests", .ref rs)])) = Hk at s5 m5 f5
  -- rows
  refine q_fldBy ?_
  refine lst_by (xs := []) ?_
  refine cons_by ?_
  refine run_el (el_lst ea_nil (by simp)) fun l0 Hl hl0 el hl0b => ?_
  refine cons_by ?_
  refine run_el (el_lst ea_nil (by simp)) fun l1 Hm hl1 em hl1b => ?_
  refine ⟨sz_of (by simp), fun lw hlw => ?_⟩
  have elm := el.trans em
  have enw : Ex Hk (upd Hm lw (.lst [.ref l0, .ref l1])) := elm.trans (Ex.new hlw)
  refine fld_end (ev_var rfl) (enw _ _ m5) T.c_Model T.n_Model_rows (Nat.le_of_ble_eq_true rfl) fun Hn en => ?_
  have eN := enw.trans en
  have nl0 : l0 ≠ mo := neN m5 hl0
  have nl1 : l1 ≠ mo := neN (el _ _ m5) hl1
  have nlw : lw ≠ mo := neN (elm _ _ m5) hlw
  have n10 : l1 ≠ l0 := neN hl0b hl1
  have nw0 : lw ≠ l0 := neN (em _ _ hl0b) hlw
  have nw1 : lw ≠ l1 := neN hl1b hlw
  have lrg := f3 _ _ nlr lr2
  have drg : ∀ d ∈ dr, Hg d = some (.dK []) := fun d hd => f3 _ _ (ndr d hd) (dr2 d hd)
  have lrk := f5 _ _ nlr (f4 _ _ nlr lrg)
  have drk : ∀ d ∈ dr, Hk d = some (.dK []) := fun d hd => f5 _ _ (ndr d hd) (f4 _ _ (ndr d hd) (drg d hd))
  have lqk := f5 _ _ nlq (f4 _ _ nlq lq3)
  have qsk : ∀ d ∈ qs, Hk d = some (.lst []) := fun d hd => f5 _ _ (nqs d hd) (f4 _ _ (nqs d hd) (qs3 d hd))
  have rsk := f5 _ _ nrs rs4
  have fN : Fr (· = mo) Hk (upd Hn mo (.ins (He.ga K "Model") dx (putF "rows" (.ref lw) [("settings", .ref st), ("ratings", .ref lr), ("raters", .ref lq), ("rests", .ref rs), ("base", .int 0)]))) := (frEx eN).upd rfl
  have hL : LowAt K (upd Hn mo (.ins (He.ga K "Model") dx (putF "rows" (.ref lw) [("settings", .ref st), ("ratings", .ref lr), ("raters", .ref lq), ("rests", .ref rs), ("base", .int 0)]))) ⟨mo, dx, st, lr, dr, lq, qs, rs, lw, l0, l1, [], []⟩ s ⟨0, [], []⟩ (List.replicate s.users []) (List.replicate s.items []) [] := by
    refine ⟨⟨upd_same, ?_, ?_, ?_, .nil, .nil⟩, (s5.ex eN).upd (eN _ _ m5) rfl, fN _ _ nlr lrk, ?_, fN _ _ nlq lqk, ?_, fN _ _ nrs rsk, ?_⟩
    · show upd Hn mo _ lw = _
      rw [upd_ne nlw]
      exact en _ _ upd_same
    · show upd Hn mo _ l0 = _
      rw [upd_ne nl0]
      exact en _ _ (by rw [upd_ne (Ne.symm nw0)]; exact em _ _ hl0b)
    · show upd Hn mo _ l1 = _
      rw [upd_ne nl1]
      exact en _ _ (by rw [upd_ne (Ne.symm nw1)]; exact hl1b)
    · rw [← ldr]
      exact paired_all fun d hd => fN _ _ (ndr d hd) (drk d hd)
    · rw [← lqs]
      exact paired_all fun d hd => fN _ _ (nqs d hd) (qsk d hd)
    · obtain ⟨nd1, nd2⟩ := List.nodup_cons.mp hdnd
      obtain ⟨nq1, nq2⟩ := List.nodup_cons.mp hqnd
      have a1 : ∀ {b}, Hd1 b = none → b ≠ mo ∧ b ≠ lr ∧ b ∉ dr := fun {b} hb => ⟨neN (ed1 _ _ m2) hb, neN (ed1 _ _ lr2) hb, fun h => neN (ed1 _ _ (dr2 b h)) hb rfl⟩
      have a2 : ∀ {b}, Hg b = none → b ≠ mo ∧ b ≠ lr ∧ b ∉ dr ∧ b ≠ lq ∧ b ∉ qs := fun {b} hb => ⟨neN m3 hb, neN lrg hb, fun h => neN (drg b h) hb rfl, neN lq3 hb, fun h => neN (qs3 b h) hb rfl⟩
      have a3 : ∀ {b}, Hk b = none → b ≠ mo ∧ b ≠ lr ∧ b ∉ dr ∧ b ≠ lq ∧ b ∉ qs ∧ b ≠ rs := fun {b} hb => ⟨neN m5 hb, neN lrk hb, fun h => neN (drk b h) hb rfl, neN lqk hb, fun h => neN (qsk b h) hb rfl, neN rsk hb⟩
      refine ⟨fun b => if b = mo then 0 else if b = lr then 1 else if b ∈ dr then 7 else if b = lq then 2 else if b ∈ qs then 8 else if b = rs then 3 else if b = l0 then 5 else if b = l1 then 6 else 4, if_pos rfl, ?_, ?_, ?_, ?_, ?_, ?_, fun d hd => ?_, fun d hd => ?_, fun d hd => (nomatch hd), fun d hd => (nomatch hd), nd2, nq2, List.nodup_nil, List.nodup_nil⟩
      · show (if lr = mo then 0 else if lr = lr then 1 else _) = 1
        rw [if_neg nlr, if_pos rfl]
      · obtain ⟨b1, b2, b3⟩ := a1 hlq
        show (if lq = mo then 0 else if lq = lr then 1 else if lq ∈ dr then 7 else if lq = lq then 2 else _) = 2
        rw [if_neg b1, if_neg b2, if_neg b3, if_pos rfl]
      · obtain ⟨b1, b2, b3, b4, b5⟩ := a2 hrs
        show (if rs = mo then 0 else if rs = lr then 1 else if rs ∈ dr then 7 else if rs = lq then 2 else if rs ∈ qs then 8 else if rs = rs then 3 else _) = 3
        rw [if_neg b1, if_neg b2, if_neg b3, if_neg b4, if_neg b5, if_pos rfl]
      · obtain ⟨b1, b2, b3, b4, b5, b6⟩ := a3 (fresh_back elm hlw)
        show (if lw = mo then 0 else if lw = lr then 1 else if lw ∈ dr then 7 else if lw = lq then 2 else if lw ∈ qs then 8 else if lw = rs then 3 else if lw = l0 then 5 else if lw = l1 then 6 else 4) = 4
        rw [if_neg b1, if_neg b2, if_neg b3, if_neg b4, if_neg b5, if_neg b6, if_neg nw0, if_neg nw1]
      · obtain ⟨b1, b2, b3, b4, b5, b6⟩ := a3 hl0
        show (if l0 = mo then 0 else if l0 = lr then 1 else if l0 ∈ dr then 7 else if l0 = lq then 2 else if l0 ∈ qs then 8 else if l0 = rs then 3 else if l0 = l0 then 5 else _) = 5
        rw [if_neg b1, if_neg b2, if_neg b3, if_neg b4, if_neg b5, if_neg b6, if_pos rfl]
      · obtain ⟨b1, b2, b3, b4, b5, b6⟩ := a3 (fresh_back el hl1)
        show (if l1 = mo then 0 else if l1 = lr then 1 else if l1 ∈ dr then 7 else if l1 = lq then 2 else if l1 ∈ qs then 8 else if l1 = rs then 3 else if l1 = l0 then 5 else if l1 = l1 then 6 else _) = 6
        rw [if_neg b1, if_neg b2, if_neg b3, if_neg b4, if_neg b5, if_neg b6, if_neg n10, if_pos rfl]
      · have hd : d ∈ dr := hd
        show (if d = mo then 0 else if d = lr then 1 else if d ∈ dr then 7 else _) = 7
        rw [if_neg (ndr d hd), if_neg (fun e => nd1 (by rw [← e]; exact hd)), if_pos hd]
      · have hd : d ∈ qs := hd
        obtain ⟨b1, b2, b3⟩ := a1 (hqsn d hd)
        show (if d = mo then 0 else if d = lr then 1 else if d ∈ dr then 7 else if d = lq then 2 else if d ∈ qs then 8 else _) = 8
        rw [if_neg b1, if_neg b2, if_neg b3, if_neg (fun e => nq1 (by rw [← e]; exact hd)), if_pos hd]
  have fall : Fr (· = mo) H (upd Hn mo (.ins (He.ga K "Model") dx (putF "rows" (.ref lw) [("settings", .ref st), ("ratings", .ref lr), ("raters", .ref lq), ("rests", .ref rs), ("base", .int 0)]))) := f1.trans (f2.trans (f3.trans (f4.trans (f5.trans fN))))
  have back : ∀ {X Y : Hp}, Fr (· = mo) X Y → ∀ {b}, b ≠ mo → Y b = none → X b = none := fun {X Y} f {b} nb hb => by
    cases e : X b with
    | none => rfl
    | some o => rw [f b o nb e] at hb; cases hb
  refine s_reset (A := ⟨mo, dx, st, lr, dr, lq, qs, rs, lw, l0, l1, [], []⟩) (ev_var rfl) hL (rel_empty s) (okl_empty hvs) fun A' H' hM mv => kk A' H' hM ?_ (fun b hb => ?_) mv.mo mv.st
  · intro b o nb hb
    refine mv.fr b o (fun f => ?_) (fall b o nb hb)
    have key : H b = none := by
      rcases f with e | e | e | e | e | e | e | e | e | e | e
      · exact (nb e).elim
      · have e : b = lr := e
        rw [e]; exact back f1 nlr lr_new
      · have e : b = lq := e
        rw [e]; exact back (f1.trans f2) nlq lq_new
      · have e : b = rs := e
        rw [e]; exact back (f1.trans (f2.trans f3)) nrs hrs
      · have e : b = lw := e
        rw [e]; exact back (f1.trans (f2.trans (f3.trans (f4.trans f5)))) nlw (fresh_back elm hlw)
      · have e : b = l0 := e
        rw [e]; exact back (f1.trans (f2.trans (f3.trans (f4.trans f5)))) nl0 hl0
      · have e : b = l1 := e
        rw [e]; exact back (f1.trans (f2.trans (f3.trans (f4.trans f5)))) nl1 (fresh_back el hl1)
      · exact back f1 (ndr b e) (dr_new b e)
      · exact back (f1.trans f2) (nqs b e) (qs_new b e)
      · cases e
      · cases e
    rw [key] at hb
    cases hb
  · rcases mv.fp b hb with f | f
    · rcases f with e | e | e | e | e | e | e | e | e | e | e
      · exact .inl e
      · have e : b = lr := e
        rw [e]; exact .inr (back f1 nlr lr_new)
      · have e : b = lq := e
        rw [e]; exact .inr (back (f1.trans f2) nlq lq_new)
      · have e : b = rs := e
        rw [e]; exact .inr (back (f1.trans (f2.trans f3)) nrs hrs)
      · have e : b = lw := e
        rw [e]; exact .inr (back (f1.trans (f2.trans (f3.trans (f4.trans f5)))) nlw (fresh_back elm hlw))
      · have e : b = l0 := e
        rw [e]; exact .inr (back (f1.trans (f2.trans (f3.trans (f4.trans f5)))) nl0 hl0)
      · have e : b = l1 := e
        rw [e]; exact .inr (back (f1.trans (f2.trans (f3.trans (f4.trans f5)))) nl1 (fresh_back el hl1))
      · exact .inr (back f1 (ndr b e) (dr_new b e))
      · exact .inr (back (f1.trans f2) (nqs b e) (qs_new b e))
      · cases e
      · cases e
    · by_cases nb : b = mo
      · exact .inl nb
      · exact .inr (back fall nb f)
theorem ok_Model_init (T : Txt K mg) : Has P w K mg base 6 d_Model_init.at_ ["self", "settings"] (sp_Model_init K) := by
  refine Has.of (d := d_Model_init) T 17 rfl ⟨rfl, rfl⟩ sc_Model_init (fun _ _ _ _ _ _ us hl => match us, hl with | [_, _], _ => rfl) (fun vs H Q E h => len_Model_init h) fun cdv A outer s H vs Q E hr h => ⟨t_Model_init K, ?_, pure_Model_init T h⟩
  exact (pss_cons (ps_fld (pv 0) (pv 1) rfl)
    (pss_cons (ps_fld (pv 0) (pe_lc (own := [("user", 2)]) (g := (gName 2)) (tt := tYes) rfl sc_Model_init.nd (pi_range1 rfl T.f_range (pa_cons (pe_ix ix_tup (pe_fld (pv 1) rfl) pe_int (fun _ _ => rfl)) pa_nil)) (blkOk_by (own := [("user", 2)]) (N := N_Model_init) (sc := defScope s_Model_init) (by decide +kernel)) (fun _ _ _ _ _ => (pg_name (i := 2) sc_Model_init.nd rfl (Or.inl rfl))) (fun _ _ _ _ _ => pts_nil) (fun _ _ _ _ _ => pe_dnewK)) rfl)
    (pss_cons (ps_fld (pv 0) (pe_lc (own := [("item", 3)]) (g := (gName 3)) (tt := tYes) rfl sc_Model_init.nd (pi_range1 rfl T.f_range (pa_cons (pe_ix ix_tup (pe_fld (pv 1) rfl) pe_int (fun _ _ => rfl)) pa_nil)) (blkOk_by (own := [("item", 3)]) (N := N_Model_init) (sc := defScope s_Model_init) (by decide +kernel)) (fun _ _ _ _ _ => (pg_name (i := 3) sc_Model_init.nd rfl (Or.inl rfl))) (fun _ _ _ _ _ => pts_nil) (fun _ _ _ _ _ => (pe_lst pa_nil))) rfl)
    (pss_cons (ps_fld (pv 0) pe_dnewT rfl)
    (pss_cons (ps_fld (pv 0) pe_int rfl)
    (pss_cons (ps_fld (pv 0) (pe_lst (pa_cons (pe_lst pa_nil) (pa_cons (pe_lst pa_nil) pa_nil))) rfl)
    (pss_one (ps_expr (pe_methH0 (pv 0) T.c_Model T.m_Model_reset (ok_Model_reset T) (hr.mono (by decide)))))))))))
end
end Gs
namespace Gs
open PySem PySem.Spec PyProof.Rows L2 Evl
section
open Kp429 (Rating Settings Parameters Coordinate)
variable {P : Program} {w : World} {K : PySem.W.Frag} {mg : Str → Option Value} {base : Heap} {vs : List V} {H H' H1 H2 H3 : Hp} {Q : VK} {E : XK} {A A' : MA} {p p' : Parameters} {σ : L2.St} {ta tk tn tq td ty tv tb te : TE} {s : Settings} {m m' m2 : Kp429.Model} {l : List Rating} {rat rat' : List KD} {rtr rtr' : List (List Int)} {rst rst' : List (List Key × V)} {kvs : KD}
/-! ### a field with new things behind it -/
theorem LowAt.newDicts {q : Addr} {ds : List Addr} (h : LowAt K H A s p rat rtr rst) (hq : H q = some (.lst (ds.map V.ref))) (hd : DictsAt H ds rat') (hn : ∀ b, b ∈ q :: ds → ¬ A.fp b) (nd : (q :: ds).Nodup) :
    LowAt K (upd H A.mo (.ins (He.ga K "Model") A.dx (({ A with lr := q, dr := ds } : MA).flds p.base))) { A with lr := q, dr := ds } s p rat' rtr rst := by
  obtain ⟨ρ, R⟩ := h.ro
  obtain ⟨n1, n2⟩ := List.nodup_cons.mp nd
  have g : Agr ρ (fun i => i != 0) H (upd H A.mo (.ins (He.ga K "Model") A.dx (({ A with lr := q, dr := ds } : MA).flds p.base))) := agr_upd R.mo
  have nm : ∀ b, b ∈ q :: ds → b ≠ A.mo := fun b hb e => hn b hb (by rw [e]; exact .inl rfl)
  have ol : ∀ b, A.fp b → (if b = q then 1 else if b ∈ ds then 7 else ρ b) = ρ b := fun b hb => by rw [if_neg (fun e => hn q (List.mem_cons_self ..) (by rw [← e]; exact hb)), if_neg (fun e => hn b (List.mem_cons_of_mem _ e) hb)]
  refine ⟨⟨upd_same, g _ _ (by rw [R.lw]; rfl) h.prm.lw, g _ _ (by rw [R.l0]; rfl) h.prm.l0, g _ _ (by rw [R.l1]; rfl) h.prm.l1, rows_agr h.prm.r0 R.w0 g rfl, rows_agr h.prm.r1 R.w1 g rfl⟩,
    h.set.upd h.prm.obj rfl, (by show upd H A.mo _ q = _; rw [upd_ne (nm q (List.mem_cons_self ..))]; exact hq), paired_monoM (fun b hb _ z => by rw [upd_ne (nm b (List.mem_cons_of_mem _ hb))]; exact z) hd, g _ _ (by rw [R.lq]; rfl) h.lq, rows_agr h.qs R.qs g rfl, g _ _ (by rw [R.rs]; rfl) h.rs, fun b => if b = q then 1 else if b ∈ ds then 7 else ρ b, ?_⟩
  exact ⟨(ol _ (by simp [MA.fp])).trans R.mo, if_pos rfl, (ol _ (by simp [MA.fp])).trans R.lq, (ol _ (by simp [MA.fp])).trans R.rs, (ol _ (by simp [MA.fp])).trans R.lw, (ol _ (by simp [MA.fp])).trans R.l0, (ol _ (by simp [MA.fp])).trans R.l1,
    fun d hd => (if_neg (fun e => n1 (by rw [← e]; exact hd))).trans (if_pos hd), fun d hd => (ol _ (by simp [MA.fp, hd])).trans (R.qs d hd), fun d hd => (ol _ (by simp [MA.fp, hd])).trans (R.w0 d hd), fun d hd => (ol _ (by simp [MA.fp, hd])).trans (R.w1 d hd), n2, R.nqs, R.nw0, R.nw1⟩
theorem LowAt.newLists {q : Addr} {ds : List Addr} (h : LowAt K H A s p rat rtr rst) (hq : H q = some (.lst (ds.map V.ref))) (hd : RowsAt H ds rtr') (hn : ∀ b, b ∈ q :: ds → ¬ A.fp b) (nd : (q :: ds).Nodup) :
    LowAt K (upd H A.mo (.ins (He.ga K "Model") A.dx (({ A with lq := q, qs := ds } : MA).flds p.base))) { A with lq := q, qs := ds } s p rat rtr' rst := by
  obtain ⟨ρ, R⟩ := h.ro
  obtain ⟨n1, n2⟩ := List.nodup_cons.mp nd
  have g : Agr ρ (fun i => i != 0) H (upd H A.mo (.ins (He.ga K "Model") A.dx (({ A with lq := q, qs := ds } : MA).flds p.base))) := agr_upd R.mo
  have nm : ∀ b, b ∈ q :: ds → b ≠ A.mo := fun b hb e => hn b hb (by rw [e]; exact .inl rfl)
  have ol : ∀ b, A.fp b → (if b = q then 2 else if b ∈ ds then 8 else ρ b) = ρ b := fun b hb => by rw [if_neg (fun e => hn q (List.mem_cons_self ..) (by rw [← e]; exact hb)), if_neg (fun e => hn b (List.mem_cons_of_mem _ e) hb)]
  refine ⟨⟨upd_same, g _ _ (by rw [R.lw]; rfl) h.prm.lw, g _ _ (by rw [R.l0]; rfl) h.prm.l0, g _ _ (by rw [R.l1]; rfl) h.prm.l1, rows_agr h.prm.r0 R.w0 g rfl, rows_agr h.prm.r1 R.w1 g rfl⟩,
    h.set.upd h.prm.obj rfl, g _ _ (by rw [R.lr]; rfl) h.lr, dicts_agr h.dr R.dr g rfl, (by show upd H A.mo _ q = _; rw [upd_ne (nm q (List.mem_cons_self ..))]; exact hq), paired_monoM (fun b hb _ z => by rw [upd_ne (nm b (List.mem_cons_of_mem _ hb))]; exact z) hd, g _ _ (by rw [R.rs]; rfl) h.rs, fun b => if b = q then 2 else if b ∈ ds then 8 else ρ b, ?_⟩
  exact ⟨(ol _ (by simp [MA.fp])).trans R.mo, (ol _ (by simp [MA.fp])).trans R.lr, if_pos rfl, (ol _ (by simp [MA.fp])).trans R.rs, (ol _ (by simp [MA.fp])).trans R.lw, (ol _ (by simp [MA.fp])).trans R.l0, (ol _ (by simp [MA.fp])).trans R.l1,
    fun d hd => (ol _ (by simp [MA.fp, hd])).trans (R.dr d hd), fun d hd => (if_neg (fun e => n1 (by rw [← e]; exact hd))).trans (if_pos hd), fun d hd => (ol _ (by simp [MA.fp, hd])).trans (R.w0 d hd), fun d hd => (ol _ (by simp [MA.fp, hd])).trans (R.w1 d hd), R.ndr, n2, R.nw0, R.nw1⟩
theorem LowAt.newRestsC {q : Addr} (h : LowAt K H A s p rat rtr rst) (hq : H q = some (.dT rst')) (hn : ¬ A.fp q) : LowAt K (upd H A.mo (.ins (He.ga K "Model") A.dx (({ A with rs := q } : MA).flds p.base))) { A with rs := q } s p rat rtr rst' := by
  obtain ⟨ρ, R⟩ := h.ro
  have g : Agr ρ (fun i => i != 0) H (upd H A.mo (.ins (He.ga K "Model") A.dx (({ A with rs := q } : MA).flds p.base))) := agr_upd R.mo
  have nq : q ≠ A.mo := fun e => hn (by rw [e]; exact .inl rfl)
  have hm : ∀ b, A.fp b → b ≠ q := fun b hb e => hn (by rw [← e]; exact hb)
  refine ⟨⟨upd_same, g _ _ (by rw [R.lw]; rfl) h.prm.lw, g _ _ (by rw [R.l0]; rfl) h.prm.l0, g _ _ (by rw [R.l1]; rfl) h.prm.l1, rows_agr h.prm.r0 R.w0 g rfl, rows_agr h.prm.r1 R.w1 g rfl⟩,
    h.set.upd h.prm.obj rfl, g _ _ (by rw [R.lr]; rfl) h.lr, dicts_agr h.dr R.dr g rfl, g _ _ (by rw [R.lq]; rfl) h.lq, rows_agr h.qs R.qs g rfl, (by show upd H A.mo _ q = _; rw [upd_ne nq]; exact hq), fun b => if b = q then 3 else ρ b, ?_⟩
  exact ⟨(if_neg (hm _ (by simp [MA.fp]))).trans R.mo, (if_neg (hm _ (by simp [MA.fp]))).trans R.lr, (if_neg (hm _ (by simp [MA.fp]))).trans R.lq, if_pos rfl, (if_neg (hm _ (by simp [MA.fp]))).trans R.lw, (if_neg (hm _ (by simp [MA.fp]))).trans R.l0, (if_neg (hm _ (by simp [MA.fp]))).trans R.l1,
    fun d hd => (if_neg (hm _ (by simp [MA.fp, hd]))).trans (R.dr d hd), fun d hd => (if_neg (hm _ (by simp [MA.fp, hd]))).trans (R.qs d hd), fun d hd => (if_neg (hm _ (by simp [MA.fp, hd]))).trans (R.w0 d hd), fun d hd => (if_neg (hm _ (by simp [MA.fp, hd]))).trans (R.w1 d hd), R.ndr, R.nqs, R.nw0, R.nw1⟩
theorem LowAt.newAll {lw l0 l1 : Addr} {w0 w1 : List Addr} (h : LowAt K H A s p rat rtr rst) (hlw : H lw = some (.lst [.ref l0, .ref l1])) (h0 : H l0 = some (.lst (w0.map V.ref))) (h1 : H l1 = some (.lst (w1.map V.ref))) (r0 : RowsAt H w0 p'.users) (r1 : RowsAt H w1 p'.items) (hb : p'.base = p.base)
    (hn : ∀ b, b ∈ lw :: l0 :: l1 :: (w0 ++ w1) → ¬ A.fp b) (nd : (lw :: l0 :: l1 :: (w0 ++ w1)).Nodup) :
    LowAt K (upd H A.mo (.ins (He.ga K "Model") A.dx (({ A with lw := lw, l0 := l0, l1 := l1, w0 := w0, w1 := w1 } : MA).flds p.base))) { A with lw := lw, l0 := l0, l1 := l1, w0 := w0, w1 := w1 } s p' rat rtr rst := by
  obtain ⟨ρ, R⟩ := h.ro
  obtain ⟨n1, nd2⟩ := List.nodup_cons.mp nd
  obtain ⟨n2, nd3⟩ := List.nodup_cons.mp nd2
  obtain ⟨n3, nd4⟩ := List.nodup_cons.mp nd3
  obtain ⟨n4, n5, n6⟩ := List.nodup_append.mp nd4
  simp only [List.mem_cons, List.mem_append, not_or] at n1 n2 n3
  have g : Agr ρ (fun i => i != 0) H (upd H A.mo (.ins (He.ga K "Model") A.dx (({ A with lw := lw, l0 := l0, l1 := l1, w0 := w0, w1 := w1 } : MA).flds p.base))) := agr_upd R.mo
  have nm : ∀ b, b ∈ lw :: l0 :: l1 :: (w0 ++ w1) → b ≠ A.mo := fun b hb e => hn b hb (by rw [e]; exact .inl rfl)
  have ol : ∀ b, A.fp b → (if b = lw then 4 else if b = l0 then 5 else if b = l1 then 6 else if b ∈ w0 then 9 else if b ∈ w1 then 10 else ρ b) = ρ b := fun b hb => by
    have := fun z => hn b z hb
    simp only [List.mem_cons, List.mem_append, not_or] at this
    have t := this
    rw [if_neg (fun e => t (.inl e)), if_neg (fun e => t (.inr (.inl e))), if_neg (fun e => t (.inr (.inr (.inl e)))), if_neg (fun e => t (.inr (.inr (.inr (.inl e))))), if_neg (fun e => t (.inr (.inr (.inr (.inr e)))))]
  refine ⟨⟨by rw [hb]; exact upd_same, ?_, ?_, ?_, ?_, ?_⟩,
    h.set.upd h.prm.obj rfl, g _ _ (by rw [R.lr]; rfl) h.lr, dicts_agr h.dr R.dr g rfl, g _ _ (by rw [R.lq]; rfl) h.lq, rows_agr h.qs R.qs g rfl, g _ _ (by rw [R.rs]; rfl) h.rs, fun b => if b = lw then 4 else if b = l0 then 5 else if b = l1 then 6 else if b ∈ w0 then 9 else if b ∈ w1 then 10 else ρ b, ?_⟩
  · show upd H A.mo _ lw = _
    rw [upd_ne (nm lw (by simp))]
    exact hlw
  · show upd H A.mo _ l0 = _
    rw [upd_ne (nm l0 (by simp))]
    exact h0
  · show upd H A.mo _ l1 = _
    rw [upd_ne (nm l1 (by simp))]
    exact h1
  · exact paired_monoM (fun b hb _ z => by rw [upd_ne (nm b (by simp [show b ∈ w0 from hb]))]; exact z) r0
  · exact paired_monoM (fun b hb _ z => by rw [upd_ne (nm b (by simp [show b ∈ w1 from hb]))]; exact z) r1
  · refine ⟨(ol _ (by simp [MA.fp])).trans R.mo, (ol _ (by simp [MA.fp])).trans R.lr, (ol _ (by simp [MA.fp])).trans R.lq, (ol _ (by simp [MA.fp])).trans R.rs, if_pos rfl, ?_, ?_,
      fun d hd => (ol _ (by simp [MA.fp, hd])).trans (R.dr d hd), fun d hd => (ol _ (by simp [MA.fp, hd])).trans (R.qs d hd), fun d hd => ?_, fun d hd => ?_, R.ndr, R.nqs, n4, n5⟩
    · exact (if_neg (Ne.symm n1.1)).trans (if_pos rfl)
    · exact ((if_neg (Ne.symm n1.2.1)).trans (if_neg (Ne.symm n2.1))).trans (if_pos rfl)
    · have hd : d ∈ w0 := hd
      exact (((if_neg (fun e => n1.2.2.1 (by rw [← e]; exact hd))).trans (if_neg (fun e => n2.2.1 (by rw [← e]; exact hd)))).trans (if_neg (fun e => n3.1 (by rw [← e]; exact hd)))).trans (if_pos hd)
    · have hd : d ∈ w1 := hd
      exact ((((if_neg (fun e => n1.2.2.2 (by rw [← e]; exact hd))).trans (if_neg (fun e => n2.2.2 (by rw [← e]; exact hd)))).trans (if_neg (fun e => n3.2 (by rw [← e]; exact hd)))).trans (if_neg (fun e => n6 d e d hd rfl))).trans (if_pos hd)
end
end Gs
namespace Gs
open PySem PySem.Spec PyProof.Rows L2 Evl
section
open Kp429 (Rating Settings Parameters Coordinate)
variable {P : Program} {w : World} {K : PySem.W.Frag} {mg : Str → Option Value} {base : Heap} {vs : List V} {H H' H1 H2 H3 : Hp} {Q : VK} {E : XK} {A A' : MA} {p p' : Parameters} {σ : L2.St} {ta tk tn tq td ty tv tb te : TE} {s : Settings} {m m' m2 : Kp429.Model} {l : List Rating} {rat rat' : List KD} {rtr rtr' : List (List Int)} {rst rst' : List (List Key × V)} {kvs : KD}
theorem fp_newDicts {q b : Addr} {ds : List Addr} (h : ({ A with lr := q, dr := ds } : MA).fp b) : A.fp b ∨ b ∈ q :: ds := by
  rcases h with e | e | e | e | e | e | e | e | e | e | e
  · exact .inl (by simp [MA.fp, e])
  · exact .inr (by rw [e]; exact List.mem_cons_self ..)
  · exact .inl (by simp [MA.fp, e])
  · exact .inl (by simp [MA.fp, e])
  · exact .inl (by simp [MA.fp, e])
  · exact .inl (by simp [MA.fp, e])
  · exact .inl (by simp [MA.fp, e])
  · exact .inr (List.mem_cons_of_mem _ e)
  · exact .inl (.inr (.inr (.inr (.inr (.inr (.inr (.inr (.inr (.inl e)))))))))
  · exact .inl (.inr (.inr (.inr (.inr (.inr (.inr (.inr (.inr (.inr (.inl e))))))))))
  · exact .inl (.inr (.inr (.inr (.inr (.inr (.inr (.inr (.inr (.inr (.inr e))))))))))
theorem fp_newLists {q b : Addr} {ds : List Addr} (h : ({ A with lq := q, qs := ds } : MA).fp b) : A.fp b ∨ b ∈ q :: ds := by
  rcases h with e | e | e | e | e | e | e | e | e | e | e
  · exact .inl (by simp [MA.fp, e])
  · exact .inl (by simp [MA.fp, e])
  · exact .inr (by rw [e]; exact List.mem_cons_self ..)
  · exact .inl (by simp [MA.fp, e])
  · exact .inl (by simp [MA.fp, e])
  · exact .inl (by simp [MA.fp, e])
  · exact .inl (by simp [MA.fp, e])
  · exact .inl (.inr (.inr (.inr (.inr (.inr (.inr (.inr (.inl e))))))))
  · exact .inr (List.mem_cons_of_mem _ e)
  · exact .inl (.inr (.inr (.inr (.inr (.inr (.inr (.inr (.inr (.inr (.inl e))))))))))
  · exact .inl (.inr (.inr (.inr (.inr (.inr (.inr (.inr (.inr (.inr (.inr e))))))))))
theorem fp_newAll {lw l0 l1 b : Addr} {w0 w1 : List Addr} (h : ({ A with lw := lw, l0 := l0, l1 := l1, w0 := w0, w1 := w1 } : MA).fp b) : A.fp b ∨ b ∈ lw :: l0 :: l1 :: (w0 ++ w1) := by
  rcases h with e | e | e | e | e | e | e | e | e | e | e
  · exact .inl (by simp [MA.fp, e])
  · exact .inl (by simp [MA.fp, e])
  · exact .inl (by simp [MA.fp, e])
  · exact .inl (by simp [MA.fp, e])
  · have e : b = lw := e
    exact .inr (by simp [e])
  · have e : b = l0 := e
    exact .inr (by simp [e])
  · have e : b = l1 := e
    exact .inr (by simp [e])
  · exact .inl (.inr (.inr (.inr (.inr (.inr (.inr (.inr (.inl e))))))))
  · exact .inl (.inr (.inr (.inr (.inr (.inr (.inr (.inr (.inr (.inl e)))))))))
  · have e : b ∈ w0 := e
    exact .inr (by simp [e])
  · have e : b ∈ w1 := e
    exact .inr (by simp [e])
theorem q_make {D : Ends} {tz : TS} {C : Addr} {sp : Sp} {t : TA} {i : Nat} {vs : List V} (h : EvA t σ H vs)
    (k : ∀ x dx H1, Ex H H1 → H1 x = none → H1 dx = none → dx ≠ x → sp (.ref x :: (vs ++ [])) (upd (upd H1 dx (.own x)) x (.ins C dx [])) (fun v H2 => v = .non ∧ tz D (σ.set i (some (.ref x))) H2) E0) : tSeq (tAsg (tMake C sp [] E0 t) (gName i)) tz D σ H :=
  h H (Ex.refl H) _ fun H1 e1 x dx hx hdx hne => k x dx H1 e1 hx hdx hne
theorem lcb_run {J : It} {n : Nat} {G : Hp → Prop} {Y : Nat → Hp → V → Hp → Prop} (w : Walk J n G Y) {g : TG} {tt : TT} {te : TE} {ws : List Nat} (hG : ∀ H2, Ex H1 H2 → G H2) (Acc : Addr → Nat → List V → Hp → Prop)
    (h0 : ∀ Dl, H1 Dl = none → Acc Dl 0 [] (upd H1 Dl (.lst [])))
    (hs : ∀ Dl i x H2 H3 acc (K1 : V → Hp → Prop) (K0 : Hp → Prop), H1 Dl = none → i < n → Ex H1 H2 → H2 Dl = some (.lst acc) → Acc Dl i acc H2 → Y i H2 x H3 →
      (∀ y H6, Ex H2 H6 → acc.length < 100000 → Acc Dl (i + 1) (acc ++ [y]) (upd H6 Dl (.lst (acc ++ [y]))) → K1 y H6) → (∀ H5, Ex H2 H5 → Acc Dl (i + 1) acc H5 → K0 H5) →
      g x (wipe σ ws) H3 fun σ2 H4 => wipe σ2 ws = wipe σ ws ∧ tt σ2 H4 fun b H5 => if b = true then te σ2 H5 K1 else K0 H5)
    (hd : ∀ Dl H2 acc, H1 Dl = none → Ex H1 H2 → H2 Dl = some (.lst acc) → Acc Dl n acc H2 → Q (.ref Dl) H2) : LcB J g tt te ws σ H1 Q := lc_run w hG Acc h0 hs hd
/-- a twin under way -/
structure Tw (K : PySem.W.Frag) (H0 H : Hp) (x : Addr) (A : MA) (s : Settings) (p : Parameters) (rat : List KD) (rtr : List (List Int)) (rst : List (List Key × V)) : Prop where
  ex : Ex H0 H
  low : LowAt K H A s p rat rtr rst
  new : ∀ b, A.fp b → H0 b = none
  mo : A.mo = x
theorem Tw.exR {x : Addr} {H0 : Hp} (t : Tw K H0 H x A s p rat rtr rst) (e : Ex H H1) : Tw K H0 H1 x A s p rat rtr rst := ⟨t.ex.trans e, t.low.ex e, t.new, t.mo⟩
theorem Tw.mut {x : Addr} {H0 : Hp} {o : HO} (t : Tw K H0 H x A s p rat rtr rst) : Ex H0 (upd H A.mo o) := Ex.mut t.ex (t.new _ (.inl rfl))
def sp_Model_copied (K : PySem.W.Frag) : Sp := fun vs H Q _ => ∃ (A : MA) (m : Kp429.Model), vs = [.ref A.mo] ∧ MAt K H A m ∧ ∀ A' H', Ex H H' → MAt K H' A' m → (∀ b, A'.fp b → H b = none) → Q (.ref A'.mo) H'
theorem len_Model_copied (h : sp_Model_copied K vs H Q E) : vs.length = (["self"] : List Str).length := by
  obtain ⟨_, _, rfl, _⟩ := h
  rfl
theorem small_rst (hO : OkL s l) {g : Rating → Int} (S : RstOf rst l g) : SmallKeys rst := fun kv hkv => by
  obtain ⟨r, hr, rfl⟩ := List.mem_map.mp (S.mem_iff.mp hkv)
  have b := hO.rb r hr
  have := hO.users
  have := hO.items
  exact ⟨r.user, r.item, by omega, by omega, rfl⟩
def t_Model_copied (K : PySem.W.Frag) : TS :=
  (tSeq (tAsg (tMake (He.ga K "Model") (sp_Model_init K) [] E0 (tCons (tFld K (tVar 0) "settings") tNil)) (gName 1))
    (tSeq (sFld K (tVar 1) (tLc (iList K (tFld K (tVar 0) "ratings")) (gName 2) tYes (tCB rDictK (tCons (tVar 2) tNil)) [2]) "ratings")
    (tSeq (sFld K (tVar 1) (tLc (iList K (tFld K (tVar 0) "raters")) (gName 3) tYes (tCB (rListQ K) (tCons (tVar 3) tNil)) [3]) "raters")
    (tSeq (sFld K (tVar 1) (tCB rDictT (tCons (tFld K (tVar 0) "rests") tNil)) "rests")
    (tSeq (sFld K (tVar 1) (tFld K (tVar 0) "base") "base")
    (tSeq (sFld K (tVar 1) (tLc (iList K (tFld K (tVar 0) "rows")) (gName 4) tYes (tCall (sp_copies K) [] E0 (tCons (tVar 4) tNil)) [4]) "rows")
    (tRet (tVar 1))))))))
theorem pure_Model_copied (T : Txt K mg) (h : sp_Model_copied K vs H Q E) : t_Model_copied K { nx := fun _ H' => Q .non H', rt := Q } (start N_Model_copied vs) H := by
  obtain ⟨A, m, rfl, ⟨ho, rat, rtr, rst, hL, hR, hS⟩, kk⟩ := h
  have hv := (valid_iff m.settings).mp ho.l.vs
  refine q_make (ea_cons (ev_settings T (A := A) (p := m.parameters) (ev_var rfl) hL.prm) ea_nil) fun x dx H1 e1 hx hdx hne => ?_
  have hx2 : upd H1 dx (.own x) x = none := by rw [upd_ne (Ne.symm hne)]; exact hx
  have ea : Ex H (upd (upd H1 dx (.own x)) x (.ins (He.ga K "Model") dx [])) := (e1.trans (Ex.new hdx)).trans (Ex.new hx2)
  refine ⟨x, A.st, dx, m.settings, rfl, upd_same, hL.set.ex ea, ho.l.vs, fun A2 H2 hM2 f2 fp2 hmo hst => ⟨rfl, ?_⟩⟩
  have hxH : H x = none := fresh_back e1 hx
  obtain ⟨_, rat2, rtr2, rst2, hL2, _, _⟩ := hM2
  have t2 : Tw K H H2 x A2 m.settings (Kp429.initial m.settings []) rat2 rtr2 rst2 := ⟨f2.to ea (fun b e => by rw [e]; exact hxH), hL2, fun b hb => (fp2 b hb).elim (fun e => by rw [e]; exact hxH) (fun e => fresh_back ea e), hmo⟩
  clear hL2 f2 fp2 ea hst hmo
  -- ratings
  have ldr : A.dr.length = rat.length := paired_len hL.dr
  have lqs : A.qs.length = rtr.length := paired_len hL.qs
  refine q_fldBy ?_
  refine run_lcL (ev_ratings T (A := A) (p := m.parameters) (ev_var rfl) (hL.prm.ex t2.ex)) (sq_of (t2.ex _ _ hL.lr)) fun Ha1 ea1 => ?_
  have ta1 := t2.exR ea1
  refine lc_objs (walk_list (xs := A.dr.map V.ref)) (by rw [List.length_map, ldr, hR.nu]; omega) (fun Hb eb => sq_of (eb _ _ (ta1.ex _ _ hL.lr))) (rat.map HO.dK) (by rw [List.length_map, List.length_map, ldr]) (fun i x o Hb Hb2 K1 hi ho eb y k1 => ?_) (fun lr dr Hb hlr eb hdrn hdnd hlrb hdrb => ?_)
  · obtain ⟨rfl, hy⟩ := y
    rw [List.getElem?_map] at hy
    obtain ⟨d, hd, rfl⟩ := Option.map_eq_some_iff.mp hy
    rw [List.getElem?_map] at ho
    obtain ⟨kvs, hk, rfl⟩ := Option.map_eq_some_iff.mp ho
    obtain ⟨kvs', hk', hdk⟩ := paired_at hL.dr hd
    rw [hk] at hk'
    cases hk'
    exact ⟨rfl, _, rfl, d, kvs, rfl, .inl ((ta1.ex.trans eb) _ _ hdk), fun q hq => k1 q _ hq (Ex.new hq) upd_same⟩
  have tb := ta1.exR eb
  refine fld_end (C := He.ga K "Model") (dx := A2.dx) (fs := A2.flds (Kp429.initial m.settings []).base) (a := A2.mo) (ev_is (ev_var rfl) (by rw [t2.mo])) tb.low.prm.obj T.c_Model T.n_Model_ratings (Nat.le_of_ble_eq_true rfl) fun Hc ec => ?_
  have tc := tb.exR ec
  have fr1 : ∀ b, b ∈ lr :: dr → Ha1 b = none := fun b hb => by
    rcases List.mem_cons.mp hb with e | e
    · rw [e]; exact hlr
    · exact hdrn b e
  have t3 : Tw K H (upd Hc A2.mo (.ins (He.ga K "Model") A2.dx (putF "ratings" (.ref lr) (A2.flds (Kp429.initial m.settings []).base)))) x { A2 with lr := lr, dr := dr } m.settings (Kp429.initial m.settings []) rat rtr2 rst2 :=
    ⟨tc.mut, tc.low.newDicts (ec _ _ hlrb) (paired_mono (fun _ _ z => ec _ _ z) (paired_unmap (F := fun q (o : HO) => Hb q = some o) hdrb)) (fun b hb => ta1.low.new (fr1 b hb)) hdnd, fun b hb => (fp_newDicts hb).elim (t2.new b) (fun e => fresh_back ta1.ex (fr1 b e)), t2.mo⟩
  generalize upd Hc A2.mo (.ins (He.ga K "Model") A2.dx (putF "ratings" (.ref lr) (A2.flds (Kp429.initial m.settings []).base))) = H3 at t3
  generalize ({ A2 with lr := lr, dr := dr } : MA) = A3 at t3
  clear tc fr1 tb ta1 t2 hlrb hdrb hlr hdrn hdnd
  -- raters
  refine q_fldBy ?_
  refine run_lcL (ev_raters T (A := A) (p := m.parameters) (ev_var rfl) (hL.prm.ex t3.ex)) (sq_of (t3.ex _ _ hL.lq)) fun Ha1 ea1 => ?_
  have ta1 := t3.exR ea1
  refine lc_objs (walk_list (xs := A.qs.map V.ref)) (by rw [List.length_map, lqs, hR.ni]; omega) (fun Hb eb => sq_of (eb _ _ (ta1.ex _ _ hL.lq))) (rtr.map fun xs => HO.lst (xs.map V.int)) (by rw [List.length_map, List.length_map, lqs]) (fun i x o Hb Hb2 K1 hi ho eb y k1 => ?_) (fun lq qs Hb hlr eb hdrn hdnd hlrb hdrb => ?_)
  · obtain ⟨rfl, hy⟩ := y
    rw [List.getElem?_map] at hy
    obtain ⟨d, hd, rfl⟩ := Option.map_eq_some_iff.mp hy
    rw [List.getElem?_map] at ho
    obtain ⟨xs, hk, rfl⟩ := Option.map_eq_some_iff.mp ho
    obtain ⟨xs', hk', hdk⟩ := paired_at hL.qs hd
    rw [hk] at hk'
    cases hk'
    exact ⟨rfl, run_el (el_list (ev_var rfl) (sq_of ((ta1.ex.trans eb) _ _ hdk))) fun q H6 hq e6 h6 => k1 q H6 hq e6 h6⟩
  have tb := ta1.exR eb
  refine fld_end (C := He.ga K "Model") (dx := A3.dx) (fs := A3.flds (Kp429.initial m.settings []).base) (a := A3.mo) (ev_is (ev_var rfl) (by rw [t3.mo])) tb.low.prm.obj T.c_Model T.n_Model_raters (Nat.le_of_ble_eq_true rfl) fun Hc ec => ?_
  have tc := tb.exR ec
  have fr1 : ∀ b, b ∈ lq :: qs → Ha1 b = none := fun b hb => by
    rcases List.mem_cons.mp hb with e | e
    · rw [e]; exact hlr
    · exact hdrn b e
  have t4 : Tw K H (upd Hc A3.mo (.ins (He.ga K "Model") A3.dx (putF "raters" (.ref lq) (A3.flds (Kp429.initial m.settings []).base)))) x { A3 with lq := lq, qs := qs } m.settings (Kp429.initial m.settings []) rat rtr rst2 :=
    ⟨tc.mut, tc.low.newLists (ec _ _ hlrb) (paired_mono (fun _ _ z => ec _ _ z) (paired_unmap (F := fun q (o : HO) => Hb q = some o) hdrb)) (fun b hb => ta1.low.new (fr1 b hb)) hdnd, fun b hb => (fp_newLists hb).elim (t3.new b) (fun e => fresh_back ta1.ex (fr1 b e)), t3.mo⟩
  generalize upd Hc A3.mo (.ins (He.ga K "Model") A3.dx (putF "raters" (.ref lq) (A3.flds (Kp429.initial m.settings []).base))) = H4 at t4
  generalize ({ A3 with lq := lq, qs := qs } : MA) = A4 at t4
  clear tc fr1 tb ta1 t3 hlrb hdrb hlr hdrn hdnd
  -- rests
  refine q_fldBy ?_
  refine (ea_cons (ev_rests T (A := A) (p := m.parameters) (σ := [some (.ref A.mo), some (.ref x), none, none, none]) (ta := tVar 0) (ev_var rfl) (hL.prm.ex t4.ex)) ea_nil) H4 (Ex.refl _) _ fun Ha1 ea1 => ⟨A.rs, rst, rfl, .inl ((t4.ex.trans ea1) _ _ hL.rs), small_rst ho.l hS, fun q hq => ?_⟩
  have ta1 := t4.exR ea1
  have tb := ta1.exR (Ex.new (o := .dT rst) hq)
  refine fld_end (C := He.ga K "Model") (dx := A4.dx) (fs := A4.flds (Kp429.initial m.settings []).base) (a := A4.mo) (ev_is (ev_var rfl) (by rw [t4.mo])) tb.low.prm.obj T.c_Model T.n_Model_rests (Nat.le_of_ble_eq_true rfl) fun Hc ec => ?_
  have tc := tb.exR ec
  have t5 : Tw K H (upd Hc A4.mo (.ins (He.ga K "Model") A4.dx (putF "rests" (.ref q) (A4.flds (Kp429.initial m.settings []).base)))) x { A4 with rs := q } m.settings (Kp429.initial m.settings []) rat rtr rst :=
    ⟨tc.mut, tc.low.newRestsC (ec _ _ upd_same) (ta1.low.new hq), fun b hb => (fp_newRests hb).elim (t4.new b) (fun e => by rw [e]; exact fresh_back ta1.ex hq), t4.mo⟩
  generalize upd Hc A4.mo (.ins (He.ga K "Model") A4.dx (putF "rests" (.ref q) (A4.flds (Kp429.initial m.settings []).base))) = H5 at t5
  generalize ({ A4 with rs := q } : MA) = A5 at t5
  clear tc tb ta1 t4 hq
  -- base
  refine q_fld (a := A5.mo) (v := .int m.parameters.base) (ev_base T (A := A) (p := m.parameters) (ev_var rfl) (hL.prm.ex t5.ex)) (ev_is (ev_var rfl) (by rw [t5.mo])) t5.low.prm.obj T.c_Model T.n_Model_base (Nat.le_of_ble_eq_true rfl) fun Hc ec => ?_
  have tc := t5.exR ec
  have t6 : Tw K H (upd Hc A5.mo (.ins (He.ga K "Model") A5.dx (putF "base" (.int m.parameters.base) (A5.flds (Kp429.initial m.settings []).base)))) x A5 m.settings { Kp429.initial m.settings [] with base := m.parameters.base } rat rtr rst :=
    ⟨tc.mut, tc.low.putBase, t5.new, t5.mo⟩
  generalize upd Hc A5.mo (.ins (He.ga K "Model") A5.dx (putF "base" (.int m.parameters.base) (A5.flds (Kp429.initial m.settings []).base))) = H6 at t6
  clear tc t5
  -- rows
  refine q_fldBy ?_
  refine run_lcL (ev_rows T (A := A) (p := m.parameters) (ev_var rfl) (hL.prm.ex t6.ex)) (sq_of (t6.ex _ _ hL.prm.lw)) fun Ha1 ea1 => ?_
  have ta1 := t6.exR ea1
  refine lcb_run (walk_list (xs := [V.ref A.l0, V.ref A.l1])) (fun Hb eb => sq_of (eb _ _ (ta1.ex _ _ hL.prm.lw))) (fun Dl i acc H' => (i = 0 ∧ acc = []) ∨ (i = 1 ∧ ∃ l0 w0, acc = [.ref l0] ∧ H' l0 = some (.lst (w0.map V.ref)) ∧ RowsAt H' w0 m.parameters.users ∧ (Dl :: l0 :: w0).Nodup ∧ ∀ b ∈ l0 :: w0, Ha1 b = none) ∨
      (i = 2 ∧ ∃ l0 w0 l1 w1, acc = [.ref l0, .ref l1] ∧ H' l0 = some (.lst (w0.map V.ref)) ∧ RowsAt H' w0 m.parameters.users ∧ H' l1 = some (.lst (w1.map V.ref)) ∧ RowsAt H' w1 m.parameters.items ∧ (Dl :: l0 :: l1 :: (w0 ++ w1)).Nodup ∧ ∀ b ∈ l0 :: l1 :: (w0 ++ w1), Ha1 b = none)) (fun Dl hD => .inl ⟨rfl, rfl⟩) (fun Dl i v Hb Hb2 acc K1 K0 hD hi eb hacc hA y k1 _ => ?_) (fun lw Hb acc hlw eb hlwb hA => ?_)
  · obtain ⟨rfl, hy⟩ := y
    have hi2 : i < 2 := hi
    have hv2 : v = .ref (A.lK i) := by
      match i, hi2 with
      | 0, _ => cases hy; rfl
      | 1, _ => cases hy; rfl
    subst hv2
    have exb := ta1.ex.trans eb
    have l8 : (A.wK i).length ≤ 8 := by
      rw [paired_len (hL.prm.rK i), ho.p.lenK]
      unfold Kp429.sizeOf
      split <;> omega
    refine ⟨rfl, ?_⟩
    refine ⟨_, rfl, A.lK i, A.wK i, rowsK m.parameters i, rfl, exb _ _ (hL.prm.lK i), (hL.prm.rK i).ex exb, by omega, fun q qs H7 hq e7 hqs hnd h7 hr7 => ?_⟩
    have hqD : q ≠ Dl := fun e => by rw [e, hacc] at hq; cases hq
    have hqsD : ∀ b ∈ qs, b ≠ Dl := fun b hb e => by have := hqs b hb; rw [e, hacc] at this; cases this
    have nda := List.nodup_cons.mp hnd
    have fr : ∀ b, b ∈ q :: qs → Ha1 b = none := fun b hb => by
      rcases List.mem_cons.mp hb with e | e
      · rw [e]; exact fresh_back eb hq
      · exact fresh_back eb (hqs b e)
    match i, hi2 with
    | 0, _ =>
      rcases hA with ⟨_, rfl⟩ | ⟨z, _⟩ | ⟨z, _⟩
      · refine k1 (.ref q) H7 e7 (by simp) (.inr (.inl ⟨rfl, q, qs, rfl, by rw [upd_ne hqD]; exact h7, paired_monoM (fun b hb _ z => by rw [upd_ne (hqsD b hb)]; exact z) hr7, ?_, fr⟩))
        exact List.nodup_cons.mpr ⟨fun hm => by
          rcases List.mem_cons.mp hm with e | e
          · exact hqD e.symm
          · exact hqsD Dl e rfl, hnd⟩
      · cases z
      · cases z
    | 1, _ =>
      rcases hA with ⟨z, _⟩ | ⟨_, l0, w0, rfl, g1, g2, g3, g4⟩ | ⟨z, _⟩
      · cases z
      · obtain ⟨d1, d2⟩ := List.nodup_cons.mp g3
        obtain ⟨d3, d4⟩ := List.nodup_cons.mp d2
        simp only [List.mem_cons, not_or] at d1
        have kn : ∀ b, b ∈ l0 :: w0 → b ∉ q :: qs := fun b hb hm => by
          have hbH : ∃ o, Hb2 b = some o := by
            rcases List.mem_cons.mp hb with e | e
            · exact ⟨_, by rw [e]; exact g1⟩
            · obtain ⟨x, _, z⟩ := paired_mem g2 e
              exact ⟨_, z⟩
          obtain ⟨o, ho'⟩ := hbH
          rcases List.mem_cons.mp hm with e | e
          · rw [e, hq] at ho'; cases ho'
          · rw [hqs b e] at ho'; cases ho'
        refine k1 (.ref q) H7 e7 (by simp) (.inr (.inr ⟨rfl, l0, w0, q, qs, rfl, by rw [upd_ne (Ne.symm d1.1)]; exact e7 _ _ g1, paired_monoM (fun b hb _ z => by rw [upd_ne (fun e => d1.2 (by rw [← e]; exact hb))]; exact e7 _ _ z) g2, by rw [upd_ne hqD]; exact h7, paired_monoM (fun b hb _ z => by rw [upd_ne (hqsD b hb)]; exact z) hr7, ?_, fun b hb => ?_⟩))
        · have k0 := kn l0 (List.mem_cons_self ..)
          simp only [List.mem_cons, not_or] at k0
          refine List.nodup_cons.mpr ⟨?_, List.nodup_cons.mpr ⟨?_, List.nodup_cons.mpr ⟨?_, List.nodup_append.mpr ⟨d4, nda.2, fun a ha b hb e => kn a (List.mem_cons_of_mem _ ha) (by rw [e]; exact List.mem_cons_of_mem _ hb)⟩⟩⟩⟩
          · simp only [List.mem_cons, List.mem_append, not_or]
            exact ⟨d1.1, Ne.symm hqD, d1.2, fun e => hqsD Dl e rfl⟩
          · simp only [List.mem_cons, List.mem_append, not_or]
            exact ⟨k0.1, d3, k0.2⟩
          · simp only [List.mem_append, not_or]
            exact ⟨fun e => kn q (List.mem_cons_of_mem _ e) (List.mem_cons_self ..), nda.1⟩
        · simp only [List.mem_cons, List.mem_append] at hb
          rcases hb with e | e | e | e
          · exact g4 b (by simp [e])
          · exact fr b (by simp [e])
          · exact g4 b (by simp [e])
          · exact fr b (by simp [e])
      · cases z
  · rcases hA with ⟨z, _⟩ | ⟨z, _⟩ | ⟨_, l0, w0, l1, w1, rfl, g0, g1, g2, g3, g4, g5⟩
    · cases z
    · cases z
    have tb := ta1.exR eb
    refine fld_end (C := He.ga K "Model") (dx := A5.dx) (fs := A5.flds m.parameters.base) (a := A5.mo) (ev_is (ev_var rfl) (by rw [t6.mo])) tb.low.prm.obj T.c_Model T.n_Model_rows (Nat.le_of_ble_eq_true rfl) fun Hc ec => ?_
    have tc := tb.exR ec
    have fr : ∀ b, b ∈ lw :: l0 :: l1 :: (w0 ++ w1) → Ha1 b = none := fun b hb => by
      rcases List.mem_cons.mp hb with e | e
      · rw [e]; exact hlw
      · exact g5 b e
    have t7 : Tw K H (upd Hc A5.mo (.ins (He.ga K "Model") A5.dx (putF "rows" (.ref lw) (A5.flds m.parameters.base)))) x { A5 with lw := lw, l0 := l0, l1 := l1, w0 := w0, w1 := w1 } m.settings m.parameters rat rtr rst :=
      ⟨tc.mut, tc.low.newAll (ec _ _ hlwb) (ec _ _ g0) (ec _ _ g2) (g1.ex ec) (g3.ex ec) rfl (fun b hb => ta1.low.new (fr b hb)) g4, fun b hb => (fp_newAll hb).elim (t6.new b) (fun e => fresh_back ta1.ex (fr b e)), t6.mo⟩
    have e9 : (({ A5 with lw := lw, l0 := l0, l1 := l1, w0 := w0, w1 := w1 } : MA)).mo = x := t7.mo
    have e9 : A5.mo = x := e9
    subst e9
    refine ⟨_, rfl, ?_⟩
    exact kk { A5 with lw := lw, l0 := l0, l1 := l1, w0 := w0, w1 := w1 } _ t7.ex ⟨ho, rat, rtr, rst, t7.low, hR, hS⟩ t7.new
theorem ok_Model_copied (T : Txt K mg) : Has P w K mg base 8 d_Model_copied.at_ ["self"] (sp_Model_copied K) := by
  refine Has.of (d := d_Model_copied) T 19 rfl ⟨rfl, rfl⟩ sc_Model_copied (fun _ _ _ _ _ _ us hl => match us, hl with | [_], _ => rfl) (fun vs H Q E h => len_Model_copied h) fun cdv A outer s H vs Q E hr h => ⟨t_Model_copied K, ?_, pure_Model_copied T h⟩
  exact (pss_cons (ps_set (i := 1) sc_Model_copied.nd rfl (Or.inl rfl) (pe_makeH T.k_Model (ok_Model_init T) (hr.mono (by decide)) rfl T.g_Model (pa_cons (pe_fld (pv 0) rfl) pa_nil)))
    (pss_cons (ps_fld (pv 1) (pe_lc (own := [("told", 2)]) (g := (gName 2)) (tt := tYes) rfl sc_Model_copied.nd (pi_list (pe_fld (pv 0) rfl)) (blkOk_by (own := [("told", 2)]) (N := N_Model_copied) (sc := defScope s_Model_copied) (by decide +kernel)) (fun _ _ _ _ _ => (pg_name (i := 2) sc_Model_copied.nd rfl (Or.inl rfl))) (fun _ _ _ _ _ => pts_nil) (fun _ _ _ _ _ => (pe_callTy cl_dictK (by rfl) T.f_dict (by decide +kernel) (pa_cons (pv 2) pa_nil)))) rfl)
    (pss_cons (ps_fld (pv 1) (pe_lc (own := [("users", 3)]) (g := (gName 3)) (tt := tYes) rfl sc_Model_copied.nd (pi_list (pe_fld (pv 0) rfl)) (blkOk_by (own := [("users", 3)]) (N := N_Model_copied) (sc := defScope s_Model_copied) (by decide +kernel)) (fun _ _ _ _ _ => (pg_name (i := 3) sc_Model_copied.nd rfl (Or.inl rfl))) (fun _ _ _ _ _ => pts_nil) (fun _ _ _ _ _ => (pe_callTy cl_list (by rfl) T.f_list (by decide +kernel) (pa_cons (pv 3) pa_nil)))) rfl)
    (pss_cons (ps_fld (pv 1) (pe_callTy (cl_dictT hr.units) (by rfl) T.f_dict (by decide +kernel) (pa_cons (pe_fld (pv 0) rfl) pa_nil)) rfl)
    (pss_cons (ps_fld (pv 1) (pe_fld (pv 0) rfl) rfl)
    (pss_cons (ps_fld (pv 1) (pe_lc (own := [("rows", 4)]) (g := (gName 4)) (tt := tYes) rfl sc_Model_copied.nd (pi_list (pe_fld (pv 0) rfl)) (blkOk_by (own := [("rows", 4)]) (N := N_Model_copied) (sc := defScope s_Model_copied) (by decide +kernel)) (fun _ _ _ _ _ => (pg_name (i := 4) sc_Model_copied.nd rfl (Or.inl rfl))) (fun _ _ _ _ _ => pts_nil) (fun _ _ _ _ _ => (pe_callH (ok_copies T) (hr.mono (by decide)) rfl T.g_copies (pa_cons (pv 4) pa_nil)))) rfl)
    (pss_one (ps_ret (pv 1)))))))))
end
end Gs
namespace Gs
open PySem PySem.Spec PyProof.Rows L2 Evl
section
open Kp429 (Rating Settings Parameters Coordinate View)
variable {P : Program} {w : World} {K : PySem.W.Frag} {mg : Str → Option Value} {base : Heap} {vs : List V} {H H' H1 H2 H3 : Hp} {Q : VK} {E : XK} {A A' : MA} {p p' : Parameters} {σ : L2.St} {ta tk tn tq td ty tv tb te : TE} {s : Settings} {m m' m2 : Kp429.Model}
theorem Fr.mut {S : Addr → Prop} {d : Addr} {o : HO} (f : Fr S H H') (hd : H d = none) : Fr S H (L2.upd H' d o) := fun b u n hb => by
  rw [upd_ne (fun e => by rw [e, hd] at hb; cases hb)]
  exact f b u n hb
theorem MAt.fr1 {r : Addr} {o : HO} (h : MAt K H A m) (hr : ¬ A.fp r) (ho : H r = some o) (hk : Kp o = false) (f : Fr (· = r) H H') : MAt K H' A m := by
  obtain ⟨ok, rat, rtr, rst, hL, hR, hS⟩ := h
  exact ⟨ok, rat, rtr, rst, hL.fr f (fun b hb e => hr (by rw [← e]; exact hb)) (fun b u hu hb e => by
    rw [e, ho] at hb
    cases hb
    rw [hk] at hu
    cases hu), hR, hS⟩
/-! ### a new user's row -/
abbrev Told := List (Nat × Nat)
def toldV (t : Nat × Nat) : List V := [.int (t.1 : Int), .int (t.2 : Int)]
def vOf (p : Parameters) (tps : Told) : List View := Kp429.viewsOf p tps
def roundTo (s : Settings) (l : List View) (row : List Int) (i : Nat) : List Int := (List.range i).foldl (fun (r : List Int) (k : Nat) => Kp429.stepRow s l r k) row
theorem roundTo_succ (s : Settings) (l : List View) (row : List Int) (i : Nat) : roundTo s l row (i + 1) = Kp429.stepRow s l (roundTo s l row i) i := by
  unfold roundTo
  rw [List.range_succ, List.foldl_append]
  rfl
theorem roundTo_ok (hv : Kp429.validSettings s = true) {l : List View} {row : List Int} (h : RowOk s row) : ∀ i, i ≤ s.factors + 1 → RowOk s (roundTo s l row i)
  | 0, _ => h
  | i + 1, hi => by
    rw [roundTo_succ]
    have r := roundTo_ok hv (l := l) h i (by omega)
    have b := r.bnd (k := i) (by omega)
    have q := best_bnd (k := i) hv (Kp429.quadratic s l (roundTo s l row i) i) b.1 b.2
    exact r.set (by omega) q.1 q.2
theorem roundTo_place {l : List View} {row : List Int} : ∀ (i j : Nat), i ≤ j → Kp429.place (roundTo s l row i) j = Kp429.place row j
  | 0, _, _ => rfl
  | i + 1, j, h => by
    rw [roundTo_succ]
    show Kp429.place ((roundTo s l row i).set i _) j = _
    rw [place_set_ne (by omega), roundTo_place i j (by omega)]
def tprs (p : Parameters) (row : List Int) (tps : Told) : List (List Int × Int) := tps.map fun t => (Kp429.rowOf p 1 t.1, 65536 * (t.2 : Int) - Kp429.predictRows p.base row (Kp429.rowOf p 1 t.1))
theorem tquad_is (s : Settings) (p : Parameters) (row : List Int) (tps : Told) (k : Nat) :
    (tprs p row tps).foldl (quadF k (Kp429.place row k)) ((penOf s k : Nat), 0) = ((Kp429.quadratic s (vOf p tps) row k).curvature, (Kp429.quadratic s (vOf p tps) row k).slope) := by
  rw [quadF_fold, tprs, Kp429.quadratic, vOf, Kp429.viewsOf, List.map_map, List.map_map, List.map_map, List.map_map]
  refine Prod.ext ?_ ?_
  · show _ + _ = _ + _
    rw [Int.add_comm]
    rfl
  · show 0 + _ = _
    rw [Int.zero_add]
    congr 1
    refine List.map_congr_left fun t _ => ?_
    show cfOf (Kp429.rowOf p 1 t.1) k * (65536 * (t.2 : Int) - Kp429.predictRows p.base row (Kp429.rowOf p 1 t.1) + cfOf (Kp429.rowOf p 1 t.1) k * Kp429.place row k) = cfOf (Kp429.rowOf p 1 t.1) k * (Kp429.target t.2 - p.base - Kp429.place (Kp429.rowOf p 1 t.1) 0 - Kp429.place row 0 - (Kp429.products row (Kp429.rowOf p 1 t.1)).sum + Kp429.place row k * cfOf (Kp429.rowOf p 1 t.1) k)
    congr 1
    rw [Int.mul_comm (cfOf (Kp429.rowOf p 1 t.1) k)]
    congr 1
    unfold Kp429.predictRows Kp429.target Kp429.unit
    omega
def sp_Model_round_of (K : PySem.W.Frag) : Sp := fun vs H Q _ => ∃ (A : MA) (m : Kp429.Model) (r l : Addr) (xs : List Int) (ts : List Addr) (tps : Told), vs = [.ref A.mo, .ref r, .ref l] ∧ MAt K H A m ∧ ¬ A.fp r ∧ H r = some (.lst (xs.map V.int)) ∧ RowOk m.settings xs ∧ H l = some (.lst (ts.map V.ref)) ∧ TupsAt H ts (tps.map toldV) ∧
  (∀ t ∈ tps, t.1 < m.settings.items) ∧ tps.length ≤ 8 ∧ l ≠ r ∧ ∀ H', Fr (· = r) H H' → H' r = some (.lst ((roundTo m.settings (vOf m.parameters tps) xs (m.settings.factors + 1)).map V.int)) → Q (.bl (decide (roundTo m.settings (vOf m.parameters tps) xs (m.settings.factors + 1) ≠ xs))) H'
theorem len_Model_round_of (h : sp_Model_round_of K vs H Q E) : vs.length = (["self", "row", "told"] : List Str).length := by
  obtain ⟨_, _, _, _, _, _, _, rfl, _⟩ := h
  rfl
def t_Model_round_of (K : PySem.W.Frag) : TS :=
  (tSeq (tAsg (tC (.bl false)) (gName 3))
    (tSeq (tFor (iRng1 (tCons (tCB (rLenQ K) (tCons (tVar 1) tNil)) tNil)) (gName 4) (tSeq (tAsg (tLst tNil) (gName 5))
    (tSeq (tFor (iList K (tVar 2)) (gTup K 2 (gCons (gName 6) (gCons (gName 7) gNil))) (tDrop (tBM K "list" rAppend (tVar 5) (tCons (tTup (tCons (tOp (rIxL K) (tOp (rIxL K) (tFld K (tVar 0) "rows") (tC (.int 1))) (tVar 6)) (tCons (tOp rSubI (tOp rMulI (tC (.int 65536)) (tVar 7)) (tMeth (He.ga K "Model") "predicted" (sp_Model_predicted K) [] E0 (tVar 0) (tCons (tVar 1) (tCons (tVar 6) tNil)))) tNil))) tNil))))
    (tSeq (tAsg (tCall (sp_quadratic_of K) [] E0 (tCons (tVar 5) (tCons (tVar 4) (tCons (tOp (rIxL K) (tVar 1) (tVar 4)) (tCons (tMeth (He.ga K "Settings") "penalty" (sp_Settings_penalty K) [] E0 (tFld K (tVar 0) "settings") (tCons (tVar 4) tNil)) tNil))))) (gName 8))
    (tSeq (tAsg (tCall (sp_best_value K) [] E0 (tCons (tOp (rIxL K) (tVar 1) (tVar 4)) (tCons (tVar 8) (tCons (tMeth (He.ga K "Settings") "bounds" (sp_Settings_bounds K) [] E0 (tFld K (tVar 0) "settings") (tCons (tVar 4) tNil)) tNil)))) (gName 7))
    (tIfS (tTest (tOp rNe (tVar 7) (tOp (rIxL K) (tVar 1) (tVar 4)))) (tSeq (tAsg (tVar 7) (gSub (tVar 1) (tVar 4) rSetL))
    (tAsg (tC (.bl true)) (gName 3))) tNext))))))
    (tRet (tVar 3))))
theorem pure_Model_round_of (T : Txt K mg) (h : sp_Model_round_of K vs H Q E) : t_Model_round_of K { nx := fun _ H' => Q .non H', rt := Q } (start N_Model_round_of vs) H := by
  obtain ⟨A, m, r, l, xs, ts, tps, rfl, hM, hrf, hr, hx, hl, ht, hti, ht8, hlr, kk⟩ := h
  have ho := hM.1
  have hv := (valid_iff m.settings).mp ho.l.vs
  have lts : ts.length = tps.length := by rw [paired_len ht, List.length_map]
  refine q_asg (v := .bl false) ev_c fun H1 e1 => ?_
  generalize hX : roundTo m.settings (vOf m.parameters tps) xs = X at kk
  have X0 : X 0 = xs := by rw [← hX]; rfl
  have Xs : ∀ i, X (i + 1) = Kp429.stepRow m.settings (vOf m.parameters tps) (X i) i := fun i => by rw [← hX]; exact roundTo_succ ..
  have Xok : ∀ i, i ≤ m.settings.factors + 1 → RowOk m.settings (X i) := fun i hi => by rw [← hX]; exact roundTo_ok ho.l.vs hx i hi
  have Xpl : ∀ i j, i ≤ j → Kp429.place (X i) j = Kp429.place xs j := fun i j hij => by rw [← hX]; exact roundTo_place i j hij
  refine q_forR1 (n := ((m.settings.factors + 1 : Nat) : Int)) (ea_cons (ev_is (ev_lenL (ev_var rfl) (sq_of (e1 _ _ hr))) (by rw [List.length_map, hx.1])) ea_nil) ⟨by omega, by omega⟩ (fun i σ H' => Fr (· = r) H H' ∧ H' r = some (.lst ((X i).map V.int)) ∧ ∃ v4 v5 v6 v7 v8 : Option V, σ = [some (.ref A.mo), some (.ref r), some (.ref l), some (.bl (decide (X i ≠ xs))), v4, v5, v6, v7, v8])
    (fun H2 e2 => ⟨frEx (e1.trans e2), by rw [X0]; exact (e1.trans e2) _ _ hr, none, none, none, none, none, by rw [X0]; simp; rfl⟩) (fun i σ H' hi p => ?_) (fun σ H' p => ?_)
  · obtain ⟨f', hr', v4, v5, v6, v7, v8, rfl⟩ := p
    have hi2 : i ≤ m.settings.factors := by omega
    have hM' := hM.fr1 hrf hr rfl f'
    have hXo := Xok i (by omega)
    have hl' := f' _ _ hlr hl
    have ht' : TupsAt H' ts (tps.map toldV) := paired_mono (fun b z q => f' _ _ (fun e => by rw [e, hr] at q; cases q) q) ht
    refine q_asgL (el_lst ea_nil (by simp)) fun d H2 hd e2 h2 => ?_
    have hdr : d ≠ r := neN hr' hd
    have hdH : H d = none := by
      cases e : H d with
      | none => rfl
      | some o => rw [f' _ _ hdr e] at hd; cases hd
    refine q_forL (a := l) (xs := ts.map V.ref) (ev_var rfl) (sq_of (e2 _ _ hl')) (fun j σ H3 => Ex H' H3 ∧ ∃ (us : List Addr) (v6 v7 : Option V), H3 d = some (.lst (us.map V.ref)) ∧
        Paired (fun t (pr : List Int × Int) => ∃ a : Addr, H3 t = some (.tup [.ref a, .int pr.2]) ∧ H' a = some (.lst (pr.1.map V.int))) us ((tprs m.parameters (X i) tps).take j) ∧ σ = [some (.ref A.mo), some (.ref r), some (.ref l), some (.bl (decide (X i ≠ xs))), some (.int (i : Int)), some (.ref d), v6, v7, v8])
      (fun H3 e3 => ⟨e2.trans e3, [], v6, v7, e3 _ _ h2, .nil, rfl⟩) (fun j σ H3 _ p => sq_of (p.1 _ _ hl')) (fun j v σ H3 hj p => ?_) (fun σ H3 p => ?_)
    · obtain ⟨e3, us, v6, v7, hd3, hus, rfl⟩ := p
      rw [List.getElem?_map] at hj
      obtain ⟨t, htj, rfl⟩ := Option.map_eq_some_iff.mp hj
      obtain ⟨z, hz, htz⟩ := paired_at ht' htj
      rw [List.getElem?_map] at hz
      obtain ⟨tp, htp, rfl⟩ := Option.map_eq_some_iff.mp hz
      have hit := hti tp (List.mem_of_getElem? htp)
      refine g_unp2 (st_of (e3 _ _ htz)) ?_
      have hP := (hM'.ex e3).prm
      obtain ⟨wr, hw, hwx, hwr⟩ := rowAddr (k := 1) hM'.prm ho.p hit
      have hit2 := (ho.p.rowAt (k := 1) hit).1
      refine s_appU (ys := [.ref wr, .int (65536 * (tp.2 : Int) - Kp429.predictRows m.parameters.base (X i) (Kp429.rowOf m.parameters 1 tp.1))]) hd3 (ev_var rfl) (eu_tup (ea_cons (ev_row (A := A) (p := m.parameters) T (k := 1) (n := tp.1) (ev_var rfl) hP ev_c (Nat.le_refl _) (ev_var rfl) hw) (ea_cons (ev_sub (ev_mul ev_c (ev_var rfl) (.inl ⟨by decide, by decide⟩)) (ev_predicted (ev_var rfl) hP (ev_var rfl) (e3 _ _ hr') (ev_var rfl) hit2 (hXo.good ho.l.vs) (hwr.good ho.l.vs))) ea_nil)) (by simp)) ?_ fun t2 H4 ht2 e4 h4 => ?_
      · have l1 := paired_len hus
        rw [List.length_take, tprs, List.length_map] at l1
        rw [List.length_map]
        omega
      · have tup : ∀ b z, H4 b = some (.tup z) → upd H4 d (.lst (us.map V.ref ++ [.ref t2])) b = some (.tup z) := fun b z hb => by
          rw [upd_ne]
          · exact hb
          · intro e
            rw [e, e4 _ _ hd3] at hb
            cases hb
        refine ⟨Ex.mut (e3.trans e4) hd, us ++ [t2], _, _, by rw [upd_same, List.map_append]; rfl, ?_, rfl⟩
        have hpj : (tprs m.parameters (X i) tps)[j]? = some (Kp429.rowOf m.parameters 1 tp.1, 65536 * (tp.2 : Int) - Kp429.predictRows m.parameters.base (X i) (Kp429.rowOf m.parameters 1 tp.1)) := by
          rw [tprs, List.getElem?_map, htp]
          rfl
        rw [List.take_add_one, hpj]
        exact paired_snoc (paired_mono (fun b pr ⟨a, g1, g2⟩ => ⟨a, tup _ _ (e4 _ _ g1), g2⟩) hus) ⟨wr, tup _ _ h4, hwx⟩
    · obtain ⟨e3, us, v6, v7, hd3, hus, rfl⟩ := p
      rw [List.length_map, lts, List.take_of_length_le (Nat.le_of_eq (by rw [tprs, List.length_map]))] at hus
      have hus : Prs H3 us (tprs m.parameters (X i) tps) := paired_mono (fun b pr ⟨a, g1, g2⟩ => ⟨a, g1, e3 _ _ g2⟩) hus
      have hM3 := hM'.ex e3
      have hr3 := e3 _ _ hr'
      have hxi := map_at (hXo.at_ hi2)
      have vok : ∀ v ∈ vOf m.parameters tps, RowOk m.settings v.other := fun v hv' => by
        obtain ⟨tp, htp, rfl⟩ := List.mem_map.mp hv'
        exact (ho.p.rowAt (k := 1) (hti tp htp)).2
      have qb := curv_bnd (k := i) ho.l.vs (vs := vOf m.parameters tps) (by show (tps.map _).length ≤ 8; rw [List.length_map]; exact ht8) vok hi2 (X i)
      refine q_asgU (xs := [.int (Kp429.quadratic m.settings (vOf m.parameters tps) (X i) i).curvature, .int (Kp429.quadratic m.settings (vOf m.parameters tps) (X i) i).slope]) ?_ fun q H4 hq e4 h4 => ?_
      · have rr := eu_quadratic_of (K := K) (σ := [some (.ref A.mo), some (.ref r), some (.ref l), some (.bl (decide (X i ≠ xs))), some (.int (i : Int)), some (.ref d), v6, v7, v8]) (k := i) (t1 := tVar 5) (t2 := tVar 4) (ev_var rfl) (ev_var rfl) (ev_ixL (K := K) (j := i) (ta := tVar 1) (tb := tVar 4) (ev_var rfl) (ev_var rfl) (sq_of hr3) hxi) (ev_penalty T (ta := tFld K (tVar 0) "settings") (tk := tVar 4) (ev_settings T (A := A) (p := m.parameters) (ev_var rfl) hM3.prm) hM3.set (ev_var rfl)) hd3 hus (fun pr hpr => by
          obtain ⟨tp, htp, rfl⟩ := List.mem_map.mp hpr
          exact row_coef ho.l.vs (ho.p.rowAt (k := 1) (hti tp htp)).2 hi2)
        rw [tquad_is] at rr
        exact rr
      have hM4 := hM3.ex e4
      have hr4 := e4 _ _ hr3
      have lo := low_ge ho.l.vs i
      have hiB := high_le ho.l.vs i
      have rb := hXo.bnd hi2
      have hbest : Ev (tCall (sp_best_value K) [] E0 (tCons (tOp (rIxL K) (tVar 1) (tVar 4)) (tCons (tVar 8) (tCons (tMeth (He.ga K "Settings") "bounds" (sp_Settings_bounds K) [] E0 (tFld K (tVar 0) "settings") (tCons (tVar 4) tNil)) tNil)))) [some (.ref A.mo), some (.ref r), some (.ref l), some (.bl (decide (X i ≠ xs))), some (.int (i : Int)), some (.ref d), v6, v7, some (.ref q)] H4 (.int (bestV (Kp429.lowest m.settings i) (Kp429.highest m.settings i) (Kp429.quadratic m.settings (vOf m.parameters tps) (X i) i).curvature (Kp429.quadratic m.settings (vOf m.parameters tps) (X i) i).slope (Kp429.place (X i) i))) := fun H5 e5 Q5 q5 =>
        ev_ixL (j := i) (ta := tVar 1) (tb := tVar 4) (σ := [some (.ref A.mo), some (.ref r), some (.ref l), some (.bl (decide (X i ≠ xs))), some (.int (i : Int)), some (.ref d), v6, v7, some (.ref q)]) (ev_var rfl) (ev_var rfl) (sq_of hr4) hxi H5 e5 _ fun H6 e6 => ⟨_, rfl, eu_bounds T (ta := tFld K (tVar 0) "settings") (tk := tVar 4) (ev_settings T (A := A) (p := m.parameters) (ev_var rfl) hM4.prm) hM4.set (ev_var rfl) H6 (e5.trans e6) _ fun b H7 hb e7 h7 =>
          ⟨_, _, _, _, _, q, b, rfl, st_of (((e5.trans e6).trans e7) _ _ h4), st_of h7, qb.1, qb.2, sm_of (by omega) (by omega), sm_of (by omega) (by omega), sm_of (by omega) (by omega), fun H8 e8 => q5 H8 ((e6.trans e7).trans e8)⟩⟩
      refine q_asg (v := .int (Kp429.bestValue m.settings (Kp429.quadratic m.settings (vOf m.parameters tps) (X i) i) i (Kp429.place (X i) i))) hbest fun H5 e5 => ?_
      have eX : X (i + 1) = (X i).set i (Kp429.bestValue m.settings (Kp429.quadratic m.settings (vOf m.parameters tps) (X i) i) i (Kp429.place (X i) i)) := Xs i
      generalize Kp429.bestValue m.settings (Kp429.quadratic m.settings (vOf m.parameters tps) (X i) i) i (Kp429.place (X i) i) = bv at eX
      have hr5 := e5 _ _ hr4
      have f5 : Fr (· = r) H H5 := f'.ex ((e3.trans e4).trans e5)
      refine s_when (et_test (ev_nei (ev_var rfl) (ev_ixL (j := i) (ev_var rfl) (ev_var rfl) (sq_of hr5) hxi))) (fun hb H6 e6 => ?_) (fun hb H6 e6 => ?_)
      · have hne : bv ≠ Kp429.place (X i) i := by simpa using hb
        refine q_setL (l := r) (j := i) (e6 _ _ hr5) (v := .int bv) (ev_var rfl) (ev_var rfl) (ev_var rfl) (by rw [List.length_map, hXo.1]; omega) fun H7 e7 => ?_
        refine s_asg (v := .bl (decide (X (i + 1) ≠ xs))) (ev_is ev_c ?_) fun H8 e8 => ⟨(((f5.ex e6).ex e7).upd rfl).ex e8, ?_, _, _, _, _, _, rfl⟩
        · have hne2 : X (i + 1) ≠ xs := fun e => hne (by
            have t : Kp429.place (X (i + 1)) i = Kp429.place xs i := by rw [e]
            rw [eX, place_set_eq (by rw [hXo.1]; omega)] at t
            rw [t, Xpl i i (Nat.le_refl _)])
          rw [decide_eq_true hne2]
        · refine e8 _ _ ?_
          rw [upd_same, eX, List.map_set]
      · have heq : bv = Kp429.place (X i) i := by simpa using hb
        have eX2 : X (i + 1) = X i := by rw [eX, heq, set_getD _ _ (by rw [hXo.1]; omega)]
        refine ⟨f5.ex e6, by rw [eX2]; exact e6 _ _ hr5, some (.int (i : Int)), some (.ref d), v6, some (.int bv), some (.ref q), ?_⟩
        rw [eX2]
        rfl
  · obtain ⟨f', hr', v4, v5, v6, v7, v8, rfl⟩ := p
    have e : (((m.settings.factors + 1 : Nat) : Int)).toNat = m.settings.factors + 1 := by omega
    rw [e] at hr' ⊢
    exact s_ret (v := .bl (decide (X (m.settings.factors + 1) ≠ xs))) (ev_var rfl) fun H2 e2 => kk H2 (f'.ex e2) (e2 _ _ hr')
theorem ok_Model_round_of (T : Txt K mg) : Has P w K mg base 3 d_Model_round_of.at_ ["self", "row", "told"] (sp_Model_round_of K) := by
  refine Has.of (d := d_Model_round_of) T 37 rfl ⟨rfl, rfl⟩ sc_Model_round_of (fun _ _ _ _ _ _ us hl => match us, hl with | [_, _, _], _ => rfl) (fun vs H Q E h => len_Model_round_of h) fun cdv A outer s H vs Q E hr h => ⟨t_Model_round_of K, ?_, pure_Model_round_of T h⟩
  exact (pss_cons (ps_set (i := 3) sc_Model_round_of.nd rfl (Or.inl rfl) pe_bl)
    (pss_cons (ps_for PassesOwn.never rfl (pi_range1 rfl T.f_range (pa_cons (pe_callB cl_len (by rfl) T.f_len (by decide +kernel) (pa_cons (pv 1) pa_nil)) pa_nil)) (pg_name (i := 4) sc_Model_round_of.nd rfl (Or.inl rfl)) (pss_cons (ps_set (i := 5) sc_Model_round_of.nd rfl (Or.inl rfl) (pe_lst pa_nil))
    (pss_cons (ps_for PassesOwn.never rfl (pi_list (pv 2)) (pg_tup rfl (pgs_cons (pg_name (i := 6) sc_Model_round_of.nd rfl (Or.inl rfl)) (pgs_cons (pg_name (i := 7) sc_Model_round_of.nd rfl (Or.inl rfl)) pgs_nil))) (pss_one (ps_expr (pe_bm PySem.F.plainAttrs_list PySem.F.slot_list_append PySem.F.type_list_append mt_append (pv 5) (pa_cons (pe_tup (pa_cons (pe_ix ix_list (pe_ix ix_list (pe_fld (pv 0) rfl) pe_int (fun _ _ => rfl)) (pv 6) (fun _ _ => rfl)) (pa_cons (pe_op op_sub (pe_op op_mul (pe_gint rfl T.i_UNIT) (pv 7)) (pe_methH (pv 0) T.c_Model T.m_Model_predicted (ok_Model_predicted T) (hr.mono (by decide)) (pa_cons (pv 1) (pa_cons (pv 6) pa_nil)))) pa_nil))) pa_nil)))))
    (pss_cons (ps_set (i := 8) sc_Model_round_of.nd rfl (Or.inl rfl) (pe_callH (ok_quadratic_of T) (hr.mono (by decide)) rfl T.g_quadratic_of (pa_cons (pv 5) (pa_cons (pv 4) (pa_cons (pe_ix ix_list (pv 1) (pv 4) (fun _ _ => rfl)) (pa_cons (pe_methH (pe_fld (pv 0) rfl) T.c_Settings T.m_Settings_penalty (ok_Settings_penalty T) (hr.mono (by decide)) (pa_cons (pv 4) pa_nil)) pa_nil))))))
    (pss_cons (ps_set (i := 7) sc_Model_round_of.nd rfl (Or.inl rfl) (pe_callH (ok_best_value T) (hr.mono (by decide)) rfl T.g_best_value (pa_cons (pe_ix ix_list (pv 1) (pv 4) (fun _ _ => rfl)) (pa_cons (pv 8) (pa_cons (pe_methH (pe_fld (pv 0) rfl) T.c_Settings T.m_Settings_bounds (ok_Settings_bounds T) (hr.mono (by decide)) (pa_cons (pv 4) pa_nil)) pa_nil)))))
    (pss_one (ps_if (pt_cmpR op_ne (pv 7) (pe_ix ix_list (pv 1) (pv 4) (fun _ _ => rfl)) (nomark _)) (pss_cons (ps_asg (pv 7) (pg_sub (pv 1) (pv 4) set_list))
    (pss_one (ps_set (i := 3) sc_Model_round_of.nd rfl (Or.inl rfl) pe_bl))) pss_nil)))))))
    (pss_one (ps_ret (pv 3)))))
end
end Gs
namespace Gs
open PySem PySem.Spec PyProof.Rows L2 Evl
section
open Kp429 (Rating Settings Parameters Coordinate View)
variable {P : Program} {w : World} {K : PySem.W.Frag} {mg : Str → Option Value} {base : Heap} {vs : List V} {H H' H1 H2 H3 : Hp} {Q : VK} {E : XK} {A A' : MA} {p p' : Parameters} {σ : L2.St} {ta tk tn tq td ty tv tb te : TE} {s : Settings} {m m' m2 : Kp429.Model}
theorem q_parL {D : Ends} {i j : Nat} {tz : TS} {xs : List V} {y : V} (ha : EvL ta σ H xs) (hb : Ev tb σ H y) (k : ∀ p H1, H p = none → Ex H H1 → H1 p = some (.lst xs) → tz D ((σ.set i (some (.ref p))).set j (some y)) H1) : tSeq (tPar i j (tCons ta (tCons tb tNil))) tz D σ H :=
  ha H (Ex.refl H) _ fun p H2 hp e2 h2 => hb H2 e2 _ fun H3 e3 => ⟨_, y, rfl, k p H3 hp (e2.trans e3) (e3 _ _ h2)⟩
theorem el_rep {xs : List V} {n : Nat} (ha : EvL ta σ H xs) (hb : Ev tb σ H (.int (n : Int))) (hn : n ≤ 1000) (hx : xs.length ≤ 10) : EvL (tOp rRep ta tb) σ H (List.replicate n xs).flatten := fun H1 e Q q =>
  ha H1 e _ fun p H2 hp e2 h2 => hb H2 (e.trans e2) _ fun H3 e3 => ⟨p, (n : Int), xs, rfl, rfl, e3 _ _ h2, by omega, by omega, sz_of (by
    have : xs.length * n ≤ 10 * 1000 := Nat.mul_le_mul hx hn
    show xs.length * ((n : Int)).toNat ≤ 100000
    rw [Int.toNat_natCast]
    omega), fun l hl => q l _ (fresh_back (e2.trans e3) hl) ((e2.trans e3).trans (Ex.new hl)) upd_same⟩
theorem rep_zero : ∀ n : Nat, (List.replicate n [V.int 0]).flatten = (List.replicate n (0 : Int)).map V.int
  | 0 => rfl
  | n + 1 => by rw [List.replicate_succ, List.flatten_cons, rep_zero n, List.replicate_succ]; rfl
theorem zero_ok (hv : Kp429.validSettings s = true) : RowOk s (List.replicate (s.factors + 1) 0) := by
  refine ⟨List.length_replicate, fun k x hx => ?_⟩
  rw [List.getElem?_replicate] at hx
  split at hx
  · cases hx
    exact ⟨(low_ge hv k).2, (high_le hv k).2⟩
  · cases hx
theorem foldIn_stop {l : List View} {row : List Int} {c n : Nat} (h : roundTo s l row (s.factors + 1) = row) : Kp429.foldIn s l (c + 1) row n = (row, n + 1) := by
  unfold Kp429.foldIn
  exact if_pos h
theorem foldIn_go {l : List View} {row : List Int} {c n : Nat} (h : ¬ roundTo s l row (s.factors + 1) = row) : Kp429.foldIn s l (c + 1) row n = Kp429.foldIn s l c (roundTo s l row (s.factors + 1)) (n + 1) := by
  conv => lhs; unfold Kp429.foldIn
  exact if_neg h
/-- what a new user's ratings must be -/
structure ToldAt (m : Kp429.Model) (H : Hp) (l : Addr) (ts : List Addr) (tps : Told) : Prop where
  l : H l = some (.lst (ts.map V.ref))
  t : TupsAt H ts (tps.map toldV)
  b : ∀ t ∈ tps, t.1 < m.settings.items
  n : tps.length ≤ 8
theorem ToldAt.ex {l : Addr} {ts : List Addr} {tps : Told} (h : ToldAt m H l ts tps) (e : Ex H H') : ToldAt m H' l ts tps := ⟨e _ _ h.l, h.t.ex e, h.b, h.n⟩
def sp_Model_new_row (K : PySem.W.Frag) : Sp := fun vs H Q _ => ∃ (A : MA) (m : Kp429.Model) (l : Addr) (ts : List Addr) (tps : Told), vs = [.ref A.mo, .ref l] ∧ MAt K H A m ∧ ToldAt m H l ts tps ∧
  ∀ t q H', Ex H H' → H q = none → H' q = some (.lst ((Kp429.newRow m tps).1.map V.int)) → H' t = some (.tup [.int ((Kp429.newRow m tps).2 : Nat), .ref q]) → Q (.ref t) H'
theorem len_Model_new_row (h : sp_Model_new_row K vs H Q E) : vs.length = (["self", "told"] : List Str).length := by
  obtain ⟨_, _, _, _, _, rfl, _⟩ := h
  rfl
theorem MAt.frN {r : Addr} (h : MAt K H A m) (hr : H r = none) (f : Fr (· = r) H H') : MAt K H' A m := h.ex (f.to (Ex.refl H) fun b e => by rw [e]; exact hr)
theorem em_round {D : Ends} {tz : TS} {r l : Addr} {ts : List Addr} {tps : Told} {xs : List Int} {i : Nat} (ha : Ev ta σ H (.ref A.mo)) (hM : MAt K H A m) (hrf : ¬ A.fp r) (hr : H r = some (.lst (xs.map V.int))) (hx : RowOk m.settings xs) (hT : ToldAt m H l ts tps) (hlr : l ≠ r) (h1 : Ev tk σ H (.ref r)) (h2 : Ev tn σ H (.ref l))
    (k : ∀ H', Fr (· = r) H H' → H' r = some (.lst ((roundTo m.settings (vOf m.parameters tps) xs (m.settings.factors + 1)).map V.int)) → tz D (σ.set i (some (.bl (decide (roundTo m.settings (vOf m.parameters tps) xs (m.settings.factors + 1) ≠ xs))))) H') :
    tSeq (tAsg (tMeth (He.ga K "Model") "round_of" (sp_Model_round_of K) [] E0 ta (tCons tk (tCons tn tNil))) (gName i)) tz D σ H :=
  ha H (Ex.refl H) _ fun H1 e1 => ⟨_, _, _, rfl, e1 _ _ hM.prm.obj, rfl, (ea_cons h1 (ea_cons h2 ea_nil)) H1 e1 _ fun H2 e2 =>
    ⟨A, m, r, l, xs, ts, tps, rfl, hM.ex (e1.trans e2), hrf, (e1.trans e2) _ _ hr, hx, (e1.trans e2) _ _ hT.l, hT.t.ex (e1.trans e2), hT.b, hT.n, hlr, fun H3 f3 h3 => k H3 ((frEx (e1.trans e2)).trans f3) h3⟩⟩
def t_Model_new_row (K : PySem.W.Frag) : TS :=
  (tSeq (tPar 2 3 (tCons (tOp rRep (tLst (tCons (tC (.int 0)) tNil)) (tOp rAddI (tFld K (tFld K (tVar 0) "settings") "factors") (tC (.int 1)))) (tCons (tC (.int 0)) tNil)))
    (tSeq (tAsg (tC (.bl true)) (gName 4))
    (tSeq (tWhile (tAnd (tB (tVar 4)) (tTest (tOp rLtI (tVar 3) (tC (.int 100))))) (tSeq (tAsg (tMeth (He.ga K "Model") "round_of" (sp_Model_round_of K) [] E0 (tVar 0) (tCons (tVar 2) (tCons (tVar 1) tNil))) (gName 4))
    (tAsg (tOp rAddI (tVar 3) (tC (.int 1))) (gName 3))))
    (tRet (tTup (tCons (tVar 3) (tCons (tVar 2) tNil)))))))
theorem pure_Model_new_row (T : Txt K mg) (h : sp_Model_new_row K vs H Q E) : t_Model_new_row K { nx := fun _ H' => Q .non H', rt := Q } (start N_Model_new_row vs) H := by
  obtain ⟨A, m, l, ts, tps, rfl, hM, hT, kk⟩ := h
  have ho := hM.1
  have hv := (valid_iff m.settings).mp ho.l.vs
  refine q_parL (xs := (List.replicate (m.settings.factors + 1) (0 : Int)).map V.int) (y := .int 0) ?_ ev_c fun r H1 hr e1 h1 => ?_
  · rw [← rep_zero]
    exact el_rep (n := m.settings.factors + 1) (el_lst (ea_cons ev_c ea_nil) (by simp)) (ev_add (ev_sfac T (ev_settings T (A := A) (p := m.parameters) (ev_var rfl) hM.prm) hM.set) ev_c) (by omega) (by simp)
  refine q_asg (v := .bl true) ev_c fun H2 e2 => ?_
  have hrf : ¬ A.fp r := hM.new hr
  have hlr : l ≠ r := (neN hT.l hr).symm
  refine q_while (fun μ σ H' => ∃ (x : List Int) (made : Nat) (ch : Bool), μ = 100 - made ∧ made ≤ 100 ∧ Fr (· = r) H H' ∧ H' r = some (.lst (x.map V.int)) ∧ RowOk m.settings x ∧ (ch = true → Kp429.foldIn m.settings (vOf m.parameters tps) (100 - made) x made = Kp429.newRow m tps) ∧ (ch = false → (x, made) = Kp429.newRow m tps) ∧
    σ = [some (.ref A.mo), some (.ref l), some (.ref r), some (.int (made : Int)), some (.bl ch)]) 100 ⟨List.replicate (m.settings.factors + 1) 0, 0, true, rfl, by omega, frEx (e1.trans e2), e2 _ _ h1, zero_ok ho.l.vs, fun _ => rfl, (fun h => by cases h), rfl⟩ ?_
  rintro μ σ H' ⟨x, made, ch, rfl, hmade, f', hr', hxo, hc1, hc2, rfl⟩
  have hM' : MAt K H' A m := hM.frN hr f'
  have hT' : ToldAt m H' l ts tps := ⟨f' _ _ hlr hT.l, paired_mono (fun b z q => f' _ _ (fun e => by rw [e, hr] at q; cases q) q) hT.t, hT.b, hT.n⟩
  refine ⟨_, et_and (et_B (ev_var rfl)) (fun _ => et_test (ev_lt (ev_var rfl) ev_c)), fun hb H3 e3 => ?_, fun hb H3 e3 => ?_⟩
  · obtain ⟨hch, hlt⟩ := Bool.and_eq_true_iff.mp hb
    have hlt : made < 100 := by have := of_decide_eq_true hlt; omega
    obtain ⟨c, hc⟩ : ∃ c, 100 - made = c + 1 := ⟨100 - made - 1, by omega⟩
    have hT3 := hT'.ex e3
    refine ⟨_, fun _ _ q => q, ?_⟩
    refine em_round (A := A) (m := m) (r := r) (l := l) (ts := ts) (tps := tps) (xs := x) (ev_var rfl) (hM'.ex e3) hrf (e3 _ _ hr') hxo hT3 hlr (ev_var rfl) (ev_var rfl) fun H4 f4 hr4 => ?_
    refine s_asg (v := .int ((made + 1 : Nat) : Int)) (ev_is (ev_add (ev_var rfl) ev_c) (by rfl)) fun H5 e5 => ⟨100 - (made + 1), by omega, roundTo m.settings (vOf m.parameters tps) x (m.settings.factors + 1), made + 1, decide (roundTo m.settings (vOf m.parameters tps) x (m.settings.factors + 1) ≠ x), rfl, by omega, ((f'.ex e3).trans f4).ex e5, e5 _ _ hr4, roundTo_ok ho.l.vs hxo _ (Nat.le_refl _), fun hd => ?_, fun hd => ?_, rfl⟩
    · have hne := of_decide_eq_true hd
      rw [← hc1 hch, hc, foldIn_go hne]
      congr 1
      omega
    · have heq : roundTo m.settings (vOf m.parameters tps) x (m.settings.factors + 1) = x := by simpa using hd
      rw [← hc1 hch, hc, foldIn_stop heq, heq]
  · have fin : (x, made) = Kp429.newRow m tps := by
      cases ch with
      | false => exact hc2 rfl
      | true =>
        have h100 : made = 100 := by
          have : decide ((made : Int) < 100) = false := by simpa using hb
          have := of_decide_eq_false this
          omega
        subst h100
        exact hc1 rfl
    refine s_retU (eu_tup (ea_cons (ev_var rfl) (ea_cons (ev_var rfl) ea_nil)) (by simp)) fun t H4 _ e4 h4 => kk t r H4 ?_ hr ?_ ?_
    · exact Fr.to (S := (· = r)) (f'.ex (e3.trans e4)) (Ex.refl H) fun b e => by rw [e]; exact hr
    · rw [← fin]
      exact e4 _ _ (e3 _ _ hr')
    · rw [← fin]
      exact h4
theorem ok_Model_new_row (T : Txt K mg) : Has P w K mg base 4 d_Model_new_row.at_ ["self", "told"] (sp_Model_new_row K) := by
  refine Has.of (d := d_Model_new_row) T 38 rfl ⟨rfl, rfl⟩ sc_Model_new_row (fun _ _ _ _ _ _ us hl => match us, hl with | [_, _], _ => rfl) (fun vs H Q E h => len_Model_new_row h) fun cdv A outer s H vs Q E hr h => ⟨t_Model_new_row K, ?_, pure_Model_new_row T h⟩
  exact (pss_cons (ps_par (by rfl) sc_Model_new_row.nd rfl rfl (by decide) rfl rfl (pa_cons (pe_op op_rep (pe_lst (pa_cons pe_int pa_nil)) (pe_op op_add (pe_fld (pe_fld (pv 0) rfl) rfl) pe_int)) (pa_cons pe_int pa_nil)) (by rfl))
    (pss_cons (ps_set (i := 4) sc_Model_new_row.nd rfl (Or.inl rfl) pe_bl)
    (pss_cons (ps_while PassesOwn.never (PW.pt (pw_and (pt_val (pv 4)) (pw_and1 (pt_cmpR op_lt (pv 3) (pe_gint rfl T.i_MOST_ROUNDS) (nomark _))))) (pss_cons (ps_set (i := 4) sc_Model_new_row.nd rfl (Or.inl rfl) (pe_methH (pv 0) T.c_Model T.m_Model_round_of (ok_Model_round_of T) (hr.mono (by decide)) (pa_cons (pv 2) (pa_cons (pv 1) pa_nil))))
    (pss_one (ps_set (i := 3) sc_Model_new_row.nd rfl (Or.inl rfl) (pe_op op_add (pv 3) pe_int)))))
    (pss_one (ps_ret (pe_tup (pa_cons (pv 3) (pa_cons (pv 2) pa_nil))))))))
end
end Gs
namespace Gs
open PySem PySem.Spec PyProof.Rows L2 Evl
section
open Kp429 (Rating Settings Parameters insertPrediction)
/-! ### predictions in order -/
abbrev Pr := Nat × Int
/-- ahead of: a greater prediction, then a smaller item -/
def Ahead (a b : Pr) : Prop := b.2 < a.2 ∨ (a.2 = b.2 ∧ a.1 < b.1)
theorem insP_mem {x z : Pr} : ∀ {l : List Pr}, z ∈ insertPrediction x l → z = x ∨ z ∈ l
  | [], h => .inl (by simpa [insertPrediction] using h)
  | y :: l, h => by
    unfold insertPrediction at h
    split at h
    · simpa using h
    · rcases List.mem_cons.mp h with q | q
      · exact .inr (by rw [q]; exact List.mem_cons_self ..)
      · exact (insP_mem q).imp id (List.mem_cons_of_mem _)
theorem insP_perm (x : Pr) : ∀ l : List Pr, (insertPrediction x l).Perm (x :: l)
  | [] => List.Perm.refl _
  | y :: l => by
    unfold insertPrediction
    split
    · exact List.Perm.refl _
    · exact ((insP_perm x l).cons y).trans (List.Perm.swap ..)
theorem insP_sorted {x : Pr} : ∀ {l : List Pr}, l.Pairwise Ahead → (∀ y ∈ l, y.1 < x.1) → (insertPrediction x l).Pairwise Ahead
  | [], _, _ => by
    unfold insertPrediction
    exact List.pairwise_singleton ..
  | y :: l, h, hx => by
    have h' := h
    rw [List.pairwise_cons] at h
    have hy := hx y (List.mem_cons_self ..)
    unfold insertPrediction
    by_cases b : y.2 < x.2
    · rw [if_pos b]
      refine List.pairwise_cons.mpr ⟨fun z hz => ?_, h'⟩
      rcases List.mem_cons.mp hz with q | q
      · rw [q]; exact .inl b
      · rcases h.1 z q with w | w
        · exact .inl (by omega)
        · exact .inl (by omega)
    · rw [if_neg b]
      refine List.pairwise_cons.mpr ⟨fun z hz => ?_, insP_sorted h.2 fun z hz => hx z (List.mem_cons_of_mem _ hz)⟩
      rcases insP_mem hz with q | q
      · rw [q]
        by_cases e : y.2 = x.2
        · exact .inr ⟨e, hy⟩
        · exact .inl (by omega)
      · exact h.1 z q
def insAllP (l : List Pr) : List Pr := l.foldl (fun (l : List Pr) (x : Pr) => insertPrediction x l) []
theorem foldP_perm : ∀ (l a : List Pr), (l.foldl (fun (l : List Pr) (x : Pr) => insertPrediction x l) a).Perm (l ++ a)
  | [], a => List.Perm.refl _
  | x :: l, a => by
    rw [List.foldl_cons]
    exact (foldP_perm l _).trans (((insP_perm x a).append_left l).trans List.perm_middle)
theorem foldP_sorted : ∀ (l a : List Pr), a.Pairwise Ahead → l.Pairwise (fun x y => x.1 < y.1) → (∀ y ∈ a, ∀ x ∈ l, y.1 < x.1) → (l.foldl (fun (l : List Pr) (x : Pr) => insertPrediction x l) a).Pairwise Ahead
  | [], a, h, _, _ => h
  | x :: l, a, h, hl, hx => by
    rw [List.pairwise_cons] at hl
    rw [List.foldl_cons]
    refine foldP_sorted l _ (insP_sorted h fun y hy => hx y hy x (List.mem_cons_self ..)) hl.2 fun y hy z hz => ?_
    rcases insP_mem hy with q | q
    · rw [q]; exact hl.1 z hz
    · exact hx y q z (List.mem_cons_of_mem _ hz)
theorem leP_iff (p q : Int × Int) : leP p q = true ↔ q.1 < p.1 ∨ (p.1 = q.1 ∧ p.2 ≤ q.2) := by
  unfold leP
  rw [decide_eq_true_iff]
  omega
def swp (x : Pr) : Int × Int := (x.2, (x.1 : Int))
theorem sort_is {l : List Pr} (h : l.Pairwise (fun x y => x.1 < y.1)) : (l.map swp).mergeSort leP = (insAllP l).map swp := by
  refine List.Perm.eq_of_pairwise (le := fun a b => leP a b = true) ?_ ?_ ?_ ?_
  · intro a b _ _ h1 h2
    have h1 := (leP_iff a b).mp h1
    have h2 := (leP_iff b a).mp h2
    exact Prod.ext (by omega) (by omega)
  · exact List.pairwise_mergeSort (fun a b c h1 h2 => by
      have h1 := (leP_iff a b).mp h1
      have h2 := (leP_iff b c).mp h2
      exact (leP_iff a c).mpr (by omega)) (fun a b => by
      rw [Bool.or_eq_true, leP_iff, leP_iff]
      omega) _
  · rw [List.pairwise_map]
    refine (foldP_sorted l [] List.Pairwise.nil h (fun y hy => by cases hy)).imp fun {a b} q => (leP_iff _ _).mpr ?_
    show (b.2 < a.2) ∨ (a.2 = b.2 ∧ (a.1 : Int) ≤ (b.1 : Int))
    rcases q with q | q
    · exact .inl q
    · exact .inr ⟨q.1, by omega⟩
  · refine (List.mergeSort_perm _ _).trans (List.Perm.map swp ?_)
    have := foldP_perm l []
    rw [List.append_nil] at this
    exact this.symm
/-- the items that are not told, with their predictions -/
def foundTo (p : Parameters) (xs : List Int) (f : Nat → Bool) (n : Nat) : List Pr := ((List.range n).filter fun i => !f i).map fun i => (i, Kp429.predictRows p.base xs (Kp429.rowOf p 1 i))
theorem foundTo_inc (p : Parameters) (xs : List Int) (f : Nat → Bool) (n : Nat) : (foundTo p xs f n).Pairwise (fun x y => x.1 < y.1) := by
  unfold foundTo
  rw [List.pairwise_map]
  exact List.Pairwise.filter _ List.pairwise_lt_range
theorem foundTo_yes {p : Parameters} {xs : List Int} {f : Nat → Bool} {n : Nat} (h : f n = false) : foundTo p xs f (n + 1) = foundTo p xs f n ++ [(n, Kp429.predictRows p.base xs (Kp429.rowOf p 1 n))] := by
  unfold foundTo
  rw [List.range_succ, List.filter_append, List.map_append, List.filter_cons, if_pos (by rw [h]; rfl)]
  rfl
theorem foundTo_no {p : Parameters} {xs : List Int} {f : Nat → Bool} {n : Nat} (h : f n = true) : foundTo p xs f (n + 1) = foundTo p xs f n := by
  unfold foundTo
  rw [List.range_succ, List.filter_append, List.map_append, List.filter_cons, if_neg (by rw [h]; decide)]
  simp
theorem foundTo_len (p : Parameters) (xs : List Int) (f : Nat → Bool) (n : Nat) : (foundTo p xs f n).length ≤ n := by
  unfold foundTo
  rw [List.length_map]
  have := List.length_filter_le (fun i => !f i) (List.range n)
  rw [List.length_range] at this
  exact this
theorem insAllP_len (l : List Pr) : (insAllP l).length = l.length := by
  have := (foldP_perm l []).length_eq
  rw [List.append_nil] at this
  exact this
def recL (m : Kp429.Model) (xs : List Int) (f : Nat → Bool) : List Pr := insAllP (foundTo m.parameters xs f m.settings.items)
theorem rec_user (m : Kp429.Model) (u : Nat) : Kp429.recommendations m u = recL m (Kp429.rowOf m.parameters 0 u) fun i => (Kp429.ratingOf m u i).isSome := by
  unfold Kp429.recommendations recL insAllP foundTo
  congr 1
  congr 1
  refine List.filter_congr fun i _ => ?_
  show _ = !(Kp429.ratingOf m u i).isSome
  cases Kp429.ratingOf m u i <;> rfl
end
end Gs
namespace Gs
open PySem PySem.Spec PyProof.Rows L2 Evl LamX
/-! ### the def whose body makes a lambda -/
abbrev recD : He.Defn := ("Model", some "recommended")
abbrev lamC (K : PySem.W.Frag) : Addr := (He.cT K recD).1
abbrev lamP (K : PySem.W.Frag) : Addr := (He.cT K recD).2
abbrev TbB (K : PySem.W.Frag) (mg : Str → Option Value) (base : Heap) : Prop := TabB base mg (lamC K) (lamP K)
def lamQ : Str := ("Model.recommended" : Str) ++ ".<locals>." ++ "<lambda>"
section
variable {P : Program} {w : World} {K : PySem.W.Frag} {mg : Str → Option Value} {base : Heap}
theorem Has.ofC {d : He.DefD} {N ps : List Str} {k : Nat} {sp : Sp} (T : Txt K mg) (i : Nat) (hd : fns[i]? = some d) (h0 : d.dfl = [] ∧ d.kwd = []) (S : FnScope N ps d.scope)
    (hb : ∀ (kV doc pm : Value) (an : Option Addr) (cdv ct : Value) (us : List Value), us.length = ps.length → bindArgs (PySem.W.fnOf d.name d.qual d.params d.body d.scope .none kV doc pm an cdv ct) ⟨us, []⟩ = pure (ps.zip us))
    (len : ∀ vs H Q E, sp vs H Q E → vs.length = ps.length)
    (hbody : ∀ (A : Around) (outer : List Env) (s : Shared) (H : Hp) (vs : List V) (Q : VK) (E : XK), Room k (A.deeper (envOfC d.qual d.scope s.heap.objs.size (He.fAd K d.at_) (.ref (He.codeOf K d.at_)))) → sp vs H Q E →
      ∃ t, PSs (cxOf CX0 P w K mg base N d.qual d.scope (He.fAd K d.at_) (.ref (He.codeOf K d.at_)) A outer s H E).nox d.body t ∧ t { nx := fun _ H' => Q .non H', rt := Q } (start N vs) H) :
    Has P w K mg base (k + 1) d.at_ ps sp := by
  obtain ⟨fd, F⟩ := T.c.def_ i hd
  have F2 : FunD K d.name d.qual d.params d.body d.scope [] [] (He.fAd K d.at_) fd := by
    have e1 : d.dvs K = [] := by unfold He.DefD.dvs; rw [h0.1]; rfl
    have e2 : d.kws K = [] := by unfold He.DefD.kws; rw [h0.2]; rfl
    rw [e1, e2] at F
    exact F
  refine ⟨fd, ?_, F2.bindsN hb, F2.kp⟩
  obtain ⟨oc, od, dV, kV, doc, pm, an, cdv, ct, osl, rfl, lk, hcd, _, _⟩ := F2.ex
  obtain ⟨c, rfl⟩ := He.codeIn_ref hcd
  have ec : He.codeOf K d.at_ = c := He.codeOf_eq lk rfl
  refine fn_of lk hcd S len fun A outer s H vs Q E hr hsp => ?_
  rw [← ec] at hr ⊢
  obtain ⟨t, h, q⟩ := hbody A outer s H vs Q E hr hsp
  exact ⟨t, h.nox, q⟩
end
section
open Kp429 (Rating Settings Parameters)
variable {P : Program} {w : World} {K : PySem.W.Frag} {mg : Str → Option Value} {base : Heap} {vs : List V} {H H' H1 H2 H3 : Hp} {Q : VK} {E : XK} {A A' : MA} {p p' : Parameters} {σ : L2.St} {ta tk tn tq td ty tv tb te : TE} {s : Settings} {m m' m2 : Kp429.Model}
theorem ExtN.ex (e : Ex H H') : ExtN H H' := fun b o h _ => e b o h
theorem tabs_ex {L : List (Addr × Str)} (t : Tabs L H) (e : Ex H H') : Tabs L H' := t.ext e
/-- what is rated: the items of a dict, of a list -/
def Rated (H : Hp) (d : Addr) (f : Nat → Bool) : Prop := (∃ kvs : KD, H d = some (.dK kvs) ∧ ∀ i : Nat, (valV kvs (.inl (i : Int))).isSome = f i) ∨ ∃ ns : List Nat, H d = some (.lst (ns.map fun (n : Nat) => .int (n : Int))) ∧ ∀ i, decide (i ∈ ns) = f i
theorem Rated.ex {d : Addr} {f : Nat → Bool} (h : Rated H d f) (e : Ex H H') : Rated H' d f := h.imp (fun ⟨k, h1, h2⟩ => ⟨k, e _ _ h1, h2⟩) fun ⟨k, h1, h2⟩ => ⟨k, e _ _ h1, h2⟩
theorem inV_nat (i : Nat) : ∀ ns : List Nat, inV (.int (i : Int)) (ns.map fun (n : Nat) => .int (n : Int)) = decide (i ∈ ns)
  | [] => by simp [inV]
  | n :: ns => by
    have ih := inV_nat i ns
    unfold inV at ih ⊢
    rw [List.map_cons, List.any_cons, ih]
    by_cases e : n = i
    · subst e
      simp [eqV]
    · have e2 : ¬ (i = n) := fun q => e q.symm
      have e3 : ¬ ((n : Int) = (i : Int)) := by omega
      simp [eqV, e2, e3]
theorem flat_ints (ns : List Nat) : (ns.map fun (n : Nat) => V.int (n : Int)).all flatV = true := by
  rw [List.all_map]
  exact List.all_eq_true.mpr fun n _ => rfl
theorem et_rated {d : Addr} {i : Nat} {f : Nat → Bool} (hk : Ev tk σ H (.int (i : Int))) (hd : Ev td σ H (.ref d)) (h : Rated H d f) : EvT (tAlt (tB (tDNotIn tk td)) (tTest (tOp (rIn K true) tk td))) σ H (!f i) := by
  rcases h with ⟨kvs, h1, h2⟩ | ⟨ns, h1, h2⟩
  · exact fun H1 e Q q => .inl (et_B (ev_dnotinK hk hd h1 (by rw [h2])) H1 e Q q)
  · refine fun H1 e Q q => .inr (et_test (ev_is (ev_op hk hd (rv_niL (sq_of h1) rfl (flat_ints ns))) ?_) H1 e Q q)
    rw [inV_nat, h2]
theorem run_lcNL {tl te : TE} {g : TG} {tt : TT} {ws : List Nat} {xs : List V} (h : EvL tl σ H xs) (k : ∀ a H1, H a = none → Ex H H1 → H1 a = some (.lst xs) → LcB (Itl K a) g tt te ws σ H1 Q) : tLc (iList K tl) g tt te ws σ H Q :=
  h H (Ex.refl H) _ fun a H1 ha e1 h1 => ⟨a, rfl, ⟨xs, sq_of h1⟩, k a H1 ha e1 h1⟩
theorem xlst (e : ExtN H H') {b : Addr} {xs : List V} (h : H b = some (.lst xs)) : H' b = some (.lst xs) := e _ _ h fun _ z => nomatch z
theorem xtup (e : ExtN H H') {b : Addr} {xs : List V} (h : H b = some (.tup xs)) : H' b = some (.tup xs) := e _ _ h fun _ z => nomatch z
theorem xins (e : ExtN H H') {b C dx : Addr} {fs : List (Str × V)} (h : H b = some (.ins C dx fs)) : H' b = some (.ins C dx fs) := e _ _ h fun _ z => nomatch z
theorem xdK (e : ExtN H H') {b : Addr} {kvs : KD} (h : H b = some (.dK kvs)) : H' b = some (.dK kvs) := e _ _ h fun _ z => nomatch z
theorem xdT (e : ExtN H H') {b : Addr} {kvs : List (List Key × V)} (h : H b = some (.dT kvs)) : H' b = some (.dT kvs) := e _ _ h fun _ z => nomatch z
theorem q_asgBy {D : Ends} {tz : TS} {te : TE} {g : TG} (h : te σ H fun v H1 => g v σ H1 (tz D)) : tSeq (tAsg te g) tz D σ H := h
theorem MAt.extN (h : MAt K H A m) (e : ExtN H H') : MAt K H' A m := by
  obtain ⟨ok, rat, rtr, rst, hL, hR, hS⟩ := h
  refine ⟨ok, rat, rtr, rst, ?_, hR, hS⟩
  refine ⟨⟨xins e hL.prm.obj, xlst e hL.prm.lw, xlst e hL.prm.l0, xlst e hL.prm.l1, paired_mono (fun _ _ q => xlst e q) hL.prm.r0, paired_mono (fun _ _ q => xlst e q) hL.prm.r1⟩, ?_, xlst e hL.lr, paired_mono (fun _ _ q => xdK e q) hL.dr, xlst e hL.lq, paired_mono (fun _ _ q => xlst e q) hL.qs, xdT e hL.rs, hL.ro⟩
  obtain ⟨dx, a, b, h1, h2, h3⟩ := hL.set
  exact ⟨dx, a, b, xins e h1, xtup e h2, xtup e h3⟩
def prV (x : Pr) : Int × Int := ((x.1 : Int), x.2)
def sp_Model_recommended (K : PySem.W.Frag) : Sp := fun vs H Q _ => ∃ (A : MA) (m : Kp429.Model) (r d : Addr) (xs : List Int) (f : Nat → Bool) (n : Nat), vs = [.ref A.mo, .ref r, .ref d, .int (n : Int)] ∧ MAt K H A m ∧ H r = some (.lst (xs.map V.int)) ∧ RowOk m.settings xs ∧ Rated H d f ∧ Tabs [(lamP K, lamQ)] H ∧
  ∀ q ts H', ExtN H H' → Tabs [(lamP K, lamQ)] H' → H' q = some (.lst (ts.map V.ref)) → PrsI H' ts (((recL m xs f).take n).map prV) → Q (.ref q) H'
theorem len_Model_recommended (h : sp_Model_recommended K vs H Q E) : vs.length = (["self", "row", "rated", "count"] : List Str).length := by
  obtain ⟨_, _, _, _, _, _, _, rfl, _⟩ := h
  rfl
def t_Model_recommended (K : PySem.W.Frag) : TS :=
  (tSeq (tAsg (tLc (iRng1 (tCons (tOp (rIxT K) (tFld K (tFld K (tVar 0) "settings") "many") (tC (.int 1))) tNil)) (gName 6) (tAlt (tB (tDNotIn (tVar 6) (tVar 2))) (tTest (tOp (rIn K true) (tVar 6) (tVar 2)))) (tTup (tCons (tMeth (He.ga K "Model") "predicted" (sp_Model_predicted K) [] E0 (tVar 0) (tCons (tVar 1) (tCons (tVar 6) tNil))) (tCons (tVar 6) tNil))) [6]) (gName 4))
    (tSeq (tAsg (tSortL K (lamP K) lamQ (tVar 4)) (gName 5))
    (tRet (tLc (iList K (tSl (rSlL K) (tVar 5) tNoPart (tPart (tVar 3)))) (gTup K 2 (gCons (gName 7) (gCons (gName 6) gNil))) tYes (tTup (tCons (tVar 6) (tCons (tVar 7) tNil))) [7, 6]))))
theorem cut_to (xs : List V) (n : Nat) : cutV xs none (some (n : Int)) = xs.take n := by
  unfold cutV
  rw [HT.sIx_none, HT.sIx_nat]
  show (xs.drop 0).take (min n xs.length - 0) = xs.take n
  rw [List.drop_zero, Nat.sub_zero]
  by_cases h : n ≤ xs.length
  · rw [Nat.min_eq_left h]
  · rw [Nat.min_eq_right (by omega), List.take_length, List.take_of_length_le (by omega)]
theorem pure_Model_recommended (T : Txt K mg) (h : sp_Model_recommended K vs H Q E) : t_Model_recommended K { nx := fun _ H' => Q .non H', rt := Q } (start N_Model_recommended vs) H := by
  obtain ⟨A, m, r, d, xs, f, n, rfl, hM, hr, hx, hf, hTb, kk⟩ := h
  have ho := hM.1
  have hv := (valid_iff m.settings).mp ho.l.vs
  have szi : Kp429.sizeOf m.settings 1 = m.settings.items := rfl
  refine q_asgBy ?_
  refine run_lcR1 (n := (m.settings.items : Int)) (ev_smanyC T (k := 1) (ev_settings T (A := A) (p := m.parameters) (ev_var rfl) hM.prm) hM.set (Nat.le_refl _)) ⟨by omega, by omega⟩ fun H1 e1 => ?_
  have hM1 := hM.ex e1
  refine lcb_run (walk_range (lo := 0) (n := ((m.settings.items : Int)).toNat)) (fun _ _ => True.intro) (fun Dl i acc H' => ∃ ts : List Addr, acc = ts.map V.ref ∧ PrsI H' ts ((foundTo m.parameters xs f i).map swp)) (fun Dl hD => ⟨[], rfl, .nil⟩) (fun Dl i v Hb Hb2 acc K1 K0 hD hi eb hacc hA y k1 k0 => ?_) (fun Dl H2 acc hD e2 hacc hA => ?_)
  · obtain ⟨ts, rfl, ht⟩ := hA
    obtain ⟨rfl, rfl⟩ := y
    have hi2 : i < m.settings.items := by omega
    refine ⟨rfl, ?_⟩
    have exb := e1.trans eb
    refine et_rated (i := i) (ev_is (ev_var rfl) (by show V.int (0 + (i : Int)) = _; rw [Int.zero_add])) (ev_var rfl) (hf.ex exb) Hb2 (Ex.refl _) _ fun H5 e5 => ?_
    cases hfi : f i with
    | true =>
      rw [if_neg (show ¬ (!true) = true by decide)]
      exact k0 H5 e5 ⟨ts, rfl, by rw [foundTo_no hfi]; exact ht.ex e5⟩
    | false =>
      rw [if_pos (show (!false) = true from rfl)]
      have hy := (ho.p.rowAt (k := 1) (n := i) hi2)
      refine run_eu (xs := [.int (Kp429.predictRows m.parameters.base xs (Kp429.rowOf m.parameters 1 i)), .int (i : Int)]) (eu_tup (ea_cons (ev_predicted (i := i) (ev_var rfl) (hM.ex (exb.trans e5)).prm (ev_var rfl) ((exb.trans e5) _ _ hr) (ev_is (ev_var rfl) (by show V.int (0 + (i : Int)) = _; rw [Int.zero_add])) hy.1 (hx.good ho.l.vs) (hy.2.good ho.l.vs)) (ea_cons (ev_is (ev_var rfl) (by show V.int (0 + (i : Int)) = _; rw [Int.zero_add])) ea_nil)) (by simp)) fun t H6 _ e6 h6 => ?_
      have l1 := paired_len ht
      have l2 := foundTo_len m.parameters xs f i
      rw [List.length_map] at l1
      refine k1 (.ref t) H6 (e5.trans e6) (by rw [List.length_map]; omega) ⟨ts ++ [t], by rw [List.map_append]; rfl, ?_⟩
      have tup : ∀ b z, H6 b = some (.tup z) → upd H6 Dl (.lst (ts.map V.ref ++ [.ref t])) b = some (.tup z) := fun b z hb => by
        rw [upd_ne]
        · exact hb
        · intro e
          rw [e, (e5.trans e6) _ _ hacc] at hb
          cases hb
      rw [foundTo_yes hfi, List.map_append]
      exact paired_snoc (paired_mono (fun b z hb => tup b _ ((e5.trans e6) _ _ hb)) ht) (tup t _ h6)
  · obtain ⟨ts, rfl, ht⟩ := hA
    have e12 := e1.trans e2
    have l1 := paired_len ht
    rw [List.length_map] at l1
    have l2 := foundTo_len m.parameters xs f ((m.settings.items : Int)).toNat
    have ein : ((m.settings.items : Int)).toNat = m.settings.items := by omega
    rw [ein] at ht l1 l2
    refine ⟨_, rfl, tabs_ex hTb e12, Dl, ts, _, rfl, sq_of hacc, ht, by omega, fun H3 q us eN T3 h3 hu => ?_⟩
    rw [sort_is (foundTo_inc ..)] at hu
    have lus : us.length = (recL m xs f).length := by rw [paired_len hu, List.length_map]; rfl
    have lrec : (recL m xs f).length ≤ 8 := by rw [recL, insAllP_len]; omega
    have eN' : ExtN H H3 := ExtN.trans (ExtN.ex e12) eN
    refine run_lcNL (σ := [some (.ref A.mo), some (.ref r), some (.ref d), some (.int (n : Int)), some (.ref Dl), some (.ref q), none, none]) (el_sl (ev_var rfl) eo_none (eo_some (ev_var rfl)) (sq_of h3)) fun a H4 ha e4 h4 => ?_
    rw [cut_to, ← List.map_take] at h4
    have hu4 : PrsI H4 (us.take n) (((recL m xs f).take n).map swp) := by
      rw [List.map_take]
      exact PrsI.ex (paired_take n hu) e4
    refine lc_tups (walk_list (xs := (us.take n).map V.ref)) (by rw [List.length_map, List.length_take]; omega) (fun H5 e5 => sq_of (e5 _ _ h4)) (((recL m xs f).take n).map fun x => [.int (x.1 : Int), .int x.2]) (by rw [List.length_map, List.length_map, List.length_take, List.length_take, lus]) ?_ (fun Dl2 ts2 H5 hD2 e5 h5 ht5 => ?_)
    · intro i v z H5 H6 K1 hi hz e5 y k1
      obtain ⟨rfl, hy⟩ := y
      rw [List.getElem?_map] at hy hz
      obtain ⟨t, htt, rfl⟩ := Option.map_eq_some_iff.mp hy
      obtain ⟨x, hxx, rfl⟩ := Option.map_eq_some_iff.mp hz
      obtain ⟨b, hb, hbt⟩ := paired_at hu4 htt
      rw [List.getElem?_map, hxx] at hb
      cases hb
      refine g_unp2 (st_of (e5 _ _ hbt)) ⟨rfl, ?_⟩
      exact run_eu (eu_tup (ea_cons (ev_var rfl) (ea_cons (ev_var rfl) ea_nil)) (by simp)) fun t2 H7 _ e7 h7 => k1 t2 H7 e7 h7
    · exact kk Dl2 ts2 H5 (ExtN.trans eN' (ExtN.ex (e4.trans e5))) (tabs_ex T3 (e4.trans e5)) h5 (TupsAt.prs ht5)
theorem ok_Model_recommended (T : Txt K mg) (TB : TbB K mg base) : Has P w K mg base 4 d_Model_recommended.at_ ["self", "row", "rated", "count"] (sp_Model_recommended K) := by
  refine Has.ofC (d := d_Model_recommended) T 39 rfl ⟨rfl, rfl⟩ sc_Model_recommended (fun _ _ _ _ _ _ us hl => match us, hl with | [_, _, _, _], _ => rfl) (fun vs H Q E h => len_Model_recommended h) fun A outer s H vs Q E hr h => ⟨t_Model_recommended K, ?_, pure_Model_recommended T h⟩
  exact (pss_cons (ps_setLc (i := 4) (own := [("item", 6)]) (g := (gName 6)) (tt := (tAlt (tB (tDNotIn (tVar 6) (tVar 2))) (tTest (tOp (rIn K true) (tVar 6) (tVar 2))))) rfl sc_Model_recommended.nd rfl rfl (sw_true rfl rfl rfl (by decide +kernel)) (pi_range1 rfl T.f_range (pa_cons (pe_ix ix_tup (pe_fld (pe_fld (pv 0) rfl) rfl) pe_int (fun _ _ => rfl)) pa_nil)) (blkOk_by (own := [("item", 6)]) (N := N_Model_recommended) (sc := defScope s_Model_recommended) (by decide +kernel)) (fun _ _ _ _ _ => (pg_name (i := 6) sc_Model_recommended.nd rfl (Or.inl rfl))) (fun _ _ _ _ _ => (pts_one (pt_alt (pt_cmp (pc_dnotin (hu_of hr) (pv 6) (pv 2))) (pt_cmpR op_notIn_seq (pv 6) (pv 2) rfl)))) (fun _ _ _ _ _ => (pe_tup (pa_cons (pe_methH (pv 0) T.c_Model T.m_Model_predicted (ok_Model_predicted T) (hr.mono (by decide)) (pa_cons (pv 1) (pa_cons (pv 6) pa_nil))) (pa_cons (pv 6) pa_nil)))))
    (pss_cons (ps_set (i := 5) sc_Model_recommended.nd rfl (Or.inl rfl) (pe_sortL (by rfl) T.f_sorted TB rfl rfl (hr.mono (by decide)) (pv 4) rfl rfl rfl rfl (by decide +kernel) rfl (fun _ _ _ _ _ _ => rfl)))
    (pss_one (ps_ret (pe_lc (own := [("prediction", 7), ("item", 6)]) (g := (gTup K 2 (gCons (gName 7) (gCons (gName 6) gNil)))) (tt := tYes) rfl sc_Model_recommended.nd (pi_list (pe_slice sl_list (pv 5) po_none (po_some (pv 3)))) (blkOk_by (own := [("prediction", 7), ("item", 6)]) (N := N_Model_recommended) (sc := defScope s_Model_recommended) (by decide +kernel)) (fun _ _ _ _ _ => (pg_tup rfl (pgs_cons (pg_name (i := 7) sc_Model_recommended.nd rfl (Or.inl rfl)) (pgs_cons (pg_name (i := 6) sc_Model_recommended.nd rfl (Or.inl rfl)) pgs_nil)))) (fun _ _ _ _ _ => pts_nil) (fun _ _ _ _ _ => (pe_tup (pa_cons (pv 6) (pa_cons (pv 7) pa_nil)))))))))
end
end Gs
namespace Gs
open PySem PySem.Spec PyProof.Rows L2 Evl LamX
section
open Kp429 (Rating Settings Parameters Coordinate)
variable {P : Program} {w : World} {K : PySem.W.Frag} {mg : Str → Option Value} {base : Heap} {vs : List V} {H H' H1 H2 H3 : Hp} {Q : VK} {E : XK} {A A' A2 : MA} {p p' : Parameters} {σ : L2.St} {ta tk tn tq td ty tv tb te tx : TE} {s : Settings} {m m' m2 : Kp429.Model} {a dx : Addr}
/-! ### the object Liking, a model within -/
abbrev LT (K : PySem.W.Frag) : List (Addr × Str) := [(lamP K, lamQ)]
structure LkAt (K : PySem.W.Frag) (H : Hp) (a dx : Addr) (A : MA) (m : Kp429.Model) : Prop where
  obj : H a = some (.ins (He.ga K "Liking") dx [("model", .ref A.mo)])
  mod : MAt K H A m
theorem LkAt.ex (h : LkAt K H a dx A m) (e : Ex H H') : LkAt K H' a dx A m := ⟨e _ _ h.obj, h.mod.ex e⟩
/-- what stands at the footprint's addresses is a list, a dict, a Model -/
def MutO (A : MA) : HO → Prop
  | .lst _ => True
  | .dK _ => True
  | .dT _ => True
  | .ins _ _ fs => ∃ b, fs = A.flds b
  | _ => False
theorem MAt.kind (h : MAt K H A m) {b : Addr} {o : HO} (hb : A.fp b) (ho : H b = some o) : MutO A o := by
  obtain ⟨_, rat, rtr, rst, hL, _⟩ := h
  have fin : ∀ {u : HO}, H b = some u → MutO A u → MutO A o := fun hu q => by
    rw [ho] at hu
    cases hu
    exact q
  rcases hb with e | e | e | e | e | e | e | e | e | e | e
  · exact fin (u := .ins _ _ _) (by rw [e]; exact hL.prm.obj) ⟨_, rfl⟩
  · exact fin (u := .lst _) (by rw [e]; exact hL.lr) True.intro
  · exact fin (u := .lst _) (by rw [e]; exact hL.lq) True.intro
  · exact fin (u := .dT _) (by rw [e]; exact hL.rs) True.intro
  · exact fin (u := .lst _) (by rw [e]; exact hL.prm.lw) True.intro
  · exact fin (u := .lst _) (by rw [e]; exact hL.prm.l0) True.intro
  · exact fin (u := .lst _) (by rw [e]; exact hL.prm.l1) True.intro
  · obtain ⟨x, _, q⟩ := paired_mem hL.dr e
    exact fin q True.intro
  · obtain ⟨x, _, q⟩ := paired_mem hL.qs e
    exact fin q True.intro
  · obtain ⟨x, _, q⟩ := paired_mem hL.prm.r0 e
    exact fin q True.intro
  · obtain ⟨x, _, q⟩ := paired_mem hL.prm.r1 e
    exact fin q True.intro
theorem LkAt.na (h : LkAt K H a dx A m) : ¬ A.fp a := fun f => by
  obtain ⟨b, e⟩ := h.mod.kind f h.obj
  have := congrArg List.length e
  cases this
theorem tabs_fr {S : Addr → Prop} (hM : ∀ b o, S b → H b = some o → MutO A o) (f : Fr S H H') (t : Tabs (LT K) H) : Tabs (LT K) H' := fun q hq => by
  obtain ⟨ps, h1, h2, h3⟩ := t q hq
  refine ⟨ps, f _ _ (fun s => (hM _ _ s h1 : False)) h1, h2, fun pos cv hc => ?_⟩
  obtain ⟨c, e1, e2⟩ := h3 pos cv hc
  exact ⟨c, e1, f _ _ (fun s => (hM _ _ s e2 : False)) e2⟩
structure Mv (K : PySem.W.Frag) (a : Addr) (A : MA) (H : Hp) (A' : MA) (H' : Hp) : Prop where
  fr : ∀ b o, ¬ A.fp b → b ≠ a → (∀ ps, o ≠ .tbl ps) → H b = some o → H' b = some o
  fp : ∀ b, A'.fp b → A.fp b ∨ ∀ o, H b = some o → ∃ ps, o = .tbl ps
  na : ¬ A'.fp a
  tb : Tabs (LT K) H → Tabs (LT K) H'
def Ret (K : PySem.W.Frag) (a dx : Addr) (A : MA) (H : Hp) (m' : Kp429.Model) (ans : List Int) (Q : VK) : Prop := ∀ A' q H', LkAt K H' a dx A' m' → Mv K a A H A' H' → H' q = some (.lst (ans.map V.int)) → Q (.ref q) H'
theorem ret_moved {ans : List Int} {q : Addr} (h : LkAt K H a dx A m) (k : Ret K a dx A H m' ans Q) (hM : MAt K H' A' m') (mv : Moved A H A' H') (hq : H' q = some (.lst (ans.map V.int))) : Q (.ref q) H' := by
  have h1 : H' a = some (.ins (He.ga K "Liking") dx [("model", .ref A'.mo)]) := by rw [mv.mo]; exact mv.fr _ _ h.na h.obj
  have hl : LkAt K H' a dx A' m' := ⟨h1, hM⟩
  exact k A' q H' hl ⟨fun b o n _ _ hb => mv.fr b o n hb, fun b hb => (mv.fp b hb).imp id (fun e o ho => by rw [e] at ho; cases ho), hl.na, tabs_fr (fun b o hb ho => h.mod.kind hb ho) mv.fr⟩ hq
theorem ret_kept {ans : List Int} {q : Addr} (h : LkAt K H a dx A m) (k : Ret K a dx A H m' ans Q) (g : Kept K A H m' H') (hq : H' q = some (.lst (ans.map V.int))) : Q (.ref q) H' :=
  ret_moved h k g.1 ⟨g.2, fun b hb => .inl hb, rfl, rfl⟩ hq
theorem ret_ex {ans : List Int} {q : Addr} (h : LkAt K H a dx A m) (k : Ret K a dx A H m ans Q) (e : Ex H H') (hq : H' q = some (.lst (ans.map V.int))) : Q (.ref q) H' := ret_kept h k (Kept.exL e (Kept.refl (h.mod.ex e))) hq
theorem ret_extN {ans : List Int} {q : Addr} (h : LkAt K H a dx A m) (k : Ret K a dx A H m ans Q) (e : ExtN H H') (t : Tabs (LT K) H') (hq : H' q = some (.lst (ans.map V.int))) : Q (.ref q) H' :=
  k A q H' ⟨xins e h.obj, h.mod.extN e⟩ ⟨fun b o _ _ ho hb => e b o hb ho, fun b hb => .inl hb, h.na, fun _ => t⟩ hq
/-- what a call promises, by the document's step -/
def RetC (K : PySem.W.Frag) (a dx : Addr) (A : MA) (H : Hp) (m : Kp429.Model) (c : Kp429.Call) (Q : VK) : Prop := ∀ m', (Kp429.step (some m) c).1 = some m' → Ret K a dx A H m' ((Kp429.step (some m) c).2.num :: (Kp429.step (some m) c).2.nums) Q
theorem RetC.to {c : Kp429.Call} {n : Int} {ns : List Int} (k : RetC K a dx A H m c Q) (e : Kp429.step (some m) c = (some m', ⟨n, ns⟩)) : Ret K a dx A H m' (n :: ns) Q := by
  have := k m' (by rw [e])
  rw [e] at this
  exact this
theorem ev_model (T : Txt K mg) (ha : Ev ta σ H (.ref a)) (h : LkAt K H a dx A m) : Ev (tFld K ta "model") σ H (.ref A.mo) := ev_fld ha h.obj T.c_Liking T.n_Liking_model rfl
theorem dec_lt (a b : Nat) : decide ((a : Int) < (b : Int)) = decide (a < b) := by
  by_cases h : a < b
  · rw [decide_eq_true h, decide_eq_true (by omega : (a : Int) < (b : Int))]
  · rw [decide_eq_false h, decide_eq_false (by omega : ¬ (a : Int) < (b : Int))]
theorem dec_le (a b : Nat) : decide ((a : Int) ≤ (b : Int)) = decide (a ≤ b) := by
  by_cases h : a ≤ b
  · rw [decide_eq_true h, decide_eq_true (by omega : (a : Int) ≤ (b : Int))]
  · rw [decide_eq_false h, decide_eq_false (by omega : ¬ (a : Int) ≤ (b : Int))]
/-! ### what is there -/
def sp_Liking_is_user (K : PySem.W.Frag) : Sp := fun vs H Q _ => ∃ (a dx : Addr) (A : MA) (m : Kp429.Model) (u : Nat), vs = [.ref a, .int (u : Int)] ∧ LkAt K H a dx A m ∧ RetV (.bl (Kp429.hasUser m u)) H Q
theorem len_Liking_is_user (h : sp_Liking_is_user K vs H Q E) : vs.length = (["self", "user"] : List Str).length := by
  obtain ⟨_, _, _, _, _, rfl, _⟩ := h
  rfl
def t_Liking_is_user (K : PySem.W.Frag) : TS :=
  (tRet (tOp rLtI (tVar 1) (tOp (rIxT K) (tFld K (tFld K (tFld K (tVar 0) "model") "settings") "many") (tC (.int 0)))))
theorem pure_Liking_is_user (T : Txt K mg) (h : sp_Liking_is_user K vs H Q E) : t_Liking_is_user K { nx := fun _ H' => Q .non H', rt := Q } (start N_Liking_is_user vs) H := by
  obtain ⟨a, dx, A, m, u, rfl, h, k⟩ := h
  exact s_ret (v := .bl (Kp429.hasUser m u)) (ev_is (ev_lt (ev_var rfl) (ev_smanyC T (k := 0) (ev_settings T (A := A) (p := m.parameters) (ev_model T (ev_var rfl) h) h.mod.prm) h.mod.set (Nat.zero_le _))) (by rw [dec_lt]; rfl)) k
theorem ok_Liking_is_user (T : Txt K mg) : Has P w K mg base 1 d_Liking_is_user.at_ ["self", "user"] (sp_Liking_is_user K) := by
  refine Has.of (d := d_Liking_is_user) T 43 rfl ⟨rfl, rfl⟩ sc_Liking_is_user (fun _ _ _ _ _ _ us hl => match us, hl with | [_, _], _ => rfl) (fun vs H Q E h => len_Liking_is_user h) fun cdv A outer s H vs Q E hr h => ⟨t_Liking_is_user K, ?_, pure_Liking_is_user T h⟩
  exact (pss_one (ps_ret (pe_cmpR op_lt (pv 1) (pe_ix ix_tup (pe_fld (pe_fld (pe_fld (pv 0) rfl) rfl) rfl) pe_int (fun _ _ => rfl)) (nomark _))))
theorem ev_is_user {u : Nat} (ha : Ev ta σ H (.ref a)) (h : LkAt K H a dx A m) (hu : Ev tk σ H (.int (u : Int))) : Ev (tMeth (He.ga K "Liking") "is_user" (sp_Liking_is_user K) [] E0 ta (tCons tk tNil)) σ H (.bl (Kp429.hasUser m u)) :=
  ev_meth ha h.obj rfl (ea_cons hu ea_nil) fun H1 e Q q E => ⟨a, dx, A, m, u, rfl, h.ex e, q⟩
def sp_Liking_is_item (K : PySem.W.Frag) : Sp := fun vs H Q _ => ∃ (a dx : Addr) (A : MA) (m : Kp429.Model) (u : Nat), vs = [.ref a, .int (u : Int)] ∧ LkAt K H a dx A m ∧ RetV (.bl (Kp429.hasItem m u)) H Q
theorem len_Liking_is_item (h : sp_Liking_is_item K vs H Q E) : vs.length = (["self", "item"] : List Str).length := by
  obtain ⟨_, _, _, _, _, rfl, _⟩ := h
  rfl
def t_Liking_is_item (K : PySem.W.Frag) : TS :=
  (tRet (tOp rLtI (tVar 1) (tOp (rIxT K) (tFld K (tFld K (tFld K (tVar 0) "model") "settings") "many") (tC (.int 1)))))
theorem pure_Liking_is_item (T : Txt K mg) (h : sp_Liking_is_item K vs H Q E) : t_Liking_is_item K { nx := fun _ H' => Q .non H', rt := Q } (start N_Liking_is_item vs) H := by
  obtain ⟨a, dx, A, m, u, rfl, h, k⟩ := h
  exact s_ret (v := .bl (Kp429.hasItem m u)) (ev_is (ev_lt (ev_var rfl) (ev_smanyC T (k := 1) (ev_settings T (A := A) (p := m.parameters) (ev_model T (ev_var rfl) h) h.mod.prm) h.mod.set (Nat.le_refl _))) (by rw [dec_lt]; rfl)) k
theorem ok_Liking_is_item (T : Txt K mg) : Has P w K mg base 1 d_Liking_is_item.at_ ["self", "item"] (sp_Liking_is_item K) := by
  refine Has.of (d := d_Liking_is_item) T 44 rfl ⟨rfl, rfl⟩ sc_Liking_is_item (fun _ _ _ _ _ _ us hl => match us, hl with | [_, _], _ => rfl) (fun vs H Q E h => len_Liking_is_item h) fun cdv A outer s H vs Q E hr h => ⟨t_Liking_is_item K, ?_, pure_Liking_is_item T h⟩
  exact (pss_one (ps_ret (pe_cmpR op_lt (pv 1) (pe_ix ix_tup (pe_fld (pe_fld (pe_fld (pv 0) rfl) rfl) rfl) pe_int (fun _ _ => rfl)) (nomark _))))
theorem ev_is_item {u : Nat} (ha : Ev ta σ H (.ref a)) (h : LkAt K H a dx A m) (hu : Ev tk σ H (.int (u : Int))) : Ev (tMeth (He.ga K "Liking") "is_item" (sp_Liking_is_item K) [] E0 ta (tCons tk tNil)) σ H (.bl (Kp429.hasItem m u)) :=
  ev_meth ha h.obj rfl (ea_cons hu ea_nil) fun H1 e Q q E => ⟨a, dx, A, m, u, rfl, h.ex e, q⟩
def sp_Liking_are_both (K : PySem.W.Frag) : Sp := fun vs H Q _ => ∃ (a dx : Addr) (A : MA) (m : Kp429.Model) (u i : Nat), vs = [.ref a, .int (u : Int), .int (i : Int)] ∧ LkAt K H a dx A m ∧ RetV (.bl (Kp429.hasUser m u && Kp429.hasItem m i)) H Q
theorem len_Liking_are_both (h : sp_Liking_are_both K vs H Q E) : vs.length = (["self", "user", "item"] : List Str).length := by
  obtain ⟨_, _, _, _, _, _, rfl, _⟩ := h
  rfl
def t_Liking_are_both (K : PySem.W.Frag) : TS :=
  (tRet (tAndV (tMeth (He.ga K "Liking") "is_user" (sp_Liking_is_user K) [] E0 (tVar 0) (tCons (tVar 1) tNil)) (tMeth (He.ga K "Liking") "is_item" (sp_Liking_is_item K) [] E0 (tVar 0) (tCons (tVar 2) tNil))))
theorem pure_Liking_are_both (T : Txt K mg) (h : sp_Liking_are_both K vs H Q E) : t_Liking_are_both K { nx := fun _ H' => Q .non H', rt := Q } (start N_Liking_are_both vs) H := by
  obtain ⟨a, dx, A, m, u, i, rfl, h, k⟩ := h
  exact s_ret (v := .bl (Kp429.hasUser m u && Kp429.hasItem m i)) (ev_andV (ev_is_user (ev_var rfl) h (ev_var rfl)) fun _ => ev_is_item (ev_var rfl) h (ev_var rfl)) k
theorem ok_Liking_are_both (T : Txt K mg) : Has P w K mg base 2 d_Liking_are_both.at_ ["self", "user", "item"] (sp_Liking_are_both K) := by
  refine Has.of (d := d_Liking_are_both) T 45 rfl ⟨rfl, rfl⟩ sc_Liking_are_both (fun _ _ _ _ _ _ us hl => match us, hl with | [_, _, _], _ => rfl) (fun vs H Q E h => len_Liking_are_both h) fun cdv A outer s H vs Q E hr h => ⟨t_Liking_are_both K, ?_, pure_Liking_are_both T h⟩
  exact (pss_one (ps_ret (pe_and (pe_methH (pv 0) T.c_Liking T.m_Liking_is_user (ok_Liking_is_user T) (hr.mono (by decide)) (pa_cons (pv 1) pa_nil)) (pe_one (pe_methH (pv 0) T.c_Liking T.m_Liking_is_item (ok_Liking_is_item T) (hr.mono (by decide)) (pa_cons (pv 2) pa_nil))))))
theorem ev_are_both {u i : Nat} (ha : Ev ta σ H (.ref a)) (h : LkAt K H a dx A m) (hu : Ev tk σ H (.int (u : Int))) (hi : Ev tn σ H (.int (i : Int))) : Ev (tMeth (He.ga K "Liking") "are_both" (sp_Liking_are_both K) [] E0 ta (tCons tk (tCons tn tNil))) σ H (.bl (Kp429.hasUser m u && Kp429.hasItem m i)) :=
  ev_meth ha h.obj rfl (ea_cons hu (ea_cons hi ea_nil)) fun H1 e Q q E => ⟨a, dx, A, m, u, i, rfl, h.ex e, q⟩
def sp_Liking_is_parameter (K : PySem.W.Frag) : Sp := fun vs H Q _ => ∃ (a dx : Addr) (A : MA) (m : Kp429.Model) (kd n q : Nat), vs = [.ref a, .int (kd : Int), .int (n : Int), .int (q : Int)] ∧ LkAt K H a dx A m ∧ RetV (.bl (Kp429.isCoordinate m.settings ⟨kd, n, q⟩)) H Q
theorem len_Liking_is_parameter (h : sp_Liking_is_parameter K vs H Q E) : vs.length = (["self", "kind", "number", "place"] : List Str).length := by
  obtain ⟨_, _, _, _, _, _, _, rfl, _⟩ := h
  rfl
def t_Liking_is_parameter (K : PySem.W.Frag) : TS :=
  (tSeq (tAsg (tFld K (tFld K (tVar 0) "model") "settings") (gName 4))
    (tRet (tAndV (tOp rLeI (tVar 1) (tC (.int 1))) (tAndV (tOp rLtI (tVar 2) (tOp (rIxT K) (tFld K (tVar 4) "many") (tVar 1))) (tOp rLeI (tVar 3) (tFld K (tVar 4) "factors"))))))
theorem pure_Liking_is_parameter (T : Txt K mg) (h : sp_Liking_is_parameter K vs H Q E) : t_Liking_is_parameter K { nx := fun _ H' => Q .non H', rt := Q } (start N_Liking_is_parameter vs) H := by
  obtain ⟨a, dx, A, m, kd, n, q, rfl, h, k⟩ := h
  refine q_asg (v := .ref A.st) (ev_settings T (A := A) (p := m.parameters) (ev_model T (ev_var rfl) h) h.mod.prm) fun H1 e1 => ?_
  have hs := h.mod.set.ex e1
  refine s_ret (v := .bl (Kp429.isCoordinate m.settings ⟨kd, n, q⟩)) (ev_is (ev_andV (ev_le (ev_var rfl) ev_c) fun hk => ev_andV (ev_lt (ev_var rfl) (ev_smany T (k := kd) (ev_var rfl) hs (ev_var rfl) (by have := of_decide_eq_true hk; omega))) fun _ => ev_le (ev_var rfl) (ev_sfac T (ev_var rfl) hs)) ?_) (retv_is k e1 rfl)
  rw [dec_lt, dec_le, show (1 : Int) = ((1 : Nat) : Int) from rfl, dec_le, ← Bool.and_assoc]
  rfl
theorem ok_Liking_is_parameter (T : Txt K mg) : Has P w K mg base 1 d_Liking_is_parameter.at_ ["self", "kind", "number", "place"] (sp_Liking_is_parameter K) := by
  refine Has.of (d := d_Liking_is_parameter) T 46 rfl ⟨rfl, rfl⟩ sc_Liking_is_parameter (fun _ _ _ _ _ _ us hl => match us, hl with | [_, _, _, _], _ => rfl) (fun vs H Q E h => len_Liking_is_parameter h) fun cdv A outer s H vs Q E hr h => ⟨t_Liking_is_parameter K, ?_, pure_Liking_is_parameter T h⟩
  exact (pss_cons (ps_set (i := 4) sc_Liking_is_parameter.nd rfl (Or.inl rfl) (pe_fld (pe_fld (pv 0) rfl) rfl))
    (pss_one (ps_ret (pe_and (pe_cmpR op_le (pv 1) pe_int (nomark _)) (pe_and (pe_cmpR op_lt (pv 2) (pe_ix ix_tup (pe_fld (pv 4) rfl) (pv 1) (fun _ _ => rfl)) (nomark _)) (pe_one (pe_cmpR op_le (pv 3) (pe_fld (pv 4) rfl) (nomark _))))))))
theorem ev_is_parameter {kd n q : Nat} (ha : Ev ta σ H (.ref a)) (h : LkAt K H a dx A m) (h1 : Ev tk σ H (.int (kd : Int))) (h2 : Ev tn σ H (.int (n : Int))) (h3 : Ev tq σ H (.int (q : Int))) : Ev (tMeth (He.ga K "Liking") "is_parameter" (sp_Liking_is_parameter K) [] E0 ta (tCons tk (tCons tn (tCons tq tNil)))) σ H (.bl (Kp429.isCoordinate m.settings ⟨kd, n, q⟩)) :=
  ev_meth ha h.obj rfl (ea_cons h1 (ea_cons h2 (ea_cons h3 ea_nil))) fun H1 e Q q' E => ⟨a, dx, A, m, kd, n, q, rfl, h.ex e, q'⟩
theorem vc_of {c : Coordinate} (h : Kp429.isCoordinate s c = true) : VC s c := by
  unfold Kp429.isCoordinate at h
  simp only [Bool.and_eq_true, decide_eq_true_eq] at h
  exact ⟨h.1.1, h.1.2, h.2⟩
end
end Gs
namespace Gs
open PySem PySem.Spec PyProof.Rows L2 Evl LamX
section
open Kp429 (Rating Settings Parameters Coordinate)
variable {P : Program} {w : World} {K : PySem.W.Frag} {mg : Str → Option Value} {base : Heap} {vs : List V} {H H' H1 H2 H3 : Hp} {Q : VK} {E : XK} {A A' A2 : MA} {p p' : Parameters} {σ : L2.St} {ta tk tn tq td ty tv tb te tx : TE} {s : Settings} {m m' m2 : Kp429.Model} {a dx : Addr}
/-- the model within, as a receiver -/
theorem rec_model (T : Txt K mg) (h : LkAt K H a dx A m) (i : Nat) (hi : σ[i]? = some (some (.ref a))) : Ev (tFld K (tVar i) "model") σ H (.ref A.mo) := ev_model T (ev_var hi) h
/-- a constant answer -/
theorem s_retC {D : Ends} {n : Int} (h : LkAt K H a dx A m) (k : Ret K a dx A H m [n] Q) (e : Ex H H') (hD : D.rt = Q) : tRet (tLst (tCons (tC (.int n)) tNil)) D σ H' :=
  s_retL (el_lst (ea_cons ev_c ea_nil) (by simp)) fun q H2 _ e2 h2 => by
    rw [hD]
    exact ret_ex h k (e.trans e2) (by rw [h2]; rfl)
theorem ev_dget2K {b : Addr} {kvs : KD} {i : Int} {z : V} (hd : Ev td σ H (.ref b)) (hk : Ev ty σ H (.int i)) (hx : Ev tx σ H z) (h : H b = some (.dK kvs)) : Ev (tDGet2 td ty tx) σ H ((valV kvs (.inl i)).getD z) := fun H1 e Q q =>
  hd H1 e _ fun H2 e2 => ⟨b, rfl, .inl ⟨kvs, .inl ((e.trans e2) _ _ h)⟩, hk H2 (e.trans e2) _ fun H3 e3 => hx H3 ((e.trans e2).trans e3) _ fun H4 e4 => ⟨_, .inl ⟨kvs, .inl i, .inl ((((e.trans e2).trans e3).trans e4) _ _ h), rfl, rfl⟩, q H4 ((e2.trans e3).trans e4)⟩⟩
/-- self.model.ratings[user] -/
theorem ev_dictOf (T : Txt K mg) (h : LkAt K H a dx A m) {u : Nat} (hu : u < m.settings.users) (ha : Ev ta σ H (.ref a)) (hk : Ev tk σ H (.int (u : Int))) :
    ∃ (d : Addr) (kvs : KD), H d = some (.dK kvs) ∧ (∀ i : Nat, valV kvs (.inl (i : Int)) = (Kp429.ratingOf m u i).map fun v => V.int (v : Int)) ∧ Ev (tOp (rIxL K) (tFld K (tFld K ta "model") "ratings") tk) σ H (.ref d) := by
  obtain ⟨ho, rat, rtr, rst, hL, hR, hS⟩ := h.mod
  obtain ⟨d, kvs, hd, hkv, hdk⟩ := hR.dict hL hu
  exact ⟨d, kvs, hdk, fun i => hR.get ho.l.so hkv m rfl i, ev_ixL (ev_ratings T (A := A) (p := m.parameters) (ev_model T ha h) hL.prm) hk (sq_of hL.lr) (map_ref_at hd)⟩
theorem q_rate {D : Ends} {tz : TS} {u i v : Nat} (ha : Ev ta σ H (.ref A.mo)) (hM : MAt K H A m) (h1 : Ev tk σ H (.int (u : Int))) (h2 : Ev tn σ H (.int (i : Int))) (h3 : Ev tq σ H (.int (v : Int))) (hu : u < m.settings.users) (hi : i < m.settings.items) (v1 : 1 ≤ v) (v2 : v ≤ 10)
    (k : ∀ A' H', MAt K H' A' (rateM m u i v) → Moved A H A' H' → tz D σ H') : tSeq (tDrop (tMeth (He.ga K "Model") "rate" (sp_Model_rate K) [] E0 ta (tCons tk (tCons tn (tCons tq tNil))))) tz D σ H :=
  ha H (Ex.refl H) _ fun H1 e1 => ⟨_, _, _, rfl, e1 _ _ hM.prm.obj, rfl, (ea_cons h1 (ea_cons h2 (ea_cons h3 ea_nil))) H1 e1 _ fun H2 e2 =>
    ⟨A, m, u, i, v, rfl, hM.ex (e1.trans e2), hu, hi, v1, v2, fun A' H3 g mv => k A' H3 g (mv.exL (e1.trans e2))⟩⟩
def sp_Liking_set_rating (K : PySem.W.Frag) : Sp := fun vs H Q _ => ∃ (a dx : Addr) (A : MA) (m : Kp429.Model) (u i v : Nat), vs = [.ref a, .int (u : Int), .int (i : Int), .int (v : Int)] ∧ LkAt K H a dx A m ∧ RetC K a dx A H m (.setRating u i v) Q
theorem len_Liking_set_rating (h : sp_Liking_set_rating K vs H Q E) : vs.length = (["self", "user", "item", "value"] : List Str).length := by
  obtain ⟨_, _, _, _, _, _, _, rfl, _⟩ := h
  rfl
def t_Liking_set_rating (K : PySem.W.Frag) : TS :=
  (tSeq (tIfS (tNot (tB (tMeth (He.ga K "Liking") "are_both" (sp_Liking_are_both K) [] E0 (tVar 0) (tCons (tVar 1) (tCons (tVar 2) tNil))))) (tRet (tLst (tCons (tC (.int (-2))) tNil))) tNext)
    (tSeq (tIfS (tNot (tTest (tChain rLeI rLeI (tC (.int 1)) (tVar 3) (tC (.int 10))))) (tRet (tLst (tCons (tC (.int (-22))) tNil))) tNext)
    (tSeq (tAsg (tDGet2 (tOp (rIxL K) (tFld K (tFld K (tVar 0) "model") "ratings") (tVar 1)) (tVar 2) (tC (.int 0))) (gName 4))
    (tSeq (tDrop (tMeth (He.ga K "Model") "rate" (sp_Model_rate K) [] E0 (tFld K (tVar 0) "model") (tCons (tVar 1) (tCons (tVar 2) (tCons (tVar 3) tNil)))))
    (tRet (tLst (tCons (tVar 4) tNil)))))))
theorem pure_Liking_set_rating (T : Txt K mg) (h : sp_Liking_set_rating K vs H Q E) : t_Liking_set_rating K { nx := fun _ H' => Q .non H', rt := Q } (start N_Liking_set_rating vs) H := by
  obtain ⟨a, dx, A, m, u, i, v, rfl, h, k⟩ := h
  refine q_when (et_not (et_B (ev_are_both (ev_var rfl) h (ev_var rfl) (ev_var rfl)))) (fun hb H1 e1 => ?_) (fun hb H1 e1 => ?_)
  · refine s_retC h (k.to (m' := m) (n := -2) (ns := []) ?_) e1 rfl
    have c : Kp429.hasUser m u = false ∨ Kp429.hasItem m i = false := by
      cases e1 : Kp429.hasUser m u <;> cases e2 : Kp429.hasItem m i <;> simp [e1, e2] at hb ⊢
    simp only [Kp429.step, if_pos c, Kp429.single]
  have c1 : ¬ (Kp429.hasUser m u = false ∨ Kp429.hasItem m i = false) := by
    cases e1 : Kp429.hasUser m u <;> cases e2 : Kp429.hasItem m i <;> simp [e1, e2] at hb ⊢
  have hu : u < m.settings.users := by
    have : Kp429.hasUser m u = true := by cases e : Kp429.hasUser m u <;> simp [e] at c1 ⊢
    exact of_decide_eq_true this
  have hi : i < m.settings.items := by
    have : Kp429.hasItem m i = true := by cases e : Kp429.hasItem m i <;> simp [e] at c1 ⊢
    exact of_decide_eq_true this
  have h1 := h.ex e1
  refine q_when (et_not (et_test (ev_chainLe ev_c (ev_var rfl) ev_c))) (fun hb H2 e2 => ?_) (fun hb H2 e2 => ?_)
  · refine s_retC h (k.to (m' := m) (n := -22) (ns := []) ?_) (e1.trans e2) rfl
    have c : v < 1 ∨ 10 < v := by simp at hb; omega
    simp only [Kp429.step, if_neg c1, if_pos c, Kp429.single]
  have c2 : ¬ (v < 1 ∨ 10 < v) := by simp at hb; omega
  have h2 := h1.ex e2
  obtain ⟨d, kvs, hdk, hval, hev⟩ := ev_dictOf T h2 hu (σ := [some (.ref a), some (.int (u : Int)), some (.int (i : Int)), some (.int (v : Int)), none]) (ta := tVar 0) (tk := tVar 1) (ev_var rfl) (ev_var rfl)
  refine q_asg (v := .int ((Kp429.ratingOf m u i).getD 0 : Nat)) (ev_is (ev_dget2K hev (ev_var rfl) ev_c hdk) ?_) fun H3 e3 => ?_
  · rw [hval]
    cases Kp429.ratingOf m u i <;> rfl
  have h3 := h2.ex e3
  refine q_rate (A := A) (m := m) (u := u) (i := i) (v := v) (ev_model T (ev_var rfl) h3) h3.mod (ev_var rfl) (ev_var rfl) (ev_var rfl) hu hi (by omega) (by omega) fun A' H6 hM mv => ?_
  refine s_retL (el_lst (ea_cons (ev_var rfl) ea_nil) (by simp)) fun q H7 _ e7 h7 => ?_
  refine ret_moved h (k.to (m' := rateM m u i v) (n := ((Kp429.ratingOf m u i).getD 0 : Nat)) (ns := []) ?_) (hM.ex e7) ((mv.exL ((e1.trans e2).trans e3)).exR e7) h7
  simp only [Kp429.step, if_neg c1, if_neg c2, Kp429.single]
  rfl
theorem ok_Liking_set_rating (T : Txt K mg) : Has P w K mg base 6 d_Liking_set_rating.at_ ["self", "user", "item", "value"] (sp_Liking_set_rating K) := by
  refine Has.of (d := d_Liking_set_rating) T 47 rfl ⟨rfl, rfl⟩ sc_Liking_set_rating (fun _ _ _ _ _ _ us hl => match us, hl with | [_, _, _, _], _ => rfl) (fun vs H Q E h => len_Liking_set_rating h) fun cdv A outer s H vs Q E hr h => ⟨t_Liking_set_rating K, ?_, pure_Liking_set_rating T h⟩
  exact (pss_cons (ps_if (pt_not (pt_val (pe_methH (pv 0) T.c_Liking T.m_Liking_are_both (ok_Liking_are_both T) (hr.mono (by decide)) (pa_cons (pv 1) (pa_cons (pv 2) pa_nil))))) (pss_one (ps_ret (pe_lst (pa_cons (pe_gint rfl T.i_NOT_THERE) pa_nil)))) pss_nil)
    (pss_cons (ps_if (pt_not (pt_chain op_le op_le pe_int (pv 3) (pe_gint rfl T.i_MOST_VALUE))) (pss_one (ps_ret (pe_lst (pa_cons (pe_gint rfl T.i_BEYOND) pa_nil)))) pss_nil)
    (pss_cons (ps_set (i := 4) sc_Liking_set_rating.nd rfl (Or.inl rfl) (pe_dget2 (hu_of hr) (pe_ix ix_list (pe_fld (pe_fld (pv 0) rfl) rfl) (pv 1) (fun _ _ => rfl)) (pv 2) pe_int ⟨rfl, rfl, rfl, rfl⟩))
    (pss_cons (ps_expr (pe_methH (pe_fld (pv 0) rfl) T.c_Model T.m_Model_rate (ok_Model_rate T) (hr.mono (by decide)) (pa_cons (pv 1) (pa_cons (pv 2) (pa_cons (pv 3) pa_nil)))))
    (pss_one (ps_ret (pe_lst (pa_cons (pv 4) pa_nil))))))))
def sp_Liking_clear_rating (K : PySem.W.Frag) : Sp := fun vs H Q _ => ∃ (a dx : Addr) (A : MA) (m : Kp429.Model) (u i : Nat), vs = [.ref a, .int (u : Int), .int (i : Int)] ∧ LkAt K H a dx A m ∧ RetC K a dx A H m (.clearRating u i) Q
theorem len_Liking_clear_rating (h : sp_Liking_clear_rating K vs H Q E) : vs.length = (["self", "user", "item"] : List Str).length := by
  obtain ⟨_, _, _, _, _, _, rfl, _⟩ := h
  rfl
def t_Liking_clear_rating (K : PySem.W.Frag) : TS :=
  (tSeq (tIfS (tNot (tB (tMeth (He.ga K "Liking") "are_both" (sp_Liking_are_both K) [] E0 (tVar 0) (tCons (tVar 1) (tCons (tVar 2) tNil))))) (tRet (tLst (tCons (tC (.int (-2))) tNil))) tNext)
    (tSeq (tIfS (tB (tDNotIn (tVar 2) (tOp (rIxL K) (tFld K (tFld K (tVar 0) "model") "ratings") (tVar 1)))) (tRet (tLst (tCons (tC (.int (-33))) tNil))) tNext)
    (tRet (tLst (tCons (tMeth (He.ga K "Model") "unrate" (sp_Model_unrate K) [] E0 (tFld K (tVar 0) "model") (tCons (tVar 1) (tCons (tVar 2) tNil))) tNil)))))
theorem s_retM1 {D : Ends} {v : V} (h : EvM K A te σ H m' v) (k : ∀ q H1, Kept K A H m' H1 → H1 q = some (.lst [v]) → D.rt (.ref q) H1) : tRet (tLst (tCons te tNil)) D σ H :=
  h H (Ex.refl H) _ fun H1 g => ⟨sz_of (by simp), fun q hq => k q _ (g.ex (Ex.new hq)) upd_same⟩
theorem find_rating {u i v : Nat} (h : Kp429.ratingOf m u i = some v) : ∃ r ∈ m.ratings, r.user = u ∧ r.item = i ∧ r.value = v := by
  unfold Kp429.ratingOf at h
  obtain ⟨r, hr, e⟩ := Option.map_eq_some_iff.mp h
  have h1 := List.mem_of_find?_eq_some hr
  have h2 := List.find?_some hr
  simp at h2
  exact ⟨r, h1, h2.1, h2.2, e⟩
theorem pure_Liking_clear_rating (T : Txt K mg) (h : sp_Liking_clear_rating K vs H Q E) : t_Liking_clear_rating K { nx := fun _ H' => Q .non H', rt := Q } (start N_Liking_clear_rating vs) H := by
  obtain ⟨a, dx, A, m, u, i, rfl, h, k⟩ := h
  refine q_when (et_not (et_B (ev_are_both (ev_var rfl) h (ev_var rfl) (ev_var rfl)))) (fun hb H1 e1 => ?_) (fun hb H1 e1 => ?_)
  · refine s_retC h (k.to (m' := m) (n := -2) (ns := []) ?_) e1 rfl
    have c : Kp429.hasUser m u = false ∨ Kp429.hasItem m i = false := by
      cases e1 : Kp429.hasUser m u <;> cases e2 : Kp429.hasItem m i <;> simp [e1, e2] at hb ⊢
    simp only [Kp429.step, if_pos c, Kp429.single]
  have c1 : ¬ (Kp429.hasUser m u = false ∨ Kp429.hasItem m i = false) := by
    cases e1 : Kp429.hasUser m u <;> cases e2 : Kp429.hasItem m i <;> simp [e1, e2] at hb ⊢
  have hu : u < m.settings.users := by
    have : Kp429.hasUser m u = true := by cases e : Kp429.hasUser m u <;> simp [e] at c1 ⊢
    exact of_decide_eq_true this
  have h1 := h.ex e1
  obtain ⟨d, kvs, hdk, hval, hev⟩ := ev_dictOf T h1 hu (σ := [some (.ref a), some (.int (u : Int)), some (.int (i : Int))]) (ta := tVar 0) (tk := tVar 1) (ev_var rfl) (ev_var rfl)
  refine q_when (et_B (ev_dnotinK (ev_var rfl) hev hdk rfl)) (fun hb H2 e2 => ?_) (fun hb H2 e2 => ?_)
  · refine s_retC h (k.to (m' := m) (n := -33) (ns := []) ?_) (e1.trans e2) rfl
    rw [hval] at hb
    have c : Kp429.ratingOf m u i = none := by cases e : Kp429.ratingOf m u i <;> simp [e] at hb ⊢
    simp only [Kp429.step, if_neg c1, c, Kp429.single]
  · rw [hval] at hb
    cases c : Kp429.ratingOf m u i with
    | none => rw [c] at hb; simp at hb
    | some v =>
      obtain ⟨r, hr, rfl, rfl, rfl⟩ := find_rating c
      have h2 := h1.ex e2
      refine s_retM1 (em_unrate (A := A) (m := m) (r := r) (ev_model T (ev_var rfl) h2) h2.mod (ev_var rfl) (ev_var rfl) hr) fun q H3 g h3 => ?_
      refine ret_kept h (k.to (m' := unrateM m r.user r.item) (n := (r.value : Int)) (ns := []) ?_) (Kept.exL (e1.trans e2) g) h3
      simp only [Kp429.step, if_neg c1, c, Kp429.single]
      rfl
theorem ok_Liking_clear_rating (T : Txt K mg) : Has P w K mg base 3 d_Liking_clear_rating.at_ ["self", "user", "item"] (sp_Liking_clear_rating K) := by
  refine Has.of (d := d_Liking_clear_rating) T 48 rfl ⟨rfl, rfl⟩ sc_Liking_clear_rating (fun _ _ _ _ _ _ us hl => match us, hl with | [_, _, _], _ => rfl) (fun vs H Q E h => len_Liking_clear_rating h) fun cdv A outer s H vs Q E hr h => ⟨t_Liking_clear_rating K, ?_, pure_Liking_clear_rating T h⟩
  exact (pss_cons (ps_if (pt_not (pt_val (pe_methH (pv 0) T.c_Liking T.m_Liking_are_both (ok_Liking_are_both T) (hr.mono (by decide)) (pa_cons (pv 1) (pa_cons (pv 2) pa_nil))))) (pss_one (ps_ret (pe_lst (pa_cons (pe_gint rfl T.i_NOT_THERE) pa_nil)))) pss_nil)
    (pss_cons (ps_if (pt_cmp (pc_dnotin (hu_of hr) (pv 2) (pe_ix ix_list (pe_fld (pe_fld (pv 0) rfl) rfl) (pv 1) (fun _ _ => rfl)))) (pss_one (ps_ret (pe_lst (pa_cons (pe_gint rfl T.i_NO_RATING) pa_nil)))) pss_nil)
    (pss_one (ps_ret (pe_lst (pa_cons (pe_methH (pe_fld (pv 0) rfl) T.c_Model T.m_Model_unrate (ok_Model_unrate T) (hr.mono (by decide)) (pa_cons (pv 1) (pa_cons (pv 2) pa_nil))) pa_nil))))))
def sp_Liking_delete_user (K : PySem.W.Frag) : Sp := fun vs H Q _ => ∃ (a dx : Addr) (A : MA) (m : Kp429.Model) (u : Nat), vs = [.ref a, .int (u : Int)] ∧ LkAt K H a dx A m ∧ RetC K a dx A H m (.deleteUser u) Q
theorem len_Liking_delete_user (h : sp_Liking_delete_user K vs H Q E) : vs.length = (["self", "user"] : List Str).length := by
  obtain ⟨_, _, _, _, _, rfl, _⟩ := h
  rfl
def t_Liking_delete_user (K : PySem.W.Frag) : TS :=
  (tRet (tIf (tB (tMeth (He.ga K "Liking") "is_user" (sp_Liking_is_user K) [] E0 (tVar 0) (tCons (tVar 1) tNil))) (tLst (tCons (tMeth (He.ga K "Model") "forget" (sp_Model_forget K) [] E0 (tFld K (tVar 0) "model") (tCons (tVar 1) tNil)) tNil)) (tLst (tCons (tC (.int (-2))) tNil))))
/-- return x if c else y -/
theorem s_retIf {D : Ends} {t : TT} {b : Bool} (h : EvT t σ H b) (h1 : b = true → ∀ H1, Ex H H1 → tRet ta D σ H1) (h2 : b = false → ∀ H1, Ex H H1 → tRet tb D σ H1) : tRet (tIf t ta tb) D σ H := h H (Ex.refl H) _ fun H1 e => by
  cases b with
  | true =>
    show ta σ H1 D.rt
    exact h1 rfl H1 e
  | false =>
    show tb σ H1 D.rt
    exact h2 rfl H1 e
theorem pure_Liking_delete_user (T : Txt K mg) (h : sp_Liking_delete_user K vs H Q E) : t_Liking_delete_user K { nx := fun _ H' => Q .non H', rt := Q } (start N_Liking_delete_user vs) H := by
  obtain ⟨a, dx, A, m, u, rfl, h, k⟩ := h
  refine s_retIf (et_B (ev_is_user (ev_var rfl) h (ev_var rfl))) (fun hb H1 e1 => ?_) (fun hb H1 e1 => ?_)
  · have c : ¬ Kp429.hasUser m u = false := by rw [hb]; decide
    have h1 := h.ex e1
    refine s_retM1 (em_forget (A := A) (m := m) (u := u) (ev_model T (ev_var rfl) h1) h1.mod (ev_var rfl) (of_decide_eq_true hb)) fun q H3 g h3 => ?_
    refine ret_kept h (k.to (m' := forgetM m u) (n := ((m.ratings.filter fun (r : Rating) => r.user == u).length : Nat)) (ns := []) ?_) (Kept.exL e1 g) h3
    simp only [Kp429.step, if_neg c, Kp429.single]
    rfl
  · refine s_retC h (k.to (m' := m) (n := -2) (ns := []) ?_) e1 rfl
    simp only [Kp429.step, if_pos hb, Kp429.single]
theorem ok_Liking_delete_user (T : Txt K mg) : Has P w K mg base 3 d_Liking_delete_user.at_ ["self", "user"] (sp_Liking_delete_user K) := by
  refine Has.of (d := d_Liking_delete_user) T 49 rfl ⟨rfl, rfl⟩ sc_Liking_delete_user (fun _ _ _ _ _ _ us hl => match us, hl with | [_, _], _ => rfl) (fun vs H Q E h => len_Liking_delete_user h) fun cdv A outer s H vs Q E hr h => ⟨t_Liking_delete_user K, ?_, pure_Liking_delete_user T h⟩
  exact (pss_one (ps_ret (pe_ifExp (pt_val (pe_methH (pv 0) T.c_Liking T.m_Liking_is_user (ok_Liking_is_user T) (hr.mono (by decide)) (pa_cons (pv 1) pa_nil))) (pe_lst (pa_cons (pe_methH (pe_fld (pv 0) rfl) T.c_Model T.m_Model_forget (ok_Model_forget T) (hr.mono (by decide)) (pa_cons (pv 1) pa_nil)) pa_nil)) (pe_lst (pa_cons (pe_gint rfl T.i_NOT_THERE) pa_nil)))))
def sp_Liking_reset (K : PySem.W.Frag) : Sp := fun vs H Q _ => ∃ (a dx : Addr) (A : MA) (m : Kp429.Model), vs = [.ref a] ∧ LkAt K H a dx A m ∧ RetC K a dx A H m .reset Q
theorem len_Liking_reset (h : sp_Liking_reset K vs H Q E) : vs.length = (["self"] : List Str).length := by
  obtain ⟨_, _, _, _, rfl, _⟩ := h
  rfl
def t_Liking_reset (K : PySem.W.Frag) : TS :=
  (tSeq (tDrop (tMeth (He.ga K "Model") "reset" (sp_Model_reset K) [] E0 (tFld K (tVar 0) "model") tNil))
    (tRet (tLst (tCons (tFld K (tFld K (tVar 0) "model") "base") tNil))))
/-- self.model.reset() -/
theorem q_reset (T : Txt K mg) {D : Ends} {tz : TS} (h : LkAt K H a dx A m) (ha : Ev ta σ H (.ref a)) (k : ∀ A' H', MAt K H' A' (resetM m.settings m.ratings) → Moved A H A' H' → tz D σ H') : tSeq (tDrop (tMeth (He.ga K "Model") "reset" (sp_Model_reset K) [] E0 (tFld K ta "model") tNil)) tz D σ H := by
  obtain ⟨ho, rat, rtr, rst, hL, hR, hS⟩ := id h.mod
  exact s_reset (D := { D with nx := tz D }) (ev_model T ha h) hL hR ho.l k
theorem LkAt.moved (h : LkAt K H a dx A m) (hM : MAt K H' A' m') (mv : Moved A H A' H') : LkAt K H' a dx A' m' := ⟨by rw [mv.mo]; exact mv.fr _ _ h.na h.obj, hM⟩
theorem LkAt.kept (h : LkAt K H a dx A m) (g : Kept K A H m' H') : LkAt K H' a dx A m' := ⟨g.2 _ _ h.na h.obj, g.1⟩
theorem pure_Liking_reset (T : Txt K mg) (h : sp_Liking_reset K vs H Q E) : t_Liking_reset K { nx := fun _ H' => Q .non H', rt := Q } (start N_Liking_reset vs) H := by
  obtain ⟨a, dx, A, m, rfl, h, k⟩ := h
  refine q_reset T h (ev_var rfl) fun A' H1 hM mv => ?_
  have h1 := h.moved hM mv
  refine s_retL (xs := [.int (Kp429.baseOf m.ratings)]) (el_lst (ea_cons (ev_base T (A := A') (p := (resetM m.settings m.ratings).parameters) (ev_model T (ev_var rfl) h1) hM.prm) ea_nil) (by simp)) fun q H2 _ e2 h2 => ?_
  exact ret_moved h (k.to (m' := resetM m.settings m.ratings) (n := Kp429.baseOf m.ratings) (ns := []) rfl) (hM.ex e2) (mv.exR e2) h2
theorem ok_Liking_reset (T : Txt K mg) : Has P w K mg base 6 d_Liking_reset.at_ ["self"] (sp_Liking_reset K) := by
  refine Has.of (d := d_Liking_reset) T 50 rfl ⟨rfl, rfl⟩ sc_Liking_reset (fun _ _ _ _ _ _ us hl => match us, hl with | [_], _ => rfl) (fun vs H Q E h => len_Liking_reset h) fun cdv A outer s H vs Q E hr h => ⟨t_Liking_reset K, ?_, pure_Liking_reset T h⟩
  exact (pss_cons (ps_expr (pe_methH0 (pe_fld (pv 0) rfl) T.c_Model T.m_Model_reset (ok_Model_reset T) (hr.mono (by decide))))
    (pss_one (ps_ret (pe_lst (pa_cons (pe_fld (pe_fld (pv 0) rfl) rfl) pa_nil)))))
def sp_Liking_step (K : PySem.W.Frag) : Sp := fun vs H Q _ => ∃ (a dx : Addr) (A : MA) (m : Kp429.Model) (kd n q : Nat), vs = [.ref a, .int (kd : Int), .int (n : Int), .int (q : Int)] ∧ LkAt K H a dx A m ∧ RetC K a dx A H m (.step kd n q) Q
theorem len_Liking_step (h : sp_Liking_step K vs H Q E) : vs.length = (["self", "kind", "number", "place"] : List Str).length := by
  obtain ⟨_, _, _, _, _, _, _, rfl, _⟩ := h
  rfl
def t_Liking_step (K : PySem.W.Frag) : TS :=
  (tSeq (tIfS (tNot (tB (tMeth (He.ga K "Liking") "is_parameter" (sp_Liking_is_parameter K) [] E0 (tVar 0) (tCons (tVar 1) (tCons (tVar 2) (tCons (tVar 3) tNil)))))) (tRet (tLst (tCons (tC (.int (-2))) tNil))) tNext)
    (tSeq (tAsg (tMeth (He.ga K "Model") "step" (sp_Model_step K) [] E0 (tFld K (tVar 0) "model") (tCons (tVar 1) (tCons (tVar 2) (tCons (tVar 3) tNil)))) (gTup K 2 (gCons (gName 4) (gCons (gName 5) gNil))))
    (tRet (tLst (tCons (tCB rIntB (tCons (tOp rNe (tVar 4) (tVar 5)) tNil)) (tCons (tVar 4) (tCons (tVar 5) tNil)))))))
theorem pure_Liking_step (T : Txt K mg) (h : sp_Liking_step K vs H Q E) : t_Liking_step K { nx := fun _ H' => Q .non H', rt := Q } (start N_Liking_step vs) H := by
  obtain ⟨a, dx, A, m, kd, n, q, rfl, h, k⟩ := h
  refine q_when (et_not (et_B (ev_is_parameter (ev_var rfl) h (ev_var rfl) (ev_var rfl) (ev_var rfl)))) (fun hb H1 e1 => ?_) (fun hb H1 e1 => ?_)
  · refine s_retC h (k.to (m' := m) (n := -2) (ns := []) ?_) e1 rfl
    have c : Kp429.isCoordinate m.settings ⟨kd, n, q⟩ = false := by simpa using hb
    simp only [Kp429.step, if_pos c, Kp429.single]
  have c : Kp429.isCoordinate m.settings ⟨kd, n, q⟩ = true := by simpa using hb
  have hc := vc_of c
  have h1 := h.ex e1
  refine q_step (A := A) (m := m) (kd := kd) (n := n) (k := q) (ev_model T (ev_var rfl) h1) h1.mod (ev_var rfl) (ev_var rfl) (ev_var rfl) hc fun t H2 g ht => ?_
  refine g_unp2 (st_of ht) ?_
  refine s_retL (xs := ([if Kp429.step1 m m.parameters ⟨kd, n, q⟩ = m.parameters then (0 : Int) else 1, atC m.parameters ⟨kd, n, q⟩, newC m m.parameters ⟨kd, n, q⟩]).map V.int) (el_lst (ea_cons (ev_is (ev_intB (ev_nei (ev_var rfl) (ev_var rfl))) ?_) (ea_cons (ev_var rfl) (ea_cons (ev_var rfl) ea_nil))) (by simp)) fun r H3 _ e3 h3 => ?_
  · have z := step_same (m := m) (p := m.parameters) h.mod.1.p hc h.mod.1.l.vs
    congr 1
    by_cases e : newC m m.parameters ⟨kd, n, q⟩ = atC m.parameters ⟨kd, n, q⟩
    · rw [if_pos (z.mpr e), decide_eq_true e.symm]
      rfl
    · rw [if_neg (fun y => e (z.mp y)), decide_eq_false (fun y => e y.symm)]
      rfl
  refine ret_kept h (k.to (m' := stepM m ⟨kd, n, q⟩) (n := if Kp429.step1 m m.parameters ⟨kd, n, q⟩ = m.parameters then (0 : Int) else 1) (ns := [atC m.parameters ⟨kd, n, q⟩, newC m m.parameters ⟨kd, n, q⟩]) ?_) ((Kept.exL e1 g).ex e3) h3
  have hn : Kp429.place (Kp429.rowOf (Kp429.step1 m m.parameters ⟨kd, n, q⟩) kd n) q = newC m m.parameters ⟨kd, n, q⟩ := at_step_eq h.mod.1.p hc
  simp only [Kp429.step, if_neg (show ¬ Kp429.isCoordinate m.settings ⟨kd, n, q⟩ = false by rw [c]; decide), hn]
  rfl
theorem ok_Liking_step (T : Txt K mg) : Has P w K mg base 7 d_Liking_step.at_ ["self", "kind", "number", "place"] (sp_Liking_step K) := by
  refine Has.of (d := d_Liking_step) T 51 rfl ⟨rfl, rfl⟩ sc_Liking_step (fun _ _ _ _ _ _ us hl => match us, hl with | [_, _, _, _], _ => rfl) (fun vs H Q E h => len_Liking_step h) fun cdv A outer s H vs Q E hr h => ⟨t_Liking_step K, ?_, pure_Liking_step T h⟩
  exact (pss_cons (ps_if (pt_not (pt_val (pe_methH (pv 0) T.c_Liking T.m_Liking_is_parameter (ok_Liking_is_parameter T) (hr.mono (by decide)) (pa_cons (pv 1) (pa_cons (pv 2) (pa_cons (pv 3) pa_nil)))))) (pss_one (ps_ret (pe_lst (pa_cons (pe_gint rfl T.i_NOT_THERE) pa_nil)))) pss_nil)
    (pss_cons (ps_asg (pe_methH (pe_fld (pv 0) rfl) T.c_Model T.m_Model_step (ok_Model_step T) (hr.mono (by decide)) (pa_cons (pv 1) (pa_cons (pv 2) (pa_cons (pv 3) pa_nil)))) (pg_tup rfl (pgs_cons (pg_name (i := 4) sc_Liking_step.nd rfl (Or.inl rfl)) (pgs_cons (pg_name (i := 5) sc_Liking_step.nd rfl (Or.inl rfl)) pgs_nil))))
    (pss_one (ps_ret (pe_lst (pa_cons (pe_callTy cl_int (by rfl) T.f_int (by decide +kernel) (pa_cons (pe_cmpR op_ne (pv 4) (pv 5) (nomark _)) pa_nil)) (pa_cons (pv 4) (pa_cons (pv 5) pa_nil))))))))
end
end Gs
namespace Gs
open PySem PySem.Spec PyProof.Rows L2 Evl LamX
section
open Kp429 (Rating Settings Parameters Coordinate)
variable {P : Program} {w : World} {K : PySem.W.Frag} {mg : Str → Option Value} {base : Heap} {vs : List V} {H H' H1 H2 H3 : Hp} {Q : VK} {E : XK} {A A' A2 : MA} {p p' : Parameters} {σ : L2.St} {ta tk tn tq td ty tv tb te tx : TE} {s : Settings} {m m' m2 : Kp429.Model} {a dx : Addr}
theorem q_asgM {D : Ends} {tz : TS} {i : Nat} {v : V} (h : EvM K A te σ H m' v) (k : ∀ H1, Kept K A H m' H1 → tz D (σ.set i (some v)) H1) : tSeq (tAsg te (gName i)) tz D σ H := h H (Ex.refl H) _ fun H1 g => k H1 g
def sp_Liking_sweep (K : PySem.W.Frag) : Sp := fun vs H Q _ => ∃ (a dx : Addr) (A : MA) (m : Kp429.Model), vs = [.ref a] ∧ LkAt K H a dx A m ∧ RetC K a dx A H m .sweep Q
theorem len_Liking_sweep (h : sp_Liking_sweep K vs H Q E) : vs.length = (["self"] : List Str).length := by
  obtain ⟨_, _, _, _, rfl, _⟩ := h
  rfl
def t_Liking_sweep (K : PySem.W.Frag) : TS :=
  (tSeq (tAsg (tMeth (He.ga K "Model") "sweep" (sp_Model_sweep K) [] E0 (tFld K (tVar 0) "model") tNil) (gName 1))
    (tRet (tLst (tCons (tVar 1) (tCons (tMeth (He.ga K "Model") "objective" (sp_Model_objective K) [] E0 (tFld K (tVar 0) "model") tNil) tNil)))))
theorem pure_Liking_sweep (T : Txt K mg) (h : sp_Liking_sweep K vs H Q E) : t_Liking_sweep K { nx := fun _ H' => Q .non H', rt := Q } (start N_Liking_sweep vs) H := by
  obtain ⟨a, dx, A, m, rfl, h, k⟩ := h
  refine q_asgM (em_sweep (A := A) (m := m) (ev_model T (ev_var rfl) h) h.mod) fun H1 g => ?_
  have h1 := h.kept g
  refine s_retL (xs := ([(chg m : Int), Kp429.objective m (Kp429.sweep m m.parameters)]).map V.int) (el_lst (ea_cons (ev_var rfl) (ea_cons (ev_objective (A := A) (m := sweepM m) (ev_model T (ev_var rfl) h1) g.1) ea_nil)) (by simp)) fun q H2 _ e2 h2 => ?_
  exact ret_kept h (k.to (m' := sweepM m) (n := (chg m : Int)) (ns := [Kp429.objective m (Kp429.sweep m m.parameters)]) rfl) (g.ex e2) h2
theorem ok_Liking_sweep (T : Txt K mg) : Has P w K mg base 8 d_Liking_sweep.at_ ["self"] (sp_Liking_sweep K) := by
  refine Has.of (d := d_Liking_sweep) T 52 rfl ⟨rfl, rfl⟩ sc_Liking_sweep (fun _ _ _ _ _ _ us hl => match us, hl with | [_], _ => rfl) (fun vs H Q E h => len_Liking_sweep h) fun cdv A outer s H vs Q E hr h => ⟨t_Liking_sweep K, ?_, pure_Liking_sweep T h⟩
  exact (pss_cons (ps_set (i := 1) sc_Liking_sweep.nd rfl (Or.inl rfl) (pe_methH0 (pe_fld (pv 0) rfl) T.c_Model T.m_Model_sweep (ok_Model_sweep T) (hr.mono (by decide))))
    (pss_one (ps_ret (pe_lst (pa_cons (pv 1) (pa_cons (pe_methH0 (pe_fld (pv 0) rfl) T.c_Model T.m_Model_objective (ok_Model_objective T) (hr.mono (by decide))) pa_nil))))))
def sp_Liking_train (K : PySem.W.Frag) : Sp := fun vs H Q _ => ∃ (a dx : Addr) (A : MA) (m : Kp429.Model) (n : Nat), vs = [.ref a, .int (n : Int)] ∧ LkAt K H a dx A m ∧ RetC K a dx A H m (.train n) Q
theorem len_Liking_train (h : sp_Liking_train K vs H Q E) : vs.length = (["self", "most"] : List Str).length := by
  obtain ⟨_, _, _, _, _, rfl, _⟩ := h
  rfl
def t_Liking_train (K : PySem.W.Frag) : TS :=
  (tSeq (tIfS (tTest (tOp rGtI (tVar 1) (tC (.int 100)))) (tRet (tLst (tCons (tC (.int (-22))) tNil))) tNext)
    (tSeq (tAsg (tMeth (He.ga K "Model") "train" (sp_Model_train K) [] E0 (tFld K (tVar 0) "model") (tCons (tVar 1) tNil)) (gTup K 2 (gCons (gName 2) (gCons (gName 3) gNil))))
    (tRet (tLst (tCons (tVar 2) (tCons (tVar 3) (tCons (tMeth (He.ga K "Model") "objective" (sp_Model_objective K) [] E0 (tFld K (tVar 0) "model") tNil) tNil)))))))
theorem q_train {n : Nat} {D : Ends} {g : TG} {tz : TS} (ha : Ev ta σ H (.ref A.mo)) (hM : MAt K H A m) (h1 : Ev tk σ H (.int (n : Int)))
    (q : ∀ t H', Kept K A H (Kp429.withParameters m (trainR m n).1) H' → H' t = some (.tup [.int ((trainR m n).2.1 : Nat), .int (Kp429.flag (trainR m n).2.2 : Nat)]) → g (.ref t) σ H' (tz D)) :
    tSeq (tAsg (tMeth (He.ga K "Model") "train" (sp_Model_train K) [] E0 ta (tCons tk tNil)) g) tz D σ H :=
  ha H (Ex.refl H) _ fun H1 e1 => ⟨_, _, _, rfl, e1 _ _ hM.prm.obj, rfl, (ea_cons h1 ea_nil) H1 e1 _ fun H2 e2 =>
    ⟨A, m, n, rfl, hM.ex (e1.trans e2), fun t H3 g ht => q t H3 (Kept.exL (e1.trans e2) g) ht⟩⟩
theorem dec_gt (n c : Nat) : decide ((c : Int) < (n : Int)) = decide (c < n) := dec_lt c n
theorem pure_Liking_train (T : Txt K mg) (h : sp_Liking_train K vs H Q E) : t_Liking_train K { nx := fun _ H' => Q .non H', rt := Q } (start N_Liking_train vs) H := by
  obtain ⟨a, dx, A, m, n, rfl, h, k⟩ := h
  refine q_when (et_test (ev_gt (ev_var rfl) ev_c)) (fun hb H1 e1 => ?_) (fun hb H1 e1 => ?_)
  · have c : 100 < n := by have := of_decide_eq_true hb; omega
    exact s_retC h (k.to (m' := m) (n := -22) (ns := []) (by simp only [Kp429.step, if_pos c, Kp429.single])) e1 rfl
  have c : ¬ 100 < n := by have := of_decide_eq_false hb; omega
  have h1 := h.ex e1
  refine q_train (A := A) (m := m) (n := n) (ev_model T (ev_var rfl) h1) h1.mod (ev_var rfl) fun t H2 g ht => ?_
  refine g_unp2 (st_of ht) ?_
  have h2 := h1.kept g
  refine s_retL (xs := ([((trainR m n).2.1 : Int), (Kp429.flag (trainR m n).2.2 : Int), Kp429.objective m (trainR m n).1]).map V.int) (el_lst (ea_cons (ev_var rfl) (ea_cons (ev_var rfl) (ea_cons (ev_objective (A := A) (m := Kp429.withParameters m (trainR m n).1) (ev_model T (ev_var rfl) h2) g.1) ea_nil))) (by simp)) fun q H3 _ e3 h3 => ?_
  refine ret_kept h (k.to (m' := Kp429.withParameters m (trainR m n).1) (n := ((trainR m n).2.1 : Int)) (ns := [(Kp429.flag (trainR m n).2.2 : Int), Kp429.objective m (trainR m n).1]) ?_) ((Kept.exL e1 g).ex e3) h3
  simp only [Kp429.step, if_neg c]
  rfl
theorem ok_Liking_train (T : Txt K mg) : Has P w K mg base 9 d_Liking_train.at_ ["self", "most"] (sp_Liking_train K) := by
  refine Has.of (d := d_Liking_train) T 53 rfl ⟨rfl, rfl⟩ sc_Liking_train (fun _ _ _ _ _ _ us hl => match us, hl with | [_, _], _ => rfl) (fun vs H Q E h => len_Liking_train h) fun cdv A outer s H vs Q E hr h => ⟨t_Liking_train K, ?_, pure_Liking_train T h⟩
  exact (pss_cons (ps_if (pt_cmpR op_gt (pv 1) (pe_gint rfl T.i_MOST_SWEEPS) (nomark _)) (pss_one (ps_ret (pe_lst (pa_cons (pe_gint rfl T.i_BEYOND) pa_nil)))) pss_nil)
    (pss_cons (ps_asg (pe_methH (pe_fld (pv 0) rfl) T.c_Model T.m_Model_train (ok_Model_train T) (hr.mono (by decide)) (pa_cons (pv 1) pa_nil)) (pg_tup rfl (pgs_cons (pg_name (i := 2) sc_Liking_train.nd rfl (Or.inl rfl)) (pgs_cons (pg_name (i := 3) sc_Liking_train.nd rfl (Or.inl rfl)) pgs_nil))))
    (pss_one (ps_ret (pe_lst (pa_cons (pv 2) (pa_cons (pv 3) (pa_cons (pe_methH0 (pe_fld (pv 0) rfl) T.c_Model T.m_Model_objective (ok_Model_objective T) (hr.mono (by decide))) pa_nil))))))))
def sp_Liking_objective (K : PySem.W.Frag) : Sp := fun vs H Q _ => ∃ (a dx : Addr) (A : MA) (m : Kp429.Model), vs = [.ref a] ∧ LkAt K H a dx A m ∧ RetC K a dx A H m .objective Q
theorem len_Liking_objective (h : sp_Liking_objective K vs H Q E) : vs.length = (["self"] : List Str).length := by
  obtain ⟨_, _, _, _, rfl, _⟩ := h
  rfl
def t_Liking_objective (K : PySem.W.Frag) : TS :=
  (tSeq (tPar 1 2 (tCons (tMeth (He.ga K "Model") "error_part" (sp_Model_error_part K) [] E0 (tFld K (tVar 0) "model") tNil) (tCons (tMeth (He.ga K "Model") "penalty_part" (sp_Model_penalty_part K) [] E0 (tFld K (tVar 0) "model") tNil) tNil)))
    (tRet (tLst (tCons (tC (.int 0)) (tCons (tOp rAddI (tVar 1) (tVar 2)) (tCons (tVar 1) (tCons (tVar 2) tNil)))))))
theorem pure_Liking_objective (T : Txt K mg) (h : sp_Liking_objective K vs H Q E) : t_Liking_objective K { nx := fun _ H' => Q .non H', rt := Q } (start N_Liking_objective vs) H := by
  obtain ⟨a, dx, A, m, rfl, h, k⟩ := h
  refine q_par (ev_error_part (A := A) (m := m) (ev_model T (ev_var rfl) h) h.mod) (ev_penalty_part (A := A) (m := m) (ev_model T (ev_var rfl) h) h.mod) fun H1 e1 => ?_
  refine s_retL (xs := ([(0 : Int), Kp429.objective m m.parameters, Kp429.errorPart m m.parameters, Kp429.penaltyPart m.settings m.parameters]).map V.int) (el_lst (ea_cons ev_c (ea_cons (ev_add (ev_var rfl) (ev_var rfl)) (ea_cons (ev_var rfl) (ea_cons (ev_var rfl) ea_nil)))) (by simp)) fun q H2 _ e2 h2 => ?_
  exact ret_ex h (k.to (m' := m) (n := 0) (ns := [Kp429.objective m m.parameters, Kp429.errorPart m m.parameters, Kp429.penaltyPart m.settings m.parameters]) rfl) (e1.trans e2) h2
theorem ok_Liking_objective (T : Txt K mg) : Has P w K mg base 4 d_Liking_objective.at_ ["self"] (sp_Liking_objective K) := by
  refine Has.of (d := d_Liking_objective) T 54 rfl ⟨rfl, rfl⟩ sc_Liking_objective (fun _ _ _ _ _ _ us hl => match us, hl with | [_], _ => rfl) (fun vs H Q E h => len_Liking_objective h) fun cdv A outer s H vs Q E hr h => ⟨t_Liking_objective K, ?_, pure_Liking_objective T h⟩
  exact (pss_cons (ps_par (by rfl) sc_Liking_objective.nd rfl rfl (by decide) rfl rfl (pa_cons (pe_methH0 (pe_fld (pv 0) rfl) T.c_Model T.m_Model_error_part (ok_Model_error_part T) (hr.mono (by decide))) (pa_cons (pe_methH0 (pe_fld (pv 0) rfl) T.c_Model T.m_Model_penalty_part (ok_Model_penalty_part T) (hr.mono (by decide))) pa_nil)) (by rfl))
    (pss_one (ps_ret (pe_lst (pa_cons pe_int (pa_cons (pe_op op_add (pv 1) (pv 2)) (pa_cons (pv 1) (pa_cons (pv 2) pa_nil))))))))
/-! ### the curve -/
def curveTo (m : Kp429.Model) (i : Nat) : Parameters × List Int := (List.range i).foldl (fun (x : Parameters × List Int) (_ : Nat) => (Kp429.sweep m x.1, x.2 ++ [Kp429.objective m (Kp429.sweep m x.1)])) (m.parameters, [])
theorem curveTo_succ (m : Kp429.Model) (i : Nat) : curveTo m (i + 1) = (Kp429.sweep m (curveTo m i).1, (curveTo m i).2 ++ [Kp429.objective m (Kp429.sweep m (curveTo m i).1)]) := by
  unfold curveTo
  rw [List.range_succ, List.foldl_append]
  rfl
theorem curveTo_len (m : Kp429.Model) : ∀ i, (curveTo m i).2.length = i
  | 0 => rfl
  | i + 1 => by rw [curveTo_succ, List.length_append, curveTo_len m i]; rfl
def sp_Liking_curve (K : PySem.W.Frag) : Sp := fun vs H Q _ => ∃ (a dx : Addr) (A : MA) (m : Kp429.Model) (n : Nat), vs = [.ref a, .int (n : Int)] ∧ LkAt K H a dx A m ∧ RetC K a dx A H m (.curve n) Q
theorem len_Liking_curve (h : sp_Liking_curve K vs H Q E) : vs.length = (["self", "count"] : List Str).length := by
  obtain ⟨_, _, _, _, _, rfl, _⟩ := h
  rfl
def t_Liking_curve (K : PySem.W.Frag) : TS :=
  (tSeq (tIfS (tTest (tOp rGtI (tVar 1) (tC (.int 20)))) (tRet (tLst (tCons (tC (.int (-22))) tNil))) tNext)
    (tSeq (tPar 2 3 (tCons (tMeth (He.ga K "Model") "copied" (sp_Model_copied K) [] E0 (tFld K (tVar 0) "model") tNil) (tCons (tLst (tCons (tVar 1) tNil)) tNil)))
    (tSeq (tFor (iRng1 (tCons (tVar 1) tNil)) (gName 4) (tSeq (tDrop (tMeth (He.ga K "Model") "sweep" (sp_Model_sweep K) [] E0 (tVar 2) tNil))
    (tDrop (tBM K "list" rAppend (tVar 3) (tCons (tMeth (He.ga K "Model") "objective" (sp_Model_objective K) [] E0 (tVar 2) tNil) tNil)))))
    (tRet (tVar 3)))))
/-- twin, xs = o.copied(), [..] -/
theorem q_copied {D : Ends} {tz : TS} {i j : Nat} {xs : List V} (ha : Ev ta σ H (.ref A.mo)) (hM : MAt K H A m) (hb : ∀ H1, Ex H H1 → EvL tb σ H1 xs) (k : ∀ A' q H', Ex H H' → MAt K H' A' m → (∀ b, A'.fp b → H b = none) → H' q = some (.lst xs) → H q = none → ¬ A'.fp q → tz D ((σ.set i (some (.ref A'.mo))).set j (some (.ref q))) H') :
    tSeq (tPar i j (tCons (tMeth (He.ga K "Model") "copied" (sp_Model_copied K) [] E0 ta tNil) (tCons tb tNil))) tz D σ H :=
  ha H (Ex.refl H) _ fun H1 e1 => ⟨_, _, _, rfl, e1 _ _ hM.prm.obj, rfl, ⟨A, m, rfl, hM.ex e1, fun A' H2 e2 hM' hn => hb H2 (e1.trans e2) H2 (Ex.refl _) _ fun q H3 hq e3 h3 =>
    ⟨_, _, rfl, k A' q H3 ((e1.trans e2).trans e3) (hM'.ex e3) (fun b hb => fresh_back e1 (hn b hb)) h3 (fresh_back (e1.trans e2) hq) (hM'.new hq)⟩⟩⟩
theorem pure_Liking_curve (T : Txt K mg) (h : sp_Liking_curve K vs H Q E) : t_Liking_curve K { nx := fun _ H' => Q .non H', rt := Q } (start N_Liking_curve vs) H := by
  obtain ⟨a, dx, A, m, n, rfl, h, k⟩ := h
  refine q_when (et_test (ev_gt (ev_var rfl) ev_c)) (fun hb H1 e1 => ?_) (fun hb H1 e1 => ?_)
  · have c : 20 < n := by have := of_decide_eq_true hb; omega
    exact s_retC h (k.to (m' := m) (n := -22) (ns := []) (by simp only [Kp429.step, if_pos c, Kp429.single])) e1 rfl
  have c : ¬ 20 < n := by have := of_decide_eq_false hb; omega
  have h1 := h.ex e1
  refine q_copied (A := A) (m := m) (xs := [.int (n : Int)]) (ev_model T (ev_var rfl) h1) h1.mod (fun H2 e2 => el_lst (ea_cons (ev_var rfl) ea_nil) (by simp)) fun A' f H2 e2 hM' hn hf hfn hfp => ?_
  refine q_forR1 (n := (n : Int)) (ea_cons (ev_var rfl) ea_nil) ⟨by omega, by omega⟩ (fun i σ H' => Ex H1 H' ∧ MAt K H' A' (Kp429.withParameters m (curveTo m i).1) ∧ H' f = some (.lst (((n : Int) :: (curveTo m i).2).map V.int)) ∧ ∃ v4 : Option V, σ = [some (.ref a), some (.int (n : Int)), some (.ref A'.mo), some (.ref f), v4])
    (fun H3 e3 => ⟨e2.trans e3, hM'.ex e3, e3 _ _ hf, none, rfl⟩) (fun i σ H' hi p => ?_) (fun σ H' p => ?_)
  · obtain ⟨e', hMi, hfi, v4, rfl⟩ := p
    refine em_sweep (A := A') (m := Kp429.withParameters m (curveTo m i).1) (ev_var rfl) hMi H' (Ex.refl _) _ fun H3 g => ?_
    have e3 : Ex H1 H3 := Fr.to g.2 e' hn
    have hMs : MAt K H3 A' (Kp429.withParameters m (curveTo m (i + 1)).1) := by
      rw [curveTo_succ]
      exact g.1
    refine s_app (g.2 _ _ hfp hfi) (ev_var rfl) (ev_objective (A := A') (m := Kp429.withParameters m (curveTo m (i + 1)).1) (ev_var rfl) hMs) (by rw [List.length_map, List.length_cons, curveTo_len]; omega) fun H4 e4 => ?_
    refine ⟨Ex.mut (e3.trans e4) hfn, ?_, ?_, _, rfl⟩
    · obtain ⟨o1, o2, o3, o4, o5, o6, o7⟩ := hMs.ex e4
      exact ⟨o1, o2, o3, o4, o5.fr (S := (· = f)) (Fr.refl.upd rfl) (fun b hb e => hfp (by rw [← e]; exact hb)) (fun b o ho hb e => by
        rw [e, e4 _ _ (g.2 _ _ hfp hfi)] at hb
        cases hb
        cases ho), o6, o7⟩
    · rw [upd_same, curveTo_succ, ← List.cons_append, List.map_append]
      rfl
  · obtain ⟨e', hMi, hfi, v4, rfl⟩ := p
    have en : ((n : Int)).toNat = n := by omega
    rw [en] at hfi
    refine ⟨_, rfl, ret_ex h (k.to (m' := m) (n := (n : Int)) (ns := (curveTo m n).2) ?_) (e1.trans e') hfi⟩
    simp only [Kp429.step, if_neg c]
    rfl
theorem ok_Liking_curve (T : Txt K mg) : Has P w K mg base 9 d_Liking_curve.at_ ["self", "count"] (sp_Liking_curve K) := by
  refine Has.of (d := d_Liking_curve) T 55 rfl ⟨rfl, rfl⟩ sc_Liking_curve (fun _ _ _ _ _ _ us hl => match us, hl with | [_, _], _ => rfl) (fun vs H Q E h => len_Liking_curve h) fun cdv A outer s H vs Q E hr h => ⟨t_Liking_curve K, ?_, pure_Liking_curve T h⟩
  exact (pss_cons (ps_if (pt_cmpR op_gt (pv 1) (pe_gint rfl T.i_MOST_CURVE) (nomark _)) (pss_one (ps_ret (pe_lst (pa_cons (pe_gint rfl T.i_BEYOND) pa_nil)))) pss_nil)
    (pss_cons (ps_par (by rfl) sc_Liking_curve.nd rfl rfl (by decide) rfl rfl (pa_cons (pe_methH0 (pe_fld (pv 0) rfl) T.c_Model T.m_Model_copied (ok_Model_copied T) (hr.mono (by decide))) (pa_cons (pe_lst (pa_cons (pv 1) pa_nil)) pa_nil)) (by rfl))
    (pss_cons (ps_for PassesOwn.never rfl (pi_range1 rfl T.f_range (pa_cons (pv 1) pa_nil)) (pg_name (i := 4) sc_Liking_curve.nd rfl (Or.inl rfl)) (pss_cons (ps_expr (pe_methH0 (pv 2) T.c_Model T.m_Model_sweep (ok_Model_sweep T) (hr.mono (by decide))))
    (pss_one (ps_expr (pe_bm PySem.F.plainAttrs_list PySem.F.slot_list_append PySem.F.type_list_append mt_append (pv 3) (pa_cons (pe_methH0 (pv 2) T.c_Model T.m_Model_objective (ok_Model_objective T) (hr.mono (by decide))) pa_nil))))))
    (pss_one (ps_ret (pv 3))))))
end
end Gs
namespace Gs
open PySem PySem.Spec PyProof.Rows L2 Evl LamX
section
open Kp429 (Rating Settings Parameters Coordinate)
variable {P : Program} {w : World} {K : PySem.W.Frag} {mg : Str → Option Value} {base : Heap} {vs : List V} {H H' H1 H2 H3 : Hp} {Q : VK} {E : XK} {A A' A2 : MA} {p p' : Parameters} {σ : L2.St} {ta tk tn tq td ty tv tb te tx : TE} {s : Settings} {m m' m2 : Kp429.Model} {a dx : Addr}
/-! ### the certificate -/
theorem find_at {α : Type} {f : α → Bool} : ∀ {l : List α} {i : Nat} {x : α}, l[i]? = some x → f x = true → (∀ y ∈ l.take i, f y = false) → l.find? f = some x
  | [], _, _, h, _, _ => by simp at h
  | y :: l, 0, x, h, hf, _ => by
    have e : y = x := by simpa using h
    subst e
    rw [List.find?_cons, hf]
  | y :: l, i + 1, x, h, hf, hn => by
    rw [List.find?_cons, hn y (by simp)]
    exact find_at (by simpa using h) hf fun z hz => hn z (by simp [hz])
def sp_Liking_certificate (K : PySem.W.Frag) : Sp := fun vs H Q _ => ∃ (a dx : Addr) (A : MA) (m : Kp429.Model), vs = [.ref a] ∧ LkAt K H a dx A m ∧ RetC K a dx A H m .certificate Q
theorem len_Liking_certificate (h : sp_Liking_certificate K vs H Q E) : vs.length = (["self"] : List Str).length := by
  obtain ⟨_, _, _, _, rfl, _⟩ := h
  rfl
def t_Liking_certificate (K : PySem.W.Frag) : TS :=
  (tSeq (tAsg (tFld K (tVar 0) "model") (gName 1))
    (tSeq (tFor (iList K (tMeth (He.ga K "Model") "parameters" (sp_Model_parameters K) [] E0 (tVar 1) tNil)) (gTup K 3 (gCons (gName 2) (gCons (gName 3) (gCons (gName 4) gNil)))) (tIfS (tTest (tOp rNe (tMeth (He.ga K "Model") "better" (sp_Model_better K) [] E0 (tVar 1) (tCons (tVar 2) (tCons (tVar 3) (tCons (tVar 4) tNil)))) (tOp (rIxL K) (tOp (rIxL K) (tOp (rIxL K) (tFld K (tVar 1) "rows") (tVar 2)) (tVar 3)) (tVar 4)))) (tRet (tLst (tCons (tC (.int 0)) (tCons (tVar 2) (tCons (tVar 3) (tCons (tVar 4) tNil)))))) tNext))
    (tRet (tLst (tCons (tC (.int 1)) tNil)))))
theorem pure_Liking_certificate (T : Txt K mg) (h : sp_Liking_certificate K vs H Q E) : t_Liking_certificate K { nx := fun _ H' => Q .non H', rt := Q } (start N_Liking_certificate vs) H := by
  obtain ⟨a, dx, A, m, rfl, h, k⟩ := h
  have ho := h.mod.1
  refine q_asg (v := .ref A.mo) (ev_model T (ev_var rfl) h) fun H1 e1 => ?_
  have hM1 := h.mod.ex e1
  refine q_forTs (et_parameters (A := A) (m := m) (ev_var rfl) hM1) (fun q ts i σ H' => Ex H H' ∧ H' q = some (.lst (ts.map V.ref)) ∧ TupsAt H' ts ((Kp429.coordinates m.settings).map coordV) ∧ (∀ c ∈ (Kp429.coordinates m.settings).take i, (Kp429.step1 m m.parameters c != m.parameters) = false) ∧ ∃ v2 v3 v4 : Option V, σ = [some (.ref a), some (.ref A.mo), v2, v3, v4])
    (fun q ts H2 hq e2 h2 ht => ⟨e1.trans e2, h2, ht, fun c hc => (nomatch hc), none, none, none, rfl⟩) (fun q ts i σ' H' p => ⟨p.2.1, p.2.2.1⟩) (fun q ts i t z σ' H' hz htz p => ?_) (fun q ts σ' H' p => ?_)
  · obtain ⟨e', hq, hts, hno, v2, v3, v4, rfl⟩ := p
    rw [List.getElem?_map] at hz
    obtain ⟨⟨kd, n, x⟩, hc, rfl⟩ := Option.map_eq_some_iff.mp hz
    have hcv : VC m.settings ⟨kd, n, x⟩ := coords_valid _ (List.mem_of_getElem? hc)
    obtain ⟨hkd, hn, hx⟩ := id hcv
    have hM' := h.mod.ex e'
    obtain ⟨wr, hw, hwx, hwr⟩ := rowAddr hM'.prm ho.p hn
    refine g_unp3 (st_of htz) ?_
    have z := step_same (m := m) (p := m.parameters) ho.p hcv ho.l.vs
    refine s_when (et_test (ev_nei (ev_better (A := A) (m := m) (ev_var rfl) hM' (ev_var rfl) (ev_var rfl) (ev_var rfl) hkd hn hx) (ev_cell (A := A) (p := m.parameters) T (k := kd) (n := n) (q := x) (ev_var rfl) hM'.prm (ev_var rfl) hkd (ev_var rfl) hw (ev_var rfl) hwx (hwr.at_ hx)))) (fun hb H2 e2 => ?_) (fun hb H2 e2 => ?_)
    · have hne : ¬ newC m m.parameters ⟨kd, n, x⟩ = atC m.parameters ⟨kd, n, x⟩ := by
        intro e
        have hb2 : (!decide (newC m m.parameters ⟨kd, n, x⟩ = atC m.parameters ⟨kd, n, x⟩)) = true := hb
        rw [decide_eq_true e] at hb2
        cases hb2
      have hf : Kp429.firstImprovable m m.parameters = some ⟨kd, n, x⟩ := find_at hc (bne_iff_ne.mpr fun e => hne (z.mp e)) hno
      refine s_retL (xs := ([(0 : Int), (kd : Int), (n : Int), (x : Int)]).map V.int) (el_lst (ea_cons ev_c (ea_cons (ev_var rfl) (ea_cons (ev_var rfl) (ea_cons (ev_var rfl) ea_nil)))) (by simp)) fun r H3 _ e3 h3 => ?_
      refine ret_ex h (k.to (m' := m) (n := 0) (ns := [(kd : Int), (n : Int), (x : Int)]) ?_) ((e'.trans e2).trans e3) h3
      simp only [Kp429.step, hf]
      rfl
    · have heq : newC m m.parameters ⟨kd, n, x⟩ = atC m.parameters ⟨kd, n, x⟩ := by
        have hb2 : (!decide (newC m m.parameters ⟨kd, n, x⟩ = atC m.parameters ⟨kd, n, x⟩)) = false := hb
        exact of_decide_eq_true (by simpa using hb2)
      refine ⟨e'.trans e2, e2 _ _ hq, hts.ex e2, fun c hcm => ?_, _, _, _, rfl⟩
      rw [List.take_add_one, hc] at hcm
      rcases List.mem_append.mp hcm with q1 | q1
      · exact hno c q1
      · have : c = ⟨kd, n, x⟩ := by simpa using q1
        rw [this, z.mpr heq]
        simp
  · obtain ⟨e', hq, hts, hno, v2, v3, v4, rfl⟩ := p
    rw [List.length_map, List.take_length] at hno
    have hf : Kp429.firstImprovable m m.parameters = none := List.find?_eq_none.mpr fun c hc e => by rw [hno c hc] at e; cases e
    refine s_retC h (k.to (m' := m) (n := 1) (ns := []) ?_) e' rfl
    simp only [Kp429.step, hf]
    rfl
theorem ok_Liking_certificate (T : Txt K mg) : Has P w K mg base 4 d_Liking_certificate.at_ ["self"] (sp_Liking_certificate K) := by
  refine Has.of (d := d_Liking_certificate) T 56 rfl ⟨rfl, rfl⟩ sc_Liking_certificate (fun _ _ _ _ _ _ us hl => match us, hl with | [_], _ => rfl) (fun vs H Q E h => len_Liking_certificate h) fun cdv A outer s H vs Q E hr h => ⟨t_Liking_certificate K, ?_, pure_Liking_certificate T h⟩
  exact (pss_cons (ps_set (i := 1) sc_Liking_certificate.nd rfl (Or.inl rfl) (pe_fld (pv 0) rfl))
    (pss_cons (ps_for PassesOwn.never rfl (pi_list (pe_methH0 (pv 1) T.c_Model T.m_Model_parameters (ok_Model_parameters T) (hr.mono (by decide)))) (pg_tup rfl (pgs_cons (pg_name (i := 2) sc_Liking_certificate.nd rfl (Or.inl rfl)) (pgs_cons (pg_name (i := 3) sc_Liking_certificate.nd rfl (Or.inl rfl)) (pgs_cons (pg_name (i := 4) sc_Liking_certificate.nd rfl (Or.inl rfl)) pgs_nil)))) (pss_one (ps_if (pt_cmpR op_ne (pe_methH (pv 1) T.c_Model T.m_Model_better (ok_Model_better T) (hr.mono (by decide)) (pa_cons (pv 2) (pa_cons (pv 3) (pa_cons (pv 4) pa_nil)))) (pe_ix ix_list (pe_ix ix_list (pe_ix ix_list (pe_fld (pv 1) rfl) (pv 2) (fun _ _ => rfl)) (pv 3) (fun _ _ => rfl)) (pv 4) (fun _ _ => rfl)) (nomark _)) (pss_one (ps_ret (pe_lst (pa_cons pe_int (pa_cons (pv 2) (pa_cons (pv 3) (pa_cons (pv 4) pa_nil))))))) pss_nil)))
    (pss_one (ps_ret (pe_lst (pa_cons pe_int pa_nil))))))
def sp_Liking_quadratic (K : PySem.W.Frag) : Sp := fun vs H Q _ => ∃ (a dx : Addr) (A : MA) (m : Kp429.Model) (kd n q : Nat), vs = [.ref a, .int (kd : Int), .int (n : Int), .int (q : Int)] ∧ LkAt K H a dx A m ∧ RetC K a dx A H m (.quadratic kd n q) Q
theorem len_Liking_quadratic (h : sp_Liking_quadratic K vs H Q E) : vs.length = (["self", "kind", "number", "place"] : List Str).length := by
  obtain ⟨_, _, _, _, _, _, _, rfl, _⟩ := h
  rfl
def t_Liking_quadratic (K : PySem.W.Frag) : TS :=
  (tSeq (tIfS (tNot (tB (tMeth (He.ga K "Liking") "is_parameter" (sp_Liking_is_parameter K) [] E0 (tVar 0) (tCons (tVar 1) (tCons (tVar 2) (tCons (tVar 3) tNil)))))) (tRet (tLst (tCons (tC (.int (-2))) tNil))) tNext)
    (tSeq (tAsg (tMeth (He.ga K "Model") "quadratic" (sp_Model_quadratic K) [] E0 (tFld K (tVar 0) "model") (tCons (tVar 1) (tCons (tVar 2) (tCons (tVar 3) tNil)))) (gTup K 2 (gCons (gName 4) (gCons (gName 5) gNil))))
    (tRet (tLst (tCons (tC (.int 0)) (tCons (tVar 4) (tCons (tVar 5) tNil)))))))
theorem pure_Liking_quadratic (T : Txt K mg) (h : sp_Liking_quadratic K vs H Q E) : t_Liking_quadratic K { nx := fun _ H' => Q .non H', rt := Q } (start N_Liking_quadratic vs) H := by
  obtain ⟨a, dx, A, m, kd, n, q, rfl, h, k⟩ := h
  refine q_when (et_not (et_B (ev_is_parameter (ev_var rfl) h (ev_var rfl) (ev_var rfl) (ev_var rfl)))) (fun hb H1 e1 => ?_) (fun hb H1 e1 => ?_)
  · have c : Kp429.isCoordinate m.settings ⟨kd, n, q⟩ = false := by simpa using hb
    exact s_retC h (k.to (m' := m) (n := -2) (ns := []) (by simp only [Kp429.step, if_pos c, Kp429.single])) e1 rfl
  have c : Kp429.isCoordinate m.settings ⟨kd, n, q⟩ = true := by simpa using hb
  obtain ⟨hkd, hn, hq⟩ := vc_of c
  have h1 := h.ex e1
  refine q_unp2U (eu_quadratic (A := A) (m := m) (kd := kd) (n := n) (k := q) (ev_model T (ev_var rfl) h1) h1.mod (ev_var rfl) (ev_var rfl) (ev_var rfl) hkd hn hq) fun H2 e2 => ?_
  refine s_retL (xs := ([(0 : Int), (qOf m kd n q).curvature, (qOf m kd n q).slope]).map V.int) (el_lst (ea_cons ev_c (ea_cons (ev_var rfl) (ea_cons (ev_var rfl) ea_nil))) (by simp)) fun r H3 _ e3 h3 => ?_
  refine ret_ex h (k.to (m' := m) (n := 0) (ns := [(qOf m kd n q).curvature, (qOf m kd n q).slope]) ?_) ((e1.trans e2).trans e3) h3
  simp only [Kp429.step, if_neg (show ¬ Kp429.isCoordinate m.settings ⟨kd, n, q⟩ = false by rw [c]; decide)]
  rfl
theorem ok_Liking_quadratic (T : Txt K mg) : Has P w K mg base 3 d_Liking_quadratic.at_ ["self", "kind", "number", "place"] (sp_Liking_quadratic K) := by
  refine Has.of (d := d_Liking_quadratic) T 57 rfl ⟨rfl, rfl⟩ sc_Liking_quadratic (fun _ _ _ _ _ _ us hl => match us, hl with | [_, _, _, _], _ => rfl) (fun vs H Q E h => len_Liking_quadratic h) fun cdv A outer s H vs Q E hr h => ⟨t_Liking_quadratic K, ?_, pure_Liking_quadratic T h⟩
  exact (pss_cons (ps_if (pt_not (pt_val (pe_methH (pv 0) T.c_Liking T.m_Liking_is_parameter (ok_Liking_is_parameter T) (hr.mono (by decide)) (pa_cons (pv 1) (pa_cons (pv 2) (pa_cons (pv 3) pa_nil)))))) (pss_one (ps_ret (pe_lst (pa_cons (pe_gint rfl T.i_NOT_THERE) pa_nil)))) pss_nil)
    (pss_cons (ps_asg (pe_methH (pe_fld (pv 0) rfl) T.c_Model T.m_Model_quadratic (ok_Model_quadratic T) (hr.mono (by decide)) (pa_cons (pv 1) (pa_cons (pv 2) (pa_cons (pv 3) pa_nil)))) (pg_tup rfl (pgs_cons (pg_name (i := 4) sc_Liking_quadratic.nd rfl (Or.inl rfl)) (pgs_cons (pg_name (i := 5) sc_Liking_quadratic.nd rfl (Or.inl rfl)) pgs_nil))))
    (pss_one (ps_ret (pe_lst (pa_cons pe_int (pa_cons (pv 4) (pa_cons (pv 5) pa_nil))))))))
def sp_Liking_parameter (K : PySem.W.Frag) : Sp := fun vs H Q _ => ∃ (a dx : Addr) (A : MA) (m : Kp429.Model) (kd n q : Nat), vs = [.ref a, .int (kd : Int), .int (n : Int), .int (q : Int)] ∧ LkAt K H a dx A m ∧ RetC K a dx A H m (.parameter kd n q) Q
theorem len_Liking_parameter (h : sp_Liking_parameter K vs H Q E) : vs.length = (["self", "kind", "number", "place"] : List Str).length := by
  obtain ⟨_, _, _, _, _, _, _, rfl, _⟩ := h
  rfl
def t_Liking_parameter (K : PySem.W.Frag) : TS :=
  (tSeq (tIfS (tNot (tB (tMeth (He.ga K "Liking") "is_parameter" (sp_Liking_is_parameter K) [] E0 (tVar 0) (tCons (tVar 1) (tCons (tVar 2) (tCons (tVar 3) tNil)))))) (tRet (tLst (tCons (tC (.int (-2))) tNil))) tNext)
    (tRet (tLst (tCons (tC (.int 0)) (tCons (tOp (rIxL K) (tOp (rIxL K) (tOp (rIxL K) (tFld K (tFld K (tVar 0) "model") "rows") (tVar 1)) (tVar 2)) (tVar 3)) tNil)))))
theorem pure_Liking_parameter (T : Txt K mg) (h : sp_Liking_parameter K vs H Q E) : t_Liking_parameter K { nx := fun _ H' => Q .non H', rt := Q } (start N_Liking_parameter vs) H := by
  obtain ⟨a, dx, A, m, kd, n, q, rfl, h, k⟩ := h
  refine q_when (et_not (et_B (ev_is_parameter (ev_var rfl) h (ev_var rfl) (ev_var rfl) (ev_var rfl)))) (fun hb H1 e1 => ?_) (fun hb H1 e1 => ?_)
  · have c : Kp429.isCoordinate m.settings ⟨kd, n, q⟩ = false := by simpa using hb
    exact s_retC h (k.to (m' := m) (n := -2) (ns := []) (by simp only [Kp429.step, if_pos c, Kp429.single])) e1 rfl
  have c : Kp429.isCoordinate m.settings ⟨kd, n, q⟩ = true := by simpa using hb
  obtain ⟨hkd, hn, hq⟩ := vc_of c
  have h1 := h.ex e1
  obtain ⟨wr, hw, hwx, hwr⟩ := rowAddr h1.mod.prm h.mod.1.p hn
  refine s_retL (xs := ([(0 : Int), Kp429.place (Kp429.rowOf m.parameters kd n) q]).map V.int) (el_lst (ea_cons ev_c (ea_cons (ev_cell (A := A) (p := m.parameters) T (k := kd) (n := n) (q := q) (ev_model T (ev_var rfl) h1) h1.mod.prm (ev_var rfl) hkd (ev_var rfl) hw (ev_var rfl) hwx (hwr.at_ hq)) ea_nil)) (by simp)) fun r H3 _ e3 h3 => ?_
  refine ret_ex h (k.to (m' := m) (n := 0) (ns := [Kp429.place (Kp429.rowOf m.parameters kd n) q]) ?_) (e1.trans e3) h3
  simp only [Kp429.step, if_neg (show ¬ Kp429.isCoordinate m.settings ⟨kd, n, q⟩ = false by rw [c]; decide)]
theorem ok_Liking_parameter (T : Txt K mg) : Has P w K mg base 2 d_Liking_parameter.at_ ["self", "kind", "number", "place"] (sp_Liking_parameter K) := by
  refine Has.of (d := d_Liking_parameter) T 58 rfl ⟨rfl, rfl⟩ sc_Liking_parameter (fun _ _ _ _ _ _ us hl => match us, hl with | [_, _, _, _], _ => rfl) (fun vs H Q E h => len_Liking_parameter h) fun cdv A outer s H vs Q E hr h => ⟨t_Liking_parameter K, ?_, pure_Liking_parameter T h⟩
  exact (pss_cons (ps_if (pt_not (pt_val (pe_methH (pv 0) T.c_Liking T.m_Liking_is_parameter (ok_Liking_is_parameter T) (hr.mono (by decide)) (pa_cons (pv 1) (pa_cons (pv 2) (pa_cons (pv 3) pa_nil)))))) (pss_one (ps_ret (pe_lst (pa_cons (pe_gint rfl T.i_NOT_THERE) pa_nil)))) pss_nil)
    (pss_one (ps_ret (pe_lst (pa_cons pe_int (pa_cons (pe_ix ix_list (pe_ix ix_list (pe_ix ix_list (pe_fld (pe_fld (pv 0) rfl) rfl) (pv 1) (fun _ _ => rfl)) (pv 2) (fun _ _ => rfl)) (pv 3) (fun _ _ => rfl)) pa_nil))))))
def sp_Liking_set_parameter (K : PySem.W.Frag) : Sp := fun vs H Q _ => ∃ (a dx : Addr) (A : MA) (m : Kp429.Model) (kd n q ng sz : Nat), vs = [.ref a, .int (kd : Int), .int (n : Int), .int (q : Int), .int (ng : Int), .int (sz : Int)] ∧ LkAt K H a dx A m ∧ RetC K a dx A H m (.setParameter kd n q ng sz) Q
theorem len_Liking_set_parameter (h : sp_Liking_set_parameter K vs H Q E) : vs.length = (["self", "kind", "number", "place", "negative", "size"] : List Str).length := by
  obtain ⟨_, _, _, _, _, _, _, _, _, rfl, _⟩ := h
  rfl
def t_Liking_set_parameter (K : PySem.W.Frag) : TS :=
  (tSeq (tIfS (tNot (tB (tMeth (He.ga K "Liking") "is_parameter" (sp_Liking_is_parameter K) [] E0 (tVar 0) (tCons (tVar 1) (tCons (tVar 2) (tCons (tVar 3) tNil)))))) (tRet (tLst (tCons (tC (.int (-2))) tNil))) tNext)
    (tSeq (tPar 6 7 (tCons (tIf (tTest (tOp rEq (tVar 4) (tC (.int 1)))) (tOp rSubI (tC (.int 0)) (tVar 5)) (tVar 5)) (tCons (tMeth (He.ga K "Settings") "bounds" (sp_Settings_bounds K) [] E0 (tFld K (tFld K (tVar 0) "model") "settings") (tCons (tVar 3) tNil)) tNil)))
    (tSeq (tIfS (tOr (tTest (tOp rGtI (tVar 4) (tC (.int 1)))) (tNot (tTest (tChain rLeI rLeI (tOp (rIxT K) (tVar 7) (tC (.int 0))) (tVar 6) (tOp (rIxT K) (tVar 7) (tC (.int 1))))))) (tRet (tLst (tCons (tC (.int (-22))) tNil))) tNext)
    (tSeq (tAsg (tOp (rIxL K) (tOp (rIxL K) (tOp (rIxL K) (tFld K (tFld K (tVar 0) "model") "rows") (tVar 1)) (tVar 2)) (tVar 3)) (gName 8))
    (tSeq (tDrop (tMeth (He.ga K "Model") "set_to" (sp_Model_set_to K) [] E0 (tFld K (tVar 0) "model") (tCons (tVar 1) (tCons (tVar 2) (tCons (tVar 3) (tCons (tVar 6) tNil))))))
    (tRet (tLst (tCons (tC (.int 0)) (tCons (tVar 8) tNil)))))))))
theorem q_parU {D : Ends} {tz : TS} {i j : Nat} {x : V} {xs : List V} (ha : Ev ta σ H x) (hb : EvU tb σ H xs) (k : ∀ t H1, Ex H H1 → H1 t = some (.tup xs) → tz D ((σ.set i (some x)).set j (some (.ref t))) H1) : tSeq (tPar i j (tCons ta (tCons tb tNil))) tz D σ H :=
  ha H (Ex.refl H) _ fun H2 e2 => hb H2 e2 _ fun t H3 _ e3 h3 => ⟨x, _, rfl, k t H3 (e2.trans e3) h3⟩
theorem q_set_to {D : Ends} {tz : TS} {kd n k : Nat} {x : Int} (ha : Ev ta σ H (.ref A.mo)) (hM : MAt K H A m) (h1 : Ev tk σ H (.int (kd : Int))) (h2 : Ev tn σ H (.int (n : Int))) (h3 : Ev tq σ H (.int (k : Int))) (h4 : Ev tx σ H (.int x)) (hkd : kd ≤ 1) (hn : n < Kp429.sizeOf m.settings kd) (hk : k ≤ m.settings.factors)
    (hx : Kp429.lowest m.settings k ≤ x ∧ x ≤ Kp429.highest m.settings k) (q : ∀ H', Kept K A H (setP m kd n k x) H' → tz D σ H') :
    tSeq (tDrop (tMeth (He.ga K "Model") "set_to" (sp_Model_set_to K) [] E0 ta (tCons tk (tCons tn (tCons tq (tCons tx tNil)))))) tz D σ H := s_set_to (D := { D with nx := tz D }) ha hM h1 h2 h3 h4 hkd hn hk hx q
theorem pure_Liking_set_parameter (T : Txt K mg) (h : sp_Liking_set_parameter K vs H Q E) : t_Liking_set_parameter K { nx := fun _ H' => Q .non H', rt := Q } (start N_Liking_set_parameter vs) H := by
  obtain ⟨a, dx, A, m, kd, n, q, ng, sz, rfl, h, k⟩ := h
  refine q_when (et_not (et_B (ev_is_parameter (ev_var rfl) h (ev_var rfl) (ev_var rfl) (ev_var rfl)))) (fun hb H1 e1 => ?_) (fun hb H1 e1 => ?_)
  · have c : Kp429.isCoordinate m.settings ⟨kd, n, q⟩ = false := by simpa using hb
    exact s_retC h (k.to (m' := m) (n := -2) (ns := []) (by simp only [Kp429.step, if_pos c, Kp429.single])) e1 rfl
  have c : Kp429.isCoordinate m.settings ⟨kd, n, q⟩ = true := by simpa using hb
  have c1 : ¬ Kp429.isCoordinate m.settings ⟨kd, n, q⟩ = false := by rw [c]; decide
  obtain ⟨hkd, hn, hq⟩ := vc_of c
  have h1 := h.ex e1
  have hv : ∀ v, v = (if ng = 1 then -(sz : Int) else (sz : Int)) → v = v := fun _ _ => rfl
  refine q_parU (x := .int (if ng = 1 then -(sz : Int) else (sz : Int))) (ev_if (et_test (ev_eqi (ev_var rfl) ev_c)) (fun hb => ?_) (fun hb => ?_)) (eu_bounds T (k := q) (ev_settings T (A := A) (p := m.parameters) (ev_model T (ev_var rfl) h1) h1.mod.prm) h1.mod.set (ev_var rfl)) fun t H2 e2 ht => ?_
  · have e : ng = 1 := by have := of_decide_eq_true hb; omega
    rw [if_pos e]
    exact ev_is (ev_sub ev_c (ev_var rfl)) (by rw [Int.zero_sub])
  · have e : ¬ ng = 1 := by have := of_decide_eq_false hb; omega
    rw [if_neg e]
    exact ev_var rfl
  generalize hval : (if ng = 1 then -(sz : Int) else (sz : Int)) = v
  have h2 := h1.ex e2
  refine q_when (et_or (et_test (ev_gt (ev_var rfl) ev_c)) fun _ => et_not (et_test (ev_chainLe (ev_ixT (j := 0) (ev_var rfl) ev_c (st_of ht) rfl) (ev_var rfl) (ev_ixT (j := 1) (ev_var rfl) ev_c (st_of ht) rfl)))) (fun hb H3 e3 => ?_) (fun hb H3 e3 => ?_)
  · refine s_retC h (k.to (m' := m) (n := -22) (ns := []) ?_) ((e1.trans e2).trans e3) rfl
    have c2 : 1 < ng ∨ v < Kp429.lowest m.settings q ∨ Kp429.highest m.settings q < v := by
      simp at hb
      omega
    simp only [Kp429.step, if_neg c1, hval, if_pos c2, Kp429.single]
  have c2 : ¬ (1 < ng ∨ v < Kp429.lowest m.settings q ∨ Kp429.highest m.settings q < v) := by
    simp at hb
    omega
  have h3 := h2.ex e3
  obtain ⟨wr, hw, hwx, hwr⟩ := rowAddr h3.mod.prm h.mod.1.p hn
  refine q_asg (ev_cell (A := A) (p := m.parameters) T (k := kd) (n := n) (q := q) (ev_model T (ev_var rfl) h3) h3.mod.prm (ev_var rfl) hkd (ev_var rfl) hw (ev_var rfl) hwx (hwr.at_ hq)) fun H4 e4 => ?_
  have h4 := h3.ex e4
  refine q_set_to (A := A) (m := m) (ev_model T (ev_var rfl) h4) h4.mod (ev_var rfl) (ev_var rfl) (ev_var rfl) (ev_var rfl) hkd hn hq (by omega) fun H5 g => ?_
  refine s_retL (xs := ([(0 : Int), Kp429.place (Kp429.rowOf m.parameters kd n) q]).map V.int) (el_lst (ea_cons ev_c (ea_cons (ev_var rfl) ea_nil)) (by simp)) fun r H6 _ e6 h6 => ?_
  refine ret_kept h (k.to (m' := setP m kd n q v) (n := 0) (ns := [Kp429.place (Kp429.rowOf m.parameters kd n) q]) ?_) ((Kept.exL (((e1.trans e2).trans e3).trans e4) g).ex e6) h6
  simp only [Kp429.step, if_neg c1, hval, if_neg c2]
  rfl
theorem ok_Liking_set_parameter (T : Txt K mg) : Has P w K mg base 6 d_Liking_set_parameter.at_ ["self", "kind", "number", "place", "negative", "size"] (sp_Liking_set_parameter K) := by
  refine Has.of (d := d_Liking_set_parameter) T 59 rfl ⟨rfl, rfl⟩ sc_Liking_set_parameter (fun _ _ _ _ _ _ us hl => match us, hl with | [_, _, _, _, _, _], _ => rfl) (fun vs H Q E h => len_Liking_set_parameter h) fun cdv A outer s H vs Q E hr h => ⟨t_Liking_set_parameter K, ?_, pure_Liking_set_parameter T h⟩
  exact (pss_cons (ps_if (pt_not (pt_val (pe_methH (pv 0) T.c_Liking T.m_Liking_is_parameter (ok_Liking_is_parameter T) (hr.mono (by decide)) (pa_cons (pv 1) (pa_cons (pv 2) (pa_cons (pv 3) pa_nil)))))) (pss_one (ps_ret (pe_lst (pa_cons (pe_gint rfl T.i_NOT_THERE) pa_nil)))) pss_nil)
    (pss_cons (ps_par (by rfl) sc_Liking_set_parameter.nd rfl rfl (by decide) rfl rfl (pa_cons (pe_ifExp (pt_cmpR op_eq (pv 4) pe_int (nomark _)) (pe_op op_sub pe_int (pv 5)) (pv 5)) (pa_cons (pe_methH (pe_fld (pe_fld (pv 0) rfl) rfl) T.c_Settings T.m_Settings_bounds (ok_Settings_bounds T) (hr.mono (by decide)) (pa_cons (pv 3) pa_nil)) pa_nil)) (by rfl))
    (pss_cons (ps_if (PW.pt (pw_or (pt_cmpR op_gt (pv 4) pe_int (nomark _)) (pw_or1 (pt_not (pt_chain op_le op_le (pe_ix ix_tup (pv 7) pe_int (fun _ _ => rfl)) (pv 6) (pe_ix ix_tup (pv 7) pe_int (fun _ _ => rfl))))))) (pss_one (ps_ret (pe_lst (pa_cons (pe_gint rfl T.i_BEYOND) pa_nil)))) pss_nil)
    (pss_cons (ps_set (i := 8) sc_Liking_set_parameter.nd rfl (Or.inl rfl) (pe_ix ix_list (pe_ix ix_list (pe_ix ix_list (pe_fld (pe_fld (pv 0) rfl) rfl) (pv 1) (fun _ _ => rfl)) (pv 2) (fun _ _ => rfl)) (pv 3) (fun _ _ => rfl)))
    (pss_cons (ps_expr (pe_methH (pe_fld (pv 0) rfl) T.c_Model T.m_Model_set_to (ok_Model_set_to T) (hr.mono (by decide)) (pa_cons (pv 1) (pa_cons (pv 2) (pa_cons (pv 3) (pa_cons (pv 6) pa_nil))))))
    (pss_one (ps_ret (pe_lst (pa_cons pe_int (pa_cons (pv 8) pa_nil))))))))))
def sp_Liking_predict (K : PySem.W.Frag) : Sp := fun vs H Q _ => ∃ (a dx : Addr) (A : MA) (m : Kp429.Model) (u i : Nat), vs = [.ref a, .int (u : Int), .int (i : Int)] ∧ LkAt K H a dx A m ∧ RetC K a dx A H m (.predict u i) Q
theorem len_Liking_predict (h : sp_Liking_predict K vs H Q E) : vs.length = (["self", "user", "item"] : List Str).length := by
  obtain ⟨_, _, _, _, _, _, rfl, _⟩ := h
  rfl
def t_Liking_predict (K : PySem.W.Frag) : TS :=
  (tRet (tIf (tB (tMeth (He.ga K "Liking") "are_both" (sp_Liking_are_both K) [] E0 (tVar 0) (tCons (tVar 1) (tCons (tVar 2) tNil)))) (tLst (tCons (tC (.int 0)) (tCons (tMeth (He.ga K "Model") "prediction" (sp_Model_prediction K) [] E0 (tFld K (tVar 0) "model") (tCons (tVar 1) (tCons (tVar 2) tNil))) tNil))) (tLst (tCons (tC (.int (-2))) tNil))))
theorem pure_Liking_predict (T : Txt K mg) (h : sp_Liking_predict K vs H Q E) : t_Liking_predict K { nx := fun _ H' => Q .non H', rt := Q } (start N_Liking_predict vs) H := by
  obtain ⟨a, dx, A, m, u, i, rfl, h, k⟩ := h
  refine s_retIf (et_B (ev_are_both (ev_var rfl) h (ev_var rfl) (ev_var rfl))) (fun hb H1 e1 => ?_) (fun hb H1 e1 => ?_)
  · have h1 := h.ex e1
    obtain ⟨hu, hi⟩ := Bool.and_eq_true_iff.mp hb
    refine s_retL (xs := ([(0 : Int), Kp429.predict m.parameters u i]).map V.int) (el_lst (ea_cons ev_c (ea_cons (ev_prediction (A := A) (p := m.parameters) (ev_model T (ev_var rfl) h1) h1.mod.prm (ev_var rfl) (ev_var rfl) (h.mod.1.p.both h.mod.1.l.vs (of_decide_eq_true hu) (of_decide_eq_true hi))) ea_nil)) (by simp)) fun q H2 _ e2 h2 => ?_
    refine ret_ex h (k.to (m' := m) (n := 0) (ns := [Kp429.predict m.parameters u i]) ?_) (e1.trans e2) h2
    simp only [Kp429.step, if_pos hb]
  · refine s_retC h (k.to (m' := m) (n := -2) (ns := []) ?_) e1 rfl
    simp only [Kp429.step, if_neg (show ¬ (Kp429.hasUser m u && Kp429.hasItem m i) = true by rw [hb]; decide), Kp429.single]
theorem ok_Liking_predict (T : Txt K mg) : Has P w K mg base 4 d_Liking_predict.at_ ["self", "user", "item"] (sp_Liking_predict K) := by
  refine Has.of (d := d_Liking_predict) T 60 rfl ⟨rfl, rfl⟩ sc_Liking_predict (fun _ _ _ _ _ _ us hl => match us, hl with | [_, _, _], _ => rfl) (fun vs H Q E h => len_Liking_predict h) fun cdv A outer s H vs Q E hr h => ⟨t_Liking_predict K, ?_, pure_Liking_predict T h⟩
  exact (pss_one (ps_ret (pe_ifExp (pt_val (pe_methH (pv 0) T.c_Liking T.m_Liking_are_both (ok_Liking_are_both T) (hr.mono (by decide)) (pa_cons (pv 1) (pa_cons (pv 2) pa_nil)))) (pe_lst (pa_cons pe_int (pa_cons (pe_methH (pe_fld (pv 0) rfl) T.c_Model T.m_Model_prediction (ok_Model_prediction T) (hr.mono (by decide)) (pa_cons (pv 1) (pa_cons (pv 2) pa_nil))) pa_nil))) (pe_lst (pa_cons (pe_gint rfl T.i_NOT_THERE) pa_nil)))))
end
end Gs
namespace Gs
open PySem PySem.Spec PyProof.Rows L2 Evl LamX
section
open Kp429 (Rating Settings Parameters Coordinate)
variable {P : Program} {w : World} {K : PySem.W.Frag} {mg : Str → Option Value} {base : Heap} {vs : List V} {H H' H1 H2 H3 : Hp} {Q : VK} {E : XK} {A A' A2 : MA} {p p' : Parameters} {σ : L2.St} {ta tk tn tq td ty tv tb te tx : TE} {s : Settings} {m m' m2 : Kp429.Model} {a dx : Addr}
/-- [len(x)] + x, x a known list -/
theorem s_retLen {D : Ends} {b : Addr} {xs : List V} (ha : Ev ta σ H (.ref b)) (h : H b = some (.lst xs)) (hl : xs.length ≤ 1000) (k : ∀ q H1, H q = none → Ex H H1 → H1 q = some (.lst ([.int (xs.length : Int)] ++ xs)) → D.rt (.ref q) H1) :
    tRet (tOp rCat (tLst (tCons (tCB (rLenQ K) (tCons ta tNil)) tNil)) ta) D σ H :=
  s_retL (el_catR (el_lst (ea_cons (ev_lenL ha (sq_of h)) ea_nil) (by simp)) ha h (by simp; omega)) k
def sp_Liking_explain (K : PySem.W.Frag) : Sp := fun vs H Q _ => ∃ (a dx : Addr) (A : MA) (m : Kp429.Model) (u i : Nat), vs = [.ref a, .int (u : Int), .int (i : Int)] ∧ LkAt K H a dx A m ∧ RetC K a dx A H m (.explain u i) Q
theorem len_Liking_explain (h : sp_Liking_explain K vs H Q E) : vs.length = (["self", "user", "item"] : List Str).length := by
  obtain ⟨_, _, _, _, _, _, rfl, _⟩ := h
  rfl
def t_Liking_explain (K : PySem.W.Frag) : TS :=
  (tSeq (tIfS (tNot (tB (tMeth (He.ga K "Liking") "are_both" (sp_Liking_are_both K) [] E0 (tVar 0) (tCons (tVar 1) (tCons (tVar 2) tNil))))) (tRet (tLst (tCons (tC (.int (-2))) tNil))) tNext)
    (tSeq (tPar 3 4 (tCons (tOp (rIxL K) (tOp (rIxL K) (tFld K (tFld K (tVar 0) "model") "rows") (tC (.int 0))) (tVar 1)) (tCons (tOp (rIxL K) (tOp (rIxL K) (tFld K (tFld K (tVar 0) "model") "rows") (tC (.int 1))) (tVar 2)) tNil)))
    (tSeq (tAsg (tOp rCat (tLst (tCons (tFld K (tFld K (tVar 0) "model") "base") (tCons (tOp (rIxL K) (tVar 3) (tC (.int 0))) (tCons (tOp (rIxL K) (tVar 4) (tC (.int 0))) tNil)))) (tLc (iZip K (tCons (tSl (rSlL K) (tVar 3) (tPart (tC (.int 1))) tNoPart) (tCons (tSl (rSlL K) (tVar 4) (tPart (tC (.int 1))) tNoPart) tNil))) (gTup K 2 (gCons (gName 6) (gCons (gName 7) gNil))) tYes (tOp rMulI (tVar 6) (tVar 7)) [6, 7])) (gName 5))
    (tRet (tOp rCat (tLst (tCons (tCB (rLenQ K) (tCons (tVar 5) tNil)) tNil)) (tVar 5))))))
theorem el_products {v0 v1 v2 v3 v4 v5 v6 v7 : Option V} {b c : Addr} {xs ys : List Int} (hb : v3 = some (.ref b)) (hc : v4 = some (.ref c)) (h1 : H b = some (.lst (xs.map V.int))) (h2 : H c = some (.lst (ys.map V.int))) (hl : xs.length ≤ 100) (hs : ∀ x ∈ xs, Sm x) :
    EvL (tLc (iZip K (tCons (tSl (rSlL K) (tVar 3) (tPart (tC (.int 1))) tNoPart) (tCons (tSl (rSlL K) (tVar 4) (tPart (tC (.int 1))) tNoPart) tNil))) (gTup K 2 (gCons (gName 6) (gCons (gName 7) gNil))) tYes (tOp rMulI (tVar 6) (tVar 7)) [6, 7]) [v0, v1, v2, v3, v4, v5, v6, v7] H ((Kp429.products xs ys).map V.int) := by
  subst hb hc
  intro H1 e1 Q1 q1
  refine el_sl (ev_var rfl) (eo_some ev_c) eo_none (sq_of h1) H1 e1 _ fun p H2 hp e2 h2' => ?_
  refine el_sl (ev_var rfl) (eo_some ev_c) eo_none (sq_of h2) H2 (e1.trans e2) _ fun p' H3 hp' e3 h3' => ?_
  rw [cut1, tail_drop] at h2' h3'
  refine ⟨p, p', _, _, rfl, sq_of (e3 p _ h2'), sq_of h3', ?_⟩
  refine lc_vals (walk_zip rfl) ?_ (fun H4 e4 => ⟨sq_of (e4 p _ (e3 p _ h2')), sq_of (e4 p' _ h3')⟩) ((Kp429.products xs ys).map V.int) ?_ ?_ (fun Dl H4 hD e4 h4 => q1 Dl H4 (fresh_back (e2.trans e3) hD) ((e2.trans e3).trans e4) h4)
  · rw [List.length_map, List.length_map, List.length_tail]
    omega
  · simp [Kp429.products]
  · intro i x z H4 H5 K1 hi hz e4 y k1
    obtain ⟨Tp, x1, y1, rfl, hT, rfl, hx, hy⟩ := y
    have hx : (xs.tail.map V.int)[i]? = some x1 := hx
    have hy : (ys.tail.map V.int)[i]? = some y1 := hy
    rw [List.getElem?_map, Option.map_eq_some_iff] at hx hy
    obtain ⟨u, hu, rfl⟩ := hx
    obtain ⟨v, hv, rfl⟩ := hy
    have hm : u ∈ xs := List.mem_of_mem_tail (List.mem_of_getElem? hu)
    have ez : z = .int (u * v) := by
      rw [List.getElem?_map, Kp429.products, List.getElem?_map, (List.getElem?_zip_eq_some (z := (u, v))).mpr ⟨hu, hv⟩] at hz
      exact (Option.some.inj hz).symm
    subst ez
    refine ⟨_, _, rfl, sq_tup upd_same, rfl, _, _, rfl, _, _, rfl, rfl, rfl, ?_⟩
    exact ev_mul (ev_var rfl) (ev_var rfl) (hs u hm).mulL _ (Ex.refl _) _ fun H6 e6 => k1 H6 ((Ex.new hT).trans e6)
theorem products_len {a b : List Int} (ha : RowOk s a) (hb : RowOk s b) : (Kp429.products a b).length = s.factors := by
  unfold Kp429.products
  rw [List.length_map, List.length_zip, List.length_tail, List.length_tail, ha.1, hb.1]
  omega
theorem pure_Liking_explain (T : Txt K mg) (h : sp_Liking_explain K vs H Q E) : t_Liking_explain K { nx := fun _ H' => Q .non H', rt := Q } (start N_Liking_explain vs) H := by
  obtain ⟨a, dx, A, m, u, i, rfl, h, k⟩ := h
  have ho := h.mod.1
  have hv := (valid_iff m.settings).mp ho.l.vs
  refine q_when (et_not (et_B (ev_are_both (ev_var rfl) h (ev_var rfl) (ev_var rfl)))) (fun hb H1 e1 => ?_) (fun hb H1 e1 => ?_)
  · have hb : (Kp429.hasUser m u && Kp429.hasItem m i) = false := by rw [Bool.not_eq_true'] at hb; exact hb
    exact s_retC h (k.to (m' := m) (n := -2) (ns := []) (by simp only [Kp429.step, if_neg (show ¬ (Kp429.hasUser m u && Kp429.hasItem m i) = true by rw [hb]; decide), Kp429.single])) e1 rfl
  have hb : (Kp429.hasUser m u && Kp429.hasItem m i) = true := by simpa using hb
  obtain ⟨hu, hi⟩ := Bool.and_eq_true_iff.mp hb
  have h1 := h.ex e1
  obtain ⟨w0, hw0, hx0, hr0⟩ := rowAddr (k := 0) h1.mod.prm ho.p (of_decide_eq_true hu)
  obtain ⟨w1, hw1, hx1, hr1⟩ := rowAddr (k := 1) h1.mod.prm ho.p (of_decide_eq_true hi)
  refine q_par (ev_row (A := A) (p := m.parameters) T (k := 0) (n := u) (ev_model T (ev_var rfl) h1) h1.mod.prm ev_c (Nat.zero_le _) (ev_var rfl) hw0) (ev_row (A := A) (p := m.parameters) T (k := 1) (n := i) (ev_model T (ev_var rfl) h1) h1.mod.prm ev_c (Nat.le_refl _) (ev_var rfl) hw1) fun H2 e2 => ?_
  have h2 := h1.ex e2
  have g0 := hr0.good ho.l.vs
  have g1 := hr1.good ho.l.vs
  have lp := products_len hr0 hr1
  refine q_asgL (xs := ([m.parameters.base, Kp429.place (Kp429.rowOf m.parameters 0 u) 0, Kp429.place (Kp429.rowOf m.parameters 1 i) 0]).map V.int ++ (Kp429.products (Kp429.rowOf m.parameters 0 u) (Kp429.rowOf m.parameters 1 i)).map V.int)
    (el_cat (el_lst (ea_cons (ev_base T (A := A) (p := m.parameters) (ev_model T (ev_var rfl) h2) h2.mod.prm) (ea_cons (ev_ixL (j := 0) (ev_var rfl) ev_c (sq_of (e2 _ _ hx0)) g0.at0) (ea_cons (ev_ixL (j := 0) (ev_var rfl) ev_c (sq_of (e2 _ _ hx1)) g1.at0) ea_nil))) (by simp)) (el_products rfl rfl (e2 _ _ hx0) (e2 _ _ hx1) g0.2.1 g0.2.2) (by simp; omega)) fun f H3 hf e3 h3 => ?_
  refine s_retLen (ev_var rfl) h3 (by simp; omega) fun q H4 _ e4 h4 => ?_
  refine ret_ex h (k.to (m' := m) (n := ((m.settings.factors + 3 : Nat) : Int)) (ns := [m.parameters.base, Kp429.place (Kp429.rowOf m.parameters 0 u) 0, Kp429.place (Kp429.rowOf m.parameters 1 i) 0] ++ Kp429.products (Kp429.rowOf m.parameters 0 u) (Kp429.rowOf m.parameters 1 i)) ?_) (((e1.trans e2).trans e3).trans e4) ?_
  · simp only [Kp429.step, if_pos hb]
  · rw [h4, List.length_append, List.length_map, List.length_map, lp, show ([m.parameters.base, Kp429.place (Kp429.rowOf m.parameters 0 u) 0, Kp429.place (Kp429.rowOf m.parameters 1 i) 0].length + m.settings.factors) = m.settings.factors + 3 from Nat.add_comm 3 _, ← List.map_append]
    rfl
theorem ok_Liking_explain (T : Txt K mg) : Has P w K mg base 3 d_Liking_explain.at_ ["self", "user", "item"] (sp_Liking_explain K) := by
  refine Has.of (d := d_Liking_explain) T 61 rfl ⟨rfl, rfl⟩ sc_Liking_explain (fun _ _ _ _ _ _ us hl => match us, hl with | [_, _, _], _ => rfl) (fun vs H Q E h => len_Liking_explain h) fun cdv A outer s H vs Q E hr h => ⟨t_Liking_explain K, ?_, pure_Liking_explain T h⟩
  exact (pss_cons (ps_if (pt_not (pt_val (pe_methH (pv 0) T.c_Liking T.m_Liking_are_both (ok_Liking_are_both T) (hr.mono (by decide)) (pa_cons (pv 1) (pa_cons (pv 2) pa_nil))))) (pss_one (ps_ret (pe_lst (pa_cons (pe_gint rfl T.i_NOT_THERE) pa_nil)))) pss_nil)
    (pss_cons (ps_par (by rfl) sc_Liking_explain.nd rfl rfl (by decide) rfl rfl (pa_cons (pe_ix ix_list (pe_ix ix_list (pe_fld (pe_fld (pv 0) rfl) rfl) pe_int (fun _ _ => rfl)) (pv 1) (fun _ _ => rfl)) (pa_cons (pe_ix ix_list (pe_ix ix_list (pe_fld (pe_fld (pv 0) rfl) rfl) pe_int (fun _ _ => rfl)) (pv 2) (fun _ _ => rfl)) pa_nil)) (by rfl))
    (pss_cons (ps_set (i := 5) sc_Liking_explain.nd rfl (Or.inl rfl) (pe_op op_cat (pe_lst (pa_cons (pe_fld (pe_fld (pv 0) rfl) rfl) (pa_cons (pe_ix ix_list (pv 3) pe_int (fun _ _ => rfl)) (pa_cons (pe_ix ix_list (pv 4) pe_int (fun _ _ => rfl)) pa_nil)))) (pe_lc (own := [("a", 6), ("b", 7)]) (g := (gTup K 2 (gCons (gName 6) (gCons (gName 7) gNil)))) (tt := tYes) rfl sc_Liking_explain.nd (pi_zip rfl T.f_zip (pa_cons (pe_slice sl_list (pv 3) (po_some pe_int) po_none) (pa_cons (pe_slice sl_list (pv 4) (po_some pe_int) po_none) pa_nil))) (blkOk_by (own := [("a", 6), ("b", 7)]) (N := N_Liking_explain) (sc := defScope s_Liking_explain) (by decide +kernel)) (fun _ _ _ _ _ => (pg_tup rfl (pgs_cons (pg_name (i := 6) sc_Liking_explain.nd rfl (Or.inl rfl)) (pgs_cons (pg_name (i := 7) sc_Liking_explain.nd rfl (Or.inl rfl)) pgs_nil)))) (fun _ _ _ _ _ => pts_nil) (fun _ _ _ _ _ => (pe_op op_mul (pv 6) (pv 7))))))
    (pss_one (ps_ret (pe_op op_cat (pe_lst (pa_cons (pe_callB cl_len (by rfl) T.f_len (by decide +kernel) (pa_cons (pv 5) pa_nil)) pa_nil)) (pv 5)))))))
/-! ### residuals -/
def sp_Liking_residuals (K : PySem.W.Frag) : Sp := fun vs H Q _ => ∃ (a dx : Addr) (A : MA) (m : Kp429.Model) (u : Nat), vs = [.ref a, .int (u : Int)] ∧ LkAt K H a dx A m ∧ RetC K a dx A H m (.residuals u) Q
theorem len_Liking_residuals (h : sp_Liking_residuals K vs H Q E) : vs.length = (["self", "user"] : List Str).length := by
  obtain ⟨_, _, _, _, _, rfl, _⟩ := h
  rfl
def t_Liking_residuals (K : PySem.W.Frag) : TS :=
  (tSeq (tIfS (tNot (tB (tMeth (He.ga K "Liking") "is_user" (sp_Liking_is_user K) [] E0 (tVar 0) (tCons (tVar 1) tNil)))) (tRet (tLst (tCons (tC (.int (-2))) tNil))) tNext)
    (tSeq (tAsg (tMeth (He.ga K "Model") "cells" (sp_Model_cells K) [] E0 (tFld K (tVar 0) "model") (tCons (tC (.int 0)) (tCons (tVar 1) tNil))) (gName 2))
    (tRet (tOp rCat (tLst (tCons (tCB (rLenQ K) (tCons (tVar 2) tNil)) tNil)) (tCall (sp_flat K) [] E0 (tCons (tLc (iList K (tVar 2)) (gName 3) tYes (tTup (tCons (tOp (rIxT K) (tVar 3) (tC (.int 1))) (tCons (tDGet (tFld K (tFld K (tVar 0) "model") "rests") (tVar 3)) tNil))) [3]) tNil))))))
theorem q_asgTs {D : Ends} {tz : TS} {i : Nat} {zs : List (List V)} (h : EvTs te σ H zs) (k : ∀ q ts H1, H q = none → Ex H H1 → H1 q = some (.lst (ts.map V.ref)) → TupsAt H1 ts zs → tz D (σ.set i (some (.ref q))) H1) : tSeq (tAsg te (gName i)) tz D σ H := h H (Ex.refl H) _ k
theorem el_flatTs {ps : List (Int × Int)} (h : EvTs te σ H (ps.map fun p => [.int p.1, .int p.2])) (hl : ps.length ≤ 100) : EvL (tCall (sp_flat K) [] E0 (tCons te tNil)) σ H ((flatL ps).map V.int) := fun H1 e Q q =>
  h H1 e _ fun c ts H2 hc e2 h2 ht => ⟨c, ts, ps, rfl, h2, by
    have := TupsAt.prs (l := ps) (f := fun p => p.1) (g := fun p => p.2) ht
    rw [List.map_id'] at this
    exact this, hl, fun r H3 hr e3 h3 => q r H3 (fresh_back e2 hr) (e2.trans e3) h3⟩
theorem ev_dgetTR {b c : Addr} {kvs : List (List Key × V)} {k : List Key} {v : V} (hd : Ev td σ H (.ref b)) (hk : Ev ty σ H (.ref c)) (hc : H c = some (.tup (k.map kV))) (h : H b = some (.dT kvs)) (hv : valV kvs k = some v) : Ev (tDGet td ty) σ H v := fun H1 e Q q =>
  hd H1 e _ fun H2 e2 => hk H2 (e.trans e2) _ fun H3 e3 => ⟨b, v, rfl, .inr ⟨kvs, k, c, .inl (((e.trans e2).trans e3) _ _ h), rfl, ((e.trans e2).trans e3) _ _ hc, hv.symm⟩, q H3 (e2.trans e3)⟩
theorem flat_is (l : List Rating) (f : Rating → Int) : flatL (l.map fun r => ((r.item : Int), f r)) = l.flatMap fun r => [(r.item : Int), f r] := by
  unfold flatL
  rw [List.flatMap_map]
theorem pure_Liking_residuals (T : Txt K mg) (h : sp_Liking_residuals K vs H Q E) : t_Liking_residuals K { nx := fun _ H' => Q .non H', rt := Q } (start N_Liking_residuals vs) H := by
  obtain ⟨a, dx, A, m, u, rfl, h, k⟩ := h
  have ho := h.mod.1
  refine q_when (et_not (et_B (ev_is_user (ev_var rfl) h (ev_var rfl)))) (fun hb H1 e1 => ?_) (fun hb H1 e1 => ?_)
  · have hb : Kp429.hasUser m u = false := by simpa using hb
    exact s_retC h (k.to (m' := m) (n := -2) (ns := []) (by simp only [Kp429.step, if_neg (show ¬ Kp429.hasUser m u = true by rw [hb]; decide), Kp429.single])) e1 rfl
  have hb : Kp429.hasUser m u = true := by simpa using hb
  have hu : u < Kp429.sizeOf m.settings 0 := of_decide_eq_true hb
  have h1 := h.ex e1
  obtain ⟨_, rat, rtr, rst, hL, hR, hS⟩ := id h1.mod
  have l8 := ho.l.ofK_len 0 u
  refine q_asgTs (et_cells (A := A) (kd := 0) (n := u) (ev_model T (ev_var rfl) h1) hL hR ho.l ev_c (ev_var rfl) (Nat.zero_le _) hu) fun c ts H2 hc e2 h2 ht => ?_
  have hL2 := hL.ex e2
  have h2' := h1.ex e2
  have lts : ts.length = (ofK m.ratings 0 u).length := by rw [paired_len ht, List.length_map]
  refine s_retL (xs := [.int ((ofK m.ratings 0 u).length : Int)] ++ (flatL ((ofK m.ratings 0 u).map fun r => ((r.item : Int), Kp429.residual m.parameters r))).map V.int) (el_cat (el_lst (ea_cons (ev_is (ev_lenL (ev_var rfl) (sq_of h2)) (by rw [List.length_map, lts])) ea_nil) (by simp)) (el_flatTs ?_ (by rw [List.length_map]; omega)) (by rw [List.length_map, flatL_len, List.length_map]; simp; omega)) fun q H3 hq e3 h3 => ?_
  · intro H3 e3 Q3 q3
    refine run_lcL (ev_var rfl) (sq_of (e3 _ _ h2)) fun H4 e4 => ?_
    have e34 := e3.trans e4
    refine lc_tups (walk_list (xs := ts.map V.ref)) (by rw [List.length_map]; omega) (fun H5 e5 => sq_of (e5 _ _ (e34 _ _ h2))) (((ofK m.ratings 0 u).map fun r => ((r.item : Int), Kp429.residual m.parameters r)).map fun p => [.int p.1, .int p.2]) (by rw [List.length_map, List.length_map, List.length_map, lts]) ?_ (fun Dl us H5 hD e5 h5 hu5 => q3 Dl us H5 (fresh_back e4 hD) (e4.trans e5) h5 hu5)
    intro i v z H5 H6 K1 hi hz e5 y k1
    obtain ⟨rfl, hy⟩ := y
    rw [List.getElem?_map] at hy
    obtain ⟨t, htt, rfl⟩ := Option.map_eq_some_iff.mp hy
    obtain ⟨z', hz', htz⟩ := paired_at ht htt
    rw [List.getElem?_map] at hz'
    obtain ⟨r, hr, rfl⟩ := Option.map_eq_some_iff.mp hz'
    rw [List.getElem?_map, List.getElem?_map, hr] at hz
    cases hz
    have ex := e34.trans e5
    have hrl := (mem_ofK.mp (List.mem_of_getElem? hr)).1
    refine ⟨rfl, ?_⟩
    exact run_eu (eu_tup (ea_cons (ev_ixT (j := 1) (ev_var rfl) ev_c (st_of (ex _ _ htz)) rfl) (ea_cons (ev_dgetTR (k := keyR r) (ev_rests T (A := A) (p := m.parameters) (ev_model T (ev_var rfl) (h2'.ex ex)) (hL2.ex ex).prm) (ev_var rfl) (ex _ _ htz) (hL2.ex ex).rs (DictOf.get hS (keyR_nodup ho.l.so) hrl)) ea_nil)) (by simp)) fun t2 H7 _ e7 h7 => k1 t2 H7 e7 h7
  · refine ret_ex h (k.to (m' := m) (n := ((ofK m.ratings 0 u).length : Int)) (ns := (ofK m.ratings 0 u).flatMap fun r => [(r.item : Int), Kp429.residual m.parameters r]) ?_) ((e1.trans e2).trans e3) ?_
    · simp only [Kp429.step, if_pos hb]
      rfl
    · rw [h3, flat_is]
      rfl
theorem ok_Liking_residuals (T : Txt K mg) : Has P w K mg base 2 d_Liking_residuals.at_ ["self", "user"] (sp_Liking_residuals K) := by
  refine Has.of (d := d_Liking_residuals) T 62 rfl ⟨rfl, rfl⟩ sc_Liking_residuals (fun _ _ _ _ _ _ us hl => match us, hl with | [_, _], _ => rfl) (fun vs H Q E h => len_Liking_residuals h) fun cdv A outer s H vs Q E hr h => ⟨t_Liking_residuals K, ?_, pure_Liking_residuals T h⟩
  exact (pss_cons (ps_if (pt_not (pt_val (pe_methH (pv 0) T.c_Liking T.m_Liking_is_user (ok_Liking_is_user T) (hr.mono (by decide)) (pa_cons (pv 1) pa_nil)))) (pss_one (ps_ret (pe_lst (pa_cons (pe_gint rfl T.i_NOT_THERE) pa_nil)))) pss_nil)
    (pss_cons (ps_set (i := 2) sc_Liking_residuals.nd rfl (Or.inl rfl) (pe_methH (pe_fld (pv 0) rfl) T.c_Model T.m_Model_cells (ok_Model_cells T) (hr.mono (by decide)) (pa_cons pe_int (pa_cons (pv 1) pa_nil))))
    (pss_one (ps_ret (pe_op op_cat (pe_lst (pa_cons (pe_callB cl_len (by rfl) T.f_len (by decide +kernel) (pa_cons (pv 2) pa_nil)) pa_nil)) (pe_callH (ok_flat T) (hr.mono (by decide)) rfl T.g_flat (pa_cons (pe_lc (own := [("cell", 3)]) (g := (gName 3)) (tt := tYes) rfl sc_Liking_residuals.nd (pi_list (pv 2)) (blkOk_by (own := [("cell", 3)]) (N := N_Liking_residuals) (sc := defScope s_Liking_residuals) (by decide +kernel)) (fun _ _ _ _ _ => (pg_name (i := 3) sc_Liking_residuals.nd rfl (Or.inl rfl))) (fun _ _ _ _ _ => pts_nil) (fun _ _ _ _ _ => (pe_tup (pa_cons (pe_ix ix_tup (pv 3) pe_int (fun _ _ => rfl)) (pa_cons (pe_dget (hu_of hr) (pe_fld (pe_fld (pv 0) rfl) rfl) (pv 3) (fun _ _ => rfl)) pa_nil))))) pa_nil)))))))
end
end Gs
namespace Gs
open PySem PySem.Spec PyProof.Rows L2 Evl LamX
section
open Kp429 (Rating Settings Parameters Coordinate)
variable {P : Program} {w : World} {K : PySem.W.Frag} {mg : Str → Option Value} {base : Heap} {vs : List V} {H H' H1 H2 H3 : Hp} {Q : VK} {E : XK} {A A' A2 : MA} {p p' : Parameters} {σ : L2.St} {ta tk tn tq td ty tv tb te tx : TE} {s : Settings} {m m' m2 : Kp429.Model} {a dx : Addr}
/-! ### mean error -/
theorem ev_lenDT {b : Addr} {kvs : List (List Key × V)} (ha : Ev ta σ H (.ref b)) (h : H b = some (.dT kvs)) : Ev (tCB rLenT (tCons ta tNil)) σ H (.int ((kvs.length : Nat) : Int)) := ev_cb (ea_cons ha ea_nil) fun H1 e Q q => ⟨b, kvs, rfl, e _ _ h, q H1 (Ex.refl H1)⟩
theorem el_lowest {t1 t2 : TE} {x y : Nat} (h1 : Ev t1 σ H (.int (x : Int))) (h2 : Ev t2 σ H (.int (y : Int))) (hy : 0 < y) (bx : x < 2 ^ 200) (b_y : y < 2 ^ 200) :
    EvL (tCall (sp_lowest_terms K) [] E0 (tCons t1 (tCons t2 tNil))) σ H [.int ((x : Int) / (Nat.gcd x y : Nat)), .int ((y : Int) / (Nat.gcd x y : Nat))] :=
  el_call (ea_cons h1 (ea_cons h2 ea_nil)) fun H1 e Q q E => ⟨x, y, rfl, hy, bx, b_y, q⟩
theorem sq_sm {x : Int} (h : Sm x) : 0 ≤ x * x ∧ x * x ≤ 1208925819614629174706176 := by
  obtain ⟨h1, h2⟩ := h
  have e : x * x = ((x.natAbs * x.natAbs : Nat) : Int) := by rw [Int.natCast_mul, Int.natAbs_mul_self']
  have hb : x.natAbs ≤ 1099511627776 := by omega
  have h3 : x.natAbs * x.natAbs ≤ 1099511627776 * 1099511627776 := Nat.mul_le_mul hb hb
  rw [e]
  exact ⟨Int.natCast_nonneg _, by
    have : ((x.natAbs * x.natAbs : Nat) : Int) ≤ ((1099511627776 * 1099511627776 : Nat) : Int) := Int.ofNat_le.mpr h3
    exact this⟩
theorem error_bnd (ho : Ok m) : 0 ≤ Kp429.errorPart m m.parameters ∧ Kp429.errorPart m m.parameters ≤ 64 * 1208925819614629174706176 := by
  have b := sum_le (fun r => Kp429.residual m.parameters r * Kp429.residual m.parameters r) 1208925819614629174706176 m.ratings fun r hr => sq_sm (residual_bnd ho.l ho.p hr)
  have l := ho.l.len
  have h : (m.ratings.length : Int) * 1208925819614629174706176 ≤ 64 * 1208925819614629174706176 := by omega
  exact ⟨b.1, Int.le_trans b.2 h⟩
def sp_Liking_mean_error (K : PySem.W.Frag) : Sp := fun vs H Q _ => ∃ (a dx : Addr) (A : MA) (m : Kp429.Model), vs = [.ref a] ∧ LkAt K H a dx A m ∧ RetC K a dx A H m .meanError Q
theorem len_Liking_mean_error (h : sp_Liking_mean_error K vs H Q E) : vs.length = (["self"] : List Str).length := by
  obtain ⟨_, _, _, _, rfl, _⟩ := h
  rfl
def t_Liking_mean_error (K : PySem.W.Frag) : TS :=
  (tSeq (tAsg (tCB rLenT (tCons (tFld K (tFld K (tVar 0) "model") "rests") tNil)) (gName 1))
    (tSeq (tIfS (tTest (tOp rEq (tVar 1) (tC (.int 0)))) (tRet (tLst (tCons (tC (.int (-33))) tNil))) tNext)
    (tRet (tOp rCat (tLst (tCons (tC (.int 0)) tNil)) (tCall (sp_lowest_terms K) [] E0 (tCons (tMeth (He.ga K "Model") "error_part" (sp_Model_error_part K) [] E0 (tFld K (tVar 0) "model") tNil) (tCons (tOp rMulI (tOp rMulI (tVar 1) (tC (.int 65536))) (tC (.int 65536))) tNil)))))))
theorem pure_Liking_mean_error (T : Txt K mg) (h : sp_Liking_mean_error K vs H Q E) : t_Liking_mean_error K { nx := fun _ H' => Q .non H', rt := Q } (start N_Liking_mean_error vs) H := by
  obtain ⟨a, dx, A, m, rfl, h, k⟩ := h
  have ho := h.mod.1
  obtain ⟨_, rat, rtr, rst, hL, hR, hS⟩ := id h.mod
  have lr : rst.length = m.ratings.length := DictOf.len hS
  refine q_asg (v := .int (m.ratings.length : Int)) (ev_is (ev_lenDT (ev_rests T (A := A) (p := m.parameters) (ev_model T (ev_var rfl) h) hL.prm) hL.rs) (by rw [lr])) fun H1 e1 => ?_
  have h1 := h.ex e1
  refine q_when (et_test (ev_eqi (ev_var rfl) ev_c)) (fun hb H2 e2 => ?_) (fun hb H2 e2 => ?_)
  · have c : m.ratings.isEmpty = true := by
      have := of_decide_eq_true hb
      rw [List.isEmpty_iff_length_eq_zero]
      omega
    exact s_retC h (k.to (m' := m) (n := -33) (ns := []) (by simp only [Kp429.step, if_pos c, Kp429.single])) (e1.trans e2) rfl
  have l0 : 0 < m.ratings.length := by have := of_decide_eq_false hb; omega
  have c : ¬ m.ratings.isEmpty = true := by
    rw [List.isEmpty_iff_length_eq_zero]
    omega
  have h2 := h1.ex e2
  have l64 := ho.l.len
  obtain ⟨b0, b1⟩ := error_bnd ho
  obtain ⟨x, hx⟩ := Int.eq_ofNat_of_zero_le b0
  have hx2 : x < 2 ^ 200 := by
    rw [hx] at b1
    have : x ≤ 64 * 1208925819614629174706176 := by exact Int.ofNat_le.mp b1
    exact Nat.lt_of_le_of_lt this (by decide)
  have hy2 : m.ratings.length * 4294967296 < 2 ^ 200 := Nat.lt_of_le_of_lt (Nat.mul_le_mul_right _ l64) (by decide)
  refine s_retL (el_cat (el_lst (ea_cons ev_c ea_nil) (by simp)) (el_lowest (x := x) (y := m.ratings.length * 4294967296) (ev_is (ev_error_part (A := A) (m := m) (ev_model T (ev_var rfl) h2) h2.mod) (by rw [hx])) (ev_is (ev_mul (ev_mul (ev_var rfl) ev_c (.inr ⟨by decide, by decide⟩)) ev_c (.inr ⟨by decide, by decide⟩)) ?_) (by omega) hx2 hy2) (by simp)) fun q H3 _ e3 h3 => ?_
  · rw [show (m.ratings.length : Int) * 65536 * 65536 = ((m.ratings.length * 4294967296 : Nat) : Int) by omega]
  · refine ret_ex h (k.to (m' := m) (n := 0) (ns := [Kp429.errorPart m m.parameters / ((Nat.gcd (Kp429.errorPart m m.parameters).natAbs (m.ratings.length * 4294967296) : Nat) : Int), ((m.ratings.length * 4294967296 / Nat.gcd (Kp429.errorPart m m.parameters).natAbs (m.ratings.length * 4294967296) : Nat) : Int)]) ?_) ((e1.trans e2).trans e3) ?_
    · simp only [Kp429.step, if_neg c]
    · have e1 : (Kp429.errorPart m m.parameters).natAbs = x := by rw [hx]; exact Int.natAbs_natCast x
      rw [h3, e1, hx, Int.natCast_ediv]
      simp only [List.map_cons, List.map_nil, List.cons_append, List.nil_append]
theorem ok_Liking_mean_error (T : Txt K mg) : Has P w K mg base 2 d_Liking_mean_error.at_ ["self"] (sp_Liking_mean_error K) := by
  refine Has.of (d := d_Liking_mean_error) T 63 rfl ⟨rfl, rfl⟩ sc_Liking_mean_error (fun _ _ _ _ _ _ us hl => match us, hl with | [_], _ => rfl) (fun vs H Q E h => len_Liking_mean_error h) fun cdv A outer s H vs Q E hr h => ⟨t_Liking_mean_error K, ?_, pure_Liking_mean_error T h⟩
  exact (pss_cons (ps_set (i := 1) sc_Liking_mean_error.nd rfl (Or.inl rfl) (pe_callB call_len_dT (by rfl) T.f_len (by decide +kernel) (pa_cons (pe_fld (pe_fld (pv 0) rfl) rfl) pa_nil)))
    (pss_cons (ps_if (pt_cmpR op_eq (pv 1) pe_int (nomark _)) (pss_one (ps_ret (pe_lst (pa_cons (pe_gint rfl T.i_NO_RATING) pa_nil)))) pss_nil)
    (pss_one (ps_ret (pe_op op_cat (pe_lst (pa_cons pe_int pa_nil)) (pe_callH (ok_lowest_terms T) (hr.mono (by decide)) rfl T.g_lowest_terms (pa_cons (pe_methH0 (pe_fld (pv 0) rfl) T.c_Model T.m_Model_error_part (ok_Model_error_part T) (hr.mono (by decide))) (pa_cons (pe_op op_mul (pe_op op_mul (pv 1) (pe_gint rfl T.i_UNIT)) (pe_gint rfl T.i_UNIT)) pa_nil))))))))
/-! ### similar rows -/
def mkTr (N : Int) (t : Tr) : Nat × Kp429.Similarity := (t.1, ⟨t.2.1, N * t.2.2⟩)
theorem more_is {N : Int} (hN : 0 < N) (x y : Tr) : Kp429.isMoreSimilar (mkTr N x).2 (mkTr N y).2 = closer x y := by
  unfold Kp429.isMoreSimilar closer mkTr
  dsimp only
  have e1 : y.2.1 * y.2.1 * (N * x.2.2) = N * (y.2.1 * y.2.1 * x.2.2) := by rw [← Int.mul_assoc, Int.mul_comm (y.2.1 * y.2.1) N, Int.mul_assoc]
  have e2 : x.2.1 * x.2.1 * (N * y.2.2) = N * (x.2.1 * x.2.1 * y.2.2) := by rw [← Int.mul_assoc, Int.mul_comm (x.2.1 * x.2.1) N, Int.mul_assoc]
  rw [e1, e2]
  by_cases h : y.2.1 * y.2.1 * x.2.2 < x.2.1 * x.2.1 * y.2.2
  · rw [decide_eq_true h, decide_eq_true (Int.mul_lt_mul_of_pos_left h hN)]
  · rw [decide_eq_false h, decide_eq_false (fun q => h (Int.lt_of_mul_lt_mul_left q (Int.le_of_lt hN)))]
theorem insS_is {N : Int} (hN : 0 < N) (x : Tr) : ∀ l : List Tr, Kp429.insertSimilar (mkTr N x) (l.map (mkTr N)) = (insC x l).map (mkTr N)
  | [] => rfl
  | y :: l => by
    rw [List.map_cons]
    unfold Kp429.insertSimilar insC
    rw [more_is hN]
    by_cases h : closer x y = true
    · rw [if_pos h, if_pos h]
      rfl
    · rw [if_neg h, if_neg h, insS_is hN x l]
      rfl
theorem foldS_is {N : Int} (hN : 0 < N) : ∀ (l a : List Tr), (l.map (mkTr N)).foldl (fun (l : List (Nat × Kp429.Similarity)) (x : Nat × Kp429.Similarity) => Kp429.insertSimilar x l) (a.map (mkTr N)) = (l.foldl (fun l x => insC x l) a).map (mkTr N)
  | [], a => rfl
  | x :: l, a => by
    rw [List.map_cons, List.foldl_cons, insS_is hN, foldS_is hN l, List.foldl_cons]
theorem sq_nonneg (x : Int) : 0 ≤ x * x := by
  have e : x * x = ((x.natAbs * x.natAbs : Nat) : Int) := by rw [Int.natCast_mul, Int.natAbs_mul_self']
  rw [e]
  exact Int.natCast_nonneg _
theorem squares_zero : ∀ (xs ys : List Int), (xs.map fun x => x * x).sum = 0 → ((xs.zip ys).map fun (x : Int × Int) => x.1 * x.2).sum = 0
  | [], _, _ => by simp
  | _ :: _, [], _ => by simp
  | x :: xs, y :: ys, h => by
    rw [List.map_cons, List.sum_cons] at h
    have h1 := sq_nonneg x
    have h2 : 0 ≤ (xs.map fun x => x * x).sum := by
      clear h
      induction xs with
      | nil => simp
      | cons z zs ih =>
        rw [List.map_cons, List.sum_cons]
        have := sq_nonneg z
        omega
    have hx : x * x = 0 := by omega
    have hs : (xs.map fun x => x * x).sum = 0 := by omega
    have x0 : x = 0 := by
      rcases Int.mul_eq_zero.mp hx with e | e <;> exact e
    rw [List.zip_cons_cons, List.map_cons, List.sum_cons, squares_zero xs ys hs, x0]
    simp
theorem norm_pos {xs ys : List Int} (h : 0 < (Kp429.products xs ys).sum) : 0 < (Kp429.products xs xs).sum := by
  rw [prod_self]
  have h2 : 0 ≤ (xs.tail.map fun (x : Int) => x * x).sum := by
    generalize xs.tail = t
    induction t with
    | nil => simp
    | cons z zs ih =>
      rw [List.map_cons, List.sum_cons]
      have := sq_nonneg z
      omega
  by_cases e : (xs.tail.map fun (x : Int) => x * x).sum = 0
  · have := squares_zero xs.tail ys.tail e
    unfold Kp429.products at h
    omega
  · omega
/-- the rows that are found, in order of their numbers -/
def trsTo (m : Kp429.Model) (kd n i : Nat) : List Tr := ((List.range i).filter fun x => decide (x ≠ n) && decide (0 < (Kp429.products (Kp429.rowOf m.parameters kd n) (Kp429.rowOf m.parameters kd x)).sum)).map fun x =>
  (x, (Kp429.products (Kp429.rowOf m.parameters kd n) (Kp429.rowOf m.parameters kd x)).sum, (Kp429.products (Kp429.rowOf m.parameters kd x) (Kp429.rowOf m.parameters kd x)).sum)
theorem trsTo_len (m : Kp429.Model) (kd n i : Nat) : (trsTo m kd n i).length ≤ i := by
  unfold trsTo
  rw [List.length_map]
  have := List.length_filter_le (fun x => decide (x ≠ n) && decide (0 < (Kp429.products (Kp429.rowOf m.parameters kd n) (Kp429.rowOf m.parameters kd x)).sum)) (List.range i)
  rw [List.length_range] at this
  exact this
theorem similar_is (m : Kp429.Model) (kd n : Nat) : Kp429.similar m kd n = (insAll (trsTo m kd n (Kp429.sizeOf m.settings kd))).map (·.1) := by
  have e : ((((List.range (Kp429.sizeOf m.settings kd)).filter fun x => x != n).map fun x => (x, Kp429.similarity (Kp429.rowOf m.parameters kd n) (Kp429.rowOf m.parameters kd x))).filter fun x => decide (0 < x.2.dot)) = (trsTo m kd n (Kp429.sizeOf m.settings kd)).map (mkTr (Kp429.products (Kp429.rowOf m.parameters kd n) (Kp429.rowOf m.parameters kd n)).sum) := by
    unfold trsTo
    rw [List.filter_map, List.filter_filter, List.map_map]
    have ef : ((List.range (Kp429.sizeOf m.settings kd)).filter fun x => (((fun x : Nat × Kp429.Similarity => decide (0 < x.2.dot)) ∘ fun x => (x, Kp429.similarity (Kp429.rowOf m.parameters kd n) (Kp429.rowOf m.parameters kd x))) x && (x != n))) = (List.range (Kp429.sizeOf m.settings kd)).filter fun x => decide (x ≠ n) && decide (0 < (Kp429.products (Kp429.rowOf m.parameters kd n) (Kp429.rowOf m.parameters kd x)).sum) := by
      refine List.filter_congr fun x _ => ?_
      rw [Bool.and_comm]
      congr 1
      by_cases h : x = n <;> simp [h]
    rw [ef]
    refine List.map_congr_left fun x _ => ?_
    show (x, Kp429.similarity _ _) = mkTr _ _
    unfold Kp429.similarity mkTr
    dsimp only
    rw [prod_self (Kp429.rowOf m.parameters kd n), prod_self (Kp429.rowOf m.parameters kd x)]
  unfold Kp429.similar
  rw [e]
  by_cases h : trsTo m kd n (Kp429.sizeOf m.settings kd) = []
  · rw [h]
    rfl
  · have hN : 0 < (Kp429.products (Kp429.rowOf m.parameters kd n) (Kp429.rowOf m.parameters kd n)).sum := by
      obtain ⟨t, ht⟩ := List.exists_mem_of_ne_nil _ h
      unfold trsTo at ht
      obtain ⟨x, hx, rfl⟩ := List.mem_map.mp ht
      have := (List.mem_filter.mp hx).2
      simp at this
      exact norm_pos this.2
    have f := foldS_is hN (trsTo m kd n (Kp429.sizeOf m.settings kd)) []
    rw [List.map_nil] at f
    rw [f, List.map_map]
    rfl
end
end Gs
namespace Gs
open PySem PySem.Spec PyProof.Rows L2 Evl LamX
section
open Kp429 (Rating Settings Parameters Coordinate)
variable {P : Program} {w : World} {K : PySem.W.Frag} {mg : Str → Option Value} {base : Heap} {vs : List V} {H H' H1 H2 H3 : Hp} {Q : VK} {E : XK} {A A' A2 : MA} {p p' : Parameters} {σ : L2.St} {ta tk tn tq td ty tv tb te tx : TE} {s : Settings} {m m' m2 : Kp429.Model} {a dx : Addr}
theorem q_parVL {D : Ends} {tz : TS} {i j : Nat} {x : V} {xs : List V} (ha : Ev ta σ H x) (hb : EvL tb σ H xs) (k : ∀ p H1, H p = none → Ex H H1 → H1 p = some (.lst xs) → tz D ((σ.set i (some x)).set j (some (.ref p))) H1) : tSeq (tPar i j (tCons ta (tCons tb tNil))) tz D σ H :=
  ha H (Ex.refl H) _ fun H2 e2 => hb H2 e2 _ fun p H3 hp e3 h3 => ⟨x, _, rfl, k p H3 (fresh_back e2 hp) (e2.trans e3) h3⟩
theorem el_in_order {b : Addr} {ts : List Addr} {trs : List Tr} (ha : Ev ta σ H (.ref b)) (h : H b = some (.lst (ts.map V.ref))) (ht : Tri H ts trs) (hl : trs.length ≤ 100) (hs : ∀ t ∈ trs, Sm t.2.1 ∧ Sm t.2.2) : EvL (tCall (sp_in_order K) [] E0 (tCons ta tNil)) σ H ((insAll trs).map fun t => .int (t.1 : Int)) :=
  el_call (ea_cons ha ea_nil) fun H1 e Q q E => ⟨b, ts, trs, rfl, sq_of (e _ _ h), ht.ex e, hl, hs, q⟩
theorem trsTo_yes {kd n i : Nat} (h1 : i ≠ n) (h2 : 0 < (Kp429.products (Kp429.rowOf m.parameters kd n) (Kp429.rowOf m.parameters kd i)).sum) : trsTo m kd n (i + 1) = trsTo m kd n i ++ [(i, (Kp429.products (Kp429.rowOf m.parameters kd n) (Kp429.rowOf m.parameters kd i)).sum, (Kp429.products (Kp429.rowOf m.parameters kd i) (Kp429.rowOf m.parameters kd i)).sum)] := by
  unfold trsTo
  rw [List.range_succ, List.filter_append, List.map_append, List.filter_cons, if_pos (by rw [decide_eq_true h1, decide_eq_true h2]; rfl)]
  rfl
theorem trsTo_no {kd n i : Nat} (h : ¬ (i ≠ n ∧ 0 < (Kp429.products (Kp429.rowOf m.parameters kd n) (Kp429.rowOf m.parameters kd i)).sum)) : trsTo m kd n (i + 1) = trsTo m kd n i := by
  unfold trsTo
  rw [List.range_succ, List.filter_append, List.map_append, List.filter_cons, if_neg (by rw [Bool.and_eq_true, decide_eq_true_iff, decide_eq_true_iff]; exact h)]
  simp
def sp_Liking_similar (K : PySem.W.Frag) : Sp := fun vs H Q _ => ∃ (a dx : Addr) (A : MA) (m : Kp429.Model) (kd n c : Nat), vs = [.ref a, .int (kd : Int), .int (n : Int), .int (c : Int)] ∧ LkAt K H a dx A m ∧ RetC K a dx A H m (.similar kd n c) Q
theorem len_Liking_similar (h : sp_Liking_similar K vs H Q E) : vs.length = (["self", "kind", "number", "count"] : List Str).length := by
  obtain ⟨_, _, _, _, _, _, _, rfl, _⟩ := h
  rfl
def t_Liking_similar (K : PySem.W.Frag) : TS :=
  (tSeq (tIfS (tTest (tOp rGtI (tVar 1) (tC (.int 1)))) (tRet (tLst (tCons (tC (.int (-22))) tNil))) tNext)
    (tSeq (tIfS (tTest (tOp rGeI (tVar 2) (tOp (rIxT K) (tFld K (tFld K (tFld K (tVar 0) "model") "settings") "many") (tVar 1)))) (tRet (tLst (tCons (tC (.int (-2))) tNil))) tNext)
    (tSeq (tPar 4 5 (tCons (tOp (rIxL K) (tFld K (tFld K (tVar 0) "model") "rows") (tVar 1)) (tCons (tLst tNil) tNil)))
    (tSeq (tFor (iEnum K (tCons (tVar 4) tNil)) (gTup K 2 (gCons (gName 6) (gCons (gName 7) gNil))) (tSeq (tAsg (tCall (sp_product K) [] E0 (tCons (tOp (rIxL K) (tVar 4) (tVar 2)) (tCons (tVar 7) tNil))) (gName 8))
    (tIfS (tAnd (tTest (tOp rNe (tVar 6) (tVar 2))) (tTest (tOp rGtI (tVar 8) (tC (.int 0))))) (tDrop (tBM K "list" rAppend (tVar 5) (tCons (tTup (tCons (tVar 6) (tCons (tVar 8) (tCons (tCall (sp_squares K) [] E0 (tCons (tVar 7) tNil)) tNil)))) tNil))) tNext)))
    (tSeq (tAsg (tSl (rSlL K) (tCall (sp_in_order K) [] E0 (tCons (tVar 5) tNil)) tNoPart (tPart (tVar 3))) (gName 9))
    (tRet (tOp rCat (tLst (tCons (tCB (rLenQ K) (tCons (tVar 9) tNil)) tNil)) (tVar 9))))))))
theorem q_forE {D : Ends} {g : TG} {tu tz : TS} {b : Addr} {xs : List V} (h : Ev te σ H (.ref b)) (hx : SqL K H b xs) (k : ∀ H1, Ex H H1 → ForB (Ite K b) g tu { D with nx := tz D } σ H1) : tSeq (tFor (iEnum K (tCons te tNil)) g tu) tz D σ H := s_forE (D := { D with nx := tz D }) h hx k
theorem pure_Liking_similar (T : Txt K mg) (h : sp_Liking_similar K vs H Q E) : t_Liking_similar K { nx := fun _ H' => Q .non H', rt := Q } (start N_Liking_similar vs) H := by
  obtain ⟨a, dx, A, m, kd, n, c, rfl, h, k⟩ := h
  have ho := h.mod.1
  have hv := (valid_iff m.settings).mp ho.l.vs
  refine q_when (et_test (ev_gt (ev_var rfl) ev_c)) (fun hb H1 e1 => ?_) (fun hb H1 e1 => ?_)
  · have c1 : 1 < kd := by have := of_decide_eq_true hb; omega
    exact s_retC h (k.to (m' := m) (n := -22) (ns := []) (by simp only [Kp429.step, if_pos c1, Kp429.single])) e1 rfl
  have c1 : ¬ 1 < kd := by have := of_decide_eq_false hb; omega
  have hkd : kd ≤ 1 := by omega
  have h1 := h.ex e1
  refine q_when (et_test (ev_ge (ev_var rfl) (ev_smany T (k := kd) (ev_settings T (A := A) (p := m.parameters) (ev_model T (ev_var rfl) h1) h1.mod.prm) h1.mod.set (ev_var rfl) hkd))) (fun hb H2 e2 => ?_) (fun hb H2 e2 => ?_)
  · have c2 : Kp429.sizeOf m.settings kd ≤ n := by have := of_decide_eq_true hb; omega
    exact s_retC h (k.to (m' := m) (n := -2) (ns := []) (by simp only [Kp429.step, if_neg c1, if_pos c2, Kp429.single])) (e1.trans e2) rfl
  have c2 : ¬ Kp429.sizeOf m.settings kd ≤ n := by have := of_decide_eq_false hb; omega
  have hn : n < Kp429.sizeOf m.settings kd := by omega
  have sz8 : Kp429.sizeOf m.settings kd ≤ 8 := by unfold Kp429.sizeOf; split <;> omega
  have h2 := h1.ex e2
  have bnd : ∀ x, x < Kp429.sizeOf m.settings kd → Sm (Kp429.products (Kp429.rowOf m.parameters kd n) (Kp429.rowOf m.parameters kd x)).sum ∧ Sm (Kp429.products (Kp429.rowOf m.parameters kd x) (Kp429.rowOf m.parameters kd x)).sum := fun x hx => by
    have b1 := products_bnd ho.l.vs (ho.p.rowAt (k := kd) hn).2 (ho.p.rowAt (k := kd) hx).2
    have b2 := products_bnd ho.l.vs (ho.p.rowAt (k := kd) hx).2 (ho.p.rowAt (k := kd) hx).2
    exact ⟨⟨by omega, by omega⟩, ⟨by omega, by omega⟩⟩
  have lw : (A.wK kd).length = Kp429.sizeOf m.settings kd := by rw [paired_len (h.mod.prm.rK kd), ho.p.lenK]
  obtain ⟨wn, hwn, hwnx, hwnr⟩ := rowAddr (k := kd) h2.mod.prm ho.p hn
  refine q_parVL (ev_rowsK (A := A) (p := m.parameters) T (k := kd) (ev_model T (ev_var rfl) h2) h2.mod.prm (ev_var rfl) hkd) (el_lst ea_nil (by simp)) fun f H3 hf e3 h3 => ?_
  have hlk : H3 (A.lK kd) = some (.lst ((A.wK kd).map V.ref)) := (h2.mod.prm.lK kd) |> e3 _ _
  refine q_forE (ev_var rfl) (sq_of hlk) fun H4 e4 => ?_
  have e34 := e3.trans e4
  refine for_it (walk_enum (xs := (A.wK kd).map V.ref)) (fun i σ H' => Ex H2 H' ∧ ∃ (us : List Addr) (v6 v7 v8 : Option V), H' f = some (.lst (us.map V.ref)) ∧ Tri H' us (trsTo m kd n i) ∧ σ = [some (.ref a), some (.int (kd : Int)), some (.int (n : Int)), some (.int (c : Int)), some (.ref (A.lK kd)), some (.ref f), v6, v7, v8, none])
    ⟨e34, [], none, none, none, e4 _ _ h3, .nil, rfl⟩ (fun i σ H' _ p => sq_of (p.1 _ _ (h2.mod.prm.lK kd))) (fun i x σ H5 H6 hi p y => ?_) (fun σ H5 p => ?_)
  · obtain ⟨e5, us, v6, v7, v8, hf5, hus, rfl⟩ := p
    obtain ⟨Tp, x1, y1, rfl, hT, rfl, hx, hy⟩ := y
    cases hx
    have hy : ((A.wK kd).map V.ref)[i]? = some y1 := hy
    rw [List.getElem?_map] at hy
    obtain ⟨wi, hwi, rfl⟩ := Option.map_eq_some_iff.mp hy
    have hil : i < Kp429.sizeOf m.settings kd := by rw [← lw]; exact (List.getElem?_eq_some_iff.mp hwi).1
    obtain ⟨wi', hwi', hwix, hwir⟩ := rowAddr (k := kd) h2.mod.prm ho.p hil
    rw [hwi] at hwi'
    cases hwi'
    have ex6 : Ex H5 (upd H5 Tp (.tup [.int (i : Int), .ref wi])) := Ex.new hT
    have e6 := e5.trans ex6
    refine g_unp2 (st_of upd_same) ?_
    have hf6 := ex6 _ _ hf5
    have hus6 := hus.ex ex6
    generalize upd H5 Tp (.tup [.int (i : Int), .ref wi]) = H6 at e6 hf6 hus6 ex6
    have gn := hwnr.good ho.l.vs
    have gi := hwir.good ho.l.vs
    refine q_asg (ev_product (ev_ixL (j := n) (ev_var rfl) (ev_var rfl) (sq_of (e6 _ _ (h2.mod.prm.lK kd))) (map_ref_at hwn)) (ev_var rfl) (sq_of (e6 _ _ hwnx)) (sq_of (e6 _ _ hwix)) gn.2.1 gn.2.2) fun H7 e7 => ?_
    refine s_when (et_and (et_test (ev_nei (ev_var rfl) (ev_var rfl))) fun _ => et_test (ev_gt (ev_var rfl) ev_c)) (fun hb H8 e8 => ?_) (fun hb H8 e8 => ?_)
    · obtain ⟨b1, b2⟩ := Bool.and_eq_true_iff.mp hb
      have hne : i ≠ n := fun e => by rw [e] at b1; simp at b1
      have hpos := of_decide_eq_true b2
      have e78 := e7.trans e8
      refine s_appU (e78 _ _ hf6) (ev_var rfl) (eu_tup (ea_cons (ev_var rfl) (ea_cons (ev_var rfl) (ea_cons (ev_squares (ev_var rfl) (sq_of (e78 _ _ (e6 _ _ hwix))) gi.2.1 gi.2.2) ea_nil))) (by simp)) ?_ fun t H9 ht e9 h9 => ?_
      · have l1 := paired_len hus
        have l2 := trsTo_len m kd n i
        rw [List.length_map]
        omega
      · have tup : ∀ b z, H9 b = some (.tup z) → upd H9 f (.lst (us.map V.ref ++ [.ref t])) b = some (.tup z) := fun b z hb => by
          rw [upd_ne]
          · exact hb
          · intro e
            rw [e, e9 _ _ (e78 _ _ hf6)] at hb
            cases hb
        refine ⟨Ex.mut ((e6.trans e78).trans e9) hf, us ++ [t], _, _, _, by rw [upd_same, List.map_append]; rfl, ?_, rfl⟩
        rw [trsTo_yes hne hpos]
        exact paired_snoc (paired_mono (fun b z hb => tup b _ (e9 _ _ (e78 _ _ hb))) hus6) (tup t _ h9)
    · refine ⟨(e6.trans e7).trans e8, us, some (.int (i : Int)), some (.ref wi), some (.int (Kp429.products (Kp429.rowOf m.parameters kd n) (Kp429.rowOf m.parameters kd i)).sum), (e7.trans e8) _ _ hf6, ?_, rfl⟩
      rw [trsTo_no (fun ⟨q1, q2⟩ => by
        rw [decide_eq_true q2, decide_eq_false (show ¬ (i : Int) = (n : Int) by omega)] at hb
        cases hb)]
      exact (hus6.ex e7).ex e8
  · obtain ⟨e5, us, v6, v7, v8, hf5, hus, rfl⟩ := p
    rw [List.length_map, lw] at hus
    have l2 := trsTo_len m kd n (Kp429.sizeOf m.settings kd)
    have lin : (insAll (trsTo m kd n (Kp429.sizeOf m.settings kd))).length ≤ 8 := by rw [insAll, insFold_len]; simp; omega
    refine q_asgL (el_slN (el_in_order (ev_var rfl) hf5 hus (by omega) fun t ht => ?_) eo_none (eo_some (ev_var rfl))) fun r H6 hr e6 h6 => ?_
    · unfold trsTo at ht
      obtain ⟨x, hx, rfl⟩ := List.mem_map.mp ht
      exact bnd x (List.mem_range.mp (List.mem_filter.mp hx).1)
    rw [cut_to] at h6
    refine s_retLen (ev_var rfl) h6 (by rw [List.length_take, List.length_map]; omega) fun q H7 _ e7 h7 => ?_
    refine ret_ex h (k.to (m' := m) (n := (((Kp429.similar m kd n).take c).length : Int)) (ns := ((Kp429.similar m kd n).take c).map fun (x : Nat) => (x : Int)) ?_) ((((e1.trans e2).trans e5).trans e6).trans e7) ?_
    · simp only [Kp429.step, if_neg c1, if_neg c2, Kp429.listResult, Kp429.natResult]
    · rw [h7, similar_is, ← List.map_take, ← List.map_take, List.length_map, List.length_map, List.map_cons, List.map_map, List.map_map]
      rfl
theorem ok_Liking_similar (T : Txt K mg) : Has P w K mg base 3 d_Liking_similar.at_ ["self", "kind", "number", "count"] (sp_Liking_similar K) := by
  refine Has.of (d := d_Liking_similar) T 65 rfl ⟨rfl, rfl⟩ sc_Liking_similar (fun _ _ _ _ _ _ us hl => match us, hl with | [_, _, _, _], _ => rfl) (fun vs H Q E h => len_Liking_similar h) fun cdv A outer s H vs Q E hr h => ⟨t_Liking_similar K, ?_, pure_Liking_similar T h⟩
  exact (pss_cons (ps_if (pt_cmpR op_gt (pv 1) pe_int (nomark _)) (pss_one (ps_ret (pe_lst (pa_cons (pe_gint rfl T.i_BEYOND) pa_nil)))) pss_nil)
    (pss_cons (ps_if (pt_cmpR op_ge (pv 2) (pe_ix ix_tup (pe_fld (pe_fld (pe_fld (pv 0) rfl) rfl) rfl) (pv 1) (fun _ _ => rfl)) (nomark _)) (pss_one (ps_ret (pe_lst (pa_cons (pe_gint rfl T.i_NOT_THERE) pa_nil)))) pss_nil)
    (pss_cons (ps_par (by rfl) sc_Liking_similar.nd rfl rfl (by decide) rfl rfl (pa_cons (pe_ix ix_list (pe_fld (pe_fld (pv 0) rfl) rfl) (pv 1) (fun _ _ => rfl)) (pa_cons (pe_lst pa_nil) pa_nil)) (by rfl))
    (pss_cons (ps_for PassesOwn.never rfl (pi_enum rfl T.f_enumerate (pa_cons (pv 4) pa_nil)) (pg_tup rfl (pgs_cons (pg_name (i := 6) sc_Liking_similar.nd rfl (Or.inl rfl)) (pgs_cons (pg_name (i := 7) sc_Liking_similar.nd rfl (Or.inl rfl)) pgs_nil))) (pss_cons (ps_set (i := 8) sc_Liking_similar.nd rfl (Or.inl rfl) (pe_callH (ok_product T) (hr.mono (by decide)) rfl T.g_product (pa_cons (pe_ix ix_list (pv 4) (pv 2) (fun _ _ => rfl)) (pa_cons (pv 7) pa_nil))))
    (pss_one (ps_if (PW.pt (pw_and (pt_cmpR op_ne (pv 6) (pv 2) (nomark _)) (pw_and1 (pt_cmpR op_gt (pv 8) pe_int (nomark _))))) (pss_one (ps_expr (pe_bm PySem.F.plainAttrs_list PySem.F.slot_list_append PySem.F.type_list_append mt_append (pv 5) (pa_cons (pe_tup (pa_cons (pv 6) (pa_cons (pv 8) (pa_cons (pe_callH (ok_squares T) (hr.mono (by decide)) rfl T.g_squares (pa_cons (pv 7) pa_nil)) pa_nil)))) pa_nil)))) pss_nil))))
    (pss_cons (ps_set (i := 9) sc_Liking_similar.nd rfl (Or.inl rfl) (pe_slice sl_list (pe_callH (ok_in_order T) (hr.mono (by decide)) rfl T.g_in_order (pa_cons (pv 5) pa_nil)) po_none (po_some (pv 3))))
    (pss_one (ps_ret (pe_op op_cat (pe_lst (pa_cons (pe_callB cl_len (by rfl) T.f_len (by decide +kernel) (pa_cons (pv 9) pa_nil)) pa_nil)) (pv 9)))))))))
/-! ### status -/
def sp_Liking_status (K : PySem.W.Frag) : Sp := fun vs H Q _ => ∃ (a dx : Addr) (A : MA) (m : Kp429.Model), vs = [.ref a] ∧ LkAt K H a dx A m ∧ RetC K a dx A H m .status Q
theorem len_Liking_status (h : sp_Liking_status K vs H Q E) : vs.length = (["self"] : List Str).length := by
  obtain ⟨_, _, _, _, rfl, _⟩ := h
  rfl
def t_Liking_status (K : PySem.W.Frag) : TS :=
  (tSeq (tAsg (tFld K (tFld K (tVar 0) "model") "settings") (gName 1))
    (tSeq (tAsg (tLst (tCons (tOp (rIxT K) (tFld K (tVar 1) "many") (tC (.int 0))) (tCons (tOp (rIxT K) (tFld K (tVar 1) "many") (tC (.int 1))) (tCons (tFld K (tVar 1) "factors") tNil)))) (gName 2))
    (tRet (tOp rCat (tVar 2) (tLst (tCons (tCB rLenT (tCons (tFld K (tFld K (tVar 0) "model") "rests") tNil)) (tCons (tCB (rLenQ K) (tCons (tMeth (He.ga K "Model") "parameters" (sp_Model_parameters K) [] E0 (tFld K (tVar 0) "model") tNil) tNil)) tNil)))))))
theorem ev_lenTs {zs : List (List V)} (h : EvTs te σ H zs) : Ev (tCB (rLenQ K) (tCons te tNil)) σ H (.int (zs.length : Int)) := fun H1 e Q q =>
  h H1 e _ fun c ts H2 _ e2 h2 ht => ⟨c, _, rfl, .inl (sq_of h2), by rw [List.length_map, paired_len ht]; exact q H2 e2⟩
theorem pure_Liking_status (T : Txt K mg) (h : sp_Liking_status K vs H Q E) : t_Liking_status K { nx := fun _ H' => Q .non H', rt := Q } (start N_Liking_status vs) H := by
  obtain ⟨a, dx, A, m, rfl, h, k⟩ := h
  obtain ⟨ho, rat, rtr, rst, hL, hR, hS⟩ := id h.mod
  refine q_asg (v := .ref A.st) (ev_settings T (A := A) (p := m.parameters) (ev_model T (ev_var rfl) h) h.mod.prm) fun H1 e1 => ?_
  have hs := h.mod.set.ex e1
  refine q_asgL (xs := ([(m.settings.users : Int), (m.settings.items : Int), (m.settings.factors : Int)]).map V.int) (el_lst (ea_cons (ev_smanyC T (k := 0) (ev_var rfl) hs (Nat.zero_le _)) (ea_cons (ev_smanyC T (k := 1) (ev_var rfl) hs (Nat.le_refl _)) (ea_cons (ev_sfac T (ev_var rfl) hs) ea_nil))) (by simp)) fun f H2 hf e2 h2 => ?_
  have e12 := e1.trans e2
  have h2' := h.ex e12
  refine s_retL (xs := ([(m.settings.users : Int), (m.settings.items : Int), (m.settings.factors : Int)]).map V.int ++ ([(m.ratings.length : Int), ((Kp429.coordinates m.settings).length : Int)]).map V.int) (el_catL (ev_var rfl) (el_lst (ea_cons (ev_is (ev_lenDT (ev_rests T (A := A) (p := m.parameters) (ev_model T (ev_var rfl) h2') h2'.mod.prm) (hL.ex e12).rs) (by rw [DictOf.len hS])) (ea_cons (ev_is (ev_lenTs (et_parameters (A := A) (m := m) (ev_model T (ev_var rfl) h2') h2'.mod)) (by rw [List.length_map])) ea_nil)) (by simp)) h2 (by simp)) fun q H3 _ e3 h3 => ?_
  exact ret_ex h (k.to (m' := m) (n := (m.settings.users : Int)) (ns := [(m.settings.items : Int), (m.settings.factors : Int), (m.ratings.length : Int), ((Kp429.coordinates m.settings).length : Int)]) rfl) (e12.trans e3) h3
theorem ok_Liking_status (T : Txt K mg) : Has P w K mg base 2 d_Liking_status.at_ ["self"] (sp_Liking_status K) := by
  refine Has.of (d := d_Liking_status) T 70 rfl ⟨rfl, rfl⟩ sc_Liking_status (fun _ _ _ _ _ _ us hl => match us, hl with | [_], _ => rfl) (fun vs H Q E h => len_Liking_status h) fun cdv A outer s H vs Q E hr h => ⟨t_Liking_status K, ?_, pure_Liking_status T h⟩
  exact (pss_cons (ps_set (i := 1) sc_Liking_status.nd rfl (Or.inl rfl) (pe_fld (pe_fld (pv 0) rfl) rfl))
    (pss_cons (ps_set (i := 2) sc_Liking_status.nd rfl (Or.inl rfl) (pe_lst (pa_cons (pe_ix ix_tup (pe_fld (pv 1) rfl) pe_int (fun _ _ => rfl)) (pa_cons (pe_ix ix_tup (pe_fld (pv 1) rfl) pe_int (fun _ _ => rfl)) (pa_cons (pe_fld (pv 1) rfl) pa_nil)))))
    (pss_one (ps_ret (pe_op op_cat (pv 2) (pe_lst (pa_cons (pe_callB call_len_dT (by rfl) T.f_len (by decide +kernel) (pa_cons (pe_fld (pe_fld (pv 0) rfl) rfl) pa_nil)) (pa_cons (pe_callB cl_len (by rfl) T.f_len (by decide +kernel) (pa_cons (pe_methH0 (pe_fld (pv 0) rfl) T.c_Model T.m_Model_parameters (ok_Model_parameters T) (hr.mono (by decide))) pa_nil)) pa_nil))))))))
end
end Gs
namespace Gs
open PySem PySem.Spec PyProof.Rows L2 Evl LamX
section
open Kp429 (Rating Settings Parameters Coordinate)
variable {P : Program} {w : World} {K : PySem.W.Frag} {mg : Str → Option Value} {base : Heap} {vs : List V} {H H' H1 H2 H3 : Hp} {Q : VK} {E : XK} {A A' A2 : MA} {p p' : Parameters} {σ : L2.St} {ta tk tn tq td ty tv tb te tx : TE} {s : Settings} {m m' m2 : Kp429.Model} {a dx : Addr}
/-! ### pairs told -/
def okP (m : Kp429.Model) (y : Nat × Nat) : Bool := Kp429.hasItem m y.1 && decide (1 ≤ y.2) && decide (y.2 ≤ 10)
def chk (m : Kp429.Model) : Int → Told → Bool
  | _, [] => true
  | last, y :: r => decide (last < (y.1 : Int)) && okP m y && chk m (y.1 : Int) r
theorem chk_inc (m : Kp429.Model) : ∀ (l : Told) (y : Nat × Nat), chk m (y.1 : Int) l = (l.all (okP m) && Kp429.increasing (y :: l))
  | [], _ => rfl
  | z :: r, y => by
    show (decide ((y.1 : Int) < (z.1 : Int)) && okP m z && chk m (z.1 : Int) r) = ((okP m z && r.all (okP m)) && (decide (y.1 < z.1) && Kp429.increasing (z :: r)))
    rw [chk_inc m r z, dec_lt]
    generalize decide (y.1 < z.1) = b1
    generalize okP m z = b2
    generalize r.all (okP m) = b3
    generalize Kp429.increasing (z :: r) = b4
    cases b1 <;> cases b2 <;> cases b3 <;> cases b4 <;> rfl
theorem chk_all (m : Kp429.Model) (l : Told) : chk m (-1) l = (l.all (okP m) && Kp429.increasing l) := by
  cases l with
  | nil => rfl
  | cons z r =>
    show (decide ((-1 : Int) < (z.1 : Int)) && okP m z && chk m (z.1 : Int) r) = ((okP m z && r.all (okP m)) && Kp429.increasing (z :: r))
    rw [chk_inc m r z, decide_eq_true (by omega : (-1 : Int) < (z.1 : Int))]
    generalize okP m z = b2
    generalize r.all (okP m) = b3
    generalize Kp429.increasing (z :: r) = b4
    cases b2 <;> cases b3 <;> cases b4 <;> rfl
theorem new_is (m : Kp429.Model) (l : List Nat) : Kp429.newRatings m l = match Kp429.pairsOf l with
    | none => none
    | some x => if chk m (-1) x = true then some x else none := by
  unfold Kp429.newRatings
  cases Kp429.pairsOf l with
  | none => rfl
  | some x =>
    dsimp only
    rw [chk_all]
    rfl
theorem pairs_odd : ∀ l : List Nat, l.length % 2 = 1 → Kp429.pairsOf l = none
  | [], h => by simp at h
  | [_], _ => rfl
  | _ :: _ :: r, h => by
    have i := pairs_odd r (by simp at h; omega)
    show (Kp429.pairsOf r).map _ = none
    rw [i]
    rfl
theorem pairs_even : ∀ l : List Nat, l.length % 2 = 0 → ∃ x, Kp429.pairsOf l = some x ∧ 2 * x.length = l.length ∧ ∀ i y, x[i]? = some y → l[2 * i]? = some y.1 ∧ l[2 * i + 1]? = some y.2
  | [], _ => ⟨[], rfl, rfl, fun i y h => by simp at h⟩
  | [_], h => by simp at h
  | b :: c :: r, h => by
    obtain ⟨x, h1, h2, h3⟩ := pairs_even r (by simp at h; omega)
    refine ⟨(b, c) :: x, ?_, by simp; omega, fun i y hy => ?_⟩
    · show (Kp429.pairsOf r).map _ = _
      rw [h1]
      rfl
    · cases i with
      | zero =>
        have : (b, c) = y := by simpa using hy
        rw [← this]
        exact ⟨rfl, rfl⟩
      | succ i =>
        have q := h3 i y (by simpa using hy)
        have e1 : 2 * (i + 1) = 2 * i + 1 + 1 := by omega
        rw [e1]
        exact ⟨by simpa using q.1, by simpa using q.2⟩
theorem chk_mem (m : Kp429.Model) : ∀ {l : Told} {last : Int}, chk m last l = true → ∀ t ∈ l, t.1 < m.settings.items
  | [], _, _, t, h => by cases h
  | y :: r, last, h, t, ht => by
    have h : (decide (last < (y.1 : Int)) && okP m y && chk m (y.1 : Int) r) = true := h
    rw [Bool.and_eq_true, Bool.and_eq_true] at h
    rcases List.mem_cons.mp ht with e | e
    · rw [e]
      have := h.1.2
      unfold okP at this
      rw [Bool.and_eq_true, Bool.and_eq_true] at this
      exact of_decide_eq_true this.1.1
    · exact chk_mem m h.2 t e
def natV (ns : List Nat) : List V := ns.map fun (n : Nat) => .int (n : Int)
theorem natV_at {ns : List Nat} {i n : Nat} (h : ns[i]? = some n) : (natV ns)[i]? = some (.int (n : Int)) := by
  unfold natV
  rw [List.getElem?_map, h]
  rfl
def sp_Liking_told_pairs (K : PySem.W.Frag) : Sp := fun vs H Q _ => ∃ (a dx : Addr) (A : MA) (m : Kp429.Model) (l : Addr) (ns : List Nat), vs = [.ref a, .ref l] ∧ LkAt K H a dx A m ∧ H l = some (.lst (natV ns)) ∧ ns.length ≤ 16 ∧
  (Kp429.newRatings m ns = none → RetV .non H Q) ∧ ∀ x, Kp429.newRatings m ns = some x → ∀ q ts H', Ex H H' → ToldAt m H' q ts x → Q (.ref q) H'
theorem len_Liking_told_pairs (h : sp_Liking_told_pairs K vs H Q E) : vs.length = (["self", "numbers"] : List Str).length := by
  obtain ⟨_, _, _, _, _, _, rfl, _⟩ := h
  rfl
theorem q_parLV {D : Ends} {tz : TS} {i j : Nat} {y : V} {xs : List V} (ha : EvL ta σ H xs) (hb : Ev tb σ H y) (k : ∀ p H1, H p = none → Ex H H1 → H1 p = some (.lst xs) → tz D ((σ.set i (some (.ref p))).set j (some y)) H1) : tSeq (tPar i j (tCons ta (tCons tb tNil))) tz D σ H := q_parL ha hb k
theorem s_forR3 {D : Ends} {g : TG} {tu : TS} {ta : TA} {i j c : Int} {n : Nat} (h : EvA ta σ H [.int i, .int j, .int c]) (hr : RgC i j c n) (k : ∀ H1, Ex H H1 → ForB (Itc i c n) g tu D σ H1) : tFor (iRng3 ta) g tu D σ H :=
  h H (Ex.refl H) _ fun H1 e1 => ⟨i, j, c, n, rfl, hr, k H1 e1⟩
theorem q_forR3 {D : Ends} {g : TG} {tu tz : TS} {ta : TA} {i j c : Int} {n : Nat} (h : EvA ta σ H [.int i, .int j, .int c]) (hr : RgC i j c n) (k : ∀ H1, Ex H H1 → ForB (Itc i c n) g tu { D with nx := tz D } σ H1) : tSeq (tFor (iRng3 ta) g tu) tz D σ H := s_forR3 (D := { D with nx := tz D }) h hr k
theorem rgc2 : ∀ j : Fin 9, Builtin.Range.small 0 ((2 * j.val : Nat) : Int) 2 = true ∧ Builtin.Range.rangeSize 0 ((2 * j.val : Nat) : Int) 2 = j.val := by decide +kernel
def t_Liking_told_pairs (K : PySem.W.Frag) : TS :=
  (tSeq (tIfS (tOr (tTest (tOp rGtI (tCB (rLenQ K) (tCons (tVar 1) tNil)) (tC (.int 16)))) (tTest (tOp rEq (tOp rModI (tCB (rLenQ K) (tCons (tVar 1) tNil)) (tC (.int 2))) (tC (.int 1))))) (tRet (tC .non)) tNext)
    (tSeq (tPar 2 3 (tCons (tLst tNil) (tCons (tUn rNegI (tC (.int 1))) tNil)))
    (tSeq (tFor (iRng3 (tCons (tC (.int 0)) (tCons (tCB (rLenQ K) (tCons (tVar 1) tNil)) (tCons (tC (.int 2)) tNil)))) (gName 4) (tSeq (tPar 5 6 (tCons (tOp (rIxL K) (tVar 1) (tVar 4)) (tCons (tOp (rIxL K) (tVar 1) (tOp rAddI (tVar 4) (tC (.int 1)))) tNil)))
    (tSeq (tIfS (tOr (tTest (tOp rLeI (tVar 5) (tVar 3))) (tOr (tNot (tB (tMeth (He.ga K "Liking") "is_item" (sp_Liking_is_item K) [] E0 (tVar 0) (tCons (tVar 5) tNil)))) (tNot (tTest (tChain rLeI rLeI (tC (.int 1)) (tVar 6) (tC (.int 10))))))) (tRet (tC .non)) tNext)
    (tSeq (tDrop (tBM K "list" rAppend (tVar 2) (tCons (tTup (tCons (tVar 5) (tCons (tVar 6) tNil))) tNil)))
    (tAsg (tVar 5) (gName 3))))))
    (tRet (tVar 2)))))
theorem pure_Liking_told_pairs (T : Txt K mg) (h : sp_Liking_told_pairs K vs H Q E) : t_Liking_told_pairs K { nx := fun _ H' => Q .non H', rt := Q } (start N_Liking_told_pairs vs) H := by
  obtain ⟨a, dx, A, m, l, ns, rfl, h, hl, hlen, kN, kS⟩ := h
  have hln : (natV ns).length = ns.length := by unfold natV; rw [List.length_map]
  refine q_when (et_or (et_test (ev_gt (ev_lenL (ev_var rfl) (sq_of hl)) ev_c)) fun _ => et_test (ev_eqi (ev_mod (ev_lenL (ev_var rfl) (sq_of hl)) ev_c (by decide)) ev_c)) (fun hb H1 e1 => ?_) (fun hb H1 e1 => ?_)
  · rw [hln] at hb
    have hodd : ns.length % 2 = 1 := by
      rw [show (2 : Int) = ((2 : Nat) : Int) from rfl, fmod_nat] at hb
      simp at hb
      omega
    exact s_ret (v := .non) ev_c (retv_is (kN (by rw [new_is, pairs_odd ns hodd])) e1 rfl)
  rw [hln] at hb
  have heven : ns.length % 2 = 0 := by
    rw [show (2 : Int) = ((2 : Nat) : Int) from rfl, fmod_nat] at hb
    simp at hb
    omega
  obtain ⟨x, hx1, hx2, hx3⟩ := pairs_even ns heven
  have hnew : Kp429.newRatings m ns = if chk m (-1) x = true then some x else none := by rw [new_is, hx1]
  refine q_parLV (el_lst ea_nil (by simp)) (y := .int (-1)) (ev_neg ev_c) fun f H2 hf e2 h2 => ?_
  have e12 := e1.trans e2
  refine q_forR3 (n := x.length) (ea_cons ev_c (ea_cons (ev_lenL (ev_var rfl) (sq_of (e12 _ _ hl))) (ea_cons ev_c ea_nil))) ?_ fun H3 e3 => ?_
  · rw [hln, ← hx2]
    have r := rgc2 ⟨x.length, by omega⟩
    exact ⟨by decide, by decide, r.1, r.2⟩
  refine for_it (walk_rangeC) (fun i σ H' => Ex H1 H' ∧ ∃ (ts : List Addr) (last : Int) (v4 v5 v6 : Option V), H' f = some (.lst (ts.map V.ref)) ∧ TupsAt H' ts ((x.take i).map toldV) ∧ chk m (-1) x = chk m last (x.drop i) ∧ σ = [some (.ref a), some (.ref l), some (.ref f), some (.int last), v4, v5, v6])
    ⟨e2.trans e3, [], -1, none, none, none, e3 _ _ h2, .nil, rfl, rfl⟩ (fun _ _ _ _ _ => True.intro) (fun i v σ H4 H5 hi p y => ?_) (fun σ H4 p => ?_)
  · obtain ⟨e4, ts, last, v4, v5, v6, hf4, hts, hch, rfl⟩ := p
    obtain ⟨rfl, rfl⟩ := y
    have hxi := List.getElem?_eq_getElem hi
    obtain ⟨y1, y2⟩ := hx3 i _ hxi
    have eH4 := e1.trans e4
    have hd : x.drop i = x[i] :: x.drop (i + 1) := List.drop_eq_getElem_cons hi
    rw [hd] at hch
    have hch : chk m (-1) x = (decide (last < ((x[i]).1 : Int)) && okP m x[i] && chk m ((x[i]).1 : Int) (x.drop (i + 1))) := hch
    generalize x[i] = yv at hxi y1 y2 hch
    have h4 := h.ex eH4
    have hl4 := eH4 _ _ hl
    refine q_par (ev_ixL (j := 2 * i) (ev_var rfl) (ev_is (ev_var rfl) (by show V.int (0 + (i : Nat) * (2 : Int)) = V.int ((2 * i : Nat) : Int); congr 1; omega)) (sq_of hl4) (natV_at y1)) (ev_ixL (j := 2 * i + 1) (ev_var rfl) (ev_is (ev_add (ev_var rfl) ev_c) (by show V.int (0 + (i : Nat) * (2 : Int) + 1) = V.int ((2 * i + 1 : Nat) : Int); congr 1; omega)) (sq_of hl4) (natV_at y2)) fun H5 e5 => ?_
    have h5 := h4.ex e5
    refine q_when (et_or (et_test (ev_le (ev_var rfl) (ev_var rfl))) fun _ => et_or (et_not (et_B (ev_is_item (m := m) (u := yv.1) (ev_var rfl) h5 (ev_var rfl)))) fun _ => et_not (et_test (ev_chainLe ev_c (ev_var rfl) ev_c))) (fun hb2 H6 e6 => ?_) (fun hb2 H6 e6 => ?_)
    · refine s_ret (v := .non) ev_c (retv_is (kN ?_) ((eH4.trans e5).trans e6) rfl)
      rw [hnew, if_neg]
      rw [hch]
      intro e
      rw [Bool.and_eq_true, Bool.and_eq_true] at e
      obtain ⟨⟨q1, q2⟩, _⟩ := e
      unfold okP at q2
      rw [Bool.and_eq_true, Bool.and_eq_true] at q2
      have p1 := of_decide_eq_true q1
      have p3 := of_decide_eq_true q2.1.2
      have p4 := of_decide_eq_true q2.2
      rw [q2.1.1] at hb2
      simp at hb2
      omega
    · have p2 : Kp429.hasItem m yv.1 = true := by
        cases e : Kp429.hasItem m yv.1 with
        | true => rfl
        | false => rw [e] at hb2; simp at hb2
      rw [p2] at hb2
      have p1 : last < (yv.1 : Int) ∧ 1 ≤ yv.2 ∧ yv.2 ≤ 10 := by
        simp at hb2
        omega
      have e56 := e5.trans e6
      refine q_appU (e56 _ _ hf4) (ev_var rfl) (eu_tup (ea_cons (ev_var rfl) (ea_cons (ev_var rfl) ea_nil)) (by simp)) ?_ fun t H7 ht e7 h7 => ?_
      · have l1 := paired_len hts
        rw [List.length_map, List.length_take] at l1
        rw [List.length_map]
        omega
      have tup : ∀ b z, H7 b = some (.tup z) → upd H7 f (.lst (ts.map V.ref ++ [.ref t])) b = some (.tup z) := fun b z hb => by
        rw [upd_ne]
        · exact hb
        · intro e
          rw [e, e7 _ _ (e56 _ _ hf4)] at hb
          cases hb
      refine s_asg (ev_var rfl) fun H8 e8 => ⟨(Ex.mut ((e4.trans e56).trans e7) hf).trans e8, ts ++ [t], (yv.1 : Int), _, _, _, e8 _ _ (by rw [upd_same, List.map_append]; rfl), ?_, ?_, rfl⟩
      · rw [List.take_add_one, hxi, List.map_append]
        exact paired_snoc (paired_mono (fun b z hb => e8 _ _ (tup b _ (e7 _ _ (e56 _ _ hb)))) hts) (e8 _ _ (tup t _ h7))
      · rw [hch, decide_eq_true p1.1]
        unfold okP
        rw [p2, decide_eq_true p1.2.1, decide_eq_true p1.2.2]
        rfl
  · obtain ⟨e4, ts, last, v4, v5, v6, hf4, hts, hch, rfl⟩ := p
    rw [List.take_length] at hts
    rw [List.drop_length] at hch
    have hch : chk m (-1) x = true := hch
    exact ⟨_, rfl, kS x (by rw [hnew, if_pos hch]) f ts H4 (e1.trans e4) ⟨hf4, hts, chk_mem m hch, by omega⟩⟩
theorem ok_Liking_told_pairs (T : Txt K mg) : Has P w K mg base 2 d_Liking_told_pairs.at_ ["self", "numbers"] (sp_Liking_told_pairs K) := by
  refine Has.of (d := d_Liking_told_pairs) T 66 rfl ⟨rfl, rfl⟩ sc_Liking_told_pairs (fun _ _ _ _ _ _ us hl => match us, hl with | [_, _], _ => rfl) (fun vs H Q E h => len_Liking_told_pairs h) fun cdv A outer s H vs Q E hr h => ⟨t_Liking_told_pairs K, ?_, pure_Liking_told_pairs T h⟩
  exact (pss_cons (ps_if (PW.pt (pw_or (pt_cmpR op_gt (pe_callB cl_len (by rfl) T.f_len (by decide +kernel) (pa_cons (pv 1) pa_nil)) (pe_gint rfl T.i_MOST_RATINGS) (nomark _)) (pw_or1 (pt_cmpR op_eq (pe_op op_modN (pe_callB cl_len (by rfl) T.f_len (by decide +kernel) (pa_cons (pv 1) pa_nil)) pe_int) pe_int (nomark _))))) (pss_one (ps_ret pe_non)) pss_nil)
    (pss_cons (ps_par (by rfl) sc_Liking_told_pairs.nd rfl rfl (by decide) rfl rfl (pa_cons (pe_lst pa_nil) (pa_cons (pe_un un_neg pe_int) pa_nil)) (by rfl))
    (pss_cons (ps_for PassesOwn.never rfl (pi_range3 rfl T.f_range (pa_cons pe_int (pa_cons (pe_callB cl_len (by rfl) T.f_len (by decide +kernel) (pa_cons (pv 1) pa_nil)) (pa_cons pe_int pa_nil)))) (pg_name (i := 4) sc_Liking_told_pairs.nd rfl (Or.inl rfl)) (pss_cons (ps_par (by rfl) sc_Liking_told_pairs.nd rfl rfl (by decide) rfl rfl (pa_cons (pe_ix ix_list (pv 1) (pv 4) (fun _ _ => rfl)) (pa_cons (pe_ix ix_list (pv 1) (pe_op op_add (pv 4) pe_int) (fun _ _ => rfl)) pa_nil)) (by rfl))
    (pss_cons (ps_if (PW.pt (pw_or (pt_cmpR op_le (pv 5) (pv 3) (nomark _)) (pw_or (pt_not (pt_val (pe_methH (pv 0) T.c_Liking T.m_Liking_is_item (ok_Liking_is_item T) (hr.mono (by decide)) (pa_cons (pv 5) pa_nil)))) (pw_or1 (pt_not (pt_chain op_le op_le pe_int (pv 6) (pe_gint rfl T.i_MOST_VALUE))))))) (pss_one (ps_ret pe_non)) pss_nil)
    (pss_cons (ps_expr (pe_bm PySem.F.plainAttrs_list PySem.F.slot_list_append PySem.F.type_list_append mt_append (pv 2) (pa_cons (pe_tup (pa_cons (pv 5) (pa_cons (pv 6) pa_nil))) pa_nil)))
    (pss_one (ps_set (i := 3) sc_Liking_told_pairs.nd rfl (Or.inl rfl) (pv 5)))))))
    (pss_one (ps_ret (pv 2))))))
end
end Gs
namespace Gs
open PySem PySem.Spec PyProof.Rows L2 Evl LamX
section
open Kp429 (Rating Settings Parameters Coordinate View)
variable {P : Program} {w : World} {K : PySem.W.Frag} {mg : Str → Option Value} {base : Heap} {vs : List V} {H H' H1 H2 H3 : Hp} {Q : VK} {E : XK} {A A' A2 : MA} {p p' : Parameters} {σ : L2.St} {ta tk tn tq td ty tv tb te tx : TE} {s : Settings} {m m' m2 : Kp429.Model} {a dx : Addr}
theorem Mv.exL (e : Ex H H1) (v : Mv K a A H1 A' H') : Mv K a A H A' H' := ⟨fun b o n1 n2 n3 h => v.fr b o n1 n2 n3 (e _ _ h), fun b hb => (v.fp b hb).imp id fun f o ho => f o (e _ _ ho), v.na, fun t => v.tb (tabs_ex t e)⟩
theorem Mv.trans (v : Mv K a A H A2 H1) (u : Mv K a A2 H1 A' H') : Mv K a A H A' H' := by
  refine ⟨fun b o n1 n2 n3 h => ?_, fun b hb => ?_, u.na, fun t => u.tb (v.tb t)⟩
  · refine u.fr b o (fun f => ?_) n2 n3 (v.fr b o n1 n2 n3 h)
    rcases v.fp b f with q | q
    · exact n1 q
    · obtain ⟨ps, e⟩ := q o h
      exact n3 ps e
  · rcases u.fp b hb with q | q
    · exact v.fp b q
    · by_cases f : A.fp b
      · exact .inl f
      · refine .inr fun o ho => ?_
        by_cases ht : ∃ ps, o = .tbl ps
        · exact ht
        · exact q o (v.fr b o f (fun e => u.na (by rw [← e]; exact hb)) (fun ps e => ht ⟨ps, e⟩) ho)
theorem Ret.ex {ans : List Int} (k : Ret K a dx A H m' ans Q) (e : Ex H H1) : Ret K a dx A H1 m' ans Q := fun A' q H' h v hq => k A' q H' h (v.exL e) hq
theorem RetC.ex {c : Kp429.Call} (k : RetC K a dx A H m c Q) (e : Ex H H1) : RetC K a dx A H1 m c Q := fun m' h => (k m' h).ex e
/-! ### fold_in -/
theorem foldIn_ok (hv : Kp429.validSettings s = true) {l : List View} : ∀ (c : Nat) (row : List Int) (n : Nat), RowOk s row → RowOk s (Kp429.foldIn s l c row n).1
  | 0, row, n, h => h
  | c + 1, row, n, h => by
    by_cases e : roundTo s l row (s.factors + 1) = row
    · rw [foldIn_stop e]
      exact h
    · rw [foldIn_go e]
      exact foldIn_ok hv c _ _ (roundTo_ok hv h _ (Nat.le_refl _))
theorem newRow_ok (ho : Ok m) (x : Told) : RowOk m.settings (Kp429.newRow m x).1 := foldIn_ok ho.l.vs _ _ _ (zero_ok ho.l.vs)
theorem q_told {D : Ends} {tz : TS} {i : Nat} {l : Addr} {ns : List Nat} (ha : Ev ta σ H (.ref a)) (h : LkAt K H a dx A m) (hk : Ev tk σ H (.ref l)) (hl : H l = some (.lst (natV ns))) (hn : ns.length ≤ 16)
    (kN : Kp429.newRatings m ns = none → ∀ H1, Ex H H1 → tz D (σ.set i (some .non)) H1) (kS : ∀ x, Kp429.newRatings m ns = some x → ∀ q ts H1, Ex H H1 → ToldAt m H1 q ts x → tz D (σ.set i (some (.ref q))) H1) :
    tSeq (tAsg (tMeth (He.ga K "Liking") "told_pairs" (sp_Liking_told_pairs K) [] E0 ta (tCons tk tNil)) (gName i)) tz D σ H :=
  ha H (Ex.refl H) _ fun H1 e1 => ⟨_, _, _, rfl, e1 _ _ h.obj, rfl, (ea_cons hk ea_nil) H1 e1 _ fun H2 e2 =>
    ⟨a, dx, A, m, l, ns, rfl, h.ex (e1.trans e2), (e1.trans e2) _ _ hl, hn, fun z H3 e3 => kN z H3 ((e1.trans e2).trans e3), fun x z q ts H3 e3 ht => kS x z q ts H3 ((e1.trans e2).trans e3) ht⟩⟩
theorem run_new_row {l : Addr} {ts : List Addr} {tps : Told} (ha : Ev ta σ H (.ref A.mo)) (hM : MAt K H A m) (hk : Ev tk σ H (.ref l)) (hT : ToldAt m H l ts tps)
    (k : ∀ t q H', Ex H H' → H q = none → H' q = some (.lst ((Kp429.newRow m tps).1.map V.int)) → H' t = some (.tup [.int ((Kp429.newRow m tps).2 : Nat), .ref q]) → Q (.ref t) H') :
    tMeth (He.ga K "Model") "new_row" (sp_Model_new_row K) [] E0 ta (tCons tk tNil) σ H Q :=
  ha H (Ex.refl H) _ fun H1 e1 => ⟨_, _, _, rfl, e1 _ _ hM.prm.obj, rfl, (ea_cons hk ea_nil) H1 e1 _ fun H2 e2 =>
    ⟨A, m, l, ts, tps, rfl, hM.ex (e1.trans e2), hT.ex (e1.trans e2), fun t q H3 e3 hq h3 ht => k t q H3 ((e1.trans e2).trans e3) (fresh_back (e1.trans e2) hq) h3 ht⟩⟩
def sp_Liking_fold_in (K : PySem.W.Frag) : Sp := fun vs H Q _ => ∃ (a dx : Addr) (A : MA) (m : Kp429.Model) (l : Addr) (ns : List Nat), vs = [.ref a, .ref l] ∧ LkAt K H a dx A m ∧ H l = some (.lst (natV ns)) ∧ ns.length ≤ 16 ∧ RetC K a dx A H m (.foldIn ns) Q
theorem len_Liking_fold_in (h : sp_Liking_fold_in K vs H Q E) : vs.length = (["self", "numbers"] : List Str).length := by
  obtain ⟨_, _, _, _, _, _, rfl, _⟩ := h
  rfl
def t_Liking_fold_in (K : PySem.W.Frag) : TS :=
  (tSeq (tAsg (tMeth (He.ga K "Liking") "told_pairs" (sp_Liking_told_pairs K) [] E0 (tVar 0) (tCons (tVar 1) tNil)) (gName 2))
    (tSeq (tIfS (tTest (tOp rIsNon (tVar 2) (tC .non))) (tRet (tLst (tCons (tC (.int (-22))) tNil))) tNext)
    (tSeq (tAsg (tMeth (He.ga K "Model") "new_row" (sp_Model_new_row K) [] E0 (tFld K (tVar 0) "model") (tCons (tVar 2) tNil)) (gTup K 2 (gCons (gName 3) (gCons (gName 4) gNil))))
    (tRet (tOp rCat (tLst (tCons (tVar 3) tNil)) (tVar 4))))))
theorem pure_Liking_fold_in (T : Txt K mg) (h : sp_Liking_fold_in K vs H Q E) : t_Liking_fold_in K { nx := fun _ H' => Q .non H', rt := Q } (start N_Liking_fold_in vs) H := by
  obtain ⟨a, dx, A, m, l, ns, rfl, h, hl, hn, k⟩ := h
  have hv := (valid_iff m.settings).mp h.mod.1.l.vs
  refine q_told (m := m) (ev_var rfl) h (ev_var rfl) hl hn (fun hN H1 e1 => ?_) (fun x hS q ts H1 e1 hT => ?_)
  · refine q_when (b := true) (et_test (ev_is (ev_isNon (ev_var rfl)) rfl)) (fun _ H2 e2 => ?_) (fun hb => by cases hb)
    exact s_retC h (k.to (m' := m) (n := -22) (ns := []) (by simp only [Kp429.step, hN, Kp429.single])) (e1.trans e2) rfl
  · refine q_when (b := false) (et_test (ev_is (ev_isNon (ev_var rfl)) (by rw [decide_eq_false (fun z => nomatch z)]))) (fun hb => by cases hb) (fun _ H2 e2 => ?_)
    have h2 := h.ex (e1.trans e2)
    refine q_asgBy ?_
    refine run_new_row (A := A) (m := m) (ev_model T (ev_var rfl) h2) h2.mod (ev_var rfl) (hT.ex e2) fun t r H3 e3 hr h3 ht => ?_
    refine g_unp2 (st_of ht) ?_
    have lrow := (newRow_ok h.mod.1 x).1
    refine s_retL (el_catR (el_lst (ea_cons (ev_var rfl) ea_nil) (by simp)) (ev_var rfl) h3 (by simp; omega)) fun q2 H4 _ e4 h4 => ?_
    refine ret_ex h (k.to (m' := m) (n := ((Kp429.newRow m x).2 : Int)) (ns := (Kp429.newRow m x).1) (by simp only [Kp429.step, hS])) (((e1.trans e2).trans e3).trans e4) ?_
    rw [h4]
    rfl
theorem ok_Liking_fold_in (T : Txt K mg) : Has P w K mg base 5 d_Liking_fold_in.at_ ["self", "numbers"] (sp_Liking_fold_in K) := by
  refine Has.of (d := d_Liking_fold_in) T 67 rfl ⟨rfl, rfl⟩ sc_Liking_fold_in (fun _ _ _ _ _ _ us hl => match us, hl with | [_, _], _ => rfl) (fun vs H Q E h => len_Liking_fold_in h) fun cdv A outer s H vs Q E hr h => ⟨t_Liking_fold_in K, ?_, pure_Liking_fold_in T h⟩
  exact (pss_cons (ps_set (i := 2) sc_Liking_fold_in.nd rfl (Or.inl rfl) (pe_methH (pv 0) T.c_Liking T.m_Liking_told_pairs (ok_Liking_told_pairs T) (hr.mono (by decide)) (pa_cons (pv 1) pa_nil)))
    (pss_cons (ps_if (pt_cmpR op_isN (pv 2) pe_non (nomark _)) (pss_one (ps_ret (pe_lst (pa_cons (pe_gint rfl T.i_BEYOND) pa_nil)))) pss_nil)
    (pss_cons (ps_asg (pe_methH (pe_fld (pv 0) rfl) T.c_Model T.m_Model_new_row (ok_Model_new_row T) (hr.mono (by decide)) (pa_cons (pv 2) pa_nil)) (pg_tup rfl (pgs_cons (pg_name (i := 3) sc_Liking_fold_in.nd rfl (Or.inl rfl)) (pgs_cons (pg_name (i := 4) sc_Liking_fold_in.nd rfl (Or.inl rfl)) pgs_nil))))
    (pss_one (ps_ret (pe_op op_cat (pe_lst (pa_cons (pv 3) pa_nil)) (pv 4)))))))
/-! ### recommend -/
theorem el_flatP {c : Addr} {ts : List Addr} {ps : List (Int × Int)} (h : Ev te σ H (.ref c)) (hc : H c = some (.lst (ts.map V.ref))) (ht : PrsI H ts ps) (hl : ps.length ≤ 100) : EvL (tCall (sp_flat K) [] E0 (tCons te tNil)) σ H ((flatL ps).map V.int) :=
  el_call (ea_cons h ea_nil) fun H1 e Q q E => ⟨c, ts, ps, rfl, e _ _ hc, ht.ex e, hl, q⟩
theorem recL_len (ho : Ok m) (xs : List Int) (f : Nat → Bool) : (recL m xs f).length ≤ 8 := by
  have hv := (valid_iff m.settings).mp ho.l.vs
  have := foundTo_len m.parameters xs f m.settings.items
  rw [recL, insAllP_len]
  omega
theorem flat_rec (l : List Pr) : flatL (l.map prV) = l.flatMap fun x => [(x.1 : Int), x.2] := by
  unfold flatL
  rw [List.flatMap_map]
  rfl
/-- [len(found)] + flat(found) -/
theorem s_retRec {D : Ends} {i : Nat} {q : Addr} {ts : List Addr} {l : List Pr} (hi : σ[i]? = some (some (.ref q))) (hq : H q = some (.lst (ts.map V.ref))) (ht : PrsI H ts (l.map prV)) (hl : l.length ≤ 8) (k : ∀ r H1, Ex H H1 → H1 r = some (.lst (((l.length : Int) :: l.flatMap fun x => [(x.1 : Int), x.2]).map V.int)) → D.rt (.ref r) H1) :
    tRet (tOp rCat (tLst (tCons (tCB (rLenQ K) (tCons (tVar i) tNil)) tNil)) (tCall (sp_flat K) [] E0 (tCons (tVar i) tNil))) D σ H := by
  have l1 : ts.length = l.length := by rw [paired_len ht, List.length_map]
  refine s_retL (el_cat (el_lst (ea_cons (ev_lenL (ev_var hi) (sq_of hq)) ea_nil) (by simp)) (el_flatP (ev_var hi) hq ht (by rw [List.length_map]; omega)) (by simp [flatL_len]; omega)) fun r H1 _ e1 h1 => k r H1 e1 ?_
  rw [h1, flat_rec, List.length_map, l1]
  rfl
def sp_Liking_recommend (K : PySem.W.Frag) : Sp := fun vs H Q _ => ∃ (a dx : Addr) (A : MA) (m : Kp429.Model) (u n : Nat), vs = [.ref a, .int (u : Int), .int (n : Int)] ∧ LkAt K H a dx A m ∧ Tabs (LT K) H ∧ RetC K a dx A H m (.recommend u n) Q
theorem len_Liking_recommend (h : sp_Liking_recommend K vs H Q E) : vs.length = (["self", "user", "count"] : List Str).length := by
  obtain ⟨_, _, _, _, _, _, rfl, _⟩ := h
  rfl
def t_Liking_recommend (K : PySem.W.Frag) : TS :=
  (tSeq (tIfS (tNot (tB (tMeth (He.ga K "Liking") "is_user" (sp_Liking_is_user K) [] E0 (tVar 0) (tCons (tVar 1) tNil)))) (tRet (tLst (tCons (tC (.int (-2))) tNil))) tNext)
    (tSeq (tAsg (tMeth (He.ga K "Model") "recommended" (sp_Model_recommended K) [] E0 (tFld K (tVar 0) "model") (tCons (tOp (rIxL K) (tOp (rIxL K) (tFld K (tFld K (tVar 0) "model") "rows") (tC (.int 0))) (tVar 1)) (tCons (tOp (rIxL K) (tFld K (tFld K (tVar 0) "model") "ratings") (tVar 1)) (tCons (tVar 2) tNil)))) (gName 3))
    (tRet (tOp rCat (tLst (tCons (tCB (rLenQ K) (tCons (tVar 3) tNil)) tNil)) (tCall (sp_flat K) [] E0 (tCons (tVar 3) tNil))))))
theorem pure_Liking_recommend (T : Txt K mg) (h : sp_Liking_recommend K vs H Q E) : t_Liking_recommend K { nx := fun _ H' => Q .non H', rt := Q } (start N_Liking_recommend vs) H := by
  obtain ⟨a, dx, A, m, u, n, rfl, h, hTb, k⟩ := h
  have ho := h.mod.1
  refine q_when (et_not (et_B (ev_is_user (ev_var rfl) h (ev_var rfl)))) (fun hb H1 e1 => ?_) (fun hb H1 e1 => ?_)
  · have hb : Kp429.hasUser m u = false := by simpa using hb
    exact s_retC h (k.to (m' := m) (n := -2) (ns := []) (by simp only [Kp429.step, if_neg (show ¬ Kp429.hasUser m u = true by rw [hb]; decide), Kp429.single])) e1 rfl
  have hb : Kp429.hasUser m u = true := by simpa using hb
  have hu : u < m.settings.users := of_decide_eq_true hb
  have h1 := h.ex e1
  obtain ⟨w0, hw0, hx0, hr0⟩ := rowAddr (k := 0) h1.mod.prm ho.p hu
  obtain ⟨d, kvs, hdk, hval, hev⟩ := ev_dictOf T h1 hu (σ := [some (.ref a), some (.int (u : Int)), some (.int (n : Int)), none]) (ta := tVar 0) (tk := tVar 1) (ev_var rfl) (ev_var rfl)
  refine q_asgBy ?_
  refine ev_model T (ta := tVar 0) (σ := [some (.ref a), some (.int (u : Int)), some (.int (n : Int)), none]) (ev_var rfl) h1 H1 (Ex.refl _) _ fun H2 e2 => ⟨_, _, _, rfl, e2 _ _ h1.mod.prm.obj, rfl, ?_⟩
  refine (ea_cons (ev_row (A := A) (p := m.parameters) (σ := [some (.ref a), some (.int (u : Int)), some (.int (n : Int)), none]) (ta := tFld K (tVar 0) "model") (tk := tC (.int 0)) (tn := tVar 1) T (k := 0) (n := u) (ev_model T (ev_var rfl) h1) h1.mod.prm ev_c (Nat.zero_le _) (ev_var rfl) hw0) (ea_cons hev (ea_cons (ta := tVar 2) (ev_var rfl) ea_nil))) H2 e2 _ fun H3 e3 => ?_
  have e23 := e2.trans e3
  refine ⟨A, m, w0, d, Kp429.rowOf m.parameters 0 u, fun i => (Kp429.ratingOf m u i).isSome, n, rfl, h1.mod.ex e23, e23 _ _ hx0, hr0, .inl ⟨kvs, e23 _ _ hdk, fun i => ?_⟩, tabs_ex hTb (e1.trans e23), fun q ts H4 e4 t4 h4 ht4 => ?_⟩
  · rw [hval]
    show _ = (Kp429.ratingOf m u i).isSome
    cases Kp429.ratingOf m u i <;> rfl
  · have l8 := recL_len ho (Kp429.rowOf m.parameters 0 u) fun i => (Kp429.ratingOf m u i).isSome
    refine s_retRec (i := 3) rfl h4 ht4 (by rw [List.length_take]; omega) fun r H5 e5 h5 => ?_
    refine ret_extN h (k.to (m' := m) (n := (((Kp429.recommendations m u).take n).length : Int)) (ns := ((Kp429.recommendations m u).take n).flatMap fun x => [(x.1 : Int), x.2]) ?_) ((ExtN.trans (ExtN.ex (e1.trans e23)) e4).trans (ExtN.ex e5)) (tabs_ex t4 e5) ?_
    · simp only [Kp429.step, if_pos hb]
    · rw [h5, rec_user]
theorem ok_Liking_recommend (T : Txt K mg) (TB : TbB K mg base) : Has P w K mg base 5 d_Liking_recommend.at_ ["self", "user", "count"] (sp_Liking_recommend K) := by
  refine Has.of (d := d_Liking_recommend) T 64 rfl ⟨rfl, rfl⟩ sc_Liking_recommend (fun _ _ _ _ _ _ us hl => match us, hl with | [_, _, _], _ => rfl) (fun vs H Q E h => len_Liking_recommend h) fun cdv A outer s H vs Q E hr h => ⟨t_Liking_recommend K, ?_, pure_Liking_recommend T h⟩
  exact (pss_cons (ps_if (pt_not (pt_val (pe_methH (pv 0) T.c_Liking T.m_Liking_is_user (ok_Liking_is_user T) (hr.mono (by decide)) (pa_cons (pv 1) pa_nil)))) (pss_one (ps_ret (pe_lst (pa_cons (pe_gint rfl T.i_NOT_THERE) pa_nil)))) pss_nil)
    (pss_cons (ps_set (i := 3) sc_Liking_recommend.nd rfl (Or.inl rfl) (pe_methH (pe_fld (pv 0) rfl) T.c_Model T.m_Model_recommended (ok_Model_recommended T TB) (hr.mono (by decide)) (pa_cons (pe_ix ix_list (pe_ix ix_list (pe_fld (pe_fld (pv 0) rfl) rfl) pe_int (fun _ _ => rfl)) (pv 1) (fun _ _ => rfl)) (pa_cons (pe_ix ix_list (pe_fld (pe_fld (pv 0) rfl) rfl) (pv 1) (fun _ _ => rfl)) (pa_cons (pv 2) pa_nil)))))
    (pss_one (ps_ret (pe_op op_cat (pe_lst (pa_cons (pe_callB cl_len (by rfl) T.f_len (by decide +kernel) (pa_cons (pv 3) pa_nil)) pa_nil)) (pe_callH (ok_flat T) (hr.mono (by decide)) rfl T.g_flat (pa_cons (pv 3) pa_nil)))))))
end
end Gs
namespace Gs
open PySem PySem.Spec PyProof.Rows L2 Evl LamX
section
open Kp429 (Rating Settings Parameters Coordinate View)
variable {P : Program} {w : World} {K : PySem.W.Frag} {mg : Str → Option Value} {base : Heap} {vs : List V} {H H' H1 H2 H3 : Hp} {Q : VK} {E : XK} {A A' A2 : MA} {p p' : Parameters} {σ : L2.St} {ta tk tn tq td ty tv tb te tx : TE} {s : Settings} {m m' m2 : Kp429.Model} {a dx : Addr}
def sp_Liking_recommend_new (K : PySem.W.Frag) : Sp := fun vs H Q _ => ∃ (a dx : Addr) (A : MA) (m : Kp429.Model) (l : Addr) (n : Nat) (ns : List Nat), vs = [.ref a, .int (n : Int), .ref l] ∧ LkAt K H a dx A m ∧ Tabs (LT K) H ∧ H l = some (.lst (natV ns)) ∧ ns.length ≤ 16 ∧ RetC K a dx A H m (.recommendNew n ns) Q
theorem len_Liking_recommend_new (h : sp_Liking_recommend_new K vs H Q E) : vs.length = (["self", "count", "numbers"] : List Str).length := by
  obtain ⟨_, _, _, _, _, _, _, rfl, _⟩ := h
  rfl
def t_Liking_recommend_new (K : PySem.W.Frag) : TS :=
  (tSeq (tAsg (tMeth (He.ga K "Liking") "told_pairs" (sp_Liking_told_pairs K) [] E0 (tVar 0) (tCons (tVar 2) tNil)) (gName 3))
    (tSeq (tIfS (tTest (tOp rIsNon (tVar 3) (tC .non))) (tRet (tLst (tCons (tC (.int (-22))) tNil))) tNext)
    (tSeq (tAsg (tOp (rIxT K) (tMeth (He.ga K "Model") "new_row" (sp_Model_new_row K) [] E0 (tFld K (tVar 0) "model") (tCons (tVar 3) tNil)) (tC (.int 1))) (gName 4))
    (tSeq (tAsg (tMeth (He.ga K "Model") "recommended" (sp_Model_recommended K) [] E0 (tFld K (tVar 0) "model") (tCons (tVar 4) (tCons (tLc (iList K (tVar 3)) (gTup K 2 (gCons (gName 6) (gCons (gName 7) gNil))) tYes (tVar 6) [6, 7]) (tCons (tVar 1) tNil)))) (gName 5))
    (tRet (tOp rCat (tLst (tCons (tCB (rLenQ K) (tCons (tVar 5) tNil)) tNil)) (tCall (sp_flat K) [] E0 (tCons (tVar 5) tNil))))))))
theorem any_mem (x : Told) (i : Nat) : decide (i ∈ x.map (·.1)) = x.any fun y => y.1 == i := by
  induction x with
  | nil => rfl
  | cons y r ih =>
    rw [List.any_cons, ← ih, List.map_cons]
    by_cases e : y.1 = i
    · simp [e]
    · have e2 : ¬ i = y.1 := fun q => e q.symm
      have b1 : (i == y.1) = false := beq_eq_false_iff_ne.mpr e2
      have b2 : (y.1 == i) = false := beq_eq_false_iff_ne.mpr e
      simp [b1, b2]
theorem el_items {l : Addr} {ts : List Addr} {x : Told} {v0 v1 v2 v4 v5 v6 v7 : Option V} (hT : ToldAt m H l ts x) : EvL (tLc (iList K (tVar 3)) (gTup K 2 (gCons (gName 6) (gCons (gName 7) gNil))) tYes (tVar 6) [6, 7]) [v0, v1, v2, some (.ref l), v4, v5, v6, v7] H ((x.map (·.1)).map fun (n : Nat) => V.int (n : Int)) := by
  intro H1 e1 Q1 q1
  have lts : ts.length = x.length := by rw [paired_len hT.t, List.length_map]
  have l8 := hT.n
  refine run_lcL (ev_var rfl) (sq_of (e1 _ _ hT.l)) fun H2 e2 => ?_
  refine lc_vals (walk_list (xs := ts.map V.ref)) (by rw [List.length_map]; omega) (fun H3 e3 => sq_of (e3 _ _ ((e1.trans e2) _ _ hT.l))) ((x.map (·.1)).map fun (n : Nat) => V.int (n : Int)) (by rw [List.length_map, List.length_map, List.length_map, lts]) ?_ (fun Dl H3 hD e3 h3 => q1 Dl H3 (fresh_back e2 hD) (e2.trans e3) h3)
  intro i v z H3 H4 K1 hi hz e3 y k1
  obtain ⟨rfl, hy⟩ := y
  rw [List.getElem?_map] at hy
  obtain ⟨t, htt, rfl⟩ := Option.map_eq_some_iff.mp hy
  obtain ⟨z', hz', htz⟩ := paired_at hT.t htt
  rw [List.getElem?_map] at hz'
  obtain ⟨y, hyx, rfl⟩ := Option.map_eq_some_iff.mp hz'
  rw [List.getElem?_map, List.getElem?_map, hyx] at hz
  cases hz
  refine g_unp2 (st_of (((e1.trans e2).trans e3) _ _ htz)) ⟨rfl, ?_⟩
  exact ev_var rfl _ (Ex.refl _) _ fun H6 e6 => k1 H6 e6
theorem rec_new (m : Kp429.Model) (row : List Int) (x : Told) : ((((List.range m.settings.items).filter fun i => !(x.any fun y => y.1 == i)).map fun i => (i, Kp429.predictRows m.parameters.base row (Kp429.rowOf m.parameters 1 i))).foldl (fun (l : List (Nat × Int)) (y : Nat × Int) => Kp429.insertPrediction y l) []) = recL m row fun i => x.any fun y => y.1 == i := rfl
theorem pure_Liking_recommend_new (T : Txt K mg) (h : sp_Liking_recommend_new K vs H Q E) : t_Liking_recommend_new K { nx := fun _ H' => Q .non H', rt := Q } (start N_Liking_recommend_new vs) H := by
  obtain ⟨a, dx, A, m, l, n, ns, rfl, h, hTb, hl, hn, k⟩ := h
  have ho := h.mod.1
  refine q_told (m := m) (ev_var rfl) h (ev_var rfl) hl hn (fun hN H1 e1 => ?_) (fun x hS q ts H1 e1 hT => ?_)
  · refine q_when (b := true) (et_test (ev_is (ev_isNon (ev_var rfl)) rfl)) (fun _ H2 e2 => ?_) (fun hb => by cases hb)
    exact s_retC h (k.to (m' := m) (n := -22) (ns := []) (by simp only [Kp429.step, hN, Kp429.single])) (e1.trans e2) rfl
  · refine q_when (b := false) (et_test (ev_is (ev_isNon (ev_var rfl)) (by rw [decide_eq_false (fun z => nomatch z)]))) (fun hb => by cases hb) (fun _ H2 e2 => ?_)
    have e12 := e1.trans e2
    have h2 := h.ex e12
    refine q_asgBy ?_
    refine run_new_row (A := A) (m := m) (Q := fun v H3 => tC (.int 1) _ H3 fun y H4 => rIxT K v y H4 fun v H5 => gName 4 v _ H5 _) (ev_model T (ev_var rfl) h2) h2.mod (ev_var rfl) (hT.ex e2) fun t r H3 e3 hr h3 ht => ?_
    refine ⟨t, _, 1, .ref r, rfl, rfl, st_of ht, rfl, ?_⟩
    have h3' := h2.ex e3
    have hT3 := (hT.ex e2).ex e3
    have hro := newRow_ok ho x
    refine q_asgBy ?_
    refine ev_model T (ta := tVar 0) (σ := [some (.ref a), some (.int (n : Int)), some (.ref l), some (.ref q), some (.ref r), none, none, none]) (ev_var rfl) h3' H3 (Ex.refl _) _ fun H4 e4 => ⟨_, _, _, rfl, e4 _ _ h3'.mod.prm.obj, rfl, ?_⟩
    refine cons_by ?_
    refine run_ev (ev_var rfl) fun H5 e5 => cons_by ?_
    have e45 := e4.trans e5
    refine run_el (el_items (m := m) (hT3.ex e45)) fun c H6 hc e6 h6 => ?_
    refine run_ea (ea_cons (ta := tVar 1) (ev_var rfl) ea_nil) fun H7 e7 => ?_
    have e47 := (e45.trans e6).trans e7
    refine ⟨A, m, r, c, (Kp429.newRow m x).1, (fun i => x.any fun y => y.1 == i), n, rfl, h3'.mod.ex e47, e47 _ _ h3, hro, .inr ⟨x.map (·.1), e7 _ _ h6, any_mem x⟩, tabs_ex hTb ((e12.trans e3).trans e47), fun q2 ts2 H8 e8 t8 h8 ht8 => ?_⟩
    have l8 := recL_len ho (Kp429.newRow m x).1 fun i => x.any fun y => y.1 == i
    refine s_retRec (i := 5) rfl h8 ht8 (by rw [List.length_take]; omega) fun r2 H9 e9 h9 => ?_
    refine ret_extN h (k.to (m' := m) (n := (((recL m (Kp429.newRow m x).1 fun i => x.any fun y => y.1 == i).take n).length : Int)) (ns := ((recL m (Kp429.newRow m x).1 fun i => x.any fun y => y.1 == i).take n).flatMap fun x => [(x.1 : Int), x.2]) ?_) ((ExtN.trans (ExtN.ex ((e12.trans e3).trans e47)) e8).trans (ExtN.ex e9)) (tabs_ex t8 e9) h9
    simp only [Kp429.step, hS]
    rfl
theorem ok_Liking_recommend_new (T : Txt K mg) (TB : TbB K mg base) : Has P w K mg base 5 d_Liking_recommend_new.at_ ["self", "count", "numbers"] (sp_Liking_recommend_new K) := by
  refine Has.of (d := d_Liking_recommend_new) T 68 rfl ⟨rfl, rfl⟩ sc_Liking_recommend_new (fun _ _ _ _ _ _ us hl => match us, hl with | [_, _, _], _ => rfl) (fun vs H Q E h => len_Liking_recommend_new h) fun cdv A outer s H vs Q E hr h => ⟨t_Liking_recommend_new K, ?_, pure_Liking_recommend_new T h⟩
  exact (pss_cons (ps_set (i := 3) sc_Liking_recommend_new.nd rfl (Or.inl rfl) (pe_methH (pv 0) T.c_Liking T.m_Liking_told_pairs (ok_Liking_told_pairs T) (hr.mono (by decide)) (pa_cons (pv 2) pa_nil)))
    (pss_cons (ps_if (pt_cmpR op_isN (pv 3) pe_non (nomark _)) (pss_one (ps_ret (pe_lst (pa_cons (pe_gint rfl T.i_BEYOND) pa_nil)))) pss_nil)
    (pss_cons (ps_set (i := 4) sc_Liking_recommend_new.nd rfl (Or.inl rfl) (pe_ix ix_tup (pe_methH (pe_fld (pv 0) rfl) T.c_Model T.m_Model_new_row (ok_Model_new_row T) (hr.mono (by decide)) (pa_cons (pv 3) pa_nil)) pe_int (fun _ _ => rfl)))
    (pss_cons (ps_set (i := 5) sc_Liking_recommend_new.nd rfl (Or.inl rfl) (pe_methH (pe_fld (pv 0) rfl) T.c_Model T.m_Model_recommended (ok_Model_recommended T TB) (hr.mono (by decide)) (pa_cons (pv 4) (pa_cons (pe_lc (own := [("item", 6), ("value", 7)]) (g := (gTup K 2 (gCons (gName 6) (gCons (gName 7) gNil)))) (tt := tYes) rfl sc_Liking_recommend_new.nd (pi_list (pv 3)) (blkOk_by (own := [("item", 6), ("value", 7)]) (N := N_Liking_recommend_new) (sc := defScope s_Liking_recommend_new) (by decide +kernel)) (fun _ _ _ _ _ => (pg_tup rfl (pgs_cons (pg_name (i := 6) sc_Liking_recommend_new.nd rfl (Or.inl rfl)) (pgs_cons (pg_name (i := 7) sc_Liking_recommend_new.nd rfl (Or.inl rfl)) pgs_nil)))) (fun _ _ _ _ _ => pts_nil) (fun _ _ _ _ _ => (pv 6))) (pa_cons (pv 1) pa_nil)))))
    (pss_one (ps_ret (pe_op op_cat (pe_lst (pa_cons (pe_callB cl_len (by rfl) T.f_len (by decide +kernel) (pa_cons (pv 5) pa_nil)) pa_nil)) (pe_callH (ok_flat T) (hr.mono (by decide)) rfl T.g_flat (pa_cons (pv 5) pa_nil)))))))))
/-! ### without -/
theorem train_with (m : Kp429.Model) (q : Parameters) : ∀ (n : Nat) (p : Parameters) (c : Nat), Kp429.train (Kp429.withParameters m q) n p c = Kp429.train m n p c
  | 0, _, _ => rfl
  | n + 1, p, c => by
    have e : Kp429.sweep (Kp429.withParameters m q) p = Kp429.sweep m p := rfl
    unfold Kp429.train
    rw [e, train_with m q n]
def sp_Liking_without (K : PySem.W.Frag) : Sp := fun vs H Q _ => ∃ (a dx : Addr) (A : MA) (m : Kp429.Model) (u n : Nat), vs = [.ref a, .int (u : Int), .int (n : Int)] ∧ LkAt K H a dx A m ∧ RetC K a dx A H m (.without u n) Q
theorem len_Liking_without (h : sp_Liking_without K vs H Q E) : vs.length = (["self", "user", "most"] : List Str).length := by
  obtain ⟨_, _, _, _, _, _, rfl, _⟩ := h
  rfl
def t_Liking_without (K : PySem.W.Frag) : TS :=
  (tSeq (tIfS (tNot (tB (tMeth (He.ga K "Liking") "is_user" (sp_Liking_is_user K) [] E0 (tVar 0) (tCons (tVar 1) tNil)))) (tRet (tLst (tCons (tC (.int (-2))) tNil))) tNext)
    (tSeq (tIfS (tTest (tOp rGtI (tVar 2) (tC (.int 100)))) (tRet (tLst (tCons (tC (.int (-22))) tNil))) tNext)
    (tSeq (tDrop (tMeth (He.ga K "Model") "forget" (sp_Model_forget K) [] E0 (tFld K (tVar 0) "model") (tCons (tVar 1) tNil)))
    (tSeq (tDrop (tMeth (He.ga K "Model") "reset" (sp_Model_reset K) [] E0 (tFld K (tVar 0) "model") tNil))
    (tRet (tMeth (He.ga K "Liking") "train" (sp_Liking_train K) [] E0 (tVar 0) (tCons (tVar 2) tNil)))))))
theorem mv_of (h : LkAt K H a dx A m) (mv : Moved A H A' H') (na : ¬ A'.fp a) : Mv K a A H A' H' := ⟨fun b o n _ _ hb => mv.fr b o n hb, fun b hb => (mv.fp b hb).imp id (fun e o ho => by rw [e] at ho; cases ho), na, tabs_fr (fun b o hb ho => h.mod.kind hb ho) mv.fr⟩
theorem s_retMeth {D : Ends} {C : Addr} {mn : Str} {sp : Sp} {t : TA} {fs : List (Str × V)} {vs : List V} {dx : Addr} (ha : Ev ta σ H (.ref a)) (ho : H a = some (.ins C dx fs)) (hl : fs.lookup mn = none) (ht : EvA t σ H vs) (k : ∀ H1, Ex H H1 → sp (.ref a :: (vs ++ [])) H1 D.rt E0) : tRet (tMeth C mn sp [] E0 ta t) D σ H :=
  ha H (Ex.refl H) _ fun H1 e1 => ⟨a, dx, fs, rfl, e1 _ _ ho, hl, ht H1 e1 _ fun H2 e2 => k H2 (e1.trans e2)⟩
theorem q_dropM {D : Ends} {tz : TS} {v : V} (h : EvM K A te σ H m' v) (k : ∀ H1, Kept K A H m' H1 → tz D σ H1) : tSeq (tDrop te) tz D σ H := h H (Ex.refl H) _ fun H1 g => k H1 g
theorem pure_Liking_without (T : Txt K mg) (h : sp_Liking_without K vs H Q E) : t_Liking_without K { nx := fun _ H' => Q .non H', rt := Q } (start N_Liking_without vs) H := by
  obtain ⟨a, dx, A, m, u, n, rfl, h, k⟩ := h
  refine q_when (et_not (et_B (ev_is_user (ev_var rfl) h (ev_var rfl)))) (fun hb H1 e1 => ?_) (fun hb H1 e1 => ?_)
  · have hb : Kp429.hasUser m u = false := by simpa using hb
    exact s_retC h (k.to (m' := m) (n := -2) (ns := []) (by simp only [Kp429.step, if_pos hb, Kp429.single])) e1 rfl
  have hb : Kp429.hasUser m u = true := by simpa using hb
  have c1 : ¬ Kp429.hasUser m u = false := by rw [hb]; decide
  have h1 := h.ex e1
  refine q_when (et_test (ev_gt (ev_var rfl) ev_c)) (fun hb2 H2 e2 => ?_) (fun hb2 H2 e2 => ?_)
  · have c2 : 100 < n := by have := of_decide_eq_true hb2; omega
    exact s_retC h (k.to (m' := m) (n := -22) (ns := []) (by simp only [Kp429.step, if_neg c1, if_pos c2, Kp429.single])) (e1.trans e2) rfl
  have c2 : ¬ 100 < n := by have := of_decide_eq_false hb2; omega
  have h2 := h1.ex e2
  refine q_dropM (em_forget (A := A) (m := m) (u := u) (ev_model T (ev_var rfl) h2) h2.mod (ev_var rfl) (of_decide_eq_true hb)) fun H3 g => ?_
  have h3 := h2.kept g
  refine q_reset T h3 (ev_var rfl) fun A' H4 hM mv => ?_
  have h4 := h3.moved hM mv
  have mv2 : Moved A H A' H4 := (Moved.trans (⟨(frEx (e1.trans e2)).trans g.2, fun b hb => .inl hb, rfl, rfl⟩ : Moved A H A H3) mv)
  refine s_retMeth (ev_var rfl) h4.obj rfl (ea_cons (ev_var rfl) ea_nil) fun H5 e5 => ⟨a, dx, A', resetM (forgetM m u).settings (forgetM m u).ratings, n, rfl, h4.ex e5, fun m' hm' => ?_⟩
  intro A'' q H6 h6 v6 hq
  have vAll : Mv K a A H A'' H6 := (mv_of h (mv2.exR e5) h4.na).trans v6
  have hT : trainR (resetM (forgetM m u).settings (forgetM m u).ratings) n = Kp429.train (forgetM m u) n (Kp429.initial m.settings (forgetM m u).ratings) 0 := train_with (forgetM m u) (Kp429.initial m.settings (forgetM m u).ratings) n _ 0
  have e7 : Kp429.step (some (resetM (forgetM m u).settings (forgetM m u).ratings)) (.train n) = (some (Kp429.withParameters (forgetM m u) (Kp429.train (forgetM m u) n (Kp429.initial m.settings (forgetM m u).ratings) 0).1), ⟨((Kp429.train (forgetM m u) n (Kp429.initial m.settings (forgetM m u).ratings) 0).2.1 : Int), [(Kp429.flag (Kp429.train (forgetM m u) n (Kp429.initial m.settings (forgetM m u).ratings) 0).2.2 : Int), Kp429.objective (forgetM m u) (Kp429.train (forgetM m u) n (Kp429.initial m.settings (forgetM m u).ratings) 0).1]⟩) := by
    have hT2 : Kp429.train (resetM (forgetM m u).settings (forgetM m u).ratings) n (resetM (forgetM m u).settings (forgetM m u).ratings).parameters 0 = Kp429.train (forgetM m u) n (Kp429.initial m.settings (forgetM m u).ratings) 0 := hT
    simp only [Kp429.step, if_neg c2]
    rw [hT2]
    rfl
  have e8 : Kp429.step (some m) (.without u n) = Kp429.step (some (resetM (forgetM m u).settings (forgetM m u).ratings)) (.train n) := by
    rw [e7]
    simp only [Kp429.step, if_neg c1, if_neg c2]
    rfl
  have k2 := k m' (by rw [e8]; exact hm')
  rw [e8] at k2
  exact k2 A'' q H6 h6 vAll hq
theorem ok_Liking_without (T : Txt K mg) : Has P w K mg base 10 d_Liking_without.at_ ["self", "user", "most"] (sp_Liking_without K) := by
  refine Has.of (d := d_Liking_without) T 69 rfl ⟨rfl, rfl⟩ sc_Liking_without (fun _ _ _ _ _ _ us hl => match us, hl with | [_, _, _], _ => rfl) (fun vs H Q E h => len_Liking_without h) fun cdv A outer s H vs Q E hr h => ⟨t_Liking_without K, ?_, pure_Liking_without T h⟩
  exact (pss_cons (ps_if (pt_not (pt_val (pe_methH (pv 0) T.c_Liking T.m_Liking_is_user (ok_Liking_is_user T) (hr.mono (by decide)) (pa_cons (pv 1) pa_nil)))) (pss_one (ps_ret (pe_lst (pa_cons (pe_gint rfl T.i_NOT_THERE) pa_nil)))) pss_nil)
    (pss_cons (ps_if (pt_cmpR op_gt (pv 2) (pe_gint rfl T.i_MOST_SWEEPS) (nomark _)) (pss_one (ps_ret (pe_lst (pa_cons (pe_gint rfl T.i_BEYOND) pa_nil)))) pss_nil)
    (pss_cons (ps_expr (pe_methH (pe_fld (pv 0) rfl) T.c_Model T.m_Model_forget (ok_Model_forget T) (hr.mono (by decide)) (pa_cons (pv 1) pa_nil)))
    (pss_cons (ps_expr (pe_methH0 (pe_fld (pv 0) rfl) T.c_Model T.m_Model_reset (ok_Model_reset T) (hr.mono (by decide))))
    (pss_one (ps_ret (pe_methH (pv 0) T.c_Liking T.m_Liking_train (ok_Liking_train T) (hr.mono (by decide)) (pa_cons (pv 2) pa_nil))))))))
end
end Gs
namespace Gs
open PySem PySem.Spec PyProof.Rows L2 Evl LamX
/-- a call's code and its numbers, and the document's call -/
inductive Dec : Nat → List Nat → Kp429.Call → Prop
  | c0 (a b c d e f g h : Nat) : Dec 0 [a, b, c, d, e, f, g, h] (.create a b c d e f g h)
  | c1 (x y z : Nat) : Dec 1 [x, y, z] (.setRating x y z)
  | c2 (x y : Nat) : Dec 2 [x, y] (.clearRating x y)
  | c3 (x : Nat) : Dec 3 [x] (.deleteUser x)
  | c4 : Dec 4 [] (.reset)
  | c5 (x y z : Nat) : Dec 5 [x, y, z] (.step x y z)
  | c6 : Dec 6 [] (.sweep)
  | c7 (x : Nat) : Dec 7 [x] (.train x)
  | c8 : Dec 8 [] (.objective)
  | c9 (x : Nat) : Dec 9 [x] (.curve x)
  | c10 : Dec 10 [] (.certificate)
  | c11 (x y z : Nat) : Dec 11 [x, y, z] (.quadratic x y z)
  | c12 (x y z : Nat) : Dec 12 [x, y, z] (.parameter x y z)
  | c13 (x y z u v : Nat) : Dec 13 [x, y, z, u, v] (.setParameter x y z u v)
  | c14 (x y : Nat) : Dec 14 [x, y] (.predict x y)
  | c15 (x y : Nat) : Dec 15 [x, y] (.explain x y)
  | c16 (x : Nat) : Dec 16 [x] (.residuals x)
  | c17 : Dec 17 [] (.meanError)
  | c18 (x y : Nat) : Dec 18 [x, y] (.recommend x y)
  | c19 (x y z : Nat) : Dec 19 [x, y, z] (.similar x y z)
  | c20 (l : List Nat) (h : l.length ≤ 16) : Dec 20 l (.foldIn l)
  | c21 (x : Nat) (l : List Nat) (h : l.length ≤ 16) : Dec 21 (x :: l) (.recommendNew x l)
  | c22 (x y : Nat) : Dec 22 [x, y] (.without x y)
  | c23 : Dec 23 [] (.status)
section
open Kp429 (Rating Settings Parameters Coordinate View)
variable {P : Program} {w : World} {K : PySem.W.Frag} {mg : Str → Option Value} {base : Heap} {vs : List V} {H H' H1 H2 H3 : Hp} {Q : VK} {E : XK} {A A' A2 : MA} {p p' : Parameters} {σ : L2.St} {ta tk tn tq td ty tv tb te tx : TE} {s : Settings} {m m' m2 : Kp429.Model} {a dx : Addr}
theorem q_no {D : Ends} {t : TT} {tu tz : TS} (h : EvT t σ H false) (k : ∀ H1, Ex H H1 → tz D σ H1) : tSeq (tIfS t tu tNext) tz D σ H := q_when h (fun z => by cases z) fun _ => k
theorem q_yes {D : Ends} {t : TT} {tu tz : TS} (h : EvT t σ H true) (k : ∀ H1, Ex H H1 → tu { D with nx := tz D } σ H1) : tSeq (tIfS t tu tNext) tz D σ H := q_when h (fun _ => k) fun z => by cases z
theorem s_retMeth2L {D : Ends} {C : Addr} {mn : Str} {sp : Sp} {t1 t2 : TE} {fs : List (Str × V)} {v : V} {xs : List V} {dx : Addr} (ha : Ev ta σ H (.ref a)) (ho : H a = some (.ins C dx fs)) (hl : fs.lookup mn = none) (h1 : Ev t1 σ H v) (h2 : EvL t2 σ H xs) (k : ∀ q H1, Ex H H1 → H1 q = some (.lst xs) → sp (.ref a :: ([v, .ref q] ++ [])) H1 D.rt E0) : tRet (tMeth C mn sp [] E0 ta (tCons t1 (tCons t2 tNil))) D σ H :=
  ha H (Ex.refl H) _ fun H1 e1 => ⟨a, dx, fs, rfl, e1 _ _ ho, hl, h1 H1 e1 _ fun H2 e2 => h2 H2 (e1.trans e2) _ fun q H3 _ e3 h3 => k q H3 ((e1.trans e2).trans e3) h3⟩
def sp_Liking_told (K : PySem.W.Frag) : Sp := fun vs H Q _ => ∃ (a dx : Addr) (A : MA) (m : Kp429.Model) (b : Addr) (c : Nat) (ns : List Nat) (call : Kp429.Call), vs = [.ref a, .int (c : Int), .ref b] ∧ LkAt K H a dx A m ∧ H b = some (.lst (natV ns)) ∧ Dec c ns call ∧ (1 ≤ c ∧ c ≤ 11) ∧ RetC K a dx A H m call Q
theorem len_Liking_told (h : sp_Liking_told K vs H Q E) : vs.length = (["self", "call", "numbers"] : List Str).length := by
  obtain ⟨_, _, _, _, _, _, _, _, rfl, _⟩ := h
  rfl
def t_Liking_told (K : PySem.W.Frag) : TS :=
  (tSeq (tIfS (tTest (tOp rEq (tVar 1) (tC (.int 1)))) (tRet (tMeth (He.ga K "Liking") "set_rating" (sp_Liking_set_rating K) [] E0 (tVar 0) (tCons (tOp (rIxL K) (tVar 2) (tC (.int 0))) (tCons (tOp (rIxL K) (tVar 2) (tC (.int 1))) (tCons (tOp (rIxL K) (tVar 2) (tC (.int 2))) tNil))))) tNext)
    (tSeq (tIfS (tTest (tOp rEq (tVar 1) (tC (.int 2)))) (tRet (tMeth (He.ga K "Liking") "clear_rating" (sp_Liking_clear_rating K) [] E0 (tVar 0) (tCons (tOp (rIxL K) (tVar 2) (tC (.int 0))) (tCons (tOp (rIxL K) (tVar 2) (tC (.int 1))) tNil)))) tNext)
    (tSeq (tIfS (tTest (tOp rEq (tVar 1) (tC (.int 3)))) (tRet (tMeth (He.ga K "Liking") "delete_user" (sp_Liking_delete_user K) [] E0 (tVar 0) (tCons (tOp (rIxL K) (tVar 2) (tC (.int 0))) tNil))) tNext)
    (tSeq (tIfS (tTest (tOp rEq (tVar 1) (tC (.int 4)))) (tRet (tMeth (He.ga K "Liking") "reset" (sp_Liking_reset K) [] E0 (tVar 0) tNil)) tNext)
    (tSeq (tIfS (tTest (tOp rEq (tVar 1) (tC (.int 5)))) (tRet (tMeth (He.ga K "Liking") "step" (sp_Liking_step K) [] E0 (tVar 0) (tCons (tOp (rIxL K) (tVar 2) (tC (.int 0))) (tCons (tOp (rIxL K) (tVar 2) (tC (.int 1))) (tCons (tOp (rIxL K) (tVar 2) (tC (.int 2))) tNil))))) tNext)
    (tSeq (tIfS (tTest (tOp rEq (tVar 1) (tC (.int 6)))) (tRet (tMeth (He.ga K "Liking") "sweep" (sp_Liking_sweep K) [] E0 (tVar 0) tNil)) tNext)
    (tSeq (tIfS (tTest (tOp rEq (tVar 1) (tC (.int 7)))) (tRet (tMeth (He.ga K "Liking") "train" (sp_Liking_train K) [] E0 (tVar 0) (tCons (tOp (rIxL K) (tVar 2) (tC (.int 0))) tNil))) tNext)
    (tSeq (tIfS (tTest (tOp rEq (tVar 1) (tC (.int 8)))) (tRet (tMeth (He.ga K "Liking") "objective" (sp_Liking_objective K) [] E0 (tVar 0) tNil)) tNext)
    (tSeq (tIfS (tTest (tOp rEq (tVar 1) (tC (.int 9)))) (tRet (tMeth (He.ga K "Liking") "curve" (sp_Liking_curve K) [] E0 (tVar 0) (tCons (tOp (rIxL K) (tVar 2) (tC (.int 0))) tNil))) tNext)
    (tSeq (tIfS (tTest (tOp rEq (tVar 1) (tC (.int 10)))) (tRet (tMeth (He.ga K "Liking") "certificate" (sp_Liking_certificate K) [] E0 (tVar 0) tNil)) tNext)
    (tRet (tMeth (He.ga K "Liking") "quadratic" (sp_Liking_quadratic K) [] E0 (tVar 0) (tCons (tOp (rIxL K) (tVar 2) (tC (.int 0))) (tCons (tOp (rIxL K) (tVar 2) (tC (.int 1))) (tCons (tOp (rIxL K) (tVar 2) (tC (.int 2))) tNil)))))))))))))))
theorem pure_Liking_told (T : Txt K mg) (h : sp_Liking_told K vs H Q E) : t_Liking_told K { nx := fun _ H' => Q .non H', rt := Q } (start N_Liking_told vs) H := by
  obtain ⟨a, dx, A, m, b, c, ns, call, rfl, h, hl, hD, hc, k⟩ := h
  cases hD with
  | c0 => exact absurd hc (by omega)
  | c1 x y z =>
    refine q_yes (et_test (ev_is (ev_eqi (ev_var rfl) ev_c) rfl)) fun H1 e1 => ?_
    have ee := e1
    have hh := h.ex ee
    have hl' := ee _ _ hl
    exact s_retMeth (ev_var rfl) hh.obj rfl (ea_cons (ev_ixL (j := 0) (ev_var rfl) ev_c (sq_of hl') rfl) (ea_cons (ev_ixL (j := 1) (ev_var rfl) ev_c (sq_of hl') rfl) (ea_cons (ev_ixL (j := 2) (ev_var rfl) ev_c (sq_of hl') rfl) ea_nil))) fun H2 ex2 => ⟨a, dx, A, m, x, y, z, rfl, hh.ex ex2, k.ex (ee.trans ex2)⟩
  | c2 x y =>
    refine q_no (et_test (ev_is (ev_eqi (ev_var rfl) ev_c) rfl)) fun H1 e1 => ?_
    refine q_yes (et_test (ev_is (ev_eqi (ev_var rfl) ev_c) rfl)) fun H2 e2 => ?_
    have ee := (e1.trans e2)
    have hh := h.ex ee
    have hl' := ee _ _ hl
    exact s_retMeth (ev_var rfl) hh.obj rfl (ea_cons (ev_ixL (j := 0) (ev_var rfl) ev_c (sq_of hl') rfl) (ea_cons (ev_ixL (j := 1) (ev_var rfl) ev_c (sq_of hl') rfl) ea_nil)) fun H2 ex2 => ⟨a, dx, A, m, x, y, rfl, hh.ex ex2, k.ex (ee.trans ex2)⟩
  | c3 x =>
    refine q_no (et_test (ev_is (ev_eqi (ev_var rfl) ev_c) rfl)) fun H1 e1 => ?_
    refine q_no (et_test (ev_is (ev_eqi (ev_var rfl) ev_c) rfl)) fun H2 e2 => ?_
    refine q_yes (et_test (ev_is (ev_eqi (ev_var rfl) ev_c) rfl)) fun H3 e3 => ?_
    have ee := ((e1.trans e2).trans e3)
    have hh := h.ex ee
    have hl' := ee _ _ hl
    exact s_retMeth (ev_var rfl) hh.obj rfl (ea_cons (ev_ixL (j := 0) (ev_var rfl) ev_c (sq_of hl') rfl) ea_nil) fun H2 ex2 => ⟨a, dx, A, m, x, rfl, hh.ex ex2, k.ex (ee.trans ex2)⟩
  | c4  =>
    refine q_no (et_test (ev_is (ev_eqi (ev_var rfl) ev_c) rfl)) fun H1 e1 => ?_
    refine q_no (et_test (ev_is (ev_eqi (ev_var rfl) ev_c) rfl)) fun H2 e2 => ?_
    refine q_no (et_test (ev_is (ev_eqi (ev_var rfl) ev_c) rfl)) fun H3 e3 => ?_
    refine q_yes (et_test (ev_is (ev_eqi (ev_var rfl) ev_c) rfl)) fun H4 e4 => ?_
    have ee := (((e1.trans e2).trans e3).trans e4)
    have hh := h.ex ee
    have hl' := ee _ _ hl
    exact s_retMeth (ev_var rfl) hh.obj rfl ea_nil fun H2 ex2 => ⟨a, dx, A, m, rfl, hh.ex ex2, k.ex (ee.trans ex2)⟩
  | c5 x y z =>
    refine q_no (et_test (ev_is (ev_eqi (ev_var rfl) ev_c) rfl)) fun H1 e1 => ?_
    refine q_no (et_test (ev_is (ev_eqi (ev_var rfl) ev_c) rfl)) fun H2 e2 => ?_
    refine q_no (et_test (ev_is (ev_eqi (ev_var rfl) ev_c) rfl)) fun H3 e3 => ?_
    refine q_no (et_test (ev_is (ev_eqi (ev_var rfl) ev_c) rfl)) fun H4 e4 => ?_
    refine q_yes (et_test (ev_is (ev_eqi (ev_var rfl) ev_c) rfl)) fun H5 e5 => ?_
    have ee := ((((e1.trans e2).trans e3).trans e4).trans e5)
    have hh := h.ex ee
    have hl' := ee _ _ hl
    exact s_retMeth (ev_var rfl) hh.obj rfl (ea_cons (ev_ixL (j := 0) (ev_var rfl) ev_c (sq_of hl') rfl) (ea_cons (ev_ixL (j := 1) (ev_var rfl) ev_c (sq_of hl') rfl) (ea_cons (ev_ixL (j := 2) (ev_var rfl) ev_c (sq_of hl') rfl) ea_nil))) fun H2 ex2 => ⟨a, dx, A, m, x, y, z, rfl, hh.ex ex2, k.ex (ee.trans ex2)⟩
  | c6  =>
    refine q_no (et_test (ev_is (ev_eqi (ev_var rfl) ev_c) rfl)) fun H1 e1 => ?_
    refine q_no (et_test (ev_is (ev_eqi (ev_var rfl) ev_c) rfl)) fun H2 e2 => ?_
    refine q_no (et_test (ev_is (ev_eqi (ev_var rfl) ev_c) rfl)) fun H3 e3 => ?_
    refine q_no (et_test (ev_is (ev_eqi (ev_var rfl) ev_c) rfl)) fun H4 e4 => ?_
    refine q_no (et_test (ev_is (ev_eqi (ev_var rfl) ev_c) rfl)) fun H5 e5 => ?_
    refine q_yes (et_test (ev_is (ev_eqi (ev_var rfl) ev_c) rfl)) fun H6 e6 => ?_
    have ee := (((((e1.trans e2).trans e3).trans e4).trans e5).trans e6)
    have hh := h.ex ee
    have hl' := ee _ _ hl
    exact s_retMeth (ev_var rfl) hh.obj rfl ea_nil fun H2 ex2 => ⟨a, dx, A, m, rfl, hh.ex ex2, k.ex (ee.trans ex2)⟩
  | c7 x =>
    refine q_no (et_test (ev_is (ev_eqi (ev_var rfl) ev_c) rfl)) fun H1 e1 => ?_
    refine q_no (et_test (ev_is (ev_eqi (ev_var rfl) ev_c) rfl)) fun H2 e2 => ?_
    refine q_no (et_test (ev_is (ev_eqi (ev_var rfl) ev_c) rfl)) fun H3 e3 => ?_
    refine q_no (et_test (ev_is (ev_eqi (ev_var rfl) ev_c) rfl)) fun H4 e4 => ?_
    refine q_no (et_test (ev_is (ev_eqi (ev_var rfl) ev_c) rfl)) fun H5 e5 => ?_
    refine q_no (et_test (ev_is (ev_eqi (ev_var rfl) ev_c) rfl)) fun H6 e6 => ?_
    refine q_yes (et_test (ev_is (ev_eqi (ev_var rfl) ev_c) rfl)) fun H7 e7 => ?_
    have ee := ((((((e1.trans e2).trans e3).trans e4).trans e5).trans e6).trans e7)
    have hh := h.ex ee
    have hl' := ee _ _ hl
    exact s_retMeth (ev_var rfl) hh.obj rfl (ea_cons (ev_ixL (j := 0) (ev_var rfl) ev_c (sq_of hl') rfl) ea_nil) fun H2 ex2 => ⟨a, dx, A, m, x, rfl, hh.ex ex2, k.ex (ee.trans ex2)⟩
  | c8  =>
    refine q_no (et_test (ev_is (ev_eqi (ev_var rfl) ev_c) rfl)) fun H1 e1 => ?_
    refine q_no (et_test (ev_is (ev_eqi (ev_var rfl) ev_c) rfl)) fun H2 e2 => ?_
    refine q_no (et_test (ev_is (ev_eqi (ev_var rfl) ev_c) rfl)) fun H3 e3 => ?_
    refine q_no (et_test (ev_is (ev_eqi (ev_var rfl) ev_c) rfl)) fun H4 e4 => ?_
    refine q_no (et_test (ev_is (ev_eqi (ev_var rfl) ev_c) rfl)) fun H5 e5 => ?_
    refine q_no (et_test (ev_is (ev_eqi (ev_var rfl) ev_c) rfl)) fun H6 e6 => ?_
    refine q_no (et_test (ev_is (ev_eqi (ev_var rfl) ev_c) rfl)) fun H7 e7 => ?_
    refine q_yes (et_test (ev_is (ev_eqi (ev_var rfl) ev_c) rfl)) fun H8 e8 => ?_
    have ee := (((((((e1.trans e2).trans e3).trans e4).trans e5).trans e6).trans e7).trans e8)
    have hh := h.ex ee
    have hl' := ee _ _ hl
    exact s_retMeth (ev_var rfl) hh.obj rfl ea_nil fun H2 ex2 => ⟨a, dx, A, m, rfl, hh.ex ex2, k.ex (ee.trans ex2)⟩
  | c9 x =>
    refine q_no (et_test (ev_is (ev_eqi (ev_var rfl) ev_c) rfl)) fun H1 e1 => ?_
    refine q_no (et_test (ev_is (ev_eqi (ev_var rfl) ev_c) rfl)) fun H2 e2 => ?_
    refine q_no (et_test (ev_is (ev_eqi (ev_var rfl) ev_c) rfl)) fun H3 e3 => ?_
    refine q_no (et_test (ev_is (ev_eqi (ev_var rfl) ev_c) rfl)) fun H4 e4 => ?_
    refine q_no (et_test (ev_is (ev_eqi (ev_var rfl) ev_c) rfl)) fun H5 e5 => ?_
    refine q_no (et_test (ev_is (ev_eqi (ev_var rfl) ev_c) rfl)) fun H6 e6 => ?_
    refine q_no (et_test (ev_is (ev_eqi (ev_var rfl) ev_c) rfl)) fun H7 e7 => ?_
    refine q_no (et_test (ev_is (ev_eqi (ev_var rfl) ev_c) rfl)) fun H8 e8 => ?_
    refine q_yes (et_test (ev_is (ev_eqi (ev_var rfl) ev_c) rfl)) fun H9 e9 => ?_
    have ee := ((((((((e1.trans e2).trans e3).trans e4).trans e5).trans e6).trans e7).trans e8).trans e9)
    have hh := h.ex ee
    have hl' := ee _ _ hl
    exact s_retMeth (ev_var rfl) hh.obj rfl (ea_cons (ev_ixL (j := 0) (ev_var rfl) ev_c (sq_of hl') rfl) ea_nil) fun H2 ex2 => ⟨a, dx, A, m, x, rfl, hh.ex ex2, k.ex (ee.trans ex2)⟩
  | c10  =>
    refine q_no (et_test (ev_is (ev_eqi (ev_var rfl) ev_c) rfl)) fun H1 e1 => ?_
    refine q_no (et_test (ev_is (ev_eqi (ev_var rfl) ev_c) rfl)) fun H2 e2 => ?_
    refine q_no (et_test (ev_is (ev_eqi (ev_var rfl) ev_c) rfl)) fun H3 e3 => ?_
    refine q_no (et_test (ev_is (ev_eqi (ev_var rfl) ev_c) rfl)) fun H4 e4 => ?_
    refine q_no (et_test (ev_is (ev_eqi (ev_var rfl) ev_c) rfl)) fun H5 e5 => ?_
    refine q_no (et_test (ev_is (ev_eqi (ev_var rfl) ev_c) rfl)) fun H6 e6 => ?_
    refine q_no (et_test (ev_is (ev_eqi (ev_var rfl) ev_c) rfl)) fun H7 e7 => ?_
    refine q_no (et_test (ev_is (ev_eqi (ev_var rfl) ev_c) rfl)) fun H8 e8 => ?_
    refine q_no (et_test (ev_is (ev_eqi (ev_var rfl) ev_c) rfl)) fun H9 e9 => ?_
    refine q_yes (et_test (ev_is (ev_eqi (ev_var rfl) ev_c) rfl)) fun H10 e10 => ?_
    have ee := (((((((((e1.trans e2).trans e3).trans e4).trans e5).trans e6).trans e7).trans e8).trans e9).trans e10)
    have hh := h.ex ee
    have hl' := ee _ _ hl
    exact s_retMeth (ev_var rfl) hh.obj rfl ea_nil fun H2 ex2 => ⟨a, dx, A, m, rfl, hh.ex ex2, k.ex (ee.trans ex2)⟩
  | c11 x y z =>
    refine q_no (et_test (ev_is (ev_eqi (ev_var rfl) ev_c) rfl)) fun H1 e1 => ?_
    refine q_no (et_test (ev_is (ev_eqi (ev_var rfl) ev_c) rfl)) fun H2 e2 => ?_
    refine q_no (et_test (ev_is (ev_eqi (ev_var rfl) ev_c) rfl)) fun H3 e3 => ?_
    refine q_no (et_test (ev_is (ev_eqi (ev_var rfl) ev_c) rfl)) fun H4 e4 => ?_
    refine q_no (et_test (ev_is (ev_eqi (ev_var rfl) ev_c) rfl)) fun H5 e5 => ?_
    refine q_no (et_test (ev_is (ev_eqi (ev_var rfl) ev_c) rfl)) fun H6 e6 => ?_
    refine q_no (et_test (ev_is (ev_eqi (ev_var rfl) ev_c) rfl)) fun H7 e7 => ?_
    refine q_no (et_test (ev_is (ev_eqi (ev_var rfl) ev_c) rfl)) fun H8 e8 => ?_
    refine q_no (et_test (ev_is (ev_eqi (ev_var rfl) ev_c) rfl)) fun H9 e9 => ?_
    refine q_no (et_test (ev_is (ev_eqi (ev_var rfl) ev_c) rfl)) fun H10 e10 => ?_
    have ee := (((((((((e1.trans e2).trans e3).trans e4).trans e5).trans e6).trans e7).trans e8).trans e9).trans e10)
    have hh := h.ex ee
    have hl' := ee _ _ hl
    exact s_retMeth (ev_var rfl) hh.obj rfl (ea_cons (ev_ixL (j := 0) (ev_var rfl) ev_c (sq_of hl') rfl) (ea_cons (ev_ixL (j := 1) (ev_var rfl) ev_c (sq_of hl') rfl) (ea_cons (ev_ixL (j := 2) (ev_var rfl) ev_c (sq_of hl') rfl) ea_nil))) fun H2 ex2 => ⟨a, dx, A, m, x, y, z, rfl, hh.ex ex2, k.ex (ee.trans ex2)⟩
  | c12 => exact absurd hc (by omega)
  | c13 => exact absurd hc (by omega)
  | c14 => exact absurd hc (by omega)
  | c15 => exact absurd hc (by omega)
  | c16 => exact absurd hc (by omega)
  | c17 => exact absurd hc (by omega)
  | c18 => exact absurd hc (by omega)
  | c19 => exact absurd hc (by omega)
  | c20 => exact absurd hc (by omega)
  | c21 => exact absurd hc (by omega)
  | c22 => exact absurd hc (by omega)
  | c23 => exact absurd hc (by omega)
theorem ok_Liking_told (T : Txt K mg) : Has P w K mg base 10 d_Liking_told.at_ ["self", "call", "numbers"] (sp_Liking_told K) := by
  refine Has.of (d := d_Liking_told) T 71 rfl ⟨rfl, rfl⟩ sc_Liking_told (fun _ _ _ _ _ _ us hl => match us, hl with | [_, _, _], _ => rfl) (fun vs H Q E h => len_Liking_told h) fun cdv A outer s H vs Q E hr h => ⟨t_Liking_told K, ?_, pure_Liking_told T h⟩
  exact (pss_cons (ps_if (pt_cmpR op_eq (pv 1) pe_int (nomark _)) (pss_one (ps_ret (pe_methH (pv 0) T.c_Liking T.m_Liking_set_rating (ok_Liking_set_rating T) (hr.mono (by decide)) (pa_cons (pe_ix ix_list (pv 2) pe_int (fun _ _ => rfl)) (pa_cons (pe_ix ix_list (pv 2) pe_int (fun _ _ => rfl)) (pa_cons (pe_ix ix_list (pv 2) pe_int (fun _ _ => rfl)) pa_nil)))))) pss_nil)
    (pss_cons (ps_if (pt_cmpR op_eq (pv 1) pe_int (nomark _)) (pss_one (ps_ret (pe_methH (pv 0) T.c_Liking T.m_Liking_clear_rating (ok_Liking_clear_rating T) (hr.mono (by decide)) (pa_cons (pe_ix ix_list (pv 2) pe_int (fun _ _ => rfl)) (pa_cons (pe_ix ix_list (pv 2) pe_int (fun _ _ => rfl)) pa_nil))))) pss_nil)
    (pss_cons (ps_if (pt_cmpR op_eq (pv 1) pe_int (nomark _)) (pss_one (ps_ret (pe_methH (pv 0) T.c_Liking T.m_Liking_delete_user (ok_Liking_delete_user T) (hr.mono (by decide)) (pa_cons (pe_ix ix_list (pv 2) pe_int (fun _ _ => rfl)) pa_nil)))) pss_nil)
    (pss_cons (ps_if (pt_cmpR op_eq (pv 1) pe_int (nomark _)) (pss_one (ps_ret (pe_methH0 (pv 0) T.c_Liking T.m_Liking_reset (ok_Liking_reset T) (hr.mono (by decide))))) pss_nil)
    (pss_cons (ps_if (pt_cmpR op_eq (pv 1) pe_int (nomark _)) (pss_one (ps_ret (pe_methH (pv 0) T.c_Liking T.m_Liking_step (ok_Liking_step T) (hr.mono (by decide)) (pa_cons (pe_ix ix_list (pv 2) pe_int (fun _ _ => rfl)) (pa_cons (pe_ix ix_list (pv 2) pe_int (fun _ _ => rfl)) (pa_cons (pe_ix ix_list (pv 2) pe_int (fun _ _ => rfl)) pa_nil)))))) pss_nil)
    (pss_cons (ps_if (pt_cmpR op_eq (pv 1) pe_int (nomark _)) (pss_one (ps_ret (pe_methH0 (pv 0) T.c_Liking T.m_Liking_sweep (ok_Liking_sweep T) (hr.mono (by decide))))) pss_nil)
    (pss_cons (ps_if (pt_cmpR op_eq (pv 1) pe_int (nomark _)) (pss_one (ps_ret (pe_methH (pv 0) T.c_Liking T.m_Liking_train (ok_Liking_train T) (hr.mono (by decide)) (pa_cons (pe_ix ix_list (pv 2) pe_int (fun _ _ => rfl)) pa_nil)))) pss_nil)
    (pss_cons (ps_if (pt_cmpR op_eq (pv 1) pe_int (nomark _)) (pss_one (ps_ret (pe_methH0 (pv 0) T.c_Liking T.m_Liking_objective (ok_Liking_objective T) (hr.mono (by decide))))) pss_nil)
    (pss_cons (ps_if (pt_cmpR op_eq (pv 1) pe_int (nomark _)) (pss_one (ps_ret (pe_methH (pv 0) T.c_Liking T.m_Liking_curve (ok_Liking_curve T) (hr.mono (by decide)) (pa_cons (pe_ix ix_list (pv 2) pe_int (fun _ _ => rfl)) pa_nil)))) pss_nil)
    (pss_cons (ps_if (pt_cmpR op_eq (pv 1) pe_int (nomark _)) (pss_one (ps_ret (pe_methH0 (pv 0) T.c_Liking T.m_Liking_certificate (ok_Liking_certificate T) (hr.mono (by decide))))) pss_nil)
    (pss_one (ps_ret (pe_methH (pv 0) T.c_Liking T.m_Liking_quadratic (ok_Liking_quadratic T) (hr.mono (by decide)) (pa_cons (pe_ix ix_list (pv 2) pe_int (fun _ _ => rfl)) (pa_cons (pe_ix ix_list (pv 2) pe_int (fun _ _ => rfl)) (pa_cons (pe_ix ix_list (pv 2) pe_int (fun _ _ => rfl)) pa_nil))))))))))))))))
def sp_Liking_told_more (K : PySem.W.Frag) : Sp := fun vs H Q _ => ∃ (a dx : Addr) (A : MA) (m : Kp429.Model) (b : Addr) (c : Nat) (ns : List Nat) (call : Kp429.Call), vs = [.ref a, .int (c : Int), .ref b] ∧ LkAt K H a dx A m ∧ Tabs (LT K) H ∧ H b = some (.lst (natV ns)) ∧ Dec c ns call ∧ 12 ≤ c ∧ RetC K a dx A H m call Q
theorem len_Liking_told_more (h : sp_Liking_told_more K vs H Q E) : vs.length = (["self", "call", "numbers"] : List Str).length := by
  obtain ⟨_, _, _, _, _, _, _, _, rfl, _⟩ := h
  rfl
def t_Liking_told_more (K : PySem.W.Frag) : TS :=
  (tSeq (tIfS (tTest (tOp rEq (tVar 1) (tC (.int 12)))) (tRet (tMeth (He.ga K "Liking") "parameter" (sp_Liking_parameter K) [] E0 (tVar 0) (tCons (tOp (rIxL K) (tVar 2) (tC (.int 0))) (tCons (tOp (rIxL K) (tVar 2) (tC (.int 1))) (tCons (tOp (rIxL K) (tVar 2) (tC (.int 2))) tNil))))) tNext)
    (tSeq (tIfS (tTest (tOp rEq (tVar 1) (tC (.int 13)))) (tRet (tMeth (He.ga K "Liking") "set_parameter" (sp_Liking_set_parameter K) [] E0 (tVar 0) (tCons (tOp (rIxL K) (tVar 2) (tC (.int 0))) (tCons (tOp (rIxL K) (tVar 2) (tC (.int 1))) (tCons (tOp (rIxL K) (tVar 2) (tC (.int 2))) (tCons (tOp (rIxL K) (tVar 2) (tC (.int 3))) (tCons (tOp (rIxL K) (tVar 2) (tC (.int 4))) tNil))))))) tNext)
    (tSeq (tIfS (tTest (tOp rEq (tVar 1) (tC (.int 14)))) (tRet (tMeth (He.ga K "Liking") "predict" (sp_Liking_predict K) [] E0 (tVar 0) (tCons (tOp (rIxL K) (tVar 2) (tC (.int 0))) (tCons (tOp (rIxL K) (tVar 2) (tC (.int 1))) tNil)))) tNext)
    (tSeq (tIfS (tTest (tOp rEq (tVar 1) (tC (.int 15)))) (tRet (tMeth (He.ga K "Liking") "explain" (sp_Liking_explain K) [] E0 (tVar 0) (tCons (tOp (rIxL K) (tVar 2) (tC (.int 0))) (tCons (tOp (rIxL K) (tVar 2) (tC (.int 1))) tNil)))) tNext)
    (tSeq (tIfS (tTest (tOp rEq (tVar 1) (tC (.int 16)))) (tRet (tMeth (He.ga K "Liking") "residuals" (sp_Liking_residuals K) [] E0 (tVar 0) (tCons (tOp (rIxL K) (tVar 2) (tC (.int 0))) tNil))) tNext)
    (tSeq (tIfS (tTest (tOp rEq (tVar 1) (tC (.int 17)))) (tRet (tMeth (He.ga K "Liking") "mean_error" (sp_Liking_mean_error K) [] E0 (tVar 0) tNil)) tNext)
    (tSeq (tIfS (tTest (tOp rEq (tVar 1) (tC (.int 18)))) (tRet (tMeth (He.ga K "Liking") "recommend" (sp_Liking_recommend K) [] E0 (tVar 0) (tCons (tOp (rIxL K) (tVar 2) (tC (.int 0))) (tCons (tOp (rIxL K) (tVar 2) (tC (.int 1))) tNil)))) tNext)
    (tSeq (tIfS (tTest (tOp rEq (tVar 1) (tC (.int 19)))) (tRet (tMeth (He.ga K "Liking") "similar" (sp_Liking_similar K) [] E0 (tVar 0) (tCons (tOp (rIxL K) (tVar 2) (tC (.int 0))) (tCons (tOp (rIxL K) (tVar 2) (tC (.int 1))) (tCons (tOp (rIxL K) (tVar 2) (tC (.int 2))) tNil))))) tNext)
    (tSeq (tIfS (tTest (tOp rEq (tVar 1) (tC (.int 20)))) (tRet (tMeth (He.ga K "Liking") "fold_in" (sp_Liking_fold_in K) [] E0 (tVar 0) (tCons (tVar 2) tNil))) tNext)
    (tSeq (tIfS (tTest (tOp rEq (tVar 1) (tC (.int 21)))) (tRet (tMeth (He.ga K "Liking") "recommend_new" (sp_Liking_recommend_new K) [] E0 (tVar 0) (tCons (tOp (rIxL K) (tVar 2) (tC (.int 0))) (tCons (tSl (rSlL K) (tVar 2) (tPart (tC (.int 1))) tNoPart) tNil)))) tNext)
    (tSeq (tIfS (tTest (tOp rEq (tVar 1) (tC (.int 22)))) (tRet (tMeth (He.ga K "Liking") "without" (sp_Liking_without K) [] E0 (tVar 0) (tCons (tOp (rIxL K) (tVar 2) (tC (.int 0))) (tCons (tOp (rIxL K) (tVar 2) (tC (.int 1))) tNil)))) tNext)
    (tRet (tMeth (He.ga K "Liking") "status" (sp_Liking_status K) [] E0 (tVar 0) tNil)))))))))))))
theorem pure_Liking_told_more (T : Txt K mg) (h : sp_Liking_told_more K vs H Q E) : t_Liking_told_more K { nx := fun _ H' => Q .non H', rt := Q } (start N_Liking_told_more vs) H := by
  obtain ⟨a, dx, A, m, b, c, ns, call, rfl, h, hTb, hl, hD, hc, k⟩ := h
  cases hD with
  | c0 => exact absurd hc (by omega)
  | c1 => exact absurd hc (by omega)
  | c2 => exact absurd hc (by omega)
  | c3 => exact absurd hc (by omega)
  | c4 => exact absurd hc (by omega)
  | c5 => exact absurd hc (by omega)
  | c6 => exact absurd hc (by omega)
  | c7 => exact absurd hc (by omega)
  | c8 => exact absurd hc (by omega)
  | c9 => exact absurd hc (by omega)
  | c10 => exact absurd hc (by omega)
  | c11 => exact absurd hc (by omega)
  | c12 x y z =>
    refine q_yes (et_test (ev_is (ev_eqi (ev_var rfl) ev_c) rfl)) fun H12 e12 => ?_
    have ee := e12
    have hh := h.ex ee
    have hl' := ee _ _ hl
    exact s_retMeth (ev_var rfl) hh.obj rfl (ea_cons (ev_ixL (j := 0) (ev_var rfl) ev_c (sq_of hl') rfl) (ea_cons (ev_ixL (j := 1) (ev_var rfl) ev_c (sq_of hl') rfl) (ea_cons (ev_ixL (j := 2) (ev_var rfl) ev_c (sq_of hl') rfl) ea_nil))) fun H2 ex2 => ⟨a, dx, A, m, x, y, z, rfl, hh.ex ex2, k.ex (ee.trans ex2)⟩
  | c13 x y z u v =>
    refine q_no (et_test (ev_is (ev_eqi (ev_var rfl) ev_c) rfl)) fun H12 e12 => ?_
    refine q_yes (et_test (ev_is (ev_eqi (ev_var rfl) ev_c) rfl)) fun H13 e13 => ?_
    have ee := (e12.trans e13)
    have hh := h.ex ee
    have hl' := ee _ _ hl
    exact s_retMeth (ev_var rfl) hh.obj rfl (ea_cons (ev_ixL (j := 0) (ev_var rfl) ev_c (sq_of hl') rfl) (ea_cons (ev_ixL (j := 1) (ev_var rfl) ev_c (sq_of hl') rfl) (ea_cons (ev_ixL (j := 2) (ev_var rfl) ev_c (sq_of hl') rfl) (ea_cons (ev_ixL (j := 3) (ev_var rfl) ev_c (sq_of hl') rfl) (ea_cons (ev_ixL (j := 4) (ev_var rfl) ev_c (sq_of hl') rfl) ea_nil))))) fun H2 ex2 => ⟨a, dx, A, m, x, y, z, u, v, rfl, hh.ex ex2, k.ex (ee.trans ex2)⟩
  | c14 x y =>
    refine q_no (et_test (ev_is (ev_eqi (ev_var rfl) ev_c) rfl)) fun H12 e12 => ?_
    refine q_no (et_test (ev_is (ev_eqi (ev_var rfl) ev_c) rfl)) fun H13 e13 => ?_
    refine q_yes (et_test (ev_is (ev_eqi (ev_var rfl) ev_c) rfl)) fun H14 e14 => ?_
    have ee := ((e12.trans e13).trans e14)
    have hh := h.ex ee
    have hl' := ee _ _ hl
    exact s_retMeth (ev_var rfl) hh.obj rfl (ea_cons (ev_ixL (j := 0) (ev_var rfl) ev_c (sq_of hl') rfl) (ea_cons (ev_ixL (j := 1) (ev_var rfl) ev_c (sq_of hl') rfl) ea_nil)) fun H2 ex2 => ⟨a, dx, A, m, x, y, rfl, hh.ex ex2, k.ex (ee.trans ex2)⟩
  | c15 x y =>
    refine q_no (et_test (ev_is (ev_eqi (ev_var rfl) ev_c) rfl)) fun H12 e12 => ?_
    refine q_no (et_test (ev_is (ev_eqi (ev_var rfl) ev_c) rfl)) fun H13 e13 => ?_
    refine q_no (et_test (ev_is (ev_eqi (ev_var rfl) ev_c) rfl)) fun H14 e14 => ?_
    refine q_yes (et_test (ev_is (ev_eqi (ev_var rfl) ev_c) rfl)) fun H15 e15 => ?_
    have ee := (((e12.trans e13).trans e14).trans e15)
    have hh := h.ex ee
    have hl' := ee _ _ hl
    exact s_retMeth (ev_var rfl) hh.obj rfl (ea_cons (ev_ixL (j := 0) (ev_var rfl) ev_c (sq_of hl') rfl) (ea_cons (ev_ixL (j := 1) (ev_var rfl) ev_c (sq_of hl') rfl) ea_nil)) fun H2 ex2 => ⟨a, dx, A, m, x, y, rfl, hh.ex ex2, k.ex (ee.trans ex2)⟩
  | c16 x =>
    refine q_no (et_test (ev_is (ev_eqi (ev_var rfl) ev_c) rfl)) fun H12 e12 => ?_
    refine q_no (et_test (ev_is (ev_eqi (ev_var rfl) ev_c) rfl)) fun H13 e13 => ?_
    refine q_no (et_test (ev_is (ev_eqi (ev_var rfl) ev_c) rfl)) fun H14 e14 => ?_
    refine q_no (et_test (ev_is (ev_eqi (ev_var rfl) ev_c) rfl)) fun H15 e15 => ?_
    refine q_yes (et_test (ev_is (ev_eqi (ev_var rfl) ev_c) rfl)) fun H16 e16 => ?_
    have ee := ((((e12.trans e13).trans e14).trans e15).trans e16)
    have hh := h.ex ee
    have hl' := ee _ _ hl
    exact s_retMeth (ev_var rfl) hh.obj rfl (ea_cons (ev_ixL (j := 0) (ev_var rfl) ev_c (sq_of hl') rfl) ea_nil) fun H2 ex2 => ⟨a, dx, A, m, x, rfl, hh.ex ex2, k.ex (ee.trans ex2)⟩
  | c17  =>
    refine q_no (et_test (ev_is (ev_eqi (ev_var rfl) ev_c) rfl)) fun H12 e12 => ?_
    refine q_no (et_test (ev_is (ev_eqi (ev_var rfl) ev_c) rfl)) fun H13 e13 => ?_
    refine q_no (et_test (ev_is (ev_eqi (ev_var rfl) ev_c) rfl)) fun H14 e14 => ?_
    refine q_no (et_test (ev_is (ev_eqi (ev_var rfl) ev_c) rfl)) fun H15 e15 => ?_
    refine q_no (et_test (ev_is (ev_eqi (ev_var rfl) ev_c) rfl)) fun H16 e16 => ?_
    refine q_yes (et_test (ev_is (ev_eqi (ev_var rfl) ev_c) rfl)) fun H17 e17 => ?_
    have ee := (((((e12.trans e13).trans e14).trans e15).trans e16).trans e17)
    have hh := h.ex ee
    have hl' := ee _ _ hl
    exact s_retMeth (ev_var rfl) hh.obj rfl ea_nil fun H2 ex2 => ⟨a, dx, A, m, rfl, hh.ex ex2, k.ex (ee.trans ex2)⟩
  | c18 x y =>
    refine q_no (et_test (ev_is (ev_eqi (ev_var rfl) ev_c) rfl)) fun H12 e12 => ?_
    refine q_no (et_test (ev_is (ev_eqi (ev_var rfl) ev_c) rfl)) fun H13 e13 => ?_
    refine q_no (et_test (ev_is (ev_eqi (ev_var rfl) ev_c) rfl)) fun H14 e14 => ?_
    refine q_no (et_test (ev_is (ev_eqi (ev_var rfl) ev_c) rfl)) fun H15 e15 => ?_
    refine q_no (et_test (ev_is (ev_eqi (ev_var rfl) ev_c) rfl)) fun H16 e16 => ?_
    refine q_no (et_test (ev_is (ev_eqi (ev_var rfl) ev_c) rfl)) fun H17 e17 => ?_
    refine q_yes (et_test (ev_is (ev_eqi (ev_var rfl) ev_c) rfl)) fun H18 e18 => ?_
    have ee := ((((((e12.trans e13).trans e14).trans e15).trans e16).trans e17).trans e18)
    have hh := h.ex ee
    have hl' := ee _ _ hl
    exact s_retMeth (ev_var rfl) hh.obj rfl (ea_cons (ev_ixL (j := 0) (ev_var rfl) ev_c (sq_of hl') rfl) (ea_cons (ev_ixL (j := 1) (ev_var rfl) ev_c (sq_of hl') rfl) ea_nil)) fun H2 ex2 => ⟨a, dx, A, m, x, y, rfl, hh.ex ex2, tabs_ex hTb (ee.trans ex2), k.ex (ee.trans ex2)⟩
  | c19 x y z =>
    refine q_no (et_test (ev_is (ev_eqi (ev_var rfl) ev_c) rfl)) fun H12 e12 => ?_
    refine q_no (et_test (ev_is (ev_eqi (ev_var rfl) ev_c) rfl)) fun H13 e13 => ?_
    refine q_no (et_test (ev_is (ev_eqi (ev_var rfl) ev_c) rfl)) fun H14 e14 => ?_
    refine q_no (et_test (ev_is (ev_eqi (ev_var rfl) ev_c) rfl)) fun H15 e15 => ?_
    refine q_no (et_test (ev_is (ev_eqi (ev_var rfl) ev_c) rfl)) fun H16 e16 => ?_
    refine q_no (et_test (ev_is (ev_eqi (ev_var rfl) ev_c) rfl)) fun H17 e17 => ?_
    refine q_no (et_test (ev_is (ev_eqi (ev_var rfl) ev_c) rfl)) fun H18 e18 => ?_
    refine q_yes (et_test (ev_is (ev_eqi (ev_var rfl) ev_c) rfl)) fun H19 e19 => ?_
    have ee := (((((((e12.trans e13).trans e14).trans e15).trans e16).trans e17).trans e18).trans e19)
    have hh := h.ex ee
    have hl' := ee _ _ hl
    exact s_retMeth (ev_var rfl) hh.obj rfl (ea_cons (ev_ixL (j := 0) (ev_var rfl) ev_c (sq_of hl') rfl) (ea_cons (ev_ixL (j := 1) (ev_var rfl) ev_c (sq_of hl') rfl) (ea_cons (ev_ixL (j := 2) (ev_var rfl) ev_c (sq_of hl') rfl) ea_nil))) fun H2 ex2 => ⟨a, dx, A, m, x, y, z, rfl, hh.ex ex2, k.ex (ee.trans ex2)⟩
  | c20 _ hl16 =>
    refine q_no (et_test (ev_is (ev_eqi (ev_var rfl) ev_c) rfl)) fun H12 e12 => ?_
    refine q_no (et_test (ev_is (ev_eqi (ev_var rfl) ev_c) rfl)) fun H13 e13 => ?_
    refine q_no (et_test (ev_is (ev_eqi (ev_var rfl) ev_c) rfl)) fun H14 e14 => ?_
    refine q_no (et_test (ev_is (ev_eqi (ev_var rfl) ev_c) rfl)) fun H15 e15 => ?_
    refine q_no (et_test (ev_is (ev_eqi (ev_var rfl) ev_c) rfl)) fun H16 e16 => ?_
    refine q_no (et_test (ev_is (ev_eqi (ev_var rfl) ev_c) rfl)) fun H17 e17 => ?_
    refine q_no (et_test (ev_is (ev_eqi (ev_var rfl) ev_c) rfl)) fun H18 e18 => ?_
    refine q_no (et_test (ev_is (ev_eqi (ev_var rfl) ev_c) rfl)) fun H19 e19 => ?_
    refine q_yes (et_test (ev_is (ev_eqi (ev_var rfl) ev_c) rfl)) fun H20 e20 => ?_
    have ee := ((((((((e12.trans e13).trans e14).trans e15).trans e16).trans e17).trans e18).trans e19).trans e20)
    have hh := h.ex ee
    have hl' := ee _ _ hl
    exact s_retMeth (ev_var rfl) hh.obj rfl (ea_cons (ev_var rfl) ea_nil) fun H2 ex2 => ⟨a, dx, A, m, b, ns, rfl, hh.ex ex2, ex2 _ _ hl', hl16, k.ex (ee.trans ex2)⟩
  | c21 x l hl16 =>
    refine q_no (et_test (ev_is (ev_eqi (ev_var rfl) ev_c) rfl)) fun H12 e12 => ?_
    refine q_no (et_test (ev_is (ev_eqi (ev_var rfl) ev_c) rfl)) fun H13 e13 => ?_
    refine q_no (et_test (ev_is (ev_eqi (ev_var rfl) ev_c) rfl)) fun H14 e14 => ?_
    refine q_no (et_test (ev_is (ev_eqi (ev_var rfl) ev_c) rfl)) fun H15 e15 => ?_
    refine q_no (et_test (ev_is (ev_eqi (ev_var rfl) ev_c) rfl)) fun H16 e16 => ?_
    refine q_no (et_test (ev_is (ev_eqi (ev_var rfl) ev_c) rfl)) fun H17 e17 => ?_
    refine q_no (et_test (ev_is (ev_eqi (ev_var rfl) ev_c) rfl)) fun H18 e18 => ?_
    refine q_no (et_test (ev_is (ev_eqi (ev_var rfl) ev_c) rfl)) fun H19 e19 => ?_
    refine q_no (et_test (ev_is (ev_eqi (ev_var rfl) ev_c) rfl)) fun H20 e20 => ?_
    refine q_yes (et_test (ev_is (ev_eqi (ev_var rfl) ev_c) rfl)) fun H21 e21 => ?_
    have ee := (((((((((e12.trans e13).trans e14).trans e15).trans e16).trans e17).trans e18).trans e19).trans e20).trans e21)
    have hh := h.ex ee
    have hl' := ee _ _ hl
    refine s_retMeth2L (xs := natV l) (ev_var rfl) hh.obj rfl (ev_ixL (j := 0) (ev_var rfl) ev_c (sq_of hl') rfl) ?_ fun q H2 ex2 hq => ⟨a, dx, A, m, q, x, l, rfl, hh.ex ex2, tabs_ex hTb (ee.trans ex2), hq, hl16, k.ex (ee.trans ex2)⟩
    have sl := el_sl (K := K) (te := tVar 2) (σ := [some (.ref a), some (.int (21 : Int)), some (.ref b)]) (ev_var rfl) (eo_some (ev_c (v := .int 1))) eo_none (sq_of hl')
    rw [cut1] at sl
    exact sl
  | c22 x y =>
    refine q_no (et_test (ev_is (ev_eqi (ev_var rfl) ev_c) rfl)) fun H12 e12 => ?_
    refine q_no (et_test (ev_is (ev_eqi (ev_var rfl) ev_c) rfl)) fun H13 e13 => ?_
    refine q_no (et_test (ev_is (ev_eqi (ev_var rfl) ev_c) rfl)) fun H14 e14 => ?_
    refine q_no (et_test (ev_is (ev_eqi (ev_var rfl) ev_c) rfl)) fun H15 e15 => ?_
    refine q_no (et_test (ev_is (ev_eqi (ev_var rfl) ev_c) rfl)) fun H16 e16 => ?_
    refine q_no (et_test (ev_is (ev_eqi (ev_var rfl) ev_c) rfl)) fun H17 e17 => ?_
    refine q_no (et_test (ev_is (ev_eqi (ev_var rfl) ev_c) rfl)) fun H18 e18 => ?_
    refine q_no (et_test (ev_is (ev_eqi (ev_var rfl) ev_c) rfl)) fun H19 e19 => ?_
    refine q_no (et_test (ev_is (ev_eqi (ev_var rfl) ev_c) rfl)) fun H20 e20 => ?_
    refine q_no (et_test (ev_is (ev_eqi (ev_var rfl) ev_c) rfl)) fun H21 e21 => ?_
    refine q_yes (et_test (ev_is (ev_eqi (ev_var rfl) ev_c) rfl)) fun H22 e22 => ?_
    have ee := ((((((((((e12.trans e13).trans e14).trans e15).trans e16).trans e17).trans e18).trans e19).trans e20).trans e21).trans e22)
    have hh := h.ex ee
    have hl' := ee _ _ hl
    exact s_retMeth (ev_var rfl) hh.obj rfl (ea_cons (ev_ixL (j := 0) (ev_var rfl) ev_c (sq_of hl') rfl) (ea_cons (ev_ixL (j := 1) (ev_var rfl) ev_c (sq_of hl') rfl) ea_nil)) fun H2 ex2 => ⟨a, dx, A, m, x, y, rfl, hh.ex ex2, k.ex (ee.trans ex2)⟩
  | c23  =>
    refine q_no (et_test (ev_is (ev_eqi (ev_var rfl) ev_c) rfl)) fun H12 e12 => ?_
    refine q_no (et_test (ev_is (ev_eqi (ev_var rfl) ev_c) rfl)) fun H13 e13 => ?_
    refine q_no (et_test (ev_is (ev_eqi (ev_var rfl) ev_c) rfl)) fun H14 e14 => ?_
    refine q_no (et_test (ev_is (ev_eqi (ev_var rfl) ev_c) rfl)) fun H15 e15 => ?_
    refine q_no (et_test (ev_is (ev_eqi (ev_var rfl) ev_c) rfl)) fun H16 e16 => ?_
    refine q_no (et_test (ev_is (ev_eqi (ev_var rfl) ev_c) rfl)) fun H17 e17 => ?_
    refine q_no (et_test (ev_is (ev_eqi (ev_var rfl) ev_c) rfl)) fun H18 e18 => ?_
    refine q_no (et_test (ev_is (ev_eqi (ev_var rfl) ev_c) rfl)) fun H19 e19 => ?_
    refine q_no (et_test (ev_is (ev_eqi (ev_var rfl) ev_c) rfl)) fun H20 e20 => ?_
    refine q_no (et_test (ev_is (ev_eqi (ev_var rfl) ev_c) rfl)) fun H21 e21 => ?_
    refine q_no (et_test (ev_is (ev_eqi (ev_var rfl) ev_c) rfl)) fun H22 e22 => ?_
    have ee := ((((((((((e12.trans e13).trans e14).trans e15).trans e16).trans e17).trans e18).trans e19).trans e20).trans e21).trans e22)
    have hh := h.ex ee
    have hl' := ee _ _ hl
    exact s_retMeth (ev_var rfl) hh.obj rfl ea_nil fun H2 ex2 => ⟨a, dx, A, m, rfl, hh.ex ex2, k.ex (ee.trans ex2)⟩
theorem ok_Liking_told_more (T : Txt K mg) (TB : TbB K mg base) : Has P w K mg base 11 d_Liking_told_more.at_ ["self", "call", "numbers"] (sp_Liking_told_more K) := by
  refine Has.of (d := d_Liking_told_more) T 72 rfl ⟨rfl, rfl⟩ sc_Liking_told_more (fun _ _ _ _ _ _ us hl => match us, hl with | [_, _, _], _ => rfl) (fun vs H Q E h => len_Liking_told_more h) fun cdv A outer s H vs Q E hr h => ⟨t_Liking_told_more K, ?_, pure_Liking_told_more T h⟩
  exact (pss_cons (ps_if (pt_cmpR op_eq (pv 1) pe_int (nomark _)) (pss_one (ps_ret (pe_methH (pv 0) T.c_Liking T.m_Liking_parameter (ok_Liking_parameter T) (hr.mono (by decide)) (pa_cons (pe_ix ix_list (pv 2) pe_int (fun _ _ => rfl)) (pa_cons (pe_ix ix_list (pv 2) pe_int (fun _ _ => rfl)) (pa_cons (pe_ix ix_list (pv 2) pe_int (fun _ _ => rfl)) pa_nil)))))) pss_nil)
    (pss_cons (ps_if (pt_cmpR op_eq (pv 1) pe_int (nomark _)) (pss_one (ps_ret (pe_methH (pv 0) T.c_Liking T.m_Liking_set_parameter (ok_Liking_set_parameter T) (hr.mono (by decide)) (pa_cons (pe_ix ix_list (pv 2) pe_int (fun _ _ => rfl)) (pa_cons (pe_ix ix_list (pv 2) pe_int (fun _ _ => rfl)) (pa_cons (pe_ix ix_list (pv 2) pe_int (fun _ _ => rfl)) (pa_cons (pe_ix ix_list (pv 2) pe_int (fun _ _ => rfl)) (pa_cons (pe_ix ix_list (pv 2) pe_int (fun _ _ => rfl)) pa_nil)))))))) pss_nil)
    (pss_cons (ps_if (pt_cmpR op_eq (pv 1) pe_int (nomark _)) (pss_one (ps_ret (pe_methH (pv 0) T.c_Liking T.m_Liking_predict (ok_Liking_predict T) (hr.mono (by decide)) (pa_cons (pe_ix ix_list (pv 2) pe_int (fun _ _ => rfl)) (pa_cons (pe_ix ix_list (pv 2) pe_int (fun _ _ => rfl)) pa_nil))))) pss_nil)
    (pss_cons (ps_if (pt_cmpR op_eq (pv 1) pe_int (nomark _)) (pss_one (ps_ret (pe_methH (pv 0) T.c_Liking T.m_Liking_explain (ok_Liking_explain T) (hr.mono (by decide)) (pa_cons (pe_ix ix_list (pv 2) pe_int (fun _ _ => rfl)) (pa_cons (pe_ix ix_list (pv 2) pe_int (fun _ _ => rfl)) pa_nil))))) pss_nil)
    (pss_cons (ps_if (pt_cmpR op_eq (pv 1) pe_int (nomark _)) (pss_one (ps_ret (pe_methH (pv 0) T.c_Liking T.m_Liking_residuals (ok_Liking_residuals T) (hr.mono (by decide)) (pa_cons (pe_ix ix_list (pv 2) pe_int (fun _ _ => rfl)) pa_nil)))) pss_nil)
    (pss_cons (ps_if (pt_cmpR op_eq (pv 1) pe_int (nomark _)) (pss_one (ps_ret (pe_methH0 (pv 0) T.c_Liking T.m_Liking_mean_error (ok_Liking_mean_error T) (hr.mono (by decide))))) pss_nil)
    (pss_cons (ps_if (pt_cmpR op_eq (pv 1) pe_int (nomark _)) (pss_one (ps_ret (pe_methH (pv 0) T.c_Liking T.m_Liking_recommend (ok_Liking_recommend T TB) (hr.mono (by decide)) (pa_cons (pe_ix ix_list (pv 2) pe_int (fun _ _ => rfl)) (pa_cons (pe_ix ix_list (pv 2) pe_int (fun _ _ => rfl)) pa_nil))))) pss_nil)
    (pss_cons (ps_if (pt_cmpR op_eq (pv 1) pe_int (nomark _)) (pss_one (ps_ret (pe_methH (pv 0) T.c_Liking T.m_Liking_similar (ok_Liking_similar T) (hr.mono (by decide)) (pa_cons (pe_ix ix_list (pv 2) pe_int (fun _ _ => rfl)) (pa_cons (pe_ix ix_list (pv 2) pe_int (fun _ _ => rfl)) (pa_cons (pe_ix ix_list (pv 2) pe_int (fun _ _ => rfl)) pa_nil)))))) pss_nil)
    (pss_cons (ps_if (pt_cmpR op_eq (pv 1) pe_int (nomark _)) (pss_one (ps_ret (pe_methH (pv 0) T.c_Liking T.m_Liking_fold_in (ok_Liking_fold_in T) (hr.mono (by decide)) (pa_cons (pv 2) pa_nil)))) pss_nil)
    (pss_cons (ps_if (pt_cmpR op_eq (pv 1) pe_int (nomark _)) (pss_one (ps_ret (pe_methH (pv 0) T.c_Liking T.m_Liking_recommend_new (ok_Liking_recommend_new T TB) (hr.mono (by decide)) (pa_cons (pe_ix ix_list (pv 2) pe_int (fun _ _ => rfl)) (pa_cons (pe_slice sl_list (pv 2) (po_some pe_int) po_none) pa_nil))))) pss_nil)
    (pss_cons (ps_if (pt_cmpR op_eq (pv 1) pe_int (nomark _)) (pss_one (ps_ret (pe_methH (pv 0) T.c_Liking T.m_Liking_without (ok_Liking_without T) (hr.mono (by decide)) (pa_cons (pe_ix ix_list (pv 2) pe_int (fun _ _ => rfl)) (pa_cons (pe_ix ix_list (pv 2) pe_int (fun _ _ => rfl)) pa_nil))))) pss_nil)
    (pss_one (ps_ret (pe_methH0 (pv 0) T.c_Liking T.m_Liking_status (ok_Liking_status T) (hr.mono (by decide))))))))))))))))
end
end Gs
namespace Gs
open PySem PySem.Spec PyProof.Rows L2 Evl LamX
section
open Kp429 (Rating Settings Parameters Coordinate View)
variable {P : Program} {w : World} {K : PySem.W.Frag} {mg : Str → Option Value} {base : Heap} {vs : List V} {H H' H1 H2 H3 : Hp} {Q : VK} {E : XK} {A A' A2 : MA} {p p' : Parameters} {σ : L2.St} {ta tk tn tq td ty tv tb te tx : TE} {s : Settings} {m m' m2 : Kp429.Model} {a dx : Addr} {st : Option Kp429.Model}
/-! ### the object at any time -/
def StAt (K : PySem.W.Frag) (H : Hp) (a dx : Addr) (A : MA) : Option Kp429.Model → Prop
  | none => H a = some (.ins (He.ga K "Liking") dx [("model", .non)])
  | some m => LkAt K H a dx A m
def fpS (A : MA) : Option Kp429.Model → Addr → Prop
  | none, _ => False
  | some _, b => A.fp b
theorem StAt.obj (h : StAt K H a dx A st) : ∃ v, H a = some (.ins (He.ga K "Liking") dx [("model", v)]) := by
  cases st with
  | none => exact ⟨_, h⟩
  | some m => exact ⟨_, LkAt.obj h⟩
theorem StAt.na (h : StAt K H a dx A st) : ¬ fpS A st a := by
  cases st with
  | none => exact fun z => z
  | some m => exact LkAt.na h
theorem StAt.ex (h : StAt K H a dx A st) (e : Ex H H') : StAt K H' a dx A st := by
  cases st with
  | none => exact e _ _ h
  | some m => exact LkAt.ex h e
structure MvS (K : PySem.W.Frag) (a : Addr) (S : Addr → Prop) (H : Hp) (S' : Addr → Prop) (H' : Hp) : Prop where
  fr : ∀ b o, ¬ S b → b ≠ a → (∀ ps, o ≠ .tbl ps) → H b = some o → H' b = some o
  fp : ∀ b, S' b → S b ∨ ∀ o, H b = some o → ∃ ps, o = .tbl ps
  na : ¬ S' a
  tb : Tabs (LT K) H → Tabs (LT K) H'
theorem MvS.exL {S S' : Addr → Prop} (e : Ex H H1) (v : MvS K a S H1 S' H') : MvS K a S H S' H' := ⟨fun b o n1 n2 n3 h => v.fr b o n1 n2 n3 (e _ _ h), fun b hb => (v.fp b hb).imp id fun f o ho => f o (e _ _ ho), v.na, fun t => v.tb (tabs_ex t e)⟩
def RetS (K : PySem.W.Frag) (a dx : Addr) (A : MA) (H : Hp) (st : Option Kp429.Model) (c : Kp429.Call) (Q : VK) : Prop := ∀ A' q H', StAt K H' a dx A' (Kp429.step st c).1 → MvS K a (fpS A st) H (fpS A' (Kp429.step st c).1) H' →
  H' q = some (.lst (((Kp429.step st c).2.num :: (Kp429.step st c).2.nums).map V.int)) → Q (.ref q) H'
theorem RetS.ex {c : Kp429.Call} (k : RetS K a dx A H st c Q) (e : Ex H H1) : RetS K a dx A H1 st c Q := fun A' q H' h v hq => k A' q H' h (v.exL e) hq
theorem RetS.some {c : Kp429.Call} (k : RetS K a dx A H (some m) c Q) : RetC K a dx A H m c Q := fun m' hm A' q H' h v hq => by
  refine k A' q H' ?_ ?_ hq
  · rw [hm]
    exact h
  · rw [hm]
    exact ⟨v.fr, v.fp, v.na, v.tb⟩
/-- an answer, nothing changed -/
theorem rets_same {c : Kp429.Call} {n : Int} {ns : List Int} {q : Addr} (h : StAt K H a dx A st) (k : RetS K a dx A H st c Q) (e : Ex H H') (hs : Kp429.step st c = (st, ⟨n, ns⟩)) (hq : H' q = some (.lst ((n :: ns).map V.int))) : Q (.ref q) H' := by
  have k2 := k A q H'
  rw [hs] at k2
  exact k2 (h.ex e) ⟨fun b o _ _ _ hb => e _ _ hb, fun b hb => .inl hb, h.na, fun t => tabs_ex t e⟩ hq
/-! ### create -/
def sp_Liking_create (K : PySem.W.Frag) : Sp := fun vs H Q _ => ∃ (a dx : Addr) (A : MA) (st : Option Kp429.Model) (l : Addr) (u i f lm nn pe bp sd : Nat), vs = [.ref a, .ref l] ∧ StAt K H a dx A st ∧ H l = some (.lst (natV [u, i, f, lm, nn, pe, bp, sd])) ∧ RetS K a dx A H st (.create u i f lm nn pe bp sd) Q
theorem len_Liking_create (h : sp_Liking_create K vs H Q E) : vs.length = (["self", "numbers"] : List Str).length := by
  obtain ⟨_, _, _, _, _, _, _, _, _, _, _, _, _, rfl, _⟩ := h
  rfl
def t_Liking_create (K : PySem.W.Frag) : TS :=
  (tSeq (tIfS (tNot (tB (tCall (sp_are_settings K) [] E0 (tCons (tVar 1) tNil)))) (tRet (tLst (tCons (tC (.int (-22))) tNil))) tNext)
    (tSeq (sFld K (tVar 0) (tMake (He.ga K "Model") (sp_Model_init K) [] E0 (tCons (tMake (He.ga K "Settings") (sp_Settings_init K) [] E0 (tCons (tVar 1) tNil)) tNil)) "model")
    (tRet (tLst (tCons (tCB (rLenQ K) (tCons (tMeth (He.ga K "Model") "parameters" (sp_Model_parameters K) [] E0 (tFld K (tVar 0) "model") tNil) tNil)) tNil)))))
theorem q_fldMake {D : Ends} {tz : TS} {C1 C2 : Addr} {sp1 sp2 : Sp} {t : TA} {vs : List V} {f : Str} (h : EvA t σ H vs)
    (k : ∀ x dx H1, Ex H H1 → H1 x = none → H1 dx = none → dx ≠ x → sp2 (.ref x :: (vs ++ [])) (upd (upd H1 dx (.own x)) x (.ins C2 dx [])) (fun v H2 => v = .non ∧ ∀ x1 dx1, H2 x1 = none → H2 dx1 = none → dx1 ≠ x1 →
      sp1 (.ref x1 :: ([.ref x] ++ [])) (upd (upd H2 dx1 (.own x1)) x1 (.ins C1 dx1 [])) (fun v H3 => v = .non ∧ ta σ H3 fun y H4 => ∃ a C dx fs, y = .ref a ∧ H4 a = some (.ins C dx fs) ∧ Cls K C ∧ NoAttr K C f ∧ fs.length < 1000 ∧ tz D σ (upd H4 a (.ins C dx (putF f (.ref x1) fs)))) E0) E0) :
    tSeq (sFld K ta (tMake C1 sp1 [] E0 (tCons (tMake C2 sp2 [] E0 t) tNil)) f) tz D σ H :=
  h H (Ex.refl H) _ fun H1 e1 x dx hx hdx hne => k x dx H1 e1 hx hdx hne
theorem pure_Liking_create (T : Txt K mg) (h : sp_Liking_create K vs H Q E) : t_Liking_create K { nx := fun _ H' => Q .non H', rt := Q } (start N_Liking_create vs) H := by
  obtain ⟨a, dx, A, st, l, u, i, f, lm, nn, pe, bp, sd, rfl, h, hl, k⟩ := h
  refine q_when (et_not (et_B (ev_are_settings (u := u) (i := i) (f := f) (l := lm) (nn := nn) (pe := pe) (bp := bp) (sd := sd) (ev_var rfl) (sq_of hl)))) (fun hb H1 e1 => ?_) (fun hb H1 e1 => ?_)
  · have c : (Kp429.validSettings ⟨u, i, f, lm, nn == 1, pe, bp, sd⟩ && decide (nn ≤ 1)) = false := by rw [Bool.not_eq_true'] at hb; exact hb
    refine s_retL (xs := ([(-22 : Int)]).map V.int) (el_lst (ea_cons ev_c ea_nil) (by simp)) fun q H2 _ e2 h2 => rets_same h k (e1.trans e2) ?_ h2
    cases st <;> simp only [Kp429.step, if_pos c, Kp429.single]
  have c : (Kp429.validSettings ⟨u, i, f, lm, nn == 1, pe, bp, sd⟩ && decide (nn ≤ 1)) = true := by rw [Bool.not_eq_false'] at hb; exact hb
  have hv : Kp429.validSettings ⟨u, i, f, lm, nn == 1, pe, bp, sd⟩ = true := (Bool.and_eq_true_iff.mp c).1
  obtain ⟨v0, hobj⟩ := h.obj
  refine q_fldMake (ea_cons (ev_var rfl) ea_nil) fun x dx1 H2 e2 hx hdx hne => ?_
  have e12 := e1.trans e2
  have hxl : l ≠ x := (neN (e12 _ _ hl) hx).symm
  have hx2 : upd H2 dx1 (.own x) x = none := by rw [upd_ne (Ne.symm hne)]; exact hx
  have ea : Ex H (upd (upd H2 dx1 (.own x)) x (.ins (He.ga K "Settings") dx1 [])) := (e12.trans (Ex.new hdx)).trans (Ex.new hx2)
  have hxH : H x = none := fresh_back e12 hx
  refine ⟨x, l, dx1, u, i, f, lm, nn, pe, bp, sd, rfl, upd_same, ea _ _ hl, fun H3 f3 hset => ⟨rfl, fun y dx2 hy hdy hne2 => ?_⟩⟩
  have e3 : Ex H H3 := f3.to ea fun b e => by rw [e]; exact hxH
  have hy2 : upd H3 dx2 (.own y) y = none := by rw [upd_ne (Ne.symm hne2)]; exact hy
  have ex34 : Ex H3 (upd (upd H3 dx2 (.own y)) y (.ins (He.ga K "Model") dx2 [])) := (Ex.new hdy).trans (Ex.new hy2)
  refine ⟨y, x, dx2, ⟨u, i, f, lm, nn == 1, pe, bp, sd⟩, rfl, upd_same, hset.ex ex34, hv, fun A' H4 hM f4 fp4 hmo hst => ⟨rfl, ?_⟩⟩
  have hyH : H y = none := fresh_back e3 hy
  have e4 : Ex H H4 := f4.to (e3.trans ex34) fun b e => by rw [e]; exact hyH
  have hfp : ∀ b, A'.fp b → H b = none := fun b hb => (fp4 b hb).elim (fun e => by rw [e]; exact hyH) (fun e => fresh_back (e3.trans ex34) e)
  have haf : ¬ A'.fp a := fun z => by rw [hfp a z] at hobj; cases hobj
  refine fld_end (ev_var rfl) (e4 _ _ hobj) T.c_Liking T.n_Liking_model (Nat.le_of_ble_eq_true rfl) fun H5 e5 => ?_
  have hlk : LkAt K (upd H5 a (.ins (He.ga K "Liking") dx (putF "model" (.ref y) [("model", v0)]))) a dx A' (resetM ⟨u, i, f, lm, nn == 1, pe, bp, sd⟩ []) := by
    refine ⟨by rw [upd_same, hmo]; rfl, ?_⟩
    exact (hM.ex e5).fr1 haf (e5 _ _ (e4 _ _ hobj)) rfl (Fr.refl.upd rfl)
  generalize hH6 : upd H5 a (.ins (He.ga K "Liking") dx (putF "model" (.ref y) [("model", v0)])) = H6 at hlk
  refine s_retL (xs := ([((Kp429.coordinates ⟨u, i, f, lm, nn == 1, pe, bp, sd⟩).length : Int)]).map V.int) (el_lst (ea_cons (ev_is (ev_lenTs (et_parameters (A := A') (m := resetM ⟨u, i, f, lm, nn == 1, pe, bp, sd⟩ []) (ev_model T (ev_var rfl) hlk) hlk.mod)) (by rw [List.length_map]; rfl)) ea_nil) (by simp)) fun q H7 _ e7 h7 => ?_
  have hs : Kp429.step st (.create u i f lm nn pe bp sd) = (some (resetM ⟨u, i, f, lm, nn == 1, pe, bp, sd⟩ []), ⟨((Kp429.coordinates ⟨u, i, f, lm, nn == 1, pe, bp, sd⟩).length : Nat), []⟩) := by
    cases st <;> simp only [Kp429.step, if_neg (show ¬ (Kp429.validSettings ⟨u, i, f, lm, nn == 1, pe, bp, sd⟩ && decide (nn ≤ 1)) = false by rw [c]; decide), Kp429.single] <;> rfl
  have k2 := k A' q H7
  rw [hs] at k2
  refine k2 (hlk.ex e7) ⟨fun b o n1 n2 n3 hb => e7 _ _ ?_, fun b hb => .inr fun o ho => ?_, haf, fun t => ?_⟩ h7
  · rw [← hH6, upd_ne n2]
    exact e5 _ _ (e4 _ _ hb)
  · rw [hfp b hb] at ho
    cases ho
  · have t5 := tabs_ex t (e4.trans e5)
    have : Tabs (LT K) H6 := by
      rw [← hH6]
      refine fun z hz => ?_
      obtain ⟨ps, g1, g2, g3⟩ := t5 z hz
      have ha5 := e5 _ _ (e4 _ _ hobj)
      refine ⟨ps, ?_, g2, fun pos cv hc => ?_⟩
      · rw [upd_ne]
        · exact g1
        · intro e
          rw [e, ha5] at g1
          cases g1
      · obtain ⟨cc, w1, w2⟩ := g3 pos cv hc
        refine ⟨cc, w1, ?_⟩
        rw [upd_ne]
        · exact w2
        · intro e
          rw [e, ha5] at w2
          cases w2
    exact tabs_ex this e7
theorem ok_Liking_create (T : Txt K mg) : Has P w K mg base 8 d_Liking_create.at_ ["self", "numbers"] (sp_Liking_create K) := by
  refine Has.of (d := d_Liking_create) T 42 rfl ⟨rfl, rfl⟩ sc_Liking_create (fun _ _ _ _ _ _ us hl => match us, hl with | [_, _], _ => rfl) (fun vs H Q E h => len_Liking_create h) fun cdv A outer s H vs Q E hr h => ⟨t_Liking_create K, ?_, pure_Liking_create T h⟩
  exact (pss_cons (ps_if (pt_not (pt_val (pe_callH (ok_are_settings T) (hr.mono (by decide)) rfl T.g_are_settings (pa_cons (pv 1) pa_nil)))) (pss_one (ps_ret (pe_lst (pa_cons (pe_gint rfl T.i_BEYOND) pa_nil)))) pss_nil)
    (pss_cons (ps_fld (pv 0) (pe_makeH T.k_Model (ok_Model_init T) (hr.mono (by decide)) rfl T.g_Model (pa_cons (pe_makeH T.k_Settings (ok_Settings_init T) (hr.mono (by decide)) rfl T.g_Settings (pa_cons (pv 1) pa_nil)) pa_nil)) rfl)
    (pss_one (ps_ret (pe_lst (pa_cons (pe_callB cl_len (by rfl) T.f_len (by decide +kernel) (pa_cons (pe_methH0 (pe_fld (pv 0) rfl) T.c_Model T.m_Model_parameters (ok_Model_parameters T) (hr.mono (by decide))) pa_nil)) pa_nil))))))
/-! ### answer -/
def sp_Liking_answer (K : PySem.W.Frag) : Sp := fun vs H Q _ => ∃ (a dx : Addr) (A : MA) (st : Option Kp429.Model) (b : Addr) (c : Nat) (ns : List Nat) (call : Kp429.Call), vs = [.ref a, .int (c : Int), .ref b] ∧ StAt K H a dx A st ∧ Tabs (LT K) H ∧ H b = some (.lst (natV ns)) ∧ Dec c ns call ∧ RetS K a dx A H st call Q
theorem len_Liking_answer (h : sp_Liking_answer K vs H Q E) : vs.length = (["self", "call", "numbers"] : List Str).length := by
  obtain ⟨_, _, _, _, _, _, _, _, rfl, _⟩ := h
  rfl
def t_Liking_answer (K : PySem.W.Frag) : TS :=
  (tSeq (tIfS (tTest (tOp rEq (tVar 1) (tC (.int 0)))) (tRet (tMeth (He.ga K "Liking") "create" (sp_Liking_create K) [] E0 (tVar 0) (tCons (tVar 2) tNil))) tNext)
    (tSeq (tIfS (tTest (tOp rIsNon (tFld K (tVar 0) "model") (tC .non))) (tRet (tLst (tCons (tC (.int (-11))) tNil))) tNext)
    (tRet (tIf (tTest (tOp rLtI (tVar 1) (tC (.int 12)))) (tMeth (He.ga K "Liking") "told" (sp_Liking_told K) [] E0 (tVar 0) (tCons (tVar 1) (tCons (tVar 2) tNil))) (tMeth (He.ga K "Liking") "told_more" (sp_Liking_told_more K) [] E0 (tVar 0) (tCons (tVar 1) (tCons (tVar 2) tNil)))))))
theorem step_none {c : Nat} {ns : List Nat} {call : Kp429.Call} (hD : Dec c ns call) (hc : c ≠ 0) : Kp429.step none call = (none, ⟨-11, []⟩) := by
  cases hD <;> first | rfl | exact absurd rfl hc
theorem pure_Liking_answer (T : Txt K mg) (h : sp_Liking_answer K vs H Q E) : t_Liking_answer K { nx := fun _ H' => Q .non H', rt := Q } (start N_Liking_answer vs) H := by
  obtain ⟨a, dx, A, st, b, c, ns, call, rfl, h, hTb, hl, hD, k⟩ := h
  obtain ⟨v0, hobj⟩ := h.obj
  refine q_when (et_test (ev_eqi (ev_var rfl) ev_c)) (fun hb H1 e1 => ?_) (fun hb H1 e1 => ?_)
  · have c0 : c = 0 := by have := of_decide_eq_true hb; omega
    subst c0
    cases hD with
    | c0 u i f lm nn pe bp sd => exact s_retMeth (ev_var rfl) (e1 _ _ hobj) rfl (ea_cons (ev_var rfl) ea_nil) fun H2 e2 => ⟨a, dx, A, st, b, u, i, f, lm, nn, pe, bp, sd, rfl, h.ex (e1.trans e2), (e1.trans e2) _ _ hl, k.ex (e1.trans e2)⟩
  have c0 : c ≠ 0 := by have := of_decide_eq_false hb; omega
  cases st with
  | none =>
    have h1 : H1 a = some (.ins (He.ga K "Liking") dx [("model", .non)]) := e1 _ _ h
    refine q_yes (et_test (ev_is (ev_isNon (ev_fld (ev_var rfl) h1 T.c_Liking T.n_Liking_model rfl)) rfl)) fun H2 e2 => ?_
    exact s_retL (xs := ([(-11 : Int)]).map V.int) (el_lst (ea_cons ev_c ea_nil) (by simp)) fun q H3 _ e3 h3 => rets_same h k ((e1.trans e2).trans e3) (step_none hD c0) h3
  | some m =>
    have hlk : LkAt K H a dx A m := h
    have h1 := hlk.ex e1
    refine q_no (et_test (ev_is (ev_isNon (ev_model T (ev_var rfl) h1)) (by rw [decide_eq_false (fun z => nomatch z)]))) fun H2 e2 => ?_
    have h2 := h1.ex e2
    have e12 := e1.trans e2
    refine s_retIf (et_test (ev_lt (ev_var rfl) ev_c)) (fun hb2 H3 e3 => ?_) (fun hb2 H3 e3 => ?_)
    · have c12 : c < 12 := by have := of_decide_eq_true hb2; omega
      exact s_retMeth (ev_var rfl) (h2.ex e3).obj rfl (ea_cons (ev_var rfl) (ea_cons (ev_var rfl) ea_nil)) fun H4 e4 => ⟨a, dx, A, m, b, c, ns, call, rfl, (h2.ex e3).ex e4, ((e12.trans e3).trans e4) _ _ hl, hD, ⟨by omega, by omega⟩, (RetS.some k).ex ((e12.trans e3).trans e4)⟩
    · have c12 : 12 ≤ c := by have := of_decide_eq_false hb2; omega
      exact s_retMeth (ev_var rfl) (h2.ex e3).obj rfl (ea_cons (ev_var rfl) (ea_cons (ev_var rfl) ea_nil)) fun H4 e4 => ⟨a, dx, A, m, b, c, ns, call, rfl, (h2.ex e3).ex e4, tabs_ex hTb ((e12.trans e3).trans e4), ((e12.trans e3).trans e4) _ _ hl, hD, c12, (RetS.some k).ex ((e12.trans e3).trans e4)⟩
theorem ok_Liking_answer (T : Txt K mg) (TB : TbB K mg base) : Has P w K mg base 12 d_Liking_answer.at_ ["self", "call", "numbers"] (sp_Liking_answer K) := by
  refine Has.of (d := d_Liking_answer) T 73 rfl ⟨rfl, rfl⟩ sc_Liking_answer (fun _ _ _ _ _ _ us hl => match us, hl with | [_, _, _], _ => rfl) (fun vs H Q E h => len_Liking_answer h) fun cdv A outer s H vs Q E hr h => ⟨t_Liking_answer K, ?_, pure_Liking_answer T h⟩
  exact (pss_cons (ps_if (pt_cmpR op_eq (pv 1) pe_int (nomark _)) (pss_one (ps_ret (pe_methH (pv 0) T.c_Liking T.m_Liking_create (ok_Liking_create T) (hr.mono (by decide)) (pa_cons (pv 2) pa_nil)))) pss_nil)
    (pss_cons (ps_if (pt_cmpR op_isN (pe_fld (pv 0) rfl) pe_non (nomark _)) (pss_one (ps_ret (pe_lst (pa_cons (pe_gint rfl T.i_NO_MODEL) pa_nil)))) pss_nil)
    (pss_one (ps_ret (pe_ifExp (pt_cmpR op_lt (pv 1) pe_int (nomark _)) (pe_methH (pv 0) T.c_Liking T.m_Liking_told (ok_Liking_told T) (hr.mono (by decide)) (pa_cons (pv 1) (pa_cons (pv 2) pa_nil))) (pe_methH (pv 0) T.c_Liking T.m_Liking_told_more (ok_Liking_told_more T TB) (hr.mono (by decide)) (pa_cons (pv 1) (pa_cons (pv 2) pa_nil))))))))
def sp_Liking_init (K : PySem.W.Frag) : Sp := fun vs H Q _ => ∃ (a dx : Addr), vs = [.ref a] ∧ H a = some (.ins (He.ga K "Liking") dx []) ∧ ∀ H1, Ex H H1 → Q .non (upd H1 a (.ins (He.ga K "Liking") dx [("model", .non)]))
theorem len_Liking_init (h : sp_Liking_init K vs H Q E) : vs.length = (["self"] : List Str).length := by
  obtain ⟨_, _, rfl, _⟩ := h
  rfl
def t_Liking_init (K : PySem.W.Frag) : TS :=
  (sFld K (tVar 0) (tC .non) "model")
theorem pure_Liking_init (T : Txt K mg) (h : sp_Liking_init K vs H Q E) : t_Liking_init K { nx := fun _ H' => Q .non H', rt := Q } (start N_Liking_init vs) H := by
  obtain ⟨a, dx, rfl, ha, k⟩ := h
  exact s_fld (v := .non) ev_c (ev_var rfl) ha T.c_Liking T.n_Liking_model (Nat.le_of_ble_eq_true rfl) k
theorem ok_Liking_init (T : Txt K mg) : Has P w K mg base 1 d_Liking_init.at_ ["self"] (sp_Liking_init K) := by
  refine Has.of (d := d_Liking_init) T 41 rfl ⟨rfl, rfl⟩ sc_Liking_init (fun _ _ _ _ _ _ us hl => match us, hl with | [_], _ => rfl) (fun vs H Q E h => len_Liking_init h) fun cdv A outer s H vs Q E hr h => ⟨t_Liking_init K, ?_, pure_Liking_init T h⟩
  exact (pss_one (ps_fld (pv 0) pe_non rfl))
end
end Gs
namespace Gs
open PySem PySem.Spec PyProof.Rows L2 Evl LamX
/-! ### the calls as a list of whole numbers -/
theorem nat_of {z : Int} (h : Kp429Neutral.natural z = true) : ∃ n : Nat, z = (n : Int) := by
  unfold Kp429Neutral.natural at h
  rw [Bool.and_eq_true] at h
  exact Int.eq_ofNat_of_zero_le (of_decide_eq_true h.1)
theorem nats_of : ∀ {l : List Int}, l.all Kp429Neutral.natural = true → ∃ ns : List Nat, l = ns.map fun (n : Nat) => (n : Int)
  | [], _ => ⟨[], rfl⟩
  | z :: l, h => by
    rw [List.all_cons, Bool.and_eq_true] at h
    obtain ⟨n, rfl⟩ := nat_of h.1
    obtain ⟨ns, rfl⟩ := nats_of h.2
    exact ⟨n :: ns, rfl⟩
def intsV (l : List Int) : List V := l.map V.int
theorem toNats (ns : List Nat) : (ns.map fun (n : Nat) => (n : Int)).map Int.toNat = ns := by
  rw [List.map_map]
  conv => rhs; rw [← List.map_id ns]
  rfl
theorem dec_of {c : List (List Int)} (h : Kp429Neutral.asked1 c = true) : ∃ (k : Nat) (ns : List Nat) (call : Kp429.Call), c = [(k : Int) :: ns.map fun (n : Nat) => (n : Int)] ∧ Dec k ns call ∧ Kp429Neutral.callOf c = some call := by
  unfold Kp429Neutral.asked1 at h
  split at h
  case h_1 =>
    simp only [Bool.and_eq_true] at h
    obtain ⟨h1, h2, h3, h4, h5, h6, h7, h8⟩ := h
    obtain ⟨n1, rfl⟩ := nat_of h1
    obtain ⟨n2, rfl⟩ := nat_of h2
    obtain ⟨n3, rfl⟩ := nat_of h3
    obtain ⟨n4, rfl⟩ := nat_of h4
    obtain ⟨n5, rfl⟩ := nat_of h5
    obtain ⟨n6, rfl⟩ := nat_of h6
    obtain ⟨n7, rfl⟩ := nat_of h7
    obtain ⟨n8, rfl⟩ := nat_of h8
    exact ⟨0, [n1, n2, n3, n4, n5, n6, n7, n8], _, rfl, .c0 n1 n2 n3 n4 n5 n6 n7 n8, rfl⟩
  case h_2 =>
    simp only [Bool.and_eq_true] at h
    obtain ⟨h1, h2, h3⟩ := h
    obtain ⟨n1, rfl⟩ := nat_of h1
    obtain ⟨n2, rfl⟩ := nat_of h2
    obtain ⟨n3, rfl⟩ := nat_of h3
    exact ⟨1, [n1, n2, n3], _, rfl, .c1 n1 n2 n3, rfl⟩
  case h_3 =>
    simp only [Bool.and_eq_true] at h
    obtain ⟨h1, h2⟩ := h
    obtain ⟨n1, rfl⟩ := nat_of h1
    obtain ⟨n2, rfl⟩ := nat_of h2
    exact ⟨2, [n1, n2], _, rfl, .c2 n1 n2, rfl⟩
  case h_4 =>
    obtain ⟨n1, rfl⟩ := nat_of h
    exact ⟨3, [n1], _, rfl, .c3 n1, rfl⟩
  case h_5 => exact ⟨4, [], _, rfl, .c4, rfl⟩
  case h_6 =>
    simp only [Bool.and_eq_true] at h
    obtain ⟨h1, h2, h3⟩ := h
    obtain ⟨n1, rfl⟩ := nat_of h1
    obtain ⟨n2, rfl⟩ := nat_of h2
    obtain ⟨n3, rfl⟩ := nat_of h3
    exact ⟨5, [n1, n2, n3], _, rfl, .c5 n1 n2 n3, rfl⟩
  case h_7 => exact ⟨6, [], _, rfl, .c6, rfl⟩
  case h_8 =>
    obtain ⟨n1, rfl⟩ := nat_of h
    exact ⟨7, [n1], _, rfl, .c7 n1, rfl⟩
  case h_9 => exact ⟨8, [], _, rfl, .c8, rfl⟩
  case h_10 =>
    obtain ⟨n1, rfl⟩ := nat_of h
    exact ⟨9, [n1], _, rfl, .c9 n1, rfl⟩
  case h_11 => exact ⟨10, [], _, rfl, .c10, rfl⟩
  case h_12 =>
    simp only [Bool.and_eq_true] at h
    obtain ⟨h1, h2, h3⟩ := h
    obtain ⟨n1, rfl⟩ := nat_of h1
    obtain ⟨n2, rfl⟩ := nat_of h2
    obtain ⟨n3, rfl⟩ := nat_of h3
    exact ⟨11, [n1, n2, n3], _, rfl, .c11 n1 n2 n3, rfl⟩
  case h_13 =>
    simp only [Bool.and_eq_true] at h
    obtain ⟨h1, h2, h3⟩ := h
    obtain ⟨n1, rfl⟩ := nat_of h1
    obtain ⟨n2, rfl⟩ := nat_of h2
    obtain ⟨n3, rfl⟩ := nat_of h3
    exact ⟨12, [n1, n2, n3], _, rfl, .c12 n1 n2 n3, rfl⟩
  case h_14 =>
    simp only [Bool.and_eq_true] at h
    obtain ⟨h1, h2, h3, h4, h5⟩ := h
    obtain ⟨n1, rfl⟩ := nat_of h1
    obtain ⟨n2, rfl⟩ := nat_of h2
    obtain ⟨n3, rfl⟩ := nat_of h3
    obtain ⟨n4, rfl⟩ := nat_of h4
    obtain ⟨n5, rfl⟩ := nat_of h5
    exact ⟨13, [n1, n2, n3, n4, n5], _, rfl, .c13 n1 n2 n3 n4 n5, rfl⟩
  case h_15 =>
    simp only [Bool.and_eq_true] at h
    obtain ⟨h1, h2⟩ := h
    obtain ⟨n1, rfl⟩ := nat_of h1
    obtain ⟨n2, rfl⟩ := nat_of h2
    exact ⟨14, [n1, n2], _, rfl, .c14 n1 n2, rfl⟩
  case h_16 =>
    simp only [Bool.and_eq_true] at h
    obtain ⟨h1, h2⟩ := h
    obtain ⟨n1, rfl⟩ := nat_of h1
    obtain ⟨n2, rfl⟩ := nat_of h2
    exact ⟨15, [n1, n2], _, rfl, .c15 n1 n2, rfl⟩
  case h_17 =>
    obtain ⟨n1, rfl⟩ := nat_of h
    exact ⟨16, [n1], _, rfl, .c16 n1, rfl⟩
  case h_18 => exact ⟨17, [], _, rfl, .c17, rfl⟩
  case h_19 =>
    simp only [Bool.and_eq_true] at h
    obtain ⟨h1, h2⟩ := h
    obtain ⟨n1, rfl⟩ := nat_of h1
    obtain ⟨n2, rfl⟩ := nat_of h2
    exact ⟨18, [n1, n2], _, rfl, .c18 n1 n2, rfl⟩
  case h_20 =>
    simp only [Bool.and_eq_true] at h
    obtain ⟨h1, h2, h3⟩ := h
    obtain ⟨n1, rfl⟩ := nat_of h1
    obtain ⟨n2, rfl⟩ := nat_of h2
    obtain ⟨n3, rfl⟩ := nat_of h3
    exact ⟨19, [n1, n2, n3], _, rfl, .c19 n1 n2 n3, rfl⟩
  case h_21 =>
    rw [Bool.and_eq_true] at h
    obtain ⟨h1, h2⟩ := h
    obtain ⟨ns, rfl⟩ := nats_of h1
    have h2 := of_decide_eq_true h2
    rw [List.length_map] at h2
    refine ⟨20, ns, _, rfl, .c20 ns h2, ?_⟩
    show some (Kp429.Call.foldIn ((ns.map fun (n : Nat) => (n : Int)).map Int.toNat)) = _
    rw [toNats]
  case h_22 =>
    rw [Bool.and_eq_true, Bool.and_eq_true] at h
    obtain ⟨h0, h1, h2⟩ := h
    obtain ⟨n1, rfl⟩ := nat_of h0
    obtain ⟨ns, rfl⟩ := nats_of h1
    have h2 := of_decide_eq_true h2
    rw [List.length_map] at h2
    refine ⟨21, n1 :: ns, _, rfl, .c21 n1 ns h2, ?_⟩
    show some (Kp429.Call.recommendNew n1 ((ns.map fun (n : Nat) => (n : Int)).map Int.toNat)) = _
    rw [toNats]
  case h_23 =>
    simp only [Bool.and_eq_true] at h
    obtain ⟨h1, h2⟩ := h
    obtain ⟨n1, rfl⟩ := nat_of h1
    obtain ⟨n2, rfl⟩ := nat_of h2
    exact ⟨22, [n1, n2], _, rfl, .c22 n1 n2, rfl⟩
  case h_24 => exact ⟨23, [], _, rfl, .c23, rfl⟩
  case h_25 => cases h
theorem rows_len : ∀ (k : Nat) {t u : List Int} {xs : List (List Int)}, PyFlat.rows k t = some (xs, u) → xs.length = k
  | 0, t, u, xs, h => by
    unfold PyFlat.rows at h
    cases h
    rfl
  | k + 1, t, u, xs, h => by
    unfold PyFlat.rows at h
    split at h
    · cases h
    · split at h
      · cases h
      · next h2 =>
        cases h
        rw [List.length_cons, rows_len k h2]
/-- one call ahead of the rest -/
theorem parse {f : Nat} {p : Int} {r : List Int} {cs : List (List (List Int))} (h : PyWide.calls (f + 1) (p :: r) = some cs) (ha : cs.all Kp429Neutral.asked1 = true) :
    ∃ (k : Nat) (ns : List Nat) (call : Kp429.Call) (t : List Int) (cs' : List (List (List Int))), p :: r = (k : Int) :: (ns.length : Int) :: ((ns.map fun (n : Nat) => (n : Int)) ++ 0 :: t) ∧ Dec k ns call ∧ Kp429Neutral.callOf [(k : Int) :: ns.map fun (n : Nat) => (n : Int)] = some call ∧
      cs = [(k : Int) :: ns.map fun (n : Nat) => (n : Int)] :: cs' ∧ PyWide.calls f t = some cs' ∧ cs'.all Kp429Neutral.asked1 = true := by
  unfold PyWide.calls at h
  split at h
  · cases h
  next c t hcall =>
  split at h
  · cases h
  next cs' hcs =>
  cases h
  rw [List.all_cons, Bool.and_eq_true] at ha
  obtain ⟨k, ns, call, hc, hd, ho⟩ := dec_of ha.1
  unfold PyWide.call at hcall
  dsimp only at hcall
  split at hcall
  · cases hcall
  · cases hcall
  next ns0 kk t0 hrow =>
  split at hcall
  next hk0 =>
    split at hcall
    · cases hcall
    next xs u hrows =>
    cases hcall
    rw [hc] at ho
    injection hc with hc1 hc2
    injection hc1 with hp hns
    subst hp hns
    have hk : kk.toNat = 0 := by rw [← rows_len _ hrows, hc2]; rfl
    have hkk : kk = 0 := by omega
    subst hkk
    have hu : t = t0 := by
      unfold PyFlat.rows at hrows
      cases hrows
      rfl
    subst hu
    refine ⟨k, ns, call, t, cs', ?_, hd, ho, by rw [hc2], hcs, ha.2⟩
    unfold PyFlat.row at hrow
    split at hrow
    · cases hrow
    next n r' =>
    split at hrow
    next hn =>
      simp only [Option.some.injEq, Prod.mk.injEq] at hrow
      obtain ⟨q1, q2⟩ := hrow
      have hl : (r'.take n.toNat).length = n.toNat := by rw [List.length_take]; omega
      have hn2 : n = (ns.length : Int) := by
        rw [q1, List.length_map] at hl
        omega
      have e3 : r' = (ns.map fun (n : Nat) => (n : Int)) ++ 0 :: t := by rw [← q1, ← q2, List.take_append_drop]
      rw [e3, hn2]
    · cases hrow
  · cases hcall
end Gs
namespace Gs
open PySem PySem.Spec PyProof.Rows L2 Evl LamX
section
open Kp429 (Rating Settings Parameters Coordinate View)
variable {P : Program} {w : World} {K : PySem.W.Frag} {mg : Str → Option Value} {base : Heap} {vs : List V} {H H' H1 H2 H3 : Hp} {Q : VK} {E : XK} {A A' A2 : MA} {p p' : Parameters} {σ : L2.St} {ta tk tn tq td ty tv tb te tx : TE} {s : Settings} {m m' m2 : Kp429.Model} {a dx : Addr} {st : Option Kp429.Model}
theorem ints_at {ls : List Int} {j : Nat} {z : Int} (h : ls[j]? = some z) : (intsV ls)[j]? = some (.int z) := by
  unfold intsV
  rw [List.getElem?_map, h]
  rfl
theorem sqN {b : Addr} {xs : List V} (e : ExtN H H') (h : SqL K H b xs) : SqL K H' b xs := by
  rcases h with (h | ⟨o, h⟩) | h
  · exact .inl (.inl (xlst e h))
  · exact .inl (.inr ⟨o, e _ _ h (fun _ z => nomatch z)⟩)
  · exact .inr h
theorem cut_mid (xs : List V) (i j : Nat) (h1 : i ≤ j) (h2 : j ≤ xs.length) : cutV xs (some (i : Int)) (some (j : Int)) = (xs.drop i).take (j - i) := by
  unfold cutV
  rw [HT.sIx_nat, HT.sIx_nat, Nat.min_eq_left (show i ≤ xs.length by omega), Nat.min_eq_left h2]
theorem el_catB2 {xs ys : List V} {p' : Addr} (ha : EvL ta σ H xs) (hb : Ev tb σ H (.ref p')) (h' : H p' = some (.lst ys)) (hl : xs.length + ys.length ≤ sizeLine) : EvL (tOp rCat ta tb) σ H (xs ++ ys) := fun H1 e Q q =>
  ha H1 e _ fun p H2 hp e2 h2 => hb H2 (e.trans e2) _ fun H3 e3 => ⟨p, p', xs, ys, rfl, rfl, e3 p _ h2, ((e.trans e2).trans e3) _ _ h', hl, fun l hl' => q l _ (fresh_back (e2.trans e3) hl') ((e2.trans e3).trans (Ex.new hl')) upd_same⟩
theorem s_extL2 {D : Ends} {l : Addr} {xs ys : List V} (hl : H l = some (.lst xs)) (ha : Ev ta σ H (.ref l)) (h : EvL te σ H ys) (hz : xs.length + ys.length ≤ sizeLine) (k : ∀ H1, Ex H H1 → D.nx σ (upd H1 l (.lst (xs ++ ys)))) :
    tDrop (tBM K "list" rExtend ta (tCons te tNil)) D σ H := ha H (Ex.refl H) _ fun H1 e1 =>
  ⟨Or.inl ⟨rfl, xs, sq_of (e1 l _ hl)⟩, h H1 e1 _ fun p H2 hp e2 h2 => ⟨l, p, xs, ys, rfl, rfl, e2 l _ (e1 l _ hl), h2, hz, k H2 (e1.trans e2)⟩⟩
def sp_answers (K : PySem.W.Frag) : Sp := fun vs H Q _ => ∃ (l : Addr) (ls : List Int), vs = [.ref l] ∧ SqL K H l (intsV ls) ∧ ls.length ≤ 1200 ∧ Tabs (LT K) H ∧ PyKp429.answers_asked ls = true ∧
  ∀ q H', ExtN H H' → H' q = some (.lst (intsV (PyKp429.answers ls))) → Q (.ref q) H'
theorem len_answers (h : sp_answers K vs H Q E) : vs.length = (["calls"] : List Str).length := by
  obtain ⟨_, _, rfl, _⟩ := h
  rfl
def t_answers (K : PySem.W.Frag) : TS :=
  (tSeq (tPar3 1 2 3 (tCons (tMake (He.ga K "Liking") (sp_Liking_init K) [] E0 tNil) (tCons (tLst tNil) (tCons (tC (.int 0)) tNil))))
    (tSeq (tWhile (tTest (tOp rLtI (tVar 3) (tCB (rLenQ K) (tCons (tVar 0) tNil)))) (tSeq (tPar 4 5 (tCons (tOp (rIxL K) (tVar 0) (tVar 3)) (tCons (tOp (rIxL K) (tVar 0) (tOp rAddI (tVar 3) (tC (.int 1)))) tNil)))
    (tSeq (tAsg (tSl (rSlL K) (tVar 0) (tPart (tOp rAddI (tVar 3) (tC (.int 2)))) (tPart (tOp rAddI (tOp rAddI (tVar 3) (tC (.int 2))) (tVar 5)))) (gName 6))
    (tSeq (tAsg (tOp rAddI (tOp rAddI (tVar 3) (tC (.int 2))) (tVar 5)) (gName 3))
    (tSeq (tAsg (tOp (rIxL K) (tVar 0) (tVar 3)) (gName 7))
    (tSeq (tAsg (tOp rAddI (tVar 3) (tC (.int 1))) (gName 3))
    (tSeq (tFor (iRng1 (tCons (tVar 7) tNil)) (gName 8) (tAsg (tOp rAddI (tOp rAddI (tVar 3) (tC (.int 1))) (tOp (rIxL K) (tVar 0) (tVar 3))) (gName 3)))
    (tSeq (tAsg (tMeth (He.ga K "Liking") "answer" (sp_Liking_answer K) [] E0 (tVar 1) (tCons (tVar 4) (tCons (tVar 6) tNil))) (gName 9))
    (tDrop (tBM K "list" rExtend (tVar 2) (tCons (tOp rCat (tLst (tCons (tCB (rLenQ K) (tCons (tVar 9) tNil)) tNil)) (tVar 9)) tNil)))))))))))
    (tRet (tVar 2))))
theorem q_start {D : Ends} {tz : TS} {i j l : Nat} {n : Int} (k : ∀ a dx f H', Ex H H' → H a = none → H f = none → f ≠ a → H' a = some (.ins (He.ga K "Liking") dx [("model", .non)]) → H' f = some (.lst []) → tz D (((σ.set i (some (.ref a))).set j (some (.ref f))).set l (some (.int n))) H') :
    tSeq (tPar3 i j l (tCons (tMake (He.ga K "Liking") (sp_Liking_init K) [] E0 tNil) (tCons (tLst tNil) (tCons (tC (.int n)) tNil)))) tz D σ H := fun x dx hx hdx hne =>
  have hx2 : upd H dx (.own x) x = none := by rw [upd_ne (Ne.symm hne)]; exact hx
  have e0 : Ex H (upd (upd H dx (.own x)) x (.ins (He.ga K "Liking") dx [])) := (Ex.new hdx).trans (Ex.new hx2)
  ⟨x, dx, rfl, upd_same, fun H1 e1 => ⟨rfl, sz_of (by simp), fun f hf => ⟨_, _, _, rfl, k x dx f _ ((Ex.mut (e0.trans e1) hx).trans (Ex.new hf)) hx (fresh_back (Ex.mut (e0.trans e1) hx) hf) (neN upd_same hf) (by rw [upd_ne (Ne.symm (neN upd_same hf)), upd_same]) upd_same⟩⟩⟩
theorem told_cons (x : List Int) (r : List (List Int)) : PyFlat.told (x :: r) = ((x.length : Int) :: x) ++ PyFlat.told r := rfl
theorem nstep {k : Nat} {ns : List Nat} {call : Kp429.Call} (h : Kp429Neutral.callOf [(k : Int) :: ns.map fun (n : Nat) => (n : Int)] = some call) (st : Option Kp429.Model) : Kp429Neutral.step st [(k : Int) :: ns.map fun (n : Nat) => (n : Int)] = ((Kp429.step st call).1, (Kp429.step st call).2.num :: (Kp429.step st call).2.nums) := by
  unfold Kp429Neutral.step
  rw [h]
theorem pure_answers (T : Txt K mg) (h : sp_answers K vs H Q E) : t_answers K { nx := fun _ H' => Q .non H', rt := Q } (start N_answers vs) H := by
  obtain ⟨l, ls, rfl, hl, hlen, hTb, hask, kk⟩ := h
  obtain ⟨cs0, hcs0, hall, hshort⟩ : ∃ cs, PyWide.calls ls.length ls = some cs ∧ cs.all Kp429Neutral.asked1 = true ∧ (PyKp429.answers ls).length ≤ 10000000 := by
    unfold PyKp429.answers_asked PyKp429.calls at hask
    cases e : PyWide.calls ls.length ls with
    | none => rw [e] at hask; cases hask
    | some cs =>
      rw [e] at hask
      simp only [Bool.and_eq_true] at hask
      obtain ⟨⟨h1, h2⟩, h3⟩ := hask
      unfold Kp429Neutral.asked at h2
      simp only [Bool.and_eq_true] at h2
      exact ⟨cs, rfl, h2.2.2, of_decide_eq_true h3⟩
  have hans : PyKp429.answers ls = PyFlat.told (PyFlat.played Kp429Neutral.step Kp429Neutral.start cs0) := by
    unfold PyKp429.answers PyKp429.calls
    rw [hcs0]
  have lV : (intsV ls).length = ls.length := by unfold intsV; rw [List.length_map]
  refine q_start fun a dx fd H1 e1 ha hfd hfa hobj hf1 => ?_
  refine q_while (fun μ σ H' => ∃ (f : Nat) (rest : List Int) (cs : List (List (List Int))) (st : Option Kp429.Model) (A : MA) (done : List Int) (pl : Nat) (v4 v5 v6 v7 v8 v9 : Option V), μ = rest.length ∧ ls.drop pl = rest ∧ pl + rest.length = ls.length ∧ PyWide.calls f rest = some cs ∧ cs.all Kp429Neutral.asked1 = true ∧
      done ++ PyFlat.told (PyFlat.played Kp429Neutral.step st cs) = PyKp429.answers ls ∧ StAt K H' a dx A st ∧ ExtN H H' ∧ (∀ b, fpS A st b → ∀ o, H b = some o → ∃ ps, o = .tbl ps) ∧ H' fd = some (.lst (intsV done)) ∧ ¬ fpS A st fd ∧ Tabs (LT K) H' ∧
      σ = [some (.ref l), some (.ref a), some (.ref fd), some (.int (pl : Int)), v4, v5, v6, v7, v8, v9]) ls.length
    ⟨ls.length, ls, cs0, none, ⟨0, 0, 0, 0, [], 0, [], 0, 0, 0, 0, [], []⟩, [], 0, none, none, none, none, none, none, rfl, rfl, by omega, hcs0, hall, hans.symm, hobj, ExtN.ex e1, (fun b hb => hb.elim), hf1, (fun z => z), tabs_ex hTb e1, rfl⟩ ?_
  rintro μ σ H' ⟨f, rest, cs, st, A, done, pl, v4, v5, v6, v7, v8, v9, rfl, hdrop, hpl, hcs, hca, htold, hst, eN, hfp, hf, hff, hT, rfl⟩
  have hl' : SqL K H' l (intsV ls) := sqN eN hl
  refine ⟨_, et_test (ev_lt (ev_var rfl) (ev_lenL (ev_var rfl) hl')), fun hb H2 e2 => ?_, fun hb H2 e2 => ?_⟩
  · rw [lV] at hb
    have hlt : pl < ls.length := by have := of_decide_eq_true hb; omega
    cases rest with
    | nil => simp at hpl; omega
    | cons p r =>
    cases f with
    | zero =>
      unfold PyWide.calls at hcs
      cases hcs
    | succ f =>
    obtain ⟨k, ns, call, t, cs', hR, hD, hco, rfl, hcs', hca'⟩ := parse hcs hca
    rw [hR] at hdrop hpl
    have at_ : ∀ j : Nat, ls[pl + j]? = ((k : Int) :: (ns.length : Int) :: ((ns.map fun (n : Nat) => (n : Int)) ++ 0 :: t))[j]? := fun j => by rw [← hdrop, List.getElem?_drop]
    have l0 : ls[pl]? = some (k : Int) := at_ 0
    have l1 : ls[pl + 1]? = some (ns.length : Int) := at_ 1
    have l2 : ls[pl + 2 + ns.length]? = some 0 := by
      rw [Nat.add_assoc, at_ (2 + ns.length), show 2 + ns.length = ns.length + 1 + 1 by omega, List.getElem?_cons_succ, List.getElem?_cons_succ, List.getElem?_append_right (by simp)]
      simp
    have hpl2 : pl + (ns.length + t.length + 3) = ls.length := by
      simp at hpl
      omega
    have d2 : ls.drop (pl + 2) = (ns.map fun (n : Nat) => (n : Int)) ++ 0 :: t := by
      rw [← List.drop_drop, hdrop]
      rfl
    have d3 : ls.drop (pl + 2 + ns.length + 1) = t := by
      rw [show pl + 2 + ns.length + 1 = (pl + 2) + (ns.length + 1) by omega, ← List.drop_drop, d2, List.drop_append]
      simp
    have hst2 := hst.ex e2
    have hl2 := ex_l e2 hl'
    refine ⟨_, fun _ _ q => q, ?_⟩
    refine q_par (ev_ixL (j := pl) (ev_var rfl) (ev_var rfl) hl2 (ints_at l0)) (ev_ixL (j := pl + 1) (ev_var rfl) (ev_is (ev_add (ev_var rfl) ev_c) rfl) hl2 (ints_at l1)) fun H3 e3 => ?_
    have hl3 := ex_l e3 hl2
    refine q_asgL (el_sl (ev_var rfl) (eo_some (i := ((pl + 2 : Nat) : Int)) (ev_is (ev_add (ev_var rfl) ev_c) rfl)) (eo_some (i := ((pl + 2 + ns.length : Nat) : Int)) (ev_is (ev_add (ev_add (ev_var rfl) ev_c) (ev_var rfl)) rfl)) hl3) fun nb H4 hnb e4 h4 => ?_
    have hnum : H4 nb = some (.lst (natV ns)) := by
      rw [h4, cut_mid _ _ _ (by omega) (by rw [lV]; omega)]
      unfold intsV natV
      rw [← List.map_drop, d2, show pl + 2 + ns.length - (pl + 2) = ns.length by omega, ← List.map_take, List.take_append_of_le_length (by simp), List.take_of_length_le (by simp), List.map_map]
      rfl
    refine q_asg (v := .int ((pl + 2 + ns.length : Nat) : Int)) (ev_is (ev_add (ev_add (ev_var rfl) ev_c) (ev_var rfl)) rfl) fun H5 e5 => ?_
    have hl5 := ex_l (e4.trans e5) hl3
    refine q_asg (v := .int 0) (ev_ixL (j := pl + 2 + ns.length) (ev_var rfl) (ev_var rfl) hl5 (ints_at l2)) fun H6 e6 => ?_
    refine q_asg (v := .int ((pl + 2 + ns.length + 1 : Nat) : Int)) (ev_is (ev_add (ev_var rfl) ev_c) rfl) fun H7 e7 => ?_
    refine q_forR1 (n := 0) (ea_cons (ev_var rfl) ea_nil) ⟨by decide, by decide⟩ (fun _ σ' H' => Ex H7 H' ∧ σ' = [some (.ref l), some (.ref a), some (.ref fd), some (.int ((pl + 2 + ns.length + 1 : Nat) : Int)), some (.int (k : Int)), some (.int (ns.length : Int)), some (.ref nb), some (.int 0), v8, v9]) (fun H8 e8 => ⟨e8, rfl⟩) (fun i σ' H8 hi => by omega) (fun σ' H8 p => ?_)
    obtain ⟨e8, rfl⟩ := p
    have e28 := ((((((e2.trans e3).trans e4).trans e5).trans e6).trans e7).trans e8)
    have hst8 := hst.ex e28
    obtain ⟨v0, hob8⟩ := hst8.obj
    have hnum8 := (((e5.trans e6).trans e7).trans e8) _ _ hnum
    refine q_asgBy ?_
    refine ev_var (i := 1) (v := .ref a) rfl H8 (Ex.refl _) _ fun H9 e9 => ⟨a, dx, _, rfl, e9 _ _ hob8, rfl, ?_⟩
    refine run_ea (ea_cons (ev_var rfl) (ea_cons (ev_var rfl) ea_nil)) fun H10 e10 => ?_
    have e910 := e9.trans e10
    have eA := e28.trans e910
    refine ⟨a, dx, A, st, nb, k, ns, call, rfl, hst.ex eA, tabs_ex hT eA, e910 _ _ hnum8, hD, fun A' q H11 hst' mv hq => ?_⟩
    have mv' := mv.exL eA
    have hstep := nstep hco st
    have htold2 : done ++ ((((Kp429.step st call).2.num :: (Kp429.step st call).2.nums).length : Int) :: ((Kp429.step st call).2.num :: (Kp429.step st call).2.nums)) ++ PyFlat.told (PyFlat.played Kp429Neutral.step (Kp429.step st call).1 cs') = PyKp429.answers ls := by
      rw [← htold]
      show _ = done ++ PyFlat.told ((Kp429Neutral.step st [(k : Int) :: ns.map fun (n : Nat) => (n : Int)]).2 :: PyFlat.played Kp429Neutral.step (Kp429Neutral.step st [(k : Int) :: ns.map fun (n : Nat) => (n : Int)]).1 cs')
      rw [hstep, told_cons, List.append_assoc]
    generalize hans2 : (Kp429.step st call).2.num :: (Kp429.step st call).2.nums = ans at hq htold2
    generalize (Kp429.step st call).1 = st' at hst' mv' htold2
    have hfd11 := mv'.fr fd (.lst (intsV done)) hff hfa (fun _ z => nomatch z) hf
    have hbd : done.length + (1 + ans.length) ≤ 10000000 := by
      have := congrArg List.length htold2
      rw [List.length_append, List.length_append, List.length_cons] at this
      omega
    have szL : sizeLine = 16777216 := by decide
    have lA : (intsV ans).length = ans.length := by unfold intsV; rw [List.length_map]
    have lD : (intsV done).length = done.length := by unfold intsV; rw [List.length_map]
    have hrl := congrArg List.length hR
    simp only [List.length_cons, List.length_append, List.length_map] at hrl
    have hff' : ¬ fpS A' st' fd := fun z => by
      rcases mv'.fp _ z with q1 | q1
      · exact hff q1
      · obtain ⟨ps, e⟩ := q1 _ hf
        cases e
    refine s_extL2 (xs := intsV done) (ys := [.int (ans.length : Int)] ++ intsV ans) hfd11 (ev_var rfl) (el_catB2 (el_lst (ea_cons (ev_is (ev_lenL (ev_var rfl) (sq_of hq)) (by rw [List.length_map])) ea_nil) (by simp)) (ev_var rfl) hq (by rw [lA, szL]; simp; omega)) (by rw [List.length_append, lA, lD, szL]; simp; omega) fun H12 e12 => ?_
    refine ⟨t.length, by simp; omega, f, t, cs', st', A', done ++ ((ans.length : Int) :: ans), pl + 2 + ns.length + 1, _, _, _, _, _, _, rfl, d3, by omega, hcs', hca', htold2, ?_, ?_, ?_, ?_, hff', ?_, rfl⟩
    · cases st' with
      | none =>
        show upd H12 fd _ a = _
        rw [upd_ne (Ne.symm hfa)]
        exact e12 _ _ hst'
      | some m' =>
        have hk : LkAt K H11 a dx A' m' := hst'
        have hk2 := hk.ex e12
        refine ⟨?_, (hk2.mod).fr1 hff' (e12 _ _ hfd11) rfl (Fr.refl.upd rfl)⟩
        show upd H12 fd _ a = _
        rw [upd_ne (Ne.symm hfa)]
        exact hk2.obj
    · intro b o hb ho
      have nb2 : b ≠ fd := fun e => by rw [e, hfd] at hb; cases hb
      have nba : b ≠ a := fun e => by rw [e, ha] at hb; cases hb
      rw [upd_ne nb2]
      refine e12 _ _ (mv'.fr b o (fun z => ?_) nba ho (eN b o hb ho))
      obtain ⟨ps, e⟩ := hfp b z o hb
      exact ho ps e
    · intro b hb o ho
      rcases mv'.fp b hb with q1 | q1
      · exact hfp b q1 o ho
      · by_cases ht : ∃ ps, o = .tbl ps
        · exact ht
        · exact q1 o (eN b o ho (fun ps e => ht ⟨ps, e⟩))
    · rw [upd_same]
      unfold intsV
      rw [List.map_append]
      rfl
    · have t12 := tabs_ex (mv'.tb hT) e12
      have hfd12 := e12 _ _ hfd11
      refine fun z hz => ?_
      obtain ⟨ps, g1, g2, g3⟩ := t12 z hz
      refine ⟨ps, ?_, g2, fun pos cv hc => ?_⟩
      · rw [upd_ne]
        · exact g1
        · intro e
          rw [e, hfd12] at g1
          cases g1
      · obtain ⟨cc, w1, w2⟩ := g3 pos cv hc
        refine ⟨cc, w1, ?_⟩
        rw [upd_ne]
        · exact w2
        · intro e
          rw [e, hfd12] at w2
          cases w2
  · rw [lV] at hb
    have hge : rest = [] := by
      have := of_decide_eq_false hb
      exact List.length_eq_zero_iff.mp (by omega)
    subst hge
    have hcs1 : cs = [] := by
      cases f with
      | zero => unfold PyWide.calls at hcs; cases hcs; rfl
      | succ f => unfold PyWide.calls at hcs; cases hcs; rfl
    subst hcs1
    have hdone : done = PyKp429.answers ls := by
      rw [← htold]
      show done = done ++ []
      rw [List.append_nil]
    refine ⟨_, rfl, kk fd H2 (eN.trans (ExtN.ex e2)) ?_⟩
    rw [← hdone]
    exact e2 _ _ hf
theorem ok_answers (T : Txt K mg) (TB : TbB K mg base) : Has P w K mg base 13 d_answers.at_ ["calls"] (sp_answers K) := by
  refine Has.of (d := d_answers) T 74 rfl ⟨rfl, rfl⟩ sc_answers (fun _ _ _ _ _ _ us hl => match us, hl with | [_], _ => rfl) (fun vs H Q E h => len_answers h) fun cdv A outer s H vs Q E hr h => ⟨t_answers K, ?_, pure_answers T h⟩
  exact (pss_cons (ps_par3 (by rfl) sc_answers.nd rfl rfl rfl (by decide) (by decide) (by decide) rfl rfl rfl (pa_cons (pe_makeH0 T.k_Liking (ok_Liking_init T) (hr.mono (by decide)) rfl T.g_Liking) (pa_cons (pe_lst pa_nil) (pa_cons pe_int pa_nil))) (by rfl))
    (pss_cons (ps_while PassesOwn.never (pt_cmpR op_lt (pv 3) (pe_callB cl_len (by rfl) T.f_len (by decide +kernel) (pa_cons (pv 0) pa_nil)) (nomark _)) (pss_cons (ps_par (by rfl) sc_answers.nd rfl rfl (by decide) rfl rfl (pa_cons (pe_ix ix_list (pv 0) (pv 3) (fun _ _ => rfl)) (pa_cons (pe_ix ix_list (pv 0) (pe_op op_add (pv 3) pe_int) (fun _ _ => rfl)) pa_nil)) (by rfl))
    (pss_cons (ps_set (i := 6) sc_answers.nd rfl (Or.inl rfl) (pe_slice sl_list (pv 0) (po_some (pe_op op_add (pv 3) pe_int)) (po_some (pe_op op_add (pe_op op_add (pv 3) pe_int) (pv 5)))))
    (pss_cons (ps_set (i := 3) sc_answers.nd rfl (Or.inl rfl) (pe_op op_add (pe_op op_add (pv 3) pe_int) (pv 5)))
    (pss_cons (ps_set (i := 7) sc_answers.nd rfl (Or.inl rfl) (pe_ix ix_list (pv 0) (pv 3) (fun _ _ => rfl)))
    (pss_cons (ps_set (i := 3) sc_answers.nd rfl (Or.inl rfl) (pe_op op_add (pv 3) pe_int))
    (pss_cons (ps_for PassesOwn.never rfl (pi_range1 rfl T.f_range (pa_cons (pv 7) pa_nil)) (pg_name (i := 8) sc_answers.nd rfl (Or.inl rfl)) (pss_one (ps_set (i := 3) sc_answers.nd rfl (Or.inl rfl) (pe_op op_add (pe_op op_add (pv 3) pe_int) (pe_ix ix_list (pv 0) (pv 3) (fun _ _ => rfl))))))
    (pss_cons (ps_set (i := 9) sc_answers.nd rfl (Or.inl rfl) (pe_methH (pv 1) T.c_Liking T.m_Liking_answer (ok_Liking_answer T TB) (hr.mono (by decide)) (pa_cons (pv 4) (pa_cons (pv 6) pa_nil))))
    (pss_one (ps_expr (pe_bm PySem.F.plainAttrs_list PySem.F.slot_list_extend PySem.F.type_list_extend mt_extend (pv 2) (pa_cons (pe_op op_cat (pe_lst (pa_cons (pe_callB cl_len (by rfl) T.f_len (by decide +kernel) (pa_cons (pv 9) pa_nil)) pa_nil)) (pv 9)) pa_nil))))))))))))
    (pss_one (ps_ret (pv 2)))))
end
end Gs
/-! H1: the head's run: the facts of fas, the defs of fns, the table of the lambda's code -/
namespace Gs
open PySem PySem.Spec PyProof.Rows L2
abbrev RS : PySem.W.OpenSpec := PySem.Challenge.rw_likings_s01_answers
abbrev recD0 : He.Defn := ("Model", some "recommended")
abbrev hk : PySem.W.Hook := He.hookX 5 fas fns [] [recD0] (fun _ => true)
def ob (s : PySem.W.SharedT) : He.AlX := He.obsX 5 fas fns [] [recD0] (fun _ => true) (HandSHeadRun.getT s)
theorem ob_eq (s : PySem.W.SharedT) : ob s = hk.obs s.abs := He.obsX_eq (HandSHeadRun.getT_eq s)
def loose1 : List Str := ["__name__", "product", "squares", "nearest", "gain", "best_value", "quadratic_of", "are_closer", "in_order", "lowest_terms", "MOST_ROWS", "MOST_FACTORS", "MOST_LIMIT", "MOST_PENALTY", "MOST_BIAS_PENALTY", "UNIT", "BIAS_RANGE", "HASH_START", "HASH_PRIME", "HASH_SIZE"]
def loose2 : List Str := ["FIRST_MOST", "are_settings", "hashed", "Settings", "MOST_ROUNDS", "copies", "Model", "NO_MODEL", "NOT_THERE", "BEYOND", "NO_RATING", "MOST_SWEEPS", "MOST_CURVE", "MOST_RATINGS", "MOST_VALUE", "flat", "Liking"]
def loose : List Str := loose1 ++ loose2
theorem run (w : World) : HandSHeadRun.RunEqS RS (PySem.W.view RS.prog [40]) hk ob 6000 loose w := by
  intro os
  kernel_rfl
end Gs
/-! H2: the end: the call with the table of the lambda's code object, the row's walk -/
namespace Gs
open PySem PySem.Spec PyProof.Rows L2 Evl LamX
open PySem.W (WData Codec OpenSpec Well WellAll ReadsW ReadsAllW)
theorem spec_callT {P : Program} {w : World} {K : PySem.W.Frag} {mg mb : Str → Option Value} {k : Nat} {fa : Addr} {x : Str} {sp : Sp} {s₁ : Shared} {vals : List Value} {ns : List Int} {R : PySem.W.WRecords} {cl : Str → Option Addr} {d0 : WData} {c0 P0 : Addr}
    (KX : K.In s₁.heap) (hns : s₁.heap.Ns mainGlobals mg) (hb : s₁.heap.Ns builtinsNs mb) (hbb : ∀ x : Str, x ≠ "__name__" → mb x = bootBuiltins x) (hlim : s₁.heap.NoLimit) (hg : s₁.gens = #[])
    (hT : s₁.heap.get? P0 = some { cls := .none, data := .fields #[] }) (nT : K.lookup P0 = none) (C : PySem.W.CodeHd s₁.heap c0 P0)
    (hbm : ∃ (bm : Addr) (ob : Obj), mg "__builtins__" = some (.ref bm) ∧ bm ≠ builtinsNs ∧ s₁.heap.get? bm = some ob ∧ ob.cls = .type "module" ∧ ob.dict = some builtinsNs ∧ ob.data = .plain)
    (hwl : WellAll w.params s₁.heap vals [.list (ns.map WData.int)]) (hwt : ∀ d ∈ [WData.list (ns.map WData.int)], d.weight ≤ 1048576) (hr : Room k callerA)
    (F : ∀ base : Heap, K.In base → base.Ns mainGlobals mg → TabB base mg c0 P0 → ∃ fd : FuncData, FnOk P w K mg base CX0 k fa fd [x] sp ∧ ∀ (s : Shared) (u : Value), K.In s.heap → BindsTo s fd ⟨[u], []⟩ [(x, u)])
    (hsp : ∀ (H : Hp) (a : Addr), H P0 = some (.tbl #[]) → SqL K H a (ns.map V.int) → sp [.ref a] H (fun v H' => Dw K H' v d0) fun _ _ _ => False) :
    codeAny (model P w) callerA (.call (.ref fa) ⟨vals, []⟩) (fun r s' => ∃ u as, r = .ok (.ret u) ∧ ReadsW R cl s'.heap u d0 as ∧ OldK s₁.heap s'.heap ∧ s'.os = s₁.os ∧ AllBare s'.gens) s₁ := by
  have hpl : plWs [WData.list (ns.map WData.int)] = true := by
    show (plWs (ns.map WData.int) && true) = true
    rw [plWs_map (fun _ => rfl)] <;> rfl
  obtain ⟨A, ho, ar⟩ := area_all _ vals hwl hpl hwt
  have hO : OnlyF (argH K s₁.heap A) := argH_only ar
  have hok0 : HOk P w (argH K s₁.heap A) s₁.heap := argH_ok ar
  have hS0 := dw_all KX ar _ vals hwl hpl ho
  have hV := vals_toV ho
  have hK0 : ∀ b u, argH K s₁.heap A b = some u → K.lookup b = none := fun b u q => (argH_is ar q).1
  have nA : P0 ∉ A := fun z => by
    obtain ⟨vs, _, _, e | e⟩ := ar P0 z
    · rw [hT] at e
      have e2 := congrArg Obj.cls (Option.some.inj e)
      cases e2
    · rw [hT] at e
      have e2 := congrArg Obj.cls (Option.some.inj e)
      cases e2
  have hP0 : argH K s₁.heap A P0 = none := by
    unfold argH
    rw [if_neg nA]
  have noS : ∀ {b : Addr} {o : Obj}, s₁.heap.get? b = some o → (∀ vs n, o.data ≠ .seq vs n) → argH K s₁.heap A b = none := fun {b o} e d => by
    cases q : argH K s₁.heap A b with
    | none => rfl
    | some u =>
      obtain ⟨_, vs, _, _, ⟨e2, _⟩ | ⟨e2, _⟩⟩ := argH_is ar q
      · rw [e2] at e
        cases e
        exact (d _ _ rfl).elim
      · rw [e2] at e
        cases e
        exact (d _ _ rfl).elim
  generalize argH K s₁.heap A = H0 at hO hok0 hS0 hK0 hP0 noS
  obtain ⟨H, hHd⟩ : ∃ H : Hp, H = upd H0 P0 (.tbl #[]) := ⟨_, rfl⟩
  have hH : H P0 = some (.tbl #[]) := by rw [hHd, upd_same]
  have hne : ∀ b, b ≠ P0 → H b = H0 b := fun b z => by rw [hHd, upd_ne z]
  have hex : ∀ b o, H0 b = some o → H b = some o := fun b o e => by
    rw [hne b fun z => by rw [z, hP0] at e; cases e]
    exact e
  have hok : HOk P w H s₁.heap := fun b u q => by
    by_cases z : b = P0
    · rw [z, hH] at q
      cases q
      rw [z]
      exact hT
    · rw [hne b z] at q
      exact (hok0 b u q).stay (fun _ _ _ g => g) (fun _ g => hex _ _ g) fun _ _ g => hex _ _ g
  have only : ∀ b, H b = none ∨ b = P0 ∨ ∃ o u, H b = some (.frz o u) := fun b => by
    by_cases z : b = P0
    · exact .inr (.inl z)
    · rw [hne b z]
      rcases hO b with g | g
      · exact .inl g
      · exact .inr (.inr g)
  have noD : ∀ {b : Addr} {o : Obj}, s₁.heap.get? b = some o → (∀ vs n, o.data ≠ .seq vs n) → o.data ≠ .fields #[] → H b = none := fun {b o} e h1 h2 => by
    by_cases z : b = P0
    · rw [z, hT] at e
      cases e
      exact (h2 rfl).elim
    · rw [hne b z]
      exact noS e h1
  have noA : ∀ {b : Addr} {o : Obj} {es : Array DictEntry} {ep : Nat}, s₁.heap.get? b = some o → o.data = .dict es ep → H b = none := fun {b o es ep} e d => by
    refine noD e (fun vs n z => ?_) fun z => ?_
    · rw [d] at z
      cases z
    · rw [d] at z
      cases z
  have base_of : ∀ {b : Addr} {o : Obj}, s₁.heap.get? b = some o → H b = none → (hidT s₁.heap H).get? b = some o := fun e n => hidT_get e n
  have nsK : ∀ {b : Addr} {m : Str → Option Value}, s₁.heap.Ns b m → (hidT s₁.heap H).Ns b m := fun {b m} ⟨o, es, ep, e, d, r⟩ => ⟨o, es, ep, base_of e (noA e d), d, r⟩
  have nK : ∀ b o, K.lookup b = some o → H b = none := fun b o e => by
    have z : b ≠ P0 := fun z => by rw [z, nT] at e; cases e
    rw [hne b z]
    cases q : H0 b with
    | none => rfl
    | some u =>
      rw [hK0 b u q] at e
      cases e
  have hKb : K.In (hidT s₁.heap H) := fun b o e => base_of (KX b o e) (nK b o e)
  have hM : L2.Mod K mg (hidT s₁.heap H) := ⟨hKb, nsK hns, ⟨mb, nsK hb, hbb⟩, let ⟨mc, h1, h2⟩ := hlim; ⟨mc, nsK h1, h2⟩⟩
  have TB : TabB (hidT s₁.heap H) mg c0 P0 := by
    refine ⟨?_, ?_, fun z => ?_⟩
    · obtain ⟨o, us, file, tf, flags, tg, inF, text, tt, e1, r1, r2, r3, r4, r5, r6, r7, r8, hne⟩ := C
      refine ⟨o, us, file, tf, flags, tg, inF, text, tt, base_of e1 (noD e1 (fun vs n z => ?_) fun z => ?_), r1, r2, r3, r4, r5, r6, r7, r8, hne⟩
      · rw [r2] at z
        cases z
      · rw [r2] at z
        cases z
        simp at r3
    · obtain ⟨bm, ob, b1, b2, b3, b4, b5, b6⟩ := hbm
      have nG : bm ≠ mainGlobals := fun q => by
        obtain ⟨o, es, ep, e, hd, _⟩ := hns
        rw [q, e] at b3
        cases b3
        rw [hd] at b6
        cases b6
      have nP : bm ≠ P0 := fun q => by
        rw [q, hT] at b3
        cases b3
        cases b6
      refine ⟨bm, ob, b1, b2, nG, nP, base_of b3 (noD b3 (fun vs n z => ?_) fun z => ?_), b4, b5, b6⟩
      · rw [b6] at z
        cases z
      · rw [b6] at z
        cases z
    · obtain ⟨o, es, ep, e, hd, _⟩ := hns
      rw [z, hT] at e
      cases e
      cases hd
  have e0 : Env0 P w K mg (hidT s₁.heap H) callerA [] s₁ H := ⟨rfl, hM, fun b o e => of_hidT e, Nat.le_of_eq (hidT_size _ _), trivial, fun b hb => absurd (show b ∈ ([] : List Addr) from hb) (by simp), hok, .of_eq hg⟩
  obtain ⟨fd, hF, hbind⟩ := F _ hKb (nsK hns) TB
  obtain ⟨v1, vr, rfl, _, hnil⟩ := well_cons hwl
  obtain rfl : vr = [] := by
    cases hnil
    rfl
  have hS : ∃ a : Addr, [toV v1] = [V.ref a] ∧ SqL K H a (ns.map V.int) := by
    have q : DwAll K H0 [toV v1] [WData.list (ns.map WData.int)] := hS0
    generalize toV v1 = u at q
    cases q with
    | cons h1 h2 =>
      cases h1 with
      | lst hs ha =>
        have e := ints_dw ns _ ha
        subst e
        exact ⟨_, rfl, ex_l (fun b o g => hex b o g) hs⟩
  obtain ⟨a, ea, hsl⟩ := hS
  have hV2 : Vals [V.ref a] [v1] := ea ▸ hV
  refine codeAny_mono (hF.run callerA [] s₁ H ⟨[v1], []⟩ [v1] [.ref a] _ _ hr e0 (hbind s₁ v1 KX) hV2 (hsp H a hH hsl)) fun r s' y => ?_
  cases r with
  | error e => exact False.elim y
  | ok fl =>
    cases fl with
    | next => exact False.elim y
    | brk => exact False.elim y
    | cont => exact False.elim y
    | ret u =>
      obtain ⟨v, H', os, bare, un, hok', r', q⟩ := y
      have kept : ∀ b o, b ≠ P0 → s₁.heap.get? b = some o → s'.heap.get? b = some o := fun b o nb e => by
        cases q2 : H b with
        | none => exact un.keep b o e q2 (by intro z; exact absurd (show b ∈ ([] : List Addr) from z) (by simp)) (by simp)
        | some u2 =>
          rcases only b with z | z | ⟨ob, u3, z⟩
          · rw [q2] at z
            cases z
          · exact absurd z nb
          · have z2 := un.frzs b ob _ z
            obtain ⟨e1, _⟩ := hok b _ z
            obtain ⟨e2, _⟩ := hok' b _ z2
            rw [e] at e1
            cases e1
            exact e2
      have KX' : K.In s'.heap := fun b o e => kept b o (fun z => by rw [z, nT] at e; cases e) (KX b o e)
      obtain ⟨as, hrd⟩ := Dw.reads (R := R) (cl := cl) hok' KX' d0 v u q r'
      obtain ⟨more, zt⟩ := un.tbls P0 #[] hH
      obtain ⟨mo, zt2⟩ : ∃ mo : Array Value, s'.heap.get? P0 = some { cls := .none, data := .fields mo } := ⟨_, hok' P0 _ zt⟩
      refine ⟨u, as, rfl, hrd, ⟨fun b o e => ?_, fun b o e => ?_⟩, os, bare⟩
      · by_cases z : b = P0
        · rw [z] at e ⊢
          rw [hT] at e
          cases e
          exact .inr (.inl ⟨(C.tab hT).isCodeTable, rfl, #[], mo, rfl, by rw [Array.empty_append]; exact zt2⟩)
        · exact .inl (kept b o z e)
      · by_cases z : b = P0
        · rw [z]
          exact ⟨_, zt2⟩
        · exact ⟨o, kept b o z e⟩
theorem walk_ans {q : Program} {loose : List Str} {XP : (Str → Option Value) → Heap → Prop} {d : DefRec} (hwell : PySem.Challenge.rw_likings_s01_answers.wellSaid = true) (hname : d.name = ("answers" : Str)) :
    PySem.W.WalkOS q loose XP (He.hookX 5 fas fns [] [recD] (fun _ => true)).says PySem.Challenge.rw_likings_s01_answers d [] (fun f vs => PySem.call f vs) := by
  intro w s₀ s₁ mg mb G Y fa o pm cd doc dV kV ho hd hcd hD hmg hg args vals as hpre hlay hrd hwl hlo
  obtain ⟨a, e1, e2⟩ := PySem.W.os_pre_some hpre
  obtain ⟨e3, hwi⟩ := Codec.encAll_of_decAll PySem.Challenge.rw_likings_s01_answers.args args a e1
  subst e3
  obtain ⟨K, KX, c⟩ := Y
  have T : Txt K mg := ⟨c.t.d, s₁.heap, KX, G.T.g⟩
  rw [hname] at hmg
  have efa : fa = He.ga K "answers" := by
    have z := hmg.symm.trans T.g_answers
    cases z
    rfl
  subst efa
  have mem : recD ∈ [recD] := List.mem_singleton.mpr rfl
  have q : ((Codec.inLen 0 1200 a.1 && a.1.all (Codec.inInt 0 4294967295)) && true) = true := hwi
  rw [Bool.and_eq_true, Bool.and_eq_true] at q
  have hlen : a.1.length ≤ 1200 := (Codec.inNat_iff.mp q.1.1).2
  have hask : PyKp429.answers_asked a.1 = true := e2
  refine PySem.W.enter_call (codeAny_mono (spec_callT (R := []) (cl := classAt s₀.heap) (k := 13) (x := "calls") (sp := sp_answers K) (ns := a.1) (c0 := lamC K) (P0 := lamP K) (d0 := .list ((PyKp429.answers a.1).map WData.int)) KX G.T.g G.T.b G.T.builtins G.T.nolimit hg
    (c.empty recD mem) (c.out recD mem) (PySem.W.codeHd_of_K KX (c.hd recD mem)) G.T.bmain hwl (layable_weight hlay) ⟨rfl, by decide, by decide⟩ (fun base KB NB TB => ?_) fun H l hH hs => ?_) fun r' s' hq => ?_)
  · obtain ⟨fd, F, B, _⟩ := ok_answers (P := PySem.Challenge.rw_likings_s01_answers.prog) (w := w) (base := base) T TB
    exact ⟨fd, F, fun s u hk => B s [u] hk rfl⟩
  · refine ⟨l, a.1, rfl, hs, hlen, fun p hp => ?_, hask, fun q H' _ hq => .lst (SqL.of hq) (dw_ints _)⟩
    rw [List.mem_singleton.mp hp]
    exact TabS.nil hH
  · obtain ⟨u, as', rfl, h1, h2, h3, h4⟩ := hq
    exact ⟨.inl ⟨u, _, as', rfl, fun _ => rfl, h1, (OpenSpec.post_iff hwell hwi _ _).mpr rfl, fun z => Bool.noConfusion (show false = true from z)⟩, h2, h3, h4⟩
end Gs
/-! H3: the row -/
open PySem PySem.W PyProof.Rows
theorem PySem.Challenge.cw_likings_s01_answers_holds : PySem.Challenge.rw_likings_s01_answers.Holds := by
  w_on
  refine HandSHeadRun.head_spec (r := PySem.Challenge.rw_likings_s01_answers) (q := PySem.W.view PySem.Challenge.rw_likings_s01_answers.prog [40]) (H := Gs.hk) (ob := Gs.ob) (M := 6000) (loose := Gs.loose) (d := HandSHeadRun.topDef PySem.Challenge.rw_likings_s01_answers.prog 40) (kwd := []) Gs.ob_eq
    (by kernel_rfl) (fun s => by kernel_rfl) Gs.run (by kernel_rfl) (by kernel_rfl) (by kernel_rfl) PySem.W.os_shapes (by decide +kernel) (by decide +kernel) ⟨rfl, rfl, rfl, rfl, rfl, by decide +kernel⟩ ?hw ?hc
  case hw => exact ⟨[.list [.int 4, .int 0, .int 0]], by decide +kernel, by decide +kernel⟩
  case hc => exact Gs.walk_ans (by decide +kernel) (by kernel_rfl)
