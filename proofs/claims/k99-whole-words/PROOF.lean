import PyProof.Rows.All
import Wide.All
import OpenK.AllK
import Wide.FinOn
import KE.KStateDown
import Lean
import HandS.Base
import HandS.Call
import HandS.Ends
import HandS.More
import HandS.Words
import HandS.WordsExc
import HandS.Defaults
import HandS.Head0
import HandS.Head1
import HandS.Head2
import HandS.HeadEnd
import HandS.HeadHook1
import HandS.HeadHook2
import HandS.HeadHook3
import HandS.Star
import HandS.Property
import HandS.ExcInit
import HandS.TryOnly
import HandS.ForMost
import HandS.Exc
import HandS.Walk
import HandS.Zip
import KE.GoesMore
import KE.GoesEnum
import HandS.TupAny
import HandS.TupMul
import HandS.IsInst
import HandS.Style
import HandS.Deep
import HandS.Text
import HandS.Wide
import HandS.Codes
import KE.SortData
import KE.DataMinMax
import KE.DataCmp
import HandS.Dict
import HandS.GenList
import KE.KDictKeyed
import KE.KeyNested
import HandS.DictComp
import HandS.TupLen
import KE.KDictCopyH
import KE.KDictSum
import PySem.Challenge.RW_wirebeats_k99_whole_words_and_starts
set_option Elab.async false
set_option linter.all false
set_option maxRecDepth 100000
/-! WbHead -/
set_option maxHeartbeats 0
namespace Wb
open PySem PySem.Spec PyProof.Rows L2
def top (i : Nat) : Stmt := PySem.Challenge.pw_wirebeats_k99_whole_words_and_starts.main.body.getD i (.Pass ⟨0, 0, 0, 0⟩)
/-! ### the head's facts over a narrow part of the heap -/
def hVals (g : Addr → Option Obj) (a : Addr) : List Addr := match g a with
  | some ⟨_, _, .dict es _, _⟩ => es.toList.flatMap fun e => He.refV e.val
  | _ => []
def hCode (g : Addr → Option Obj) (a : Addr) : List Addr := match g a with
  | some ⟨_, _, .func fd, _⟩ => He.refV fd.code
  | _ => []
def hNs (g : Addr → Option Obj) (a : Addr) : List Addr := match g a with
  | some ⟨_, _, .cls cd, _⟩ => [cd.ns]
  | _ => []
def hFld (g : Addr → Option Obj) (a : Addr) : List Addr := match g a with
  | some ⟨.type c, _, .fields vs, _⟩ => if c = "property" then vs.toList.flatMap He.refV else []
  | _ => []
def frcL {α : Type} : List Addr → List Addr → (List Addr → α) → α
  | [], acc, k => k acc
  | a :: r, acc, k => HandSHeadRun.frNat a fun a => frcL r (a :: acc) k
theorem frcL_eq {α : Type} (k : List Addr → α) : ∀ l acc, frcL l acc k = k (l.reverse ++ acc)
  | [], acc => rfl
  | a :: r, acc => by
    unfold frcL
    rw [HandSHeadRun.frNat_eq, frcL_eq k r (a :: acc), List.reverse_cons, List.append_assoc]
    rfl
def asW (g : Addr → Option Obj) : List Addr :=
  let L1 := hVals g mainGlobals
  let M1 := (L1.flatMap (hNs g)).flatMap (hVals g)
  mainGlobals :: (L1 ++ (L1.flatMap (hNs g) ++ (M1 ++ (M1.flatMap (hFld g) ++ (L1.flatMap (hCode g) ++ (M1.flatMap (hCode g) ++ (M1.flatMap (hFld g)).flatMap (hCode g)))))))
/-- the part of the heap that is looked at -/
def frW (g : Addr → Option Obj) : PySem.W.Frag := He.frG g (asW g).reverse
def onW {α : Type} (f : PySem.W.Frag → α) (g : Addr → Option Obj) : α := frcL (asW g) [] fun as => f (He.frG g as)
theorem onW_eq {α : Type} (f : PySem.W.Frag → α) (g : Addr → Option Obj) : onW f g = f (frW g) := by
  unfold onW frW
  rw [frcL_eq, List.append_nil]
def d_TooLarge_init : He.DefD := ⟨("TooLarge", some "__init__"), "__init__", "TooLarge.__init__", defArgs (inClass (top 24) 0), defBody (inClass (top 24) 0), defScope (inClass (top 24) 0), [], []⟩
def d_is_integer : He.DefD := ⟨("is_integer", none), "is_integer", "is_integer", defArgs (top 27), defBody (top 27), defScope (top 27), [], []⟩
def d_are_integers : He.DefD := ⟨("are_integers", none), "are_integers", "are_integers", defArgs (top 28), defBody (top 28), defScope (top 28), [], []⟩
def d_dot : He.DefD := ⟨("dot", none), "dot", "dot", defArgs (top 29), defBody (top 29), defScope (top 29), [], []⟩
def d_difference : He.DefD := ⟨("difference", none), "difference", "difference", defArgs (top 30), defBody (top 30), defScope (top 30), [], []⟩
def d_box_error : He.DefD := ⟨("box_error", none), "box_error", "box_error", defArgs (top 33), defBody (top 33), defScope (top 33), [], []⟩
def d_count_points : He.DefD := ⟨("count_points", none), "count_points", "count_points", defArgs (top 34), defBody (top 34), defScope (top 34), [], []⟩
def d_require_small : He.DefD := ⟨("require_small", none), "require_small", "require_small", defArgs (top 35), defBody (top 35), defScope (top 35), [], []⟩
def d_is_inside : He.DefD := ⟨("is_inside", none), "is_inside", "is_inside", defArgs (top 36), defBody (top 36), defScope (top 36), [], []⟩
def d_points_of : He.DefD := ⟨("points_of", none), "points_of", "points_of", defArgs (top 37), defBody (top 37), defScope (top 37), [], []⟩
def d_index_in : He.DefD := ⟨("index_in", none), "index_in", "index_in", defArgs (top 38), defBody (top 38), defScope (top 38), [], []⟩
def d_reads_in : He.DefD := ⟨("reads_in", none), "reads_in", "reads_in", defArgs (top 41), defBody (top 41), defScope (top 41), [], []⟩
def d_is_kind : He.DefD := ⟨("is_kind", none), "is_kind", "is_kind", defArgs (top 42), defBody (top 42), defScope (top 42), [], []⟩
def d_read_word : He.DefD := ⟨("read_word", none), "read_word", "read_word", defArgs (top 43), defBody (top 43), defScope (top 43), [], []⟩
def d_rule_fault : He.DefD := ⟨("rule_fault", none), "rule_fault", "rule_fault", defArgs (top 44), defBody (top 44), defScope (top 44), [], []⟩
def d_flow_error : He.DefD := ⟨("flow_error", none), "flow_error", "flow_error", defArgs (top 45), defBody (top 45), defScope (top 45), [], []⟩
def d_reads_of : He.DefD := ⟨("reads_of", none), "reads_of", "reads_of", defArgs (top 46), defBody (top 46), defScope (top 46), [], []⟩
def d_is_weights : He.DefD := ⟨("is_weights", none), "is_weights", "is_weights", defArgs (top 50), defBody (top 50), defScope (top 50), [], []⟩
def d_require_weights : He.DefD := ⟨("require_weights", none), "require_weights", "require_weights", defArgs (top 51), defBody (top 51), defScope (top 51), [], []⟩
def d_first_odd : He.DefD := ⟨("first_odd", none), "first_odd", "first_odd", defArgs (top 52), defBody (top 52), defScope (top 52), [], []⟩
def d_timing_error : He.DefD := ⟨("timing_error", none), "timing_error", "timing_error", defArgs (top 53), defBody (top 53), defScope (top 53), [], []⟩
def d_delay_with : He.DefD := ⟨("delay_with", none), "delay_with", "delay_with", defArgs (top 54), defBody (top 54), defScope (top 54), [], []⟩
def d_beats_error : He.DefD := ⟨("beats_error", none), "beats_error", "beats_error", defArgs (top 55), defBody (top 55), defScope (top 55), [], []⟩
def d_number_in : He.DefD := ⟨("number_in", none), "number_in", "number_in", defArgs (top 61), defBody (top 61), defScope (top 61), [], []⟩
def d_numbers_in : He.DefD := ⟨("numbers_in", none), "numbers_in", "numbers_in", defArgs (top 62), defBody (top 62), defScope (top 62), [], []⟩
def d_vector_text : He.DefD := ⟨("vector_text", none), "vector_text", "vector_text", defArgs (top 63), defBody (top 63), defScope (top 63), [], []⟩
def d_rule_text : He.DefD := ⟨("rule_text", none), "rule_text", "rule_text", defArgs (top 64), defBody (top 64), defScope (top 64), [], []⟩
def d_flow_text : He.DefD := ⟨("flow_text", none), "flow_text", "flow_text", defArgs (top 65), defBody (top 65), defScope (top 65), [], []⟩
def d_read_in : He.DefD := ⟨("read_in", none), "read_in", "read_in", defArgs (top 66), defBody (top 66), defScope (top 66), [], []⟩
def d_rule_in : He.DefD := ⟨("rule_in", none), "rule_in", "rule_in", defArgs (top 67), defBody (top 67), defScope (top 67), [], []⟩
def d_parse_flow : He.DefD := ⟨("parse_flow", none), "parse_flow", "parse_flow", defArgs (top 68), defBody (top 68), defScope (top 68), [], []⟩
def d_is_near : He.DefD := ⟨("is_near", none), "is_near", "is_near", defArgs (top 71), defBody (top 71), defScope (top 71), [], []⟩
def d_entry_word : He.DefD := ⟨("entry_word", none), "entry_word", "entry_word", defArgs (top 72), defBody (top 72), defScope (top 72), [], []⟩
def d_outside_error : He.DefD := ⟨("outside_error", none), "outside_error", "outside_error", defArgs (top 73), defBody (top 73), defScope (top 73), [], []⟩
def d_require_outside : He.DefD := ⟨("require_outside", none), "require_outside", "require_outside", defArgs (top 74), defBody (top 74), defScope (top 74), [], []⟩
def d_one_made : He.DefD := ⟨("one_made", none), "one_made", "one_made", defArgs (top 75), defBody (top 75), defScope (top 75), [], []⟩
def d_two_made : He.DefD := ⟨("two_made", none), "two_made", "two_made", defArgs (top 76), defBody (top 76), defScope (top 76), [], []⟩
def d_word_made : He.DefD := ⟨("word_made", none), "word_made", "word_made", defArgs (top 77), defBody (top 77), defScope (top 77), [], []⟩
def d_in_order : He.DefD := ⟨("in_order", none), "in_order", "in_order", defArgs (top 78), defBody (top 78), defScope (top 78), [], []⟩
def d_computed : He.DefD := ⟨("computed", none), "computed", "computed", defArgs (top 79), defBody (top 79), defScope (top 79), [], []⟩
def d_words_of : He.DefD := ⟨("words_of", none), "words_of", "words_of", defArgs (top 80), defBody (top 80), defScope (top 80), [], []⟩
def d_Flow_init : He.DefD := ⟨("Flow", some "__init__"), "__init__", "Flow.__init__", defArgs (inClass (top 81) 0), defBody (inClass (top 81) 0), defScope (inClass (top 81) 0), [], []⟩
def d_Flow_call : He.DefD := ⟨("Flow", some "__call__"), "__call__", "Flow.__call__", defArgs (inClass (top 81) 13), defBody (inClass (top 81) 13), defScope (inClass (top 81) 13), [], []⟩
def d_source_of : He.DefD := ⟨("source_of", none), "source_of", "source_of", defArgs (top 83), defBody (top 83), defScope (top 83), [], []⟩
def d_gain_of : He.DefD := ⟨("gain_of", none), "gain_of", "gain_of", defArgs (top 84), defBody (top 84), defScope (top 84), [], []⟩
def d_plain_from : He.DefD := ⟨("plain_from", none), "plain_from", "plain_from", defArgs (top 85), defBody (top 85), defScope (top 85), [], []⟩
def d_arcs_of : He.DefD := ⟨("arcs_of", none), "arcs_of", "arcs_of", defArgs (top 87), defBody (top 87), defScope (top 87), [], []⟩
def d_Numbers_init : He.DefD := ⟨("Numbers", some "__init__"), "__init__", "Numbers.__init__", defArgs (inClass (top 88) 0), defBody (inClass (top 88) 0), defScope (inClass (top 88) 0), [], []⟩
def d_Numbers_grow : He.DefD := ⟨("Numbers", some "grow"), "grow", "Numbers.grow", defArgs (inClass (top 88) 1), defBody (inClass (top 88) 1), defScope (inClass (top 88) 1), [], []⟩
def d_Numbers_settle : He.DefD := ⟨("Numbers", some "settle"), "settle", "Numbers.settle", defArgs (inClass (top 88) 2), defBody (inClass (top 88) 2), defScope (inClass (top 88) 2), [], []⟩
def d_Numbers_ring_behind : He.DefD := ⟨("Numbers", some "ring_behind"), "ring_behind", "Numbers.ring_behind", defArgs (inClass (top 88) 4), defBody (inClass (top 88) 4), defScope (inClass (top 88) 4), [], []⟩
def d_starts_or_ring : He.DefD := ⟨("starts_or_ring", none), "starts_or_ring", "starts_or_ring", defArgs (top 90), defBody (top 90), defScope (top 90), [], []⟩
def d_find_starts : He.DefD := ⟨("find_starts", none), "find_starts", "find_starts", defArgs (top 91), defBody (top 91), defScope (top 91), [], []⟩
def d_slowed : He.DefD := ⟨("slowed", none), "slowed", "slowed", defArgs (top 93), defBody (top 93), defScope (top 93), [], []⟩
def d_factor_for : He.DefD := ⟨("factor_for", none), "factor_for", "factor_for", defArgs (top 94), defBody (top 94), defScope (top 94), [], []⟩
def d_require_factor : He.DefD := ⟨("require_factor", none), "require_factor", "require_factor", defArgs (top 95), defBody (top 95), defScope (top 95), [], []⟩
def d_find_factor : He.DefD := ⟨("find_factor", none), "find_factor", "find_factor", defArgs (top 96), defBody (top 96), defScope (top 96), [], []⟩
def d_require_flow : He.DefD := ⟨("require_flow", none), "require_flow", "require_flow", defArgs (top 98), defBody (top 98), defScope (top 98), [], []⟩
def d_Beats_init : He.DefD := ⟨("Beats", some "__init__"), "__init__", "Beats.__init__", defArgs (inClass (top 100) 0), defBody (inClass (top 100) 0), defScope (inClass (top 100) 0), [], []⟩
def d__law_opened : He.DefD := ⟨("_law_opened", none), "_law_opened", "_law_opened", defArgs (top 102), defBody (top 102), defScope (top 102), [], []⟩
def d__law_draw : He.DefD := ⟨("_law_draw", none), "_law_draw", "_law_draw", defArgs (top 103), defBody (top 103), defScope (top 103), [], []⟩
def d__law_one : He.DefD := ⟨("_law_one", none), "_law_one", "_law_one", defArgs (top 104), defBody (top 104), defScope (top 104), [], []⟩
def d__law_kinds : He.DefD := ⟨("_law_kinds", none), "_law_kinds", "_law_kinds", defArgs (top 105), defBody (top 105), defScope (top 105), [], []⟩
def d__law_vector : He.DefD := ⟨("_law_vector", none), "_law_vector", "_law_vector", defArgs (top 106), defBody (top 106), defScope (top 106), [], []⟩
def d__law_weights : He.DefD := ⟨("_law_weights", none), "_law_weights", "_law_weights", defArgs (top 107), defBody (top 107), defScope (top 107), [], []⟩
def d__law_read : He.DefD := ⟨("_law_read", none), "_law_read", "_law_read", defArgs (top 108), defBody (top 108), defScope (top 108), [], []⟩
def d__law_served : He.DefD := ⟨("_law_served", none), "_law_served", "_law_served", defArgs (top 109), defBody (top 109), defScope (top 109), [], []⟩
def d__law_reads : He.DefD := ⟨("_law_reads", none), "_law_reads", "_law_reads", defArgs (top 110), defBody (top 110), defScope (top 110), [], []⟩
def d__law_box : He.DefD := ⟨("_law_box", none), "_law_box", "_law_box", defArgs (top 111), defBody (top 111), defScope (top 111), [], []⟩
def d__law_points : He.DefD := ⟨("_law_points", none), "_law_points", "_law_points", defArgs (top 112), defBody (top 112), defScope (top 112), [], []⟩
def d__law_inside : He.DefD := ⟨("_law_inside", none), "_law_inside", "_law_inside", defArgs (top 113), defBody (top 113), defScope (top 113), [], []⟩
def d__law_less : He.DefD := ⟨("_law_less", none), "_law_less", "_law_less", defArgs (top 114), defBody (top 114), defScope (top 114), [], []⟩
def d__law_outside : He.DefD := ⟨("_law_outside", none), "_law_outside", "_law_outside", defArgs (top 115), defBody (top 115), defScope (top 115), [], []⟩
def d__law_slowed : He.DefD := ⟨("_law_slowed", none), "_law_slowed", "_law_slowed", defArgs (top 116), defBody (top 116), defScope (top 116), [], []⟩
def d_law : He.DefD := ⟨("law", none), "law", "law", defArgs (top 117), defBody (top 117), defScope (top 117), [], []⟩
def fn : List He.DefD := ([d_TooLarge_init, d_is_integer, d_are_integers, d_dot, d_difference, d_box_error, d_count_points, d_require_small, d_is_inside, d_points_of, d_index_in, d_reads_in, d_is_kind, d_read_word, d_rule_fault, d_flow_error, d_reads_of, d_is_weights, d_require_weights, d_first_odd, d_timing_error, d_delay_with, d_beats_error, d_number_in, d_numbers_in, d_vector_text, d_rule_text, d_flow_text, d_read_in, d_rule_in] : List He.DefD) ++ ([d_parse_flow, d_is_near, d_entry_word, d_outside_error, d_require_outside, d_one_made, d_two_made, d_word_made, d_in_order, d_computed, d_words_of, d_Flow_init, d_Flow_call, d_source_of, d_gain_of, d_plain_from, d_arcs_of, d_Numbers_init, d_Numbers_grow, d_Numbers_settle, d_Numbers_ring_behind, d_starts_or_ring, d_find_starts, d_slowed, d_factor_for, d_require_factor, d_find_factor, d_require_flow, d_Beats_init, d__law_opened] : List He.DefD) ++ ([d__law_draw, d__law_one, d__law_kinds, d__law_vector, d__law_weights, d__law_read, d__law_served, d__law_reads, d__law_box, d__law_points, d__law_inside, d__law_less, d__law_outside, d__law_slowed, d_law] : List He.DefD)
def fa : List He.Fa := ([.glo "is_integer", .glo "are_integers", .glo "dot", .glo "difference", .glo "box_error", .glo "count_points", .glo "require_small", .glo "is_inside", .glo "points_of", .glo "index_in", .glo "reads_in", .glo "is_kind", .glo "read_word", .glo "rule_fault", .glo "flow_error", .glo "reads_of", .glo "is_weights", .glo "require_weights", .glo "first_odd", .glo "timing_error", .glo "delay_with", .glo "beats_error", .glo "number_in", .glo "numbers_in", .glo "vector_text", .glo "rule_text", .glo "flow_text", .glo "read_in", .glo "rule_in", .glo "parse_flow"] : List He.Fa) ++ ([.glo "is_near", .glo "entry_word", .glo "outside_error", .glo "require_outside", .glo "one_made", .glo "two_made", .glo "word_made", .glo "in_order", .glo "computed", .glo "words_of", .glo "source_of", .glo "gain_of", .glo "plain_from", .glo "arcs_of", .glo "starts_or_ring", .glo "find_starts", .glo "slowed", .glo "factor_for", .glo "require_factor", .glo "find_factor", .glo "require_flow", .glo "_law_opened", .glo "_law_draw", .glo "_law_one", .glo "_law_kinds", .glo "_law_vector", .glo "_law_weights", .glo "_law_read", .glo "_law_served", .glo "_law_reads"] : List He.Fa) ++ ([.glo "_law_box", .glo "_law_points", .glo "_law_inside", .glo "_law_less", .glo "_law_outside", .glo "_law_slowed", .glo "law", .free "abs", .free "all", .free "bool", .free "enumerate", .free "int", .free "isinstance", .free "len", .free "list", .free "max", .free "min", .free "range", .free "set", .free "sorted", .free "str", .free "sum", .free "tuple", .free "zip", .int "MODULUS" 65521, .int "MAX_DIST" 4, .int "MAX_PLANES" 6, .int "MAX_SIZE" 1000000000, .int "MAX_POINTS" 240, .int "MAX_ENTRIES" 1000] : List He.Fa) ++ ([.int "MAX_WEIGHT" 60, .int "MAX_START" 10000, .int "SHORT" 12, .str "DIGITS" "0123456789", .glo "Flow", .cls "Flow", .mkr "Flow", .glo "Numbers", .cls "Numbers", .mkr "Numbers", .glo "Beats", .cls "Beats", .mkr "Beats", .noat "Flow" "held", .noat "Numbers" "heights", .noat "Numbers" "arcs", .noat "Numbers" "by", .noat "Numbers" "grown", .noat "Beats" "own_flow", .noat "Beats" "own_value", .meth "Numbers" "grow", .meth "Numbers" "settle", .meth "Numbers" "ring_behind", .glo "TooLarge", .glo "KINDS", .meth "Flow" "__call__"] : List He.Fa)
def names : List PySem.Str := (["_wall", "MODULUS", "MAX_DIST", "MAX_PLANES", "MAX_SIZE", "MAX_POINTS", "MAX_ENTRIES", "MAX_WEIGHT", "MAX_START", "WireError", "BadBeats", "BadBox", "BadFlow", "BadOutside", "BadText", "BadWeights", "NoNumber", "NoPlane", "NoPoint", "NoStarts", "OtherDims", "OtherFlow", "OtherWeights", "TooLarge", "TooMany", "is_integer", "are_integers", "dot", "difference", "is_same"] : List PySem.Str) ++ (["box_error", "count_points", "require_small", "is_inside", "points_of", "index_in", "KINDS", "reads_in", "is_kind", "read_word", "rule_fault", "flow_error", "reads_of", "require_plane", "joined", "is_weights", "require_weights", "first_odd", "timing_error", "delay_with", "beats_error", "is_vector", "beat_of", "DIGITS", "SHORT", "number_in", "numbers_in", "vector_text", "rule_text", "flow_text"] : List PySem.Str) ++ (["read_in", "rule_in", "parse_flow", "beats_text", "is_near", "entry_word", "outside_error", "require_outside", "one_made", "two_made", "word_made", "in_order", "computed", "words_of", "Flow", "source_of", "gain_of", "plain_from", "arcs_of", "Numbers", "starts_or_ring", "find_starts", "slowed", "factor_for", "require_factor", "find_factor", "require_flow", "require_number", "Beats", "_law_opened"] : List PySem.Str) ++ (["_law_draw", "_law_one", "_law_kinds", "_law_vector", "_law_weights", "_law_read", "_law_served", "_law_reads", "_law_box", "_law_points", "_law_inside", "_law_less", "_law_outside", "_law_slowed"] : List PySem.Str)
/-! ### further facts -/
def oexB (K : PySem.W.Frag) (C : Addr) : Bool := match K.lookup C with
  | some ⟨.type "type", _, .cls cd, sl⟩ => (match cd.mro, sl.toList with
    | .ref C' :: bm, [_, _, _, _, some (.builtin n), _] => C' == C && (n == "ValueError.__new__" && (!cd.hasDel && (cd.hasDict && PySem.HandSPX.refsVE bm)))
    | _, _ => false)
  | _ => false
theorem oexB_ok {K : PySem.W.Frag} {C : Addr} (h : oexB K C = true) : ∃ nm q N bs bm sn sub ab col dd k0 k1 k2 k3 k5, K.lookup C = some (excClassObj nm q C N bs bm true sn sub ab col dd k0 k1 k2 k3 k5 "ValueError.__new__") ∧ PySem.HandSPX.refsVE bm = true := by
  unfold oexB at h
  split at h
  · rename_i dd cd sl ho
    split at h
    · rename_i C' bm k0 k1 k2 k3 n k5 hm hs
      simp only [Bool.and_eq_true, beq_iff_eq, Bool.not_eq_true'] at h
      obtain ⟨rfl, rfl, hdel, hdct, ht⟩ := h
      obtain ⟨nm, bs, mro, ns, qn, hd, sn, sub, ab, col, del⟩ := cd
      dsimp only at hm hdel hdct
      subst hm hdel hdct
      have hsl : sl = #[k0, k1, k2, k3, some (.builtin "ValueError.__new__"), k5] := by
        obtain ⟨l⟩ := sl
        simp only at hs
        rw [hs]
      subst hsl
      exact ⟨nm, qn, ns, bs, bm, sn, sub, ab, col, dd, k0, k1, k2, k3, k5, ho, ht⟩
    · cases h
  · cases h
/-- the class at C is an own error over ValueError, its __init__ at fI, no attribute f of the class -/
def oexAll (K : PySem.W.Frag) (C fI : Addr) (f : Str) : Bool :=
  oexB K C && (He.eqO (PySem.W.findIn K (.ref C) "__setattr__") (some (some (.builtin "object.__setattr__"))) && (decide (PySem.W.subIn K (.ref C) (.type "BaseException") = some true) &&
    (decide (PySem.W.typeIn K (.ref C) = some (.type "type")) && (PySem.W.keepIn K (.ref C) && (He.eqO (PySem.W.findIn K (.ref C) "__init__") (some (some (.ref fI))) && (decide (PySem.W.typeIn K (.ref fI) = some (.type "function")) &&
    (He.eqO (PySem.W.findIn K (.ref C) f) (some none) && decide (PySem.W.exmOne K (.ref C) (.ref C) = some true))))))))
/-- a property's object, its getter -/
def prA (C f : Str) (K : PySem.W.Frag) : Addr := match PySem.W.findIn K (.ref (He.ga K C)) f with
  | some (some (.ref p)) => p
  | _ => 0
def prG (C f : Str) (K : PySem.W.Frag) : Addr := match PySem.W.recIn K (prA C f K) "property" with
  | some (.ref g :: _) => g
  | _ => 0
def propB (C f : Str) (K : PySem.W.Frag) : Bool := He.eqO (PySem.W.findIn K (.ref (He.ga K C)) f) (some (some (.ref (prA C f K)))) && (He.eqO (PySem.W.specialIn K (.ref (prA C f K)) "__get__") (some (some (.builtin "property.__get__"))) &&
  (decide (PySem.W.takesIn K (.ref (prA C f K)) = some true) && (match PySem.W.recIn K (prA C f K) "property" with
    | some (.ref g :: _) => decide (g = prG C f K)
    | _ => false)))
theorem propB_ok {C f : Str} {K : PySem.W.Frag} (h : propB C f K = true) : PropOf K (He.ga K C) f (prA C f K) (prG C f K) := by
  obtain ⟨h1, h⟩ := He.ba h
  obtain ⟨h2, h⟩ := He.ba h
  obtain ⟨h3, h4⟩ := He.ba h
  refine ⟨He.eqO_ok h1, He.eqO_ok h2, of_decide_eq_true h3, ?_⟩
  split at h4
  · rename_i g rest e
    rw [← of_decide_eq_true h4]
    exact ⟨rest, e⟩
  · cases h4
/-- a def found by an address of one's own -/
structure DefA where
  at_ : PySem.W.Frag → Addr
  name : Str
  qual : Str
  params : Arguments
  body : List Stmt
  scope : Scope
def fnA (K : PySem.W.Frag) (a : Addr) : He.FnW := match K.lookup a with
  | some ⟨_, _, .func fd, _⟩ => some (fd.name, fd.qualname, fd.params, fd.body, fd.scope, fd.globals, fd.closure, fd.builtins)
  | _ => none
def DefA.val (d : DefA) : He.FnW := some (d.name, d.qual, d.params, .stmts d.body, d.scope, mainGlobals, [], builtinsNs)
def DefA.ok (K : PySem.W.Frag) (d : DefA) : Bool := PySem.W.keepIn K (.ref (d.at_ K)) && (match K.lookup (d.at_ K) with
  | some ⟨_, _, .func fd, _⟩ => PySem.W.codeIn K fd.code d.qual && He.dflB K fd.defaults []
  | _ => false)
theorem DefA.funD {K : PySem.W.Frag} {d : DefA} (e : fnA K (d.at_ K) = d.val) (c : d.ok K = true) : ∃ fd, FunD K d.name d.qual d.params d.body d.scope [] [] (d.at_ K) fd := by
  obtain ⟨kp, c2⟩ := He.ba c
  unfold fnA at e
  cases q : K.lookup (d.at_ K) with
  | none =>
    rw [q] at c2
    cases c2
  | some o =>
    obtain ⟨oc, od, dt, osl⟩ := o
    rw [q] at c2 e
    cases dt with
    | func fd =>
      obtain ⟨n1, n2, n3, n4, n5, n6, n7, n8, n9, n10, n11, n12, n13, n14, n15⟩ := fd
      have e2 : (some (n1, n2, n3, n4, n5, n6, n7, n15) : He.FnW) = some (d.name, d.qual, d.params, .stmts d.body, d.scope, mainGlobals, [], builtinsNs) := e
      simp only [Option.some.injEq, Prod.mk.injEq] at e2
      obtain ⟨h1, h2, h3, h4, h5, h6, h7, h8⟩ := e2
      subst h1 h2 h3 h4 h5 h6 h7 h8
      have c3 : (PySem.W.codeIn K n13 d.qual && He.dflB K n8 []) = true := c2
      obtain ⟨k1, k3⟩ := He.ba c3
      exact ⟨_, ⟨oc, od, n8, n9, n10, n11, n12, n13, n14, osl, rfl, q, k1, He.dflB_ok k3, .inl rfl⟩, kp⟩
    | _ => cases c2
def g_weights : DefA := ⟨prG "Beats" "weights", "weights", "Beats.weights", defArgs (inClass (top 100) 4), defBody (inClass (top 100) 4), defScope (inClass (top 100) 4)⟩
def g_starts : DefA := ⟨prG "Beats" "starts", "starts", "Beats.starts", defArgs (inClass (top 100) 5), defBody (inClass (top 100) 5), defScope (inClass (top 100) 5)⟩
def ex (K : PySem.W.Frag) : Bool := oexAll K (He.ga K "TooLarge") (He.ma K (He.ga K "TooLarge") "__init__") "limit" && (propB "Beats" "weights" K && (propB "Beats" "starts" K && (g_weights.ok K && (g_starts.ok K && PySem.W.fnIn K (He.ma K (He.ga K "Flow") "__call__")))))
def ga2 (K : PySem.W.Frag) : List He.FnW := [fnA K (g_weights.at_ K), fnA K (g_starts.at_ K)]
def ts : List He.Tab := [(fun K => He.ga K "KINDS", ["copy", "neg", "add", "sub", "mul", "least", "most", "madd"])]
def kvB (K : PySem.W.Frag) : Bool := He.valsB K (He.ga K "KINDS") [("copy", .int 1), ("neg", .int 1), ("add", .int 2), ("sub", .int 2), ("mul", .int 2), ("least", .int 2), ("most", .int 2), ("madd", .int 3)]
/-! ### the Hook -/
def obs1 (K : PySem.W.Frag) : Bool × List (Option (List (Option (Str × Int)))) := (((fa.all fun f => f.ok K) && (ex K && kvB K)), ts.map fun t => He.dicW K (t.1 K))
def val1 (w : World) : Bool × List (Option (List (Option (Str × Int)))) := (true, ts.map fun t => some (He.keysIn w.params t.2))
def obs2 (K : PySem.W.Frag) : Bool × List He.FnW × List He.FnW := (fn.all fun d => d.ok K, fn.map fun d => He.fnW K d.at_, ga2 K)
def val2 : Bool × List He.FnW × List He.FnW := (true, fn.map He.DefD.val, [g_weights.val, g_starts.val])
def SaysK (w : World) (K : PySem.W.Frag) : Prop := obs1 K = val1 w ∧ obs2 K = val2
def hk1 : PySem.W.Hook where
  α := Bool × List (Option (List (Option (Str × Int))))
  obs := fun s => onW obs1 s.heap.get?
  val := fun w => val1 w
  says := fun w h => ∃ K : PySem.W.Frag, K.In h ∧ obs1 K = val1 w
  of := fun w s e => ⟨frW s.heap.get?, He.frG_in, (onW_eq obs1 _).symm.trans e⟩
  keeps := fun _ _ _ ⟨K, hK, c⟩ k => ⟨K, PySem.W.Frag.In.keeps hK k, c⟩
def hk : PySem.W.Hook where
  α := (Bool × List (Option (List (Option (Str × Int))))) × (Bool × List He.FnW × List He.FnW)
  obs := fun s => (onW obs1 s.heap.get?, onW obs2 s.heap.get?)
  val := fun w => (val1 w, val2)
  says := fun w h => ∃ K : PySem.W.Frag, K.In h ∧ SaysK w K
  of := fun w s e => ⟨frW s.heap.get?, He.frG_in, (onW_eq obs1 _).symm.trans (congrArg (fun z : (Bool × List (Option (List (Option (Str × Int))))) × (Bool × List He.FnW × List He.FnW) => z.1) e), (onW_eq obs2 _).symm.trans (congrArg (fun z : (Bool × List (Option (List (Option (Str × Int))))) × (Bool × List He.FnW × List He.FnW) => z.2) e)⟩
  keeps := fun _ _ _ ⟨K, hK, c⟩ k => ⟨K, PySem.W.Frag.In.keeps hK k, c⟩
abbrev R : PySem.W.OpenRow := PySem.W.OpenLaw.row PySem.Challenge.rw_wirebeats_k99_whole_words_and_starts
abbrev qv : Program := PySem.W.view R.prog [117]
def ob1 (s : PySem.W.SharedT) : Bool × List (Option (List (Option (Str × Int)))) := onW obs1 (HandSHeadRun.getT s)
def ob2 (s : PySem.W.SharedT) : Bool × List He.FnW × List He.FnW := onW obs2 (HandSHeadRun.getT s)
def ob (s : PySem.W.SharedT) : (Bool × List (Option (List (Option (Str × Int))))) × (Bool × List He.FnW × List He.FnW) := (ob1 s, ob2 s)
theorem ob_eq (s : PySem.W.SharedT) : ob s = hk.obs s.abs := by
  have e : HandSHeadRun.getT s = s.abs.heap.get? := funext (HandSHeadRun.getT_eq s)
  show (onW obs1 (HandSHeadRun.getT s), onW obs2 (HandSHeadRun.getT s)) = (onW obs1 s.abs.heap.get?, onW obs2 s.abs.heap.get?)
  rw [e]
def Run2 (w : World) : Prop := ∀ os : OsState, (HandSHeadRun.endF (HandSHeadRun.stepQ (HandSHeadRun.denQ HandSHeadRun.tabQ) R.prog w) 20000 R.prog w os).map ob2 = some val2
theorem run1F (w : World) : HandSHeadRun.RunEq R qv hk1 ob1 20000 names (w.withFollow "special-get-raises" false) := by intro os; kernel_rfl
theorem run1T (w : World) : HandSHeadRun.RunEq R qv hk1 ob1 20000 names (w.withFollow "special-get-raises" true) := by intro os; kernel_rfl
theorem run2F (w : World) : Run2 (w.withFollow "special-get-raises" false) := by intro os; kernel_rfl
theorem run2T (w : World) : Run2 (w.withFollow "special-get-raises" true) := by intro os; kernel_rfl
theorem comb {S A B C D : Type} {o : Option S} {f : S → A} {g : S → B} {c : S → C} {d : S → D} {a : A} {b : B} {x : C} {y : D} (h1 : o.map (fun s => (f s, g s, c s)) = some (a, b, x)) (h2 : o.map d = some y) : o.map (fun s => (f s, g s, (c s, d s))) = some (a, b, (x, y)) := by
  cases o with
  | none => cases h1
  | some s =>
    injection h1 with h1
    injection h2 with h2
    injection h1 with e1 h1
    injection h1 with e2 e3
    show some (f s, g s, (c s, d s)) = some (a, b, (x, y))
    rw [e1, e2, e3, h2]
theorem run (w : World) : HandSHeadRun.RunEq R qv hk ob 20000 names w := by
  have h1 : HandSHeadRun.RunEq R qv hk1 ob1 20000 names w := PySem.W.byRow2 "special-get-raises" (P := fun w => HandSHeadRun.RunEq R qv hk1 ob1 20000 names w) run1F run1T w
  have h2 : Run2 w := PySem.W.byRow2 "special-get-raises" (P := Run2) run2F run2T w
  intro os
  exact comb (h1 os) (h2 os)
end Wb
/-! WbA -/
set_option maxHeartbeats 4000000
/-! A small logic of data over the hand layer: data D, slots by data, expressions Ev, statements Sd. -/
namespace Wb
open PySem PySem.Spec PyProof.Rows L2

/-! ### data -/
inductive D where
  | non | bl (b : Bool) | int (i : Int) | str (s : Str) | tup (xs : List D) | obj (a : Addr) | ty (n : String)

mutual
/-- the value v stands for the datum d -/
inductive Rep (H : Hp) : V → D → Prop
  | non : Rep H .non .non
  | bl (b : Bool) : Rep H (.bl b) (.bl b)
  | int (i : Int) : Rep H (.int i) (.int i)
  | str (s : Str) : Rep H (.str s) (.str s)
  | tup {a : Addr} {vs : List V} {ds : List D} : H a = some (.tup vs) → RepL H vs ds → Rep H (.ref a) (.tup ds)
  | obj (a : Addr) : Rep H (.ref a) (.obj a)
  | ty (n : String) : Rep H (.ty n) (.ty n)
inductive RepL (H : Hp) : List V → List D → Prop
  | nil : RepL H [] []
  | cons {v : V} {d : D} {vs : List V} {ds : List D} : Rep H v d → RepL H vs ds → RepL H (v :: vs) (d :: ds)
end
/-- tuples stay -/
def TSm (H H' : Hp) : Prop := ∀ a vs, H a = some (.tup vs) → H' a = some (.tup vs)
theorem TSm.refl (H : Hp) : TSm H H := fun _ _ h => h
theorem TSm.trans {H H1 H2 : Hp} (a : TSm H H1) (b : TSm H1 H2) : TSm H H2 := fun x vs h => b x vs (a x vs h)
mutual
theorem Rep.mono {H H' : Hp} (k : TSm H H') : ∀ {v : V} {d : D}, Rep H v d → Rep H' v d
  | _, _, .non => .non
  | _, _, .bl b => .bl b
  | _, _, .int i => .int i
  | _, _, .str s => .str s
  | _, _, .tup h r => .tup (k _ _ h) (RepL.mono k r)
  | _, _, .obj a => .obj a
  | _, _, .ty n => .ty n
theorem RepL.mono {H H' : Hp} (k : TSm H H') : ∀ {vs : List V} {ds : List D}, RepL H vs ds → RepL H' vs ds
  | _, _, .nil => .nil
  | _, _, .cons h r => .cons (Rep.mono k h) (RepL.mono k r)
end
theorem RepL.length {H : Hp} : ∀ {vs : List V} {ds : List D}, RepL H vs ds → vs.length = ds.length
  | _, _, .nil => rfl
  | _, _, .cons _ r => by rw [List.length_cons, List.length_cons, r.length]
theorem RepL.get {H : Hp} : ∀ {vs : List V} {ds : List D} {i : Nat} {d : D}, RepL H vs ds → ds[i]? = some d → ∃ v, vs[i]? = some v ∧ Rep H v d
  | _, _, _, _, .nil, h => by simp at h
  | _, _, 0, _, .cons r _, h => by
    simp at h
    subst h
    exact ⟨_, rfl, r⟩
  | _, _, i + 1, d, .cons _ r, h => by
    obtain ⟨v, h1, h2⟩ := RepL.get (i := i) (d := d) r (by simpa using h)
    exact ⟨v, by simpa using h1, h2⟩
theorem RepL.getV {H : Hp} : ∀ {vs : List V} {ds : List D} {i : Nat} {v : V}, RepL H vs ds → vs[i]? = some v → ∃ d, ds[i]? = some d ∧ Rep H v d
  | _, _, _, _, .nil, h => by simp at h
  | _, _, 0, _, .cons r _, h => by
    simp at h
    subst h
    exact ⟨_, rfl, r⟩
  | _, _, i + 1, v, .cons _ r, h => by
    obtain ⟨d, h1, h2⟩ := RepL.getV (i := i) (v := v) r (by simpa using h)
    exact ⟨d, by simpa using h1, h2⟩
theorem RepL.append {H : Hp} : ∀ {vs : List V} {ds : List D} {ws : List V} {es : List D}, RepL H vs ds → RepL H ws es → RepL H (vs ++ ws) (ds ++ es)
  | _, _, _, _, .nil, s => s
  | _, _, _, _, .cons r t, s => .cons r (RepL.append t s)
theorem RepL.one {H : Hp} {v : V} {d : D} (h : Rep H v d) : RepL H [v] [d] := .cons h .nil
theorem RepL.take {H : Hp} : ∀ {vs : List V} {ds : List D} (n : Nat), RepL H vs ds → RepL H (vs.take n) (ds.take n)
  | _, _, 0, _ => .nil
  | _, _, _ + 1, .nil => .nil
  | _, _, n + 1, .cons r t => .cons r (RepL.take n t)
theorem RepL.drop {H : Hp} : ∀ {vs : List V} {ds : List D} (n : Nat), RepL H vs ds → RepL H (vs.drop n) (ds.drop n)
  | _, _, 0, r => r
  | _, _, _ + 1, .nil => .nil
  | _, _, n + 1, .cons _ t => RepL.drop n t
theorem RepL.reverse {H : Hp} : ∀ {vs : List V} {ds : List D}, RepL H vs ds → RepL H vs.reverse ds.reverse
  | _, _, .nil => .nil
  | _, _, .cons r t => by
    rw [List.reverse_cons, List.reverse_cons]
    exact (RepL.reverse t).append (.one r)
theorem RepL.ints {H : Hp} : ∀ {vs : List V} {ns : List Int}, RepL H vs (ns.map D.int) → vs = ns.map V.int
  | _, [], h => by cases h; rfl
  | _, n :: ns, h => by
    cases h with
    | cons r t =>
      cases r
      rw [RepL.ints t]
      rfl
theorem RepL.bls {H : Hp} : ∀ {vs : List V} {bs : List Bool}, RepL H vs (bs.map D.bl) → vs = bs.map V.bl
  | _, [], h => by cases h; rfl
  | _, n :: ns, h => by
    cases h with
    | cons r t =>
      cases r
      rw [RepL.bls t]
      rfl
theorem RepL.strs {H : Hp} : ∀ {vs : List V} {ss : List Str}, RepL H vs (ss.map D.str) → vs = ss.map V.str
  | _, [], h => by cases h; rfl
  | _, n :: ns, h => by
    cases h with
    | cons r t =>
      cases r
      rw [RepL.strs t]
      rfl
theorem RepL.of_strs {H : Hp} : ∀ (ss : List Str), RepL H (ss.map V.str) (ss.map D.str)
  | [] => .nil
  | s :: ss => .cons (.str s) (RepL.of_strs ss)
theorem RepL.of_ints {H : Hp} : ∀ (ss : List Int), RepL H (ss.map V.int) (ss.map D.int)
  | [] => .nil
  | s :: ss => .cons (.int s) (RepL.of_ints ss)

/-! ### frames: what may change, and what is known of it -/
structure Fm where
  S : Addr → Prop
  A : Addr → Prop
  J : Hp → Prop
  sub : ∀ b, S b → A b
  loc : ∀ H H', J H → (∀ b, A b → H' b = H b) → J H'
  pres : ∀ H b, J H → A b → H b ≠ none
  nt : ∀ H b vs, J H → S b → H b ≠ some (.tup vs)
/-- nothing that stood changes -/
def Fm.pure : Fm := ⟨fun _ => False, fun _ => False, fun _ => True, fun _ h => h, fun _ _ _ _ => trivial, fun _ _ _ h => h.elim, fun _ _ _ _ h => h.elim⟩
def Kp (F : Fm) (H H' : Hp) : Prop := ∀ b o, ¬ F.S b → H b = some o → H' b = some o
theorem Kp.refl (F : Fm) (H : Hp) : Kp F H H := fun _ _ _ h => h
theorem Kp.trans {F : Fm} {H H1 H2 : Hp} (a : Kp F H H1) (b : Kp F H1 H2) : Kp F H H2 := fun x o n h => b x o n (a x o n h)
section
variable {F : Fm} {H H' H0 : Hp} {p : Addr} {o : HO}
theorem Fm.new (j : F.J H) (n : H p = none) : ¬ F.A p := fun h => F.pres H p j h n
theorem Fm.newS (j : F.J H) (n : H p = none) : ¬ F.S p := fun h => F.new j n (F.sub p h)
theorem Kp.new (n : H p = none) : Kp F H (upd H p o) := fun b u _ e => by
  rw [upd_ne (ne_of_none e n)]
  exact e
theorem Kp.mut (k : Kp F H H') (n : H p = none) : Kp F H (upd H' p o) := fun b u s e => by
  rw [upd_ne (ne_of_none e n)]
  exact k b u s e
theorem Fm.upd (j0 : F.J H0) (n : H0 p = none) (j : F.J H) : F.J (upd H p o) := F.loc H _ j fun b hb => upd_ne fun e => F.new j0 n (e ▸ hb)
theorem Fm.same (j : F.J H) (s : Same H H') : F.J H' := F.loc H H' j fun b hb => by
  cases e : H b with
  | none => exact absurd e (F.pres H b j hb)
  | some o => exact s b o e
theorem Kp.same (s : Same H H') : Kp F H H' := fun b o _ e => s b o e
theorem Kp.ts (k : Kp F H H') (j : F.J H) : TSm H H' := fun a vs e => k a _ (fun s => F.nt H a vs j s e) e
theorem Kp.pure_same (k : Kp Fm.pure H H') : Same H H' := fun b o e => k b o (fun h => h) e
theorem Kp.free (k : Kp F H0 H) (j0 : F.J H0) (j : F.J H) (n : H p = none) : H0 p = none := by
  cases e : H0 p with
  | none => rfl
  | some o =>
    by_cases s : F.S p
    · exact absurd n (F.pres H p j (F.sub p s))
    · rw [k p o s e] at n
      cases n
theorem TSm.upd (h : ∀ vs, H p ≠ some (.tup vs)) : TSm H (L2.upd H p o) := fun a vs e => by
  have ne : a ≠ p := fun z => h vs (by rw [← z]; exact e)
  rw [upd_ne ne]
  exact e
end

/-! ### slots -/
inductive SV where
  | d (x : D) | own (xs : List D) | bor (xs : List D)
/-- pinned things: a list that stays, a tuple -/
inductive Pn where
  | lst (p : Addr) (vs : List V) (xs : List D) | tup (a : Addr) (vs : List V) (xs : List D)
def PinOk (F : Fm) (H : Hp) : Pn → Prop
  | .lst p vs xs => ¬ F.S p ∧ H p = some (.lst vs) ∧ RepL H vs xs
  | .tup a vs xs => H a = some (.tup vs) ∧ RepL H vs xs
def SRep (F : Fm) (H0 : Hp) (P : List Pn) (H : Hp) (v : V) : SV → Prop
  | .d x => Rep H v x
  | .own xs => ∃ p vs, v = .ref p ∧ H0 p = none ∧ H p = some (.lst vs) ∧ RepL H vs xs ∧ ∀ vs' xs', Pn.lst p vs' xs' ∉ P
  | .bor xs => ∃ p vs, v = .ref p ∧ Pn.lst p vs xs ∈ P
/-- a result: a datum; a new list; a list that is there -/
def RRep (F : Fm) (H H2 : Hp) (v : V) : SV → Prop
  | .d x => Rep H2 v x
  | .own xs => ∃ p vs, v = .ref p ∧ H p = none ∧ H2 p = some (.lst vs) ∧ RepL H2 vs xs
  | .bor xs => ∃ p vs, v = .ref p ∧ ¬ F.S p ∧ H2 p = some (.lst vs) ∧ RepL H2 vs xs
abbrev Ds := List (Option SV)
structure Ste (F : Fm) (H0 : Hp) (P : List Pn) (σ : L2.St) (H : Hp) (ds : Ds) : Prop where
  j0 : F.J H0
  kp : Kp F H0 H
  j : F.J H
  len : σ.length = ds.length
  pin : ∀ q ∈ P, PinOk F H q
  env : ∀ (i : Nat) (sv : SV), ds[i]? = some (some sv) → ∃ v, σ[i]? = some (some v) ∧ SRep F H0 P H v sv
  dist : ∀ (i j : Nat) (xs ys : List D) (p : Addr), ds[i]? = some (some (.own xs)) → ds[j]? = some (some (.own ys)) → σ[i]? = some (some (.ref p)) → σ[j]? = some (some (.ref p)) → i = j
section
variable {F : Fm} {H H1 H2 H3 H0 : Hp} {P : List Pn} {σ : L2.St} {ds : Ds} {v : V} {r : SV}
theorem PinOk.mono {q : Pn} (k : Kp F H H2) (j : F.J H) (h : PinOk F H q) : PinOk F H2 q := by
  cases q with
  | lst p vs xs => exact ⟨h.1, k p _ h.1 h.2.1, h.2.2.mono (k.ts j)⟩
  | tup a vs xs => exact ⟨k.ts j _ _ h.1, h.2.mono (k.ts j)⟩
theorem SRep.mono (j0 : F.J H0) (k : Kp F H H2) (j : F.J H) (h : SRep F H0 P H v r) : SRep F H0 P H2 v r := by
  cases r with
  | d x => exact Rep.mono (k.ts j) h
  | own xs =>
    obtain ⟨p, vs, h1, h2, h3, h4, h5⟩ := h
    exact ⟨p, vs, h1, h2, k p _ (F.newS j0 h2) h3, h4.mono (k.ts j), h5⟩
  | bor xs => exact h
theorem RRep.mono (jb : F.J H) (k : Kp F H2 H3) (j : F.J H2) (h : RRep F H H2 v r) : RRep F H H3 v r := by
  cases r with
  | d x => exact Rep.mono (k.ts j) h
  | own xs =>
    obtain ⟨p, vs, h1, h2, h3, h4⟩ := h
    exact ⟨p, vs, h1, h2, k p _ (F.newS jb h2) h3, h4.mono (k.ts j)⟩
  | bor xs =>
    obtain ⟨p, vs, h1, h2, h3, h4⟩ := h
    exact ⟨p, vs, h1, h2, k p _ h2 h3, h4.mono (k.ts j)⟩
theorem RRep.back (k : Kp F H H1) (j : F.J H) (j1 : F.J H1) (h : RRep F H1 H2 v r) : RRep F H H2 v r := by
  cases r with
  | d x => exact h
  | own xs =>
    obtain ⟨p, vs, h1, h2, h3, h4⟩ := h
    exact ⟨p, vs, h1, k.free j j1 h2, h3, h4⟩
  | bor xs => exact h
theorem Ste.mono (s : Ste F H0 P σ H ds) (k : Kp F H H2) (j : F.J H2) : Ste F H0 P σ H2 ds where
  j0 := s.j0
  kp := s.kp.trans k
  j := j
  len := s.len
  pin := fun q h => (s.pin q h).mono k s.j
  env := fun i sv e => let ⟨v, h1, h2⟩ := s.env i sv e; ⟨v, h1, h2.mono s.j0 k s.j⟩
  dist := s.dist
theorem Ste.free (s : Ste F H0 P σ H ds) {p : Addr} (n : H p = none) : H0 p = none := s.kp.free s.j0 s.j n
/-- a result goes to a slot -/
theorem Ste.set (s : Ste F H0 P σ H ds) (k : Kp F H H2) (j : F.J H2) (i : Nat) (h : RRep F H H2 v r) (hb : ∀ xs, r ≠ .bor xs) : Ste F H0 P (σ.set i (some v)) H2 (ds.set i (some r)) := by
  have s2 := s.mono k j
  have nw : ∀ {p : Addr} {a : Nat} {xs : List D}, H p = none → ds[a]? = some (some (.own xs)) → σ[a]? ≠ some (some (.ref p)) := fun {p a xs} n e z => by
    obtain ⟨w, h1, q, vs, h2, h3, h4, h5, h6⟩ := s.env a _ e
    rw [z] at h1
    cases h1
    cases h2
    rw [n] at h4
    cases h4
  refine ⟨s.j0, s2.kp, j, by rw [List.length_set, List.length_set, s.len], s2.pin, fun a sv e => ?_, fun a b xs ys p e1 e2 e3 e4 => ?_⟩
  · by_cases ha : i = a
    · subst ha
      by_cases hl : i < ds.length
      · rw [List.getElem?_set_self hl] at e
        cases e
        refine ⟨v, List.getElem?_set_self (by rw [s.len]; exact hl), ?_⟩
        cases r with
        | d x => exact h
        | own xs =>
          obtain ⟨p, vs, h1, h2, h3, h4⟩ := h
          refine ⟨p, vs, h1, s.free h2, h3, h4, fun vs' xs' hp => ?_⟩
          have q := (s.pin _ hp).2.1
          rw [h2] at q
          cases q
        | bor xs => exact absurd rfl (hb xs)
      · rw [List.getElem?_eq_none (by rw [List.length_set]; omega)] at e
        cases e
    · rw [List.getElem?_set_ne ha] at e
      obtain ⟨w, h1, h2⟩ := s2.env a sv e
      exact ⟨w, by rw [List.getElem?_set_ne ha]; exact h1, h2⟩
  · have key : ∀ {a : Nat} {xs : List D}, (ds.set i (some r))[a]? = some (some (.own xs)) → (σ.set i (some v))[a]? = some (some (.ref p)) → a = i → ∃ vs, r = .own xs ∧ v = .ref p ∧ H p = none ∧ H2 p = some (.lst vs) := fun {a xs} e1 e3 ha => by
      subst ha
      have hl : a < ds.length := by
        have := (List.getElem?_eq_some_iff.mp e1).1
        rwa [List.length_set] at this
      rw [List.getElem?_set_self hl] at e1
      rw [List.getElem?_set_self (by rw [s.len]; exact hl)] at e3
      cases e1
      cases e3
      obtain ⟨p', vs, h1, h2, h3, h4⟩ := h
      cases h1
      exact ⟨vs, rfl, rfl, h2, h3⟩
    by_cases ha : a = i
    · by_cases hb2 : b = i
      · rw [ha, hb2]
      · obtain ⟨vs, _, _, n, _⟩ := key e1 e3 ha
        rw [List.getElem?_set_ne (Ne.symm hb2)] at e2 e4
        exact absurd e4 (nw n e2)
    · by_cases hb2 : b = i
      · obtain ⟨vs, _, _, n, _⟩ := key e2 e4 hb2
        rw [List.getElem?_set_ne (Ne.symm ha)] at e1 e3
        exact absurd e3 (nw n e1)
      · rw [List.getElem?_set_ne (Ne.symm ha)] at e1 e3
        rw [List.getElem?_set_ne (Ne.symm hb2)] at e2 e4
        exact s.dist a b xs ys p e1 e2 e3 e4
theorem Ste.setD (s : Ste F H0 P σ H ds) (i : Nat) {x : D} (h : Rep H v x) : Ste F H0 P (σ.set i (some v)) H (ds.set i (some (.d x))) :=
  s.set (Kp.refl F H) s.j i (r := .d x) h fun _ => nofun
/-- a slot forgotten -/
theorem Ste.unset (s : Ste F H0 P σ H ds) (i : Nat) : Ste F H0 P (σ.set i none) H (ds.set i none) where
  j0 := s.j0
  kp := s.kp
  j := s.j
  len := by rw [List.length_set, List.length_set, s.len]
  pin := s.pin
  env := fun a sv e => by
    by_cases ha : i = a
    · subst ha
      by_cases hl : i < ds.length
      · rw [List.getElem?_set_self hl] at e
        cases e
      · rw [List.getElem?_eq_none (by rw [List.length_set]; omega)] at e
        cases e
    · rw [List.getElem?_set_ne ha] at e
      obtain ⟨w, h1, h2⟩ := s.env a sv e
      exact ⟨w, by rw [List.getElem?_set_ne ha]; exact h1, h2⟩
  dist := fun a b xs ys p e1 e2 e3 e4 => by
    have ne : ∀ {c : Nat} {zs : List D}, (ds.set i none)[c]? = some (some (.own zs)) → i ≠ c := fun {c zs} e z => by
      subst z
      by_cases hl : i < ds.length
      · rw [List.getElem?_set_self hl] at e
        cases e
      · rw [List.getElem?_eq_none (by rw [List.length_set]; omega)] at e
        cases e
    have na := ne e1
    have nb := ne e2
    rw [List.getElem?_set_ne na] at e1 e3
    rw [List.getElem?_set_ne nb] at e2 e4
    exact s.dist a b xs ys p e1 e2 e3 e4
def wipeD (ds : Ds) : List Nat → Ds
  | [] => ds
  | i :: is => (wipeD ds is).set i none
theorem Ste.wipe (s : Ste F H0 P σ H ds) : ∀ is : List Nat, Ste F H0 P (wipe σ is) H (wipeD ds is)
  | [] => s
  | i :: is => (Ste.wipe s is).unset i
theorem Ste.pins {q : Pn} (s : Ste F H0 P σ H ds) (h : PinOk F H q) (ho : ∀ p vs xs, q = .lst p vs xs → ∀ (i : Nat) (ys : List D), ds[i]? = some (some (.own ys)) → σ[i]? ≠ some (some (.ref p))) : Ste F H0 (q :: P) σ H ds where
  j0 := s.j0
  kp := s.kp
  j := s.j
  len := s.len
  pin := fun q' h' => by
    rcases List.mem_cons.mp h' with e | h'
    · rw [e]
      exact h
    · exact s.pin q' h'
  env := fun i sv e => by
    obtain ⟨v, h1, h2⟩ := s.env i sv e
    refine ⟨v, h1, ?_⟩
    cases sv with
    | d x => exact h2
    | own xs =>
      obtain ⟨p, vs, e1, h3, h4, h5, h6⟩ := h2
      refine ⟨p, vs, e1, h3, h4, h5, fun vs' xs' hm => ?_⟩
      rcases List.mem_cons.mp hm with e' | hm
      · refine ho p vs' xs' e'.symm i xs e ?_
        rw [h1, e1]
      · exact h6 vs' xs' hm
    | bor xs =>
      obtain ⟨p, vs, e1, h3⟩ := h2
      exact ⟨p, vs, e1, List.mem_cons_of_mem _ h3⟩
  dist := s.dist
end
end Wb
/-! WbB -/
set_option maxHeartbeats 4000000
namespace Wb
open PySem PySem.Spec PyProof.Rows L2

/-! ### judgements -/
inductive RRL (F : Fm) (H H2 : Hp) : List V → List SV → Prop
  | nil : RRL F H H2 [] []
  | cons {v : V} {r : SV} {vs : List V} {rs : List SV} : RRep F H H2 v r → RRL F H H2 vs rs → RRL F H H2 (v :: vs) (r :: rs)
theorem RRL.length {F : Fm} {H H2 : Hp} : ∀ {vs : List V} {rs : List SV}, RRL F H H2 vs rs → vs.length = rs.length
  | _, _, .nil => rfl
  | _, _, .cons _ t => by rw [List.length_cons, List.length_cons, t.length]
theorem RRL.back {F : Fm} {H H1 H2 : Hp} (k : Kp F H H1) (j : F.J H) (j1 : F.J H1) : ∀ {vs : List V} {rs : List SV}, RRL F H1 H2 vs rs → RRL F H H2 vs rs
  | _, _, .nil => .nil
  | _, _, .cons h t => .cons (h.back k j j1) (RRL.back k j j1 t)
theorem RRL.of {F : Fm} {H H2 : Hp} : ∀ {vs : List V} {xs : List D}, RRL F H H2 vs (xs.map .d) → RepL H2 vs xs
  | _, [], h => by cases h; exact .nil
  | _, x :: xs, h => by
    cases h with
    | cons h t => exact .cons h (RRL.of t)
def Ev (F : Fm) (te : TE) (ds : Ds) (φ : SV → Prop) : Prop := ∀ (H0 : Hp) (P : List Pn) (σ : L2.St) (H : Hp), Ste F H0 P σ H ds →
  ∀ Q : VK, (∀ v H2 r, Kp F H H2 → F.J H2 → RRep F H H2 v r → φ r → Q v H2) → te σ H Q
def EvT (F : Fm) (tt : TT) (ds : Ds) (φ : Bool → Prop) : Prop := ∀ (H0 : Hp) (P : List Pn) (σ : L2.St) (H : Hp), Ste F H0 P σ H ds →
  ∀ Q : Bool → Hp → Prop, (∀ b H2, Kp F H H2 → F.J H2 → φ b → Q b H2) → tt σ H Q
def EvA (F : Fm) (ta : TA) (ds : Ds) (φ : List SV → Prop) : Prop := ∀ (H0 : Hp) (P : List Pn) (σ : L2.St) (H : Hp), Ste F H0 P σ H ds →
  ∀ Q : List V → Hp → Prop, (∀ vs H2 rs, Kp F H H2 → F.J H2 → RRL F H H2 vs rs → φ rs → Q vs H2) → ta σ H Q
/-- a statement: N of the slots behind it, R of what it returns -/
def Sd (F : Fm) (ts : TS) (ds : Ds) (N : Ds → Prop) (R : SV → Prop) : Prop := ∀ (H0 : Hp) (P : List Pn) (σ : L2.St) (H : Hp) (D : Ends), Ste F H0 P σ H ds →
  (∀ P' σ' H' ds', (∀ q ∈ P, q ∈ P') → Ste F H0 P' σ' H' ds' → N ds' → D.nx σ' H') → (∀ v H' r, Kp F H0 H' → F.J H' → RRep F H0 H' v r → R r → D.rt v H') → ts D σ H
/-- operations by values -/
def RO (F : Fm) (r : R2) (x y : SV) (χ : SV → Prop) : Prop := ∀ (Hb H : Hp) (vx vy : V) (Q : VK), F.J Hb → F.J H → Kp F Hb H → RRep F Hb H vx x → RRep F Hb H vy y →
  (∀ v H2 z, Kp F H H2 → F.J H2 → RRep F Hb H2 v z → χ z → Q v H2) → r vx vy H Q
def RU1 (F : Fm) (r : V → Hp → VK → Prop) (x : SV) (χ : SV → Prop) : Prop := ∀ (Hb H : Hp) (vx : V) (Q : VK), F.J Hb → F.J H → Kp F Hb H → RRep F Hb H vx x →
  (∀ v H2 z, Kp F H H2 → F.J H2 → RRep F Hb H2 v z → χ z → Q v H2) → r vx H Q
def RCl (F : Fm) (r : List V → Hp → VK → Prop) (as : List SV) (χ : SV → Prop) : Prop := ∀ (Hb H : Hp) (vs : List V) (Q : VK), F.J Hb → F.J H → Kp F Hb H → RRL F Hb H vs as →
  (∀ v H2 z, Kp F H H2 → F.J H2 → RRep F Hb H2 v z → χ z → Q v H2) → r vs H Q

section
variable {F : Fm} {ds : Ds} {φ ψ χ : SV → Prop} {ta tb tc te : TE} {x y : SV}
theorem Ev.imp (h : Ev F te ds φ) (k : ∀ r, φ r → ψ r) : Ev F te ds ψ := fun H0 P σ H s Q q => h H0 P σ H s Q fun v H2 r a b c d => q v H2 r a b c (k r d)
theorem EvT.imp {tt : TT} {φ ψ : Bool → Prop} (h : EvT F tt ds φ) (k : ∀ r, φ r → ψ r) : EvT F tt ds ψ := fun H0 P σ H s Q q => h H0 P σ H s Q fun b H2 a c d => q b H2 a c (k b d)
theorem EvA.imp {ta : TA} {φ ψ : List SV → Prop} (h : EvA F ta ds φ) (k : ∀ r, φ r → ψ r) : EvA F ta ds ψ := fun H0 P σ H s Q q => h H0 P σ H s Q fun b H2 rs a c d e => q b H2 rs a c d (k rs e)
theorem Sd.imp {ts : TS} {N N' : Ds → Prop} {R R' : SV → Prop} (h : Sd F ts ds N R) (k : ∀ d, N d → N' d) (l : ∀ r, R r → R' r) : Sd F ts ds N' R' := fun H0 P σ H D s n r =>
  h H0 P σ H D s (fun P' σ' H' ds' a b c => n P' σ' H' ds' a b (k _ c)) fun v H' z a b c d => r v H' z a b c (l _ d)
theorem ev_var {i : Nat} {d : D} (h : ds[i]? = some (some (.d d)) := by rfl) : Ev F (tVar i) ds (· = .d d) := fun H0 P σ H s Q q => by
  obtain ⟨v, h1, h2⟩ := s.env i _ h
  exact ⟨v, h1, q v H (.d d) (Kp.refl F H) s.j h2 rfl⟩
theorem ev_varO {i : Nat} {xs : List D} (h : ds[i]? = some (some (.own xs)) := by rfl) : Ev F (tVar i) ds (· = .bor xs) := fun H0 P σ H s Q q => by
  obtain ⟨v, h1, p, vs, e, n, h3, h4, _⟩ := s.env i _ h
  exact ⟨v, h1, q v H (.bor xs) (Kp.refl F H) s.j ⟨p, vs, e, F.newS s.j0 n, h3, h4⟩ rfl⟩
theorem ev_varB {i : Nat} {xs : List D} (h : ds[i]? = some (some (.bor xs)) := by rfl) : Ev F (tVar i) ds (· = .bor xs) := fun H0 P σ H s Q q => by
  obtain ⟨v, h1, p, vs, e, hp⟩ := s.env i _ h
  obtain ⟨a, b, c⟩ := s.pin _ hp
  exact ⟨v, h1, q v H (.bor xs) (Kp.refl F H) s.j ⟨p, vs, e, a, b, c⟩ rfl⟩
theorem ev_ci {i : Int} : Ev F (tC (.int i)) ds (· = .d (.int i)) := fun H0 P σ H s Q q => q _ H (.d (.int i)) (Kp.refl F H) s.j (.int i) rfl
theorem ev_cs {z : Str} : Ev F (tC (.str z)) ds (· = .d (.str z)) := fun H0 P σ H s Q q => q _ H (.d (.str z)) (Kp.refl F H) s.j (.str z) rfl
theorem ev_cb {b : Bool} : Ev F (tC (.bl b)) ds (· = .d (.bl b)) := fun H0 P σ H s Q q => q _ H (.d (.bl b)) (Kp.refl F H) s.j (.bl b) rfl
theorem ev_cn : Ev F (tC .non) ds (· = .d .non) := fun H0 P σ H s Q q => q _ H (.d .non) (Kp.refl F H) s.j .non rfl
theorem ev_ca {a : Addr} : Ev F (tC (.ref a)) ds (· = .d (.obj a)) := fun H0 P σ H s Q q => q _ H (.d (.obj a)) (Kp.refl F H) s.j (.obj a) rfl

/-! ### operations -/
theorem ev_opG {r : R2} (ha : Ev F ta ds φ) (hb : Ev F tb ds ψ) (hr : ∀ x y, φ x → ψ y → RO F r x y χ) : Ev F (tOp r ta tb) ds χ := fun H0 P σ H s Q q =>
  ha H0 P σ H s _ fun vx H1 x k1 j1 r1 p1 => hb H0 P σ H1 (s.mono k1 j1) _ fun vy H2 y k2 j2 r2 p2 =>
    hr x y p1 p2 H H2 vx vy Q s.j j2 (k1.trans k2) (r1.mono s.j k2 j1) (r2.back k1 s.j j1) fun v H3 z k3 j3 r3 p3 => q v H3 z ((k1.trans k2).trans k3) j3 r3 p3
theorem ev_op {r : R2} (ha : Ev F ta ds (· = x)) (hb : Ev F tb ds (· = y)) (hr : RO F r x y χ) : Ev F (tOp r ta tb) ds χ := ev_opG ha hb fun _ _ e1 e2 => by
  rw [e1, e2]
  exact hr
theorem ev_unG {r : V → Hp → VK → Prop} (ha : Ev F ta ds φ) (hr : ∀ x, φ x → RU1 F r x χ) : Ev F (tUn r ta) ds χ := fun H0 P σ H s Q q =>
  ha H0 P σ H s _ fun vx H1 x k1 j1 r1 p1 => hr x p1 H H1 vx Q s.j j1 k1 r1 fun v H3 z k3 j3 r3 p3 => q v H3 z (k1.trans k3) j3 r3 p3
theorem ev_un {r : V → Hp → VK → Prop} (ha : Ev F ta ds (· = x)) (hr : RU1 F r x χ) : Ev F (tUn r ta) ds χ := ev_unG ha fun _ e => by
  rw [e]
  exact hr
theorem RO.imp {r : R2} (h : RO F r x y χ) (k : ∀ z, χ z → φ z) : RO F r x y φ := fun Hb H vx vy Q a b c d e q => h Hb H vx vy Q a b c d e fun v H2 z k1 k2 k3 k4 => q v H2 z k1 k2 k3 (k z k4)
theorem ro_i0 {g : Int → Int → Int} {i j : Int} : RO F (rI0 fun i j => .int (g i j)) (.d (.int i)) (.d (.int j)) (· = .d (.int (g i j))) := fun Hb H vx vy Q _ jh _ rx ry q => by
  cases rx
  cases ry
  exact ⟨i, j, rfl, rfl, q _ H (.d (.int (g i j))) (Kp.refl F H) jh (.int _) rfl⟩
theorem ro_b0 {g : Int → Int → Bool} {i j : Int} : RO F (rI0 fun i j => .bl (g i j)) (.d (.int i)) (.d (.int j)) (· = .d (.bl (g i j))) := fun Hb H vx vy Q _ jh _ rx ry q => by
  cases rx
  cases ry
  exact ⟨i, j, rfl, rfl, q _ H (.d (.bl (g i j))) (Kp.refl F H) jh (.bl _) rfl⟩
theorem ro_i {C : Int → Int → Prop} {g : Int → Int → Int} {i j : Int} (hc : C i j) : RO F (rI C fun i j => .int (g i j)) (.d (.int i)) (.d (.int j)) (· = .d (.int (g i j))) := fun Hb H vx vy Q _ jh _ rx ry q => by
  cases rx
  cases ry
  exact ⟨i, j, rfl, rfl, hc, q _ H (.d (.int (g i j))) (Kp.refl F H) jh (.int _) rfl⟩
theorem ru_i {g : Int → Int} {i : Int} : RU1 F (rU fun i => .int (g i)) (.d (.int i)) (· = .d (.int (g i))) := fun Hb H vx Q _ jh _ rx q => by
  cases rx
  exact ⟨i, rfl, q _ H (.d (.int (g i))) (Kp.refl F H) jh (.int _) rfl⟩
/-- == of scalars -/
def scD : D → Option V
  | .non => some .non
  | .bl b => some (.bl b)
  | .int i => some (.int i)
  | .str s => some (.str s)
  | _ => none
theorem rep_sc {H : Hp} {v : V} {d : D} {w : V} (r : Rep H v d) (h : scD d = some w) : v = w := by
  cases r <;> first | (cases h; rfl) | cases h
theorem ro_eq {a b : D} {va vb : V} (h1 : scD a = some va) (h2 : scD b = some vb) (hs : scal va vb = true) : RO F rEq (.d a) (.d b) (· = .d (.bl (decide (va = vb)))) := fun Hb H vx vy Q _ jh _ rx ry q => by
  rw [rep_sc rx h1, rep_sc ry h2]
  exact ⟨hs, q _ H (.d (.bl _)) (Kp.refl F H) jh (.bl _) rfl⟩
theorem ro_ne {a b : D} {va vb : V} (h1 : scD a = some va) (h2 : scD b = some vb) (hs : scal va vb = true) : RO F rNe (.d a) (.d b) (· = .d (.bl (!decide (va = vb)))) := fun Hb H vx vy Q _ jh _ rx ry q => by
  rw [rep_sc rx h1, rep_sc ry h2]
  exact ⟨hs, q _ H (.d (.bl _)) (Kp.refl F H) jh (.bl _) rfl⟩
/-- items -/
theorem ro_ixT {K : PySem.W.Frag} {xs : List D} {i : Int} {d : D} (h : atI xs i = some d) : RO F (rIxT K) (.d (.tup xs)) (.d (.int i)) (· = .d d) := fun Hb H vx vy Q _ jh _ rx ry q => by
  cases ry
  cases rx with
  | @tup a vs _ ha hr =>
    have hl := hr.length
    unfold atI at h
    cases e : ixN xs.length i with
    | none => rw [e] at h; cases h
    | some n =>
      rw [e] at h
      obtain ⟨v, hv, rv⟩ := hr.get h
      refine ⟨a, vs, i, v, rfl, rfl, .inl (.inl ha), ?_, q v H (.d d) (Kp.refl F H) jh rv rfl⟩
      unfold atI
      rw [hl, e]
      exact hv
def IsLst : SV → List D → Prop := fun r xs => r = .own xs ∨ r = .bor xs
theorem rr_lst {Hb H : Hp} {v : V} {r : SV} {xs : List D} (h : RRep F Hb H v r) (e : IsLst r xs) : ∃ p vs, v = .ref p ∧ H p = some (.lst vs) ∧ RepL H vs xs := by
  rcases e with e | e
  · subst e
    obtain ⟨p, vs, h1, _, h2, h3⟩ := h
    exact ⟨p, vs, h1, h2, h3⟩
  · subst e
    obtain ⟨p, vs, h1, _, h2, h3⟩ := h
    exact ⟨p, vs, h1, h2, h3⟩
theorem ro_ixL {K : PySem.W.Frag} {r : SV} {xs : List D} {i : Int} {d : D} (e : IsLst r xs) (h : atI xs i = some d) : RO F (rIxL K) r (.d (.int i)) (· = .d d) := fun Hb H vx vy Q _ jh _ rx ry q => by
  cases ry
  obtain ⟨p, vs, rfl, hp, hr⟩ := rr_lst rx e
  have hl := hr.length
  unfold atI at h
  cases e : ixN xs.length i with
  | none => rw [e] at h; cases h
  | some n =>
    rw [e] at h
    obtain ⟨v, hv, rv⟩ := hr.get h
    refine ⟨p, vs, i, v, rfl, rfl, .inl (.inl hp), ?_, q v H (.d d) (Kp.refl F H) jh rv rfl⟩
    unfold atI
    rw [hl, e]
    exact hv

/-! ### bools -/
theorem ev_and {a b : Bool} (ha : Ev F ta ds (· = .d (.bl a))) (hb : a = true → Ev F tb ds (· = .d (.bl b))) : Ev F (tAndV ta tb) ds (· = .d (.bl (a && b))) := fun H0 P σ H s Q q =>
  ha H0 P σ H s _ fun vx H1 x k1 j1 r1 p1 => by
    subst p1
    cases r1
    refine ⟨a, rfl, ?_⟩
    cases a with
    | true =>
      rw [if_pos rfl]
      exact hb rfl H0 P σ H1 (s.mono k1 j1) Q fun v H2 r k2 j2 r2 p2 => q v H2 r (k1.trans k2) j2 (r2.back k1 s.j j1) p2
    | false =>
      rw [if_neg Bool.false_ne_true]
      exact q _ H1 (.d (.bl false)) k1 j1 (.bl _) rfl
theorem ev_or {a b : Bool} (ha : Ev F ta ds (· = .d (.bl a))) (hb : a = false → Ev F tb ds (· = .d (.bl b))) : Ev F (tOrV ta tb) ds (· = .d (.bl (a || b))) := fun H0 P σ H s Q q =>
  ha H0 P σ H s _ fun vx H1 x k1 j1 r1 p1 => by
    subst p1
    cases r1
    refine ⟨a, rfl, ?_⟩
    cases a with
    | true =>
      rw [if_pos rfl]
      exact q _ H1 (.d (.bl true)) k1 j1 (.bl _) rfl
    | false =>
      rw [if_neg Bool.false_ne_true]
      exact hb rfl H0 P σ H1 (s.mono k1 j1) Q fun v H2 r k2 j2 r2 p2 => q v H2 r (k1.trans k2) j2 (r2.back k1 s.j j1) p2
theorem ev_not {a : Bool} (ha : Ev F ta ds (· = .d (.bl a))) : Ev F (tNotV ta) ds (· = .d (.bl (!a))) := fun H0 P σ H s Q q =>
  ha H0 P σ H s _ fun vx H1 x k1 j1 r1 p1 => by
    subst p1
    cases r1
    exact ⟨a, rfl, q _ H1 (.d (.bl (!a))) k1 j1 (.bl _) rfl⟩
theorem ev_if {t : TT} {ρ : Bool → Prop} (ht : EvT F t ds ρ) (ha : ρ true → Ev F ta ds φ) (hb : ρ false → Ev F tb ds φ) : Ev F (tIf t ta tb) ds φ := fun H0 P σ H s Q q =>
  ht H0 P σ H s _ fun b H1 k1 j1 p1 => by
    cases b with
    | true =>
      rw [if_pos rfl]
      exact ha p1 H0 P σ H1 (s.mono k1 j1) Q fun v H2 r k2 j2 r2 p2 => q v H2 r (k1.trans k2) j2 (r2.back k1 s.j j1) p2
    | false =>
      rw [if_neg Bool.false_ne_true]
      exact hb p1 H0 P σ H1 (s.mono k1 j1) Q fun v H2 r k2 j2 r2 p2 => q v H2 r (k1.trans k2) j2 (r2.back k1 s.j j1) p2
/-- a chained comparison of ints -/
theorem ev_chain {g g' : Int → Int → Bool} {i j k : Int} (ha : Ev F ta ds (· = .d (.int i))) (hb : Ev F tb ds (· = .d (.int j))) (hc : Ev F tc ds (· = .d (.int k))) :
    Ev F (tChain (rI0 fun i j => .bl (g i j)) (rI0 fun i j => .bl (g' i j)) ta tb tc) ds (· = .d (.bl (g i j && g' j k))) := fun H0 P σ H s Q q =>
  ha H0 P σ H s _ fun vx H1 x k1 j1 r1 p1 => hb H0 P σ H1 (s.mono k1 j1) _ fun vy H2 y k2 j2 r2 p2 => by
    subst p1
    subst p2
    cases r1
    cases r2
    refine ⟨i, j, rfl, rfl, g i j, rfl, ?_⟩
    cases e : g i j with
    | true =>
      rw [if_pos rfl]
      refine hc H0 P σ H2 (s.mono (k1.trans k2) j2) _ fun vz H3 z k3 j3 r3 p3 => ?_
      subst p3
      cases r3
      exact ⟨j, k, rfl, rfl, q _ H3 (.d (.bl (true && g' j k))) ((k1.trans k2).trans k3) j3 (by rw [Bool.true_and]; exact .bl _) (by rw [e])⟩
    | false =>
      rw [if_neg Bool.false_ne_true]
      exact q _ H2 (.d (.bl (false && g' j k))) (k1.trans k2) j2 (.bl _) (by rw [e])

/-! ### tests -/
theorem et_test {ρ : Bool → Prop} (h : Ev F te ds fun r => ∃ b, r = .d (.bl b) ∧ ρ b) : EvT F (tTest te) ds ρ := fun H0 P σ H s Q q => h H0 P σ H s _ fun v H2 r k j rr ⟨b, e, p⟩ => by
  subst e
  cases rr
  exact ⟨b, rfl, q b H2 k j p⟩
theorem et_B {ρ : Bool → Prop} (h : Ev F te ds fun r => ∃ b, r = .d (.bl b) ∧ ρ b) : EvT F (tB te) ds ρ := fun H0 P σ H s Q q => h H0 P σ H s _ fun v H2 r k j rr ⟨b, e, p⟩ => by
  subst e
  cases rr
  exact ⟨b, rfl, q b H2 k j p⟩
theorem et_testD {b : Bool} (h : Ev F te ds (· = .d (.bl b))) : EvT F (tTest te) ds (· = b) := et_test (h.imp fun _ e => ⟨b, e, rfl⟩)
theorem et_BD {b : Bool} (h : Ev F te ds (· = .d (.bl b))) : EvT F (tB te) ds (· = b) := et_B (h.imp fun _ e => ⟨b, e, rfl⟩)
theorem et_and {t u : TT} {a b : Bool} (ha : EvT F t ds (· = a)) (hb : a = true → EvT F u ds (· = b)) : EvT F (tAnd t u) ds (· = (a && b)) := fun H0 P σ H s Q q =>
  ha H0 P σ H s _ fun c H1 k1 j1 e => by
    subst e
    cases c with
    | true =>
      rw [if_pos rfl]
      exact hb rfl H0 P σ H1 (s.mono k1 j1) Q fun b' H2 k2 j2 p2 => q b' H2 (k1.trans k2) j2 (by rw [p2]; rfl)
    | false =>
      rw [if_neg Bool.false_ne_true]
      exact q false H1 k1 j1 rfl
theorem et_or {t u : TT} {a b : Bool} (ha : EvT F t ds (· = a)) (hb : a = false → EvT F u ds (· = b)) : EvT F (tOr t u) ds (· = (a || b)) := fun H0 P σ H s Q q =>
  ha H0 P σ H s _ fun c H1 k1 j1 e => by
    subst e
    cases c with
    | true =>
      rw [if_pos rfl]
      exact q true H1 k1 j1 rfl
    | false =>
      rw [if_neg Bool.false_ne_true]
      exact hb rfl H0 P σ H1 (s.mono k1 j1) Q fun b' H2 k2 j2 p2 => q b' H2 (k1.trans k2) j2 (by rw [p2]; rfl)
theorem et_not {t : TT} {a : Bool} (ha : EvT F t ds (· = a)) : EvT F (tNot t) ds (· = !a) := fun H0 P σ H s Q q =>
  ha H0 P σ H s _ fun c H1 k1 j1 e => q (!c) H1 k1 j1 (by rw [e])
theorem et_is {t : TT} {a b : Bool} (h : EvT F t ds (· = a)) (e : a = b) : EvT F t ds (· = b) := e ▸ h
theorem ev_is (h : Ev F te ds (· = x)) (e : x = y) : Ev F te ds (· = y) := e ▸ h

/-! ### arguments, displays, calls -/
theorem ea_nil : EvA F tNil ds (· = []) := fun H0 P σ H s Q q => q [] H [] (Kp.refl F H) s.j .nil rfl
theorem ea_consG {tr : TA} {ρ ω : List SV → Prop} (ha : Ev F ta ds φ) (hr : EvA F tr ds ρ) (hk : ∀ x xs, φ x → ρ xs → ω (x :: xs)) : EvA F (tCons ta tr) ds ω := fun H0 P σ H s Q q =>
  ha H0 P σ H s _ fun vx H1 x k1 j1 r1 p1 => hr H0 P σ H1 (s.mono k1 j1) _ fun vs H2 xs k2 j2 r2 p2 =>
    q (vx :: vs) H2 (x :: xs) (k1.trans k2) j2 (.cons (r1.mono s.j k2 j1) (r2.back k1 s.j j1)) (hk x xs p1 p2)
theorem ea_cons {tr : TA} {xs : List SV} (ha : Ev F ta ds (· = x)) (hr : EvA F tr ds (· = xs)) : EvA F (tCons ta tr) ds (· = x :: xs) := ea_consG ha hr fun _ _ e1 e2 => by rw [e1, e2]
theorem ev_tupG {t : TA} {ρ : List SV → Prop} (h : EvA F t ds ρ) (hk : ∀ rs, ρ rs → ∃ xs : List D, rs = xs.map .d ∧ xs.length ≤ sizeLine ∧ φ (.d (.tup xs))) : Ev F (tTup t) ds φ := fun H0 P σ H s Q q =>
  h H0 P σ H s _ fun vs H1 rs k1 j1 r1 p1 => by
    obtain ⟨xs, rfl, hl, p2⟩ := hk rs p1
    have rl := RRL.of r1
    refine ⟨by rw [rl.length]; exact hl, fun p hp => q _ _ (.d (.tup xs)) (k1.trans (Kp.new hp)) (F.upd j1 hp j1) (.tup upd_same (rl.mono fun a vs' e => ?_)) p2⟩
    rw [upd_ne (ne_of_none e hp)]
    exact e
theorem ev_tup {t : TA} {rs : List SV} (xs : List D) (h : EvA F t ds (· = rs)) (e : rs = xs.map .d := by rfl) (hl : xs.length ≤ sizeLine := by first | (simp only [List.length_cons, List.length_nil]; decide) | decide) : Ev F (tTup t) ds (· = .d (.tup xs)) :=
  ev_tupG h fun _ e' => ⟨xs, e'.trans e, hl, rfl⟩
theorem ev_lstG {t : TA} {ρ : List SV → Prop} (h : EvA F t ds ρ) (hk : ∀ rs, ρ rs → ∃ xs : List D, rs = xs.map .d ∧ xs.length ≤ sizeLine ∧ φ (.own xs)) : Ev F (tLst t) ds φ := fun H0 P σ H s Q q =>
  h H0 P σ H s _ fun vs H1 rs k1 j1 r1 p1 => by
    obtain ⟨xs, rfl, hl, p2⟩ := hk rs p1
    have rl := RRL.of r1
    refine ⟨by rw [rl.length]; exact hl, fun p hp => q _ _ (.own xs) (k1.trans (Kp.new hp)) (F.upd j1 hp j1) ⟨p, vs, rfl, k1.free s.j j1 hp, upd_same, rl.mono fun a vs' e => ?_⟩ p2⟩
    rw [upd_ne (ne_of_none e hp)]
    exact e
theorem ev_lst {t : TA} {rs : List SV} (xs : List D) (h : EvA F t ds (· = rs)) (e : rs = xs.map .d := by rfl) (hl : xs.length ≤ sizeLine := by first | (simp only [List.length_cons, List.length_nil]; decide) | decide) : Ev F (tLst t) ds (· = .own xs) :=
  ev_lstG h fun _ e' => ⟨xs, e'.trans e, hl, rfl⟩
theorem ev_cbG {r : List V → Hp → VK → Prop} {t : TA} {ρ : List SV → Prop} (h : EvA F t ds ρ) (hr : ∀ as, ρ as → RCl F r as φ) : Ev F (tCB r t) ds φ := fun H0 P σ H s Q q =>
  h H0 P σ H s _ fun vs H1 as k1 j1 r1 p1 => hr as p1 H H1 vs Q s.j j1 k1 r1 fun v H2 z k2 j2 r2 p2 => q v H2 z (k1.trans k2) j2 r2 p2
theorem ev_call_b {r : List V → Hp → VK → Prop} {t : TA} {as : List SV} (h : EvA F t ds (· = as)) (hr : RCl F r as φ) : Ev F (tCB r t) ds φ := ev_cbG h fun _ e => by
  rw [e]
  exact hr
end

/-! ### promises by data -/
/-- the arguments as (data, lists that are there), Pre of them; Post of them and the result -/
def spD (F : Fm) (Pre : List SV → Prop) (Post : List SV → SV → Prop) : Sp := fun vs H Q _ => ∃ as, RRL F H H vs as ∧ F.J H ∧ Pre as ∧ ∀ v H' r, Kp F H H' → F.J H' → RRep F H H' v r → Post as r → Q v H'
def SV.arg : SV → SV
  | .own xs => .bor xs
  | r => r
def SV.noB : SV → Prop
  | .bor _ => False
  | _ => True
theorem RRL.args {F : Fm} {H H2 : Hp} (j : F.J H) : ∀ {vs : List V} {rs : List SV}, RRL F H H2 vs rs → RRL F H2 H2 vs (rs.map SV.arg)
  | _, _, .nil => .nil
  | _, _, .cons (r := r) h t => .cons (by
    cases r with
    | d x => exact h
    | own xs =>
      obtain ⟨p, vs, h1, h2, h3, h4⟩ := h
      exact ⟨p, vs, h1, F.newS j h2, h3, h4⟩
    | bor xs => exact h) (RRL.args j t)
theorem RRL.toPure {F : Fm} {H H2 : Hp} : ∀ {vs : List V} {rs : List SV}, RRL F H H2 vs rs → RRL Fm.pure H H2 vs rs
  | _, _, .nil => .nil
  | _, _, .cons (r := r) h t => .cons (by
    cases r with
    | d x => exact h
    | own xs => exact h
    | bor xs =>
      obtain ⟨p, vs, h1, h2, h3, h4⟩ := h
      exact ⟨p, vs, h1, fun z => z, h3, h4⟩) (RRL.toPure t)
section
variable {F : Fm} {ds : Ds} {φ : SV → Prop} {t : TA} {ρ : List SV → Prop} {Pre : List SV → Prop} {Post : List SV → SV → Prop} {E : XK}
/-- a call of a def that changes nothing -/
theorem ev_callP (h : EvA F t ds ρ) (hp : ∀ as, ρ as → Pre (as.map SV.arg) ∧ ∀ r, Post (as.map SV.arg) r → φ r ∧ r.noB) : Ev F (tCall (spD Fm.pure Pre Post) [] E t) ds φ := fun H0 P σ H s Q q =>
  h H0 P σ H s _ fun vs H1 as k1 j1 r1 p1 => by
    rw [List.append_nil]
    refine ⟨as.map SV.arg, (r1.args s.j).toPure, trivial, (hp as p1).1, fun v H2 r k2 _ r2 p2 => ?_⟩
    have sm := k2.pure_same
    obtain ⟨p3, nb⟩ := (hp as p1).2 r p2
    refine q v H2 r (k1.trans (Kp.same sm)) (F.same j1 sm) ?_ p3
    cases r with
    | d x => exact r2
    | own xs =>
      obtain ⟨p, vs, h1, h2, h3, h4⟩ := r2
      exact ⟨p, vs, h1, k1.free s.j j1 h2, h3, h4⟩
    | bor xs => exact nb.elim
/-- a call of a def with the same frame -/
theorem ev_callF (h : EvA F t ds ρ) (hp : ∀ as, ρ as → Pre (as.map SV.arg) ∧ ∀ r, Post (as.map SV.arg) r → φ r) : Ev F (tCall (spD F Pre Post) [] E t) ds φ := fun H0 P σ H s Q q =>
  h H0 P σ H s _ fun vs H1 as k1 j1 r1 p1 => by
    rw [List.append_nil]
    exact ⟨as.map SV.arg, r1.args s.j, j1, (hp as p1).1, fun v H2 r k2 j2 r2 p2 => q v H2 r (k1.trans k2) j2 (r2.back k1 s.j j1) ((hp as p1).2 r p2)⟩
theorem ev_fn {as : List SV} {r : SV} (h : EvA F t ds (· = as)) (hp : Pre (as.map SV.arg)) (hq : ∀ z, Post (as.map SV.arg) z → z = r) (nb : r.noB := by trivial) : Ev F (tCall (spD Fm.pure Pre Post) [] E t) ds (· = r) :=
  ev_callP h fun _ e => by
    subst e
    exact ⟨hp, fun z p => ⟨hq z p, by rw [hq z p]; exact nb⟩⟩
end

/-! ### a def by its body's data -/
def sta (n : Nat) (as : List SV) : Ds := as.map some ++ List.replicate (n - as.length) none
theorem ste_start {F : Fm} {H : Hp} {N : List Str} {vs : List V} {as : List SV} (r : RRL F H H vs as) (j : F.J H) : ∃ P, Ste F H P (L2.start N vs) H (sta N.length as) := by
  have key : ∀ {vs : List V} {as : List SV}, RRL F H H vs as → ∃ P : List Pn, (∀ q ∈ P, PinOk F H q) ∧ ∀ (i : Nat) sv, as[i]? = some sv → ∃ v, vs[i]? = some v ∧ SRep F H P H v sv ∧ sv.noB ∨ ∃ xs, sv = .bor xs ∧ ∃ p vs', vs[i]? = some (.ref p) ∧ Pn.lst p vs' xs ∈ P := by
    intro vs as r
    induction r with
    | nil => exact ⟨[], fun q h => (by cases h), fun i sv h => (by simp at h)⟩
    | @cons v r vs rs h t ih =>
      obtain ⟨P, h1, h2⟩ := ih
      cases r with
      | d x =>
        refine ⟨P, h1, fun i sv e => ?_⟩
        cases i with
        | zero =>
          simp at e
          subst e
          exact ⟨v, .inl ⟨rfl, h, trivial⟩⟩
        | succ i =>
          obtain ⟨w, hw⟩ := h2 i sv (by simpa using e)
          exact ⟨w, by simpa using hw⟩
      | own xs =>
        obtain ⟨p, ws, _, n, e, _⟩ := h
        rw [n] at e
        cases e
      | bor xs =>
        obtain ⟨p, ws, e1, e2, e3, e4⟩ := h
        refine ⟨Pn.lst p ws xs :: P, fun q hq => ?_, fun i sv e => ?_⟩
        · rcases List.mem_cons.mp hq with z | z
          · rw [z]
            exact ⟨e2, e3, e4⟩
          · exact h1 q z
        · cases i with
          | zero =>
            simp at e
            subst e
            exact ⟨v, .inr ⟨xs, rfl, p, ws, by rw [e1]; rfl, List.mem_cons_self⟩⟩
          | succ i =>
            obtain ⟨w, hw⟩ := h2 i sv (by simpa using e)
            refine ⟨w, ?_⟩
            rcases hw with ⟨a, b, c⟩ | ⟨ys, a, p', vs', b, c⟩
            · refine .inl ⟨by simpa using a, ?_, c⟩
              cases sv with
              | d x => exact b
              | own ys =>
                obtain ⟨p', vs', _, n, e', _⟩ := b
                rw [n] at e'
                cases e'
              | bor ys => exact c.elim
            · exact .inr ⟨ys, a, p', vs', by simpa using b, List.mem_cons_of_mem _ c⟩
  obtain ⟨P, h1, h2⟩ := key r
  have hl := r.length
  have at_ : ∀ (i : Nat) sv, (sta N.length as)[i]? = some (some sv) → as[i]? = some sv := fun i sv e => by
    unfold sta at e
    by_cases hi : i < as.length
    · rw [List.getElem?_append_left (by simpa using hi), List.getElem?_map] at e
      cases q : as[i]? with
      | none => rw [q] at e; cases e
      | some z => rw [q] at e; cases e; rfl
    · rw [List.getElem?_append_right (by simpa using hi), List.getElem?_replicate] at e
      split at e <;> cases e
  have st_ : ∀ (i : Nat) v, vs[i]? = some v → (L2.start N vs)[i]? = some (some v) := fun i v e => by
    unfold L2.start
    rw [List.getElem?_append_left (by simpa using (List.getElem?_eq_some_iff.mp e).1), List.getElem?_map, e]
    rfl
  refine ⟨P, j, Kp.refl F H, j, ?_, h1, fun i sv e => ?_, fun a b xs ys p e1 _ _ _ => ?_⟩
  · unfold L2.start sta
    rw [List.length_append, List.length_append, List.length_map, List.length_map, List.length_replicate, List.length_replicate, hl]
  · obtain ⟨v, hv⟩ := h2 i sv (at_ i sv e)
    rcases hv with ⟨a, b, _⟩ | ⟨xs, e', p, vs', b, c⟩
    · exact ⟨v, st_ i v a, b⟩
    · subst e'
      exact ⟨.ref p, st_ i _ b, p, vs', rfl, c⟩
  · obtain ⟨v, hv⟩ := h2 a _ (at_ a _ e1)
    rcases hv with ⟨_, b', _⟩ | ⟨zs, e', _⟩
    · obtain ⟨p', vs', _, n, e', _⟩ := b'
      rw [n] at e'
      cases e'
    · cases e'
/-- the reading of a def's body from its statement by data -/
theorem entry {F : Fm} {N : List Str} {Pre : List SV → Prop} {Post : List SV → SV → Prop} {vs : List V} {H : Hp} {Q : VK} {E : XK} {t : TS} (h : spD F Pre Post vs H Q E)
    (k : ∀ as, Pre as → as.length = vs.length → Sd F t (sta N.length as) (fun _ => Post as (.d .non)) (Post as)) : t { nx := fun _ H' => Q .non H', rt := Q } (L2.start N vs) H := by
  obtain ⟨as, r, j, pre, q⟩ := h
  obtain ⟨P, s⟩ := ste_start (N := N) r j
  refine k as pre r.length.symm H P _ H _ s (fun P' σ' H' ds' _ s' n => ?_) (fun v H' z a b c d => q v H' z a b c d)
  exact q .non H' (.d .non) s'.kp s'.j .non n

/-! ### statements -/
section
variable {F : Fm} {ds : Ds} {t u : TS} {N M : Ds → Prop} {R : SV → Prop} {te : TE} {φ : SV → Prop}
theorem sd_seq (h : Sd F t ds M R) (k : ∀ ds', M ds' → Sd F u ds' N R) : Sd F (tSeq t u) ds N R := fun H0 P σ H D s n r =>
  h H0 P σ H { D with nx := u D } s (fun P' σ' H' ds' e s' m => k ds' m H0 P' σ' H' D s' (fun P2 σ2 H2 ds2 e2 s2 m2 => n P2 σ2 H2 ds2 (fun q hq => e2 q (e q hq)) s2 m2) r) r
theorem sd_next (h : N ds) : Sd F tNext ds N R := fun H0 P σ H D s n _ => n P σ H ds (fun _ h => h) s h
theorem sd_set {i : Nat} (h : Ev F te ds φ) (k : ∀ r, φ r → r.noB ∧ N (ds.set i (some r))) : Sd F (tAsg te (gName i)) ds N R := fun H0 P σ H D s n _ =>
  h H0 P σ H s _ fun v H2 r k2 j2 r2 p2 => n P _ H2 _ (fun _ h => h) (s.set k2 j2 i r2 fun xs e => by have q := (k r p2).1; rw [e] at q; exact q) (k r p2).2
theorem sd_ret (h : Ev F te ds φ) (k : ∀ r, φ r → R r) : Sd F (tRet te) ds N R := fun H0 P σ H D s _ q =>
  h H0 P σ H s _ fun v H2 r k2 j2 r2 p2 => q v H2 r (s.kp.trans k2) j2 (r2.back s.kp s.j0 s.j) (k r p2)
theorem sd_if {c : TT} {ρ : Bool → Prop} (hc : EvT F c ds ρ) (ht : ρ true → Sd F t ds N R) (hu : ρ false → Sd F u ds N R) : Sd F (tIfS c t u) ds N R := fun H0 P σ H D s n r =>
  hc H0 P σ H s _ fun b H1 k1 j1 p1 => by
    cases b with
    | true =>
      rw [if_pos rfl]
      exact ht p1 H0 P σ H1 D (s.mono k1 j1) n r
    | false =>
      rw [if_neg Bool.false_ne_true]
      exact hu p1 H0 P σ H1 D (s.mono k1 j1) n r
theorem sd_ifF {c : TT} (hc : EvT F c ds (· = false)) (hu : Sd F u ds N R) : Sd F (tIfS c t u) ds N R := sd_if hc (fun e => nomatch e) fun _ => hu
theorem sd_ifT {c : TT} (hc : EvT F c ds (· = true)) (hu : Sd F t ds N R) : Sd F (tIfS c t u) ds N R := sd_if hc (fun _ => hu) fun e => nomatch e
theorem sd_drop (h : Ev F te ds φ) (k : N ds) : Sd F (tDrop te) ds N R := fun H0 P σ H D s n _ =>
  h H0 P σ H s _ fun v H2 r k2 j2 _ _ => n P σ H2 ds (fun _ h => h) (s.mono k2 j2) k
/-- a list of one's own is closed: read from here on -/
theorem sd_frz {i : Nat} {xs : List D} (e : ds[i]? = some (some (.own xs))) (h : Sd F t (ds.set i (some (.bor xs))) N R) : Sd F t ds N R := fun H0 P σ H D0 s n r => by
  obtain ⟨v, h1, p, vs, rfl, hn, h3, h4, h5⟩ := s.env i _ e
  have hi : i < ds.length := (List.getElem?_eq_some_iff.mp e).1
  have s1 : Ste F H0 (Pn.lst p vs xs :: P) σ H (ds.set i (some (.bor xs))) := by
    refine ⟨s.j0, s.kp, s.j, by rw [List.length_set]; exact s.len, fun q hq => ?_, fun a sv ea => ?_, fun a b ys zs p' e1 e2 e3 e4 => ?_⟩
    · rcases List.mem_cons.mp hq with z | z
      · rw [z]
        exact ⟨F.newS s.j0 hn, h3, h4⟩
      · exact s.pin q z
    · by_cases ha : i = a
      · subst ha
        rw [List.getElem?_set_self hi] at ea
        cases ea
        exact ⟨_, h1, p, vs, rfl, List.mem_cons_self⟩
      · rw [List.getElem?_set_ne ha] at ea
        obtain ⟨w, w1, w2⟩ := s.env a sv ea
        refine ⟨w, w1, ?_⟩
        cases sv with
        | d x => exact w2
        | own ys =>
          obtain ⟨p', vs', f1, f2, f3, f4, f5⟩ := w2
          refine ⟨p', vs', f1, f2, f3, f4, fun a1 a2 hm => ?_⟩
          rcases List.mem_cons.mp hm with z | z
          · cases z
            exact ha (s.dist i a xs ys p e ea h1 (by rw [w1, f1]))
          · exact f5 a1 a2 z
        | bor ys =>
          obtain ⟨p', vs', f1, f2⟩ := w2
          exact ⟨p', vs', f1, List.mem_cons_of_mem _ f2⟩
    · have na : ∀ {c : Nat} {ws : List D}, (ds.set i (some (.bor xs)))[c]? = some (some (.own ws)) → i ≠ c := fun {c ws} q z => by
        subst z
        rw [List.getElem?_set_self hi] at q
        cases q
      rw [List.getElem?_set_ne (na e1)] at e1
      rw [List.getElem?_set_ne (na e2)] at e2
      exact s.dist a b ys zs p' e1 e2 e3 e4
  exact h H0 _ σ H D0 s1 (fun P' σ' H' ds' a b c => n P' σ' H' ds' (fun q hq => a q (List.mem_cons_of_mem _ hq)) b c) r
/-- a list of one's own is changed -/
theorem Ste.put {H0 H : Hp} {P : List Pn} {σ : L2.St} {i : Nat} {p : Addr} {xs ys : List D} {ws : List V} (s : Ste F H0 P σ H ds) (e : ds[i]? = some (some (.own xs))) (h1 : σ[i]? = some (some (.ref p))) (hw : RepL H ws ys) :
    Ste F H0 P σ (upd H p (.lst ws)) (ds.set i (some (.own ys))) := by
  obtain ⟨v, h1', p', vs, rfl, hn, h3, h4, h5⟩ := s.env i _ e
  rw [h1] at h1'
  cases h1'
  have hi : i < ds.length := (List.getElem?_eq_some_iff.mp e).1
  have ts : TSm H (upd H p (.lst ws)) := TSm.upd fun vs' z => by rw [h3] at z; cases z
  refine ⟨s.j0, s.kp.mut hn, F.upd s.j0 hn s.j, by rw [List.length_set]; exact s.len, fun q hq => ?_, fun a sv ea => ?_, fun a b ys' zs p' e1 e2 e3 e4 => ?_⟩
  · have z := s.pin q hq
    cases q with
    | lst p' vs' xs' =>
      have ne : p' ≠ p := fun e => h5 vs' xs' (e ▸ hq)
      exact ⟨z.1, by rw [upd_ne ne]; exact z.2.1, z.2.2.mono ts⟩
    | tup a vs xs => exact ⟨ts _ _ z.1, z.2.mono ts⟩
  · by_cases ha : i = a
    · subst ha
      rw [List.getElem?_set_self hi] at ea
      cases ea
      exact ⟨_, h1, p, ws, rfl, hn, upd_same, hw.mono ts, h5⟩
    · rw [List.getElem?_set_ne ha] at ea
      obtain ⟨w, w1, w2⟩ := s.env a sv ea
      refine ⟨w, w1, ?_⟩
      cases sv with
      | d x => exact Rep.mono ts w2
      | own ys' =>
        obtain ⟨p', vs', f1, f2, f3, f4, f5⟩ := w2
        have ne : p' ≠ p := fun z => ha (s.dist i a xs ys' p e ea h1 (by rw [w1, f1, z]))
        exact ⟨p', vs', f1, f2, by rw [upd_ne ne]; exact f3, f4.mono ts, f5⟩
      | bor ys' => exact w2
  · have key : ∀ {c : Nat} {zs : List D}, (ds.set i (some (.own ys)))[c]? = some (some (.own zs)) → ∃ ws', ds[c]? = some (some (.own ws')) := fun {c zs} q => by
      by_cases hc : i = c
      · subst hc
        exact ⟨xs, e⟩
      · rw [List.getElem?_set_ne hc] at q
        exact ⟨zs, q⟩
    obtain ⟨a1, b1⟩ := key e1
    obtain ⟨a2, b2⟩ := key e2
    exact s.dist a b a1 a2 p' b1 b2 e3 e4
/-- xs.append(e), xs a slot's own list -/
theorem sd_append {K : PySem.W.Frag} {i : Nat} {xs : List D} (e : ds[i]? = some (some (.own xs))) (h : Ev F te ds φ) (hl : xs.length < sizeLine) (k : ∀ r, φ r → ∃ y, r = .d y ∧ N (ds.set i (some (.own (xs ++ [y]))))) :
    Sd F (tDrop (tBM K "list" rAppend (tVar i) (tCons te tNil))) ds N R := fun H0 P σ H D s n _ => by
  obtain ⟨v, h1, p, vs, rfl, hn, h3, h4, h5⟩ := s.env i _ e
  refine ⟨_, h1, .inl ⟨rfl, _, SqL.of h3⟩, ?_⟩
  refine h H0 P σ H s _ fun v H2 r k2 j2 r2 p2 => ?_
  obtain ⟨y, rfl, m⟩ := k r p2
  have s2 := s.mono k2 j2
  have h3' := k2 p _ (F.newS s.j0 hn) h3
  exact ⟨p, vs, v, rfl, rfl, h3', by rw [h4.length]; exact hl, n P σ _ _ (fun _ h => h) (s2.put e h1 ((h4.mono (k2.ts s.j)).append (.one r2))) m⟩
/-- xs.extend(e), e a new list -/
theorem sd_extend {K : PySem.W.Frag} {i : Nat} {xs : List D} (e : ds[i]? = some (some (.own xs))) (h : Ev F te ds φ) (k : ∀ r, φ r → ∃ ys, r = .own ys ∧ xs.length + ys.length ≤ sizeLine ∧ N (ds.set i (some (.own (xs ++ ys))))) :
    Sd F (tDrop (tBM K "list" rExtend (tVar i) (tCons te tNil))) ds N R := fun H0 P σ H D s n _ => by
  obtain ⟨v, h1, p, vs, rfl, hn, h3, h4, h5⟩ := s.env i _ e
  refine ⟨_, h1, .inl ⟨rfl, _, SqL.of h3⟩, ?_⟩
  refine h H0 P σ H s _ fun v H2 r k2 j2 r2 p2 => ?_
  obtain ⟨ys, rfl, hl, m⟩ := k r p2
  obtain ⟨q, ws, rfl, q1, q2, q3⟩ := r2
  have s2 := s.mono k2 j2
  have h3' := k2 p _ (F.newS s.j0 hn) h3
  exact ⟨p, q, vs, ws, rfl, rfl, h3', q2, by rw [h4.length, q3.length]; exact hl, n P σ _ _ (fun _ h => h) (s2.put e h1 ((h4.mono (k2.ts s.j)).append q3)) m⟩
theorem sd_never {h : False} : Sd F tNever ds N R := h.elim
end
end Wb
/-! WbC -/
set_option maxHeartbeats 4000000
namespace Wb
open PySem PySem.Spec PyProof.Rows L2

/-! ### targets -/
theorem wipe_in {σ : L2.St} {i : Nat} : ∀ {vs : List Nat}, i ∈ vs → (wipe σ vs)[i]? = if i < σ.length then some none else none
  | v :: vs, h => by
    unfold wipe
    by_cases e : v = i
    · subst e
      by_cases hl : v < σ.length
      · rw [List.getElem?_set_self (by rw [wipe_length]; exact hl), if_pos hl]
      · rw [List.getElem?_eq_none (by rw [List.length_set, wipe_length]; omega), if_neg hl]
    · rw [List.getElem?_set_ne e]
      rcases List.mem_cons.mp h with z | z
      · exact absurd z.symm e
      · exact wipe_in z
theorem wipe_eq {σ τ : L2.St} {vs : List Nat} (hl : τ.length = σ.length) (h : ∀ (i : Nat), i ∉ vs → τ[i]? = σ[i]?) : wipe τ vs = wipe σ vs := by
  apply List.ext_getElem?
  intro i
  by_cases hi : i ∈ vs
  · rw [wipe_in hi, wipe_in hi, hl]
  · rw [wipe_out hi, wipe_out hi, h i hi]
theorem wipe_wipe (σ : L2.St) (vs : List Nat) : wipe (wipe σ vs) vs = wipe σ vs := wipe_eq (wipe_length σ vs) fun _ hi => wipe_out hi
/-- the target g stores x: the slots is -/
def TgOk (g : TG) (is : List Nat) (ds : Ds) (x : D) (ds' : Ds) : Prop := ∀ (F : Fm) (H0 : Hp) (P : List Pn) (σ : L2.St) (H : Hp) (v : V) (Q : L2.St → Hp → Prop), Ste F H0 P σ H ds → Rep H v x →
  (∀ σ', Ste F H0 P σ' H ds' → σ'.length = σ.length → (∀ (i : Nat), i ∉ is → σ'[i]? = σ[i]?) → Q σ' H) → g v σ H Q
def TgsOk (g : TGs) (is : List Nat) (ds : Ds) (xs : List D) (ds' : Ds) : Prop := ∀ (F : Fm) (H0 : Hp) (P : List Pn) (σ : L2.St) (H : Hp) (vs : List V) (Q : L2.St → Hp → Prop), Ste F H0 P σ H ds → RepL H vs xs →
  (∀ σ', Ste F H0 P σ' H ds' → σ'.length = σ.length → (∀ (i : Nat), i ∉ is → σ'[i]? = σ[i]?) → Q σ' H) → g vs σ H Q
theorem tg_nm {i : Nat} {ds : Ds} {x : D} : TgOk (gName i) [i] ds x (ds.set i (some (.d x))) := fun F H0 P σ H v Q s r q =>
  q _ (s.setD i r) (List.length_set ..) fun j hj => List.getElem?_set_ne fun e => hj (by rw [e]; exact List.mem_singleton.mpr rfl)
theorem tgs_nil {ds : Ds} : TgsOk gNil [] ds [] ds := fun F H0 P σ H vs Q s r q => by
  cases r
  exact ⟨rfl, q σ s rfl fun _ _ => rfl⟩
theorem tgs_cons {g : TG} {gs : TGs} {is js : List Nat} {ds ds1 ds2 : Ds} {x : D} {xs : List D} (h1 : TgOk g is ds x ds1) (h2 : TgsOk gs js ds1 xs ds2) : TgsOk (gCons g gs) (is ++ js) ds (x :: xs) ds2 := fun F H0 P σ H vs Q s r q => by
  cases r with
  | @cons v _ vs' _ r1 r2 =>
    refine ⟨v, vs', rfl, h1 F H0 P σ H v _ s r1 fun σ1 s1 l1 e1 => h2 F H0 P σ1 H vs' Q s1 r2 fun σ2 s2 l2 e2 => q σ2 s2 (l2.trans l1) fun i hi => ?_⟩
    rw [e2 i fun z => hi (List.mem_append_right _ z), e1 i fun z => hi (List.mem_append_left _ z)]
theorem tg_tup {K : PySem.W.Frag} {n : Nat} {gs : TGs} {is : List Nat} {ds ds' : Ds} {xs : List D} (h : TgsOk gs is ds xs ds') (hl : xs.length = n := by rfl) : TgOk (gTup K n gs) is ds (.tup xs) ds' := fun F H0 P σ H v Q s r q => by
  cases r with
  | @tup a vs _ ha hr => exact ⟨a, vs, rfl, .inl (.inl ha), hr.length.trans hl, h F H0 P σ H vs Q s hr q⟩

/-! ### what is walked -/
def SrcOk (F : Fm) (J : It) (n : Nat) (pn : List Pn) (f : Nat → Option D) : Prop := ∃ G Y, Walk J n G Y ∧ (∀ H, F.J H → (∀ q ∈ pn, PinOk F H q) → G H) ∧
  (∀ i H x H', i < n → F.J H → (∀ q ∈ pn, PinOk F H q) → Y i H x H' → ∃ d, f i = some d ∧ Rep H' x d ∧ (H' = H ∨ ∃ p o, H p = none ∧ H' = upd H p o))
def EvI (F : Fm) (wi : TI) (ds : Ds) (φ : List D → Prop) : Prop := ∀ (H0 : Hp) (P : List Pn) (σ : L2.St) (H : Hp), Ste F H0 P σ H ds →
  ∀ R : It → Hp → Prop, (∀ J H1 pn xs, Kp F H H1 → F.J H1 → (∀ q ∈ pn, PinOk F H1 q) → (∀ q ∈ pn, q ∈ P ∨ ∀ p vs zs, q = Pn.lst p vs zs → H p = none) → SrcOk F J xs.length pn (fun i => xs[i]?) → φ xs → R J H1) → wi σ H R
section
variable {F : Fm} {ds : Ds} {te : TE} {ta : TA} {K : PySem.W.Frag} {φ : List D → Prop}
theorem EvI.imp {wi : TI} {ψ : List D → Prop} (h : EvI F wi ds φ) (k : ∀ xs, φ xs → ψ xs) : EvI F wi ds ψ := fun H0 P σ H s R q => h H0 P σ H s R fun J H1 pn xs a b c d e f => q J H1 pn xs a b c d e (k xs f)
theorem src_tupG (h : Ev F te ds fun r => ∃ xs, r = .d (.tup xs) ∧ φ xs) : EvI F (iTup K te) ds φ := fun H0 P σ H s R q => h H0 P σ H s _ fun v H1 r k j rr ⟨xs, e, p⟩ => by
  subst e
  cases rr with
  | @tup a vs _ ha hr =>
    have hl := hr.length
    refine ⟨a, rfl, ⟨vs, .inl (.inl ha)⟩, q _ H1 [.tup a vs xs] xs k j (fun q hq => ?_) (fun q hq => .inr fun p vs' zs e => ?_) ⟨fun H => SqT K H a vs, YAt vs, ?_, fun H2 _ hp => ?_, fun i H2 x H3 hi _ hp y => ?_⟩ p⟩
    · rw [List.mem_singleton.mp hq]
      exact ⟨ha, hr⟩
    · rw [List.mem_singleton.mp hq] at e
      cases e
    · rw [← hl]
      exact walk_tup
    · exact .inl (.inl (hp _ (List.mem_singleton.mpr rfl)).1)
    · obtain ⟨e, y⟩ := y
      subst e
      obtain ⟨d, h1, h2⟩ := (hp _ (List.mem_singleton.mpr rfl)).2.getV y
      exact ⟨d, h1, h2, .inl rfl⟩
theorem src_tup {xs : List D} (h : Ev F te ds (· = .d (.tup xs))) : EvI F (iTup K te) ds (· = xs) := src_tupG (h.imp fun _ e => ⟨xs, e, rfl⟩)
theorem src_listG (h : Ev F te ds fun r => ∃ xs, r = .own xs ∧ φ xs) : EvI F (iList K te) ds φ := fun H0 P σ H s R q => h H0 P σ H s _ fun v H1 r k j rr ⟨xs, e, p⟩ => by
  subst e
  obtain ⟨a, vs, rfl, hn, ha, hr⟩ := rr
  have hl := hr.length
  refine ⟨a, rfl, ⟨vs, SqL.of ha⟩, q _ H1 [.lst a vs xs] xs k j (fun q hq => ?_) (fun q hq => .inr fun p vs' zs e => ?_) ⟨fun H => SqL K H a vs, YAt vs, ?_, fun H2 _ hp => ?_, fun i H2 x H3 hi _ hp y => ?_⟩ p⟩
  · rw [List.mem_singleton.mp hq]
    exact ⟨F.newS s.j hn, ha, hr⟩
  · rw [List.mem_singleton.mp hq] at e
    cases e
    exact hn
  · rw [← hl]
    exact walk_list
  · exact SqL.of (hp _ (List.mem_singleton.mpr rfl)).2.1
  · obtain ⟨e, y⟩ := y
    subst e
    obtain ⟨d, h1, h2⟩ := (hp _ (List.mem_singleton.mpr rfl)).2.2.getV y
    exact ⟨d, h1, h2, .inl rfl⟩
theorem src_list {xs : List D} (h : Ev F te ds (· = .own xs)) : EvI F (iList K te) ds (· = xs) := src_listG (h.imp fun _ e => ⟨xs, e, rfl⟩)
/-- a slot's list, closed -/
theorem src_slot {i : Nat} {xs : List D} (e : ds[i]? = some (some (.bor xs)) := by rfl) : EvI F (iList K (tVar i)) ds (· = xs) := fun H0 P σ H s R q => by
  obtain ⟨v, h1, a, vs, rfl, hm⟩ := s.env i _ e
  obtain ⟨hS, ha, hr⟩ := s.pin _ hm
  have hl := hr.length
  refine ⟨_, h1, a, rfl, ⟨vs, SqL.of ha⟩, q _ H [.lst a vs xs] xs (Kp.refl F H) s.j (fun q hq => ?_) (fun q hq => .inl ?_) ⟨fun H => SqL K H a vs, YAt vs, ?_, fun H2 _ hp => ?_, fun i H2 x H3 hi _ hp y => ?_⟩ rfl⟩
  · rw [List.mem_singleton.mp hq]
    exact ⟨hS, ha, hr⟩
  · rw [List.mem_singleton.mp hq]
    exact hm
  · rw [← hl]
    exact walk_list
  · exact SqL.of (hp _ (List.mem_singleton.mpr rfl)).2.1
  · obtain ⟨e, y⟩ := y
    subst e
    obtain ⟨d, h1, h2⟩ := (hp _ (List.mem_singleton.mpr rfl)).2.2.getV y
    exact ⟨d, h1, h2, .inl rfl⟩
/-- the intsD lo, lo + 1, .. -/
def intsD (lo : Int) (n : Nat) : List D := (List.range n).map fun (i : Nat) => .int (lo + (i : Int))
theorem ints_len (lo : Int) (n : Nat) : (intsD lo n).length = n := by
  unfold intsD
  rw [List.length_map, List.length_range]
theorem ints_at {lo : Int} {n i : Nat} (h : i < n) : (intsD lo n)[i]? = some (.int (lo + i)) := by
  unfold intsD
  rw [List.getElem?_map, List.getElem?_range h]
  rfl
theorem src_of_range {lo : Int} {n : Nat} : SrcOk F (Itr lo n) (intsD lo n).length [] (fun i => (intsD lo n)[i]?) := by
  refine ⟨fun _ => True, YFn fun (i : Nat) => .int (lo + (i : Int)), ?_, fun _ _ _ => trivial, fun i H2 x H3 hi _ hp y => ?_⟩
  · rw [ints_len]
    exact walk_range
  · rw [ints_len] at hi
    obtain ⟨e, y⟩ := y
    subst e
    subst y
    exact ⟨_, ints_at hi, .int _, .inl rfl⟩
theorem src_rng1 {n : Int} (h : EvA F ta ds (· = [.d (.int n)])) (h1 : -(2 ^ 62) ≤ n ∧ n < 2 ^ 62) : EvI F (iRng1 ta) ds (· = intsD 0 n.toNat) := fun H0 P σ H s R q => h H0 P σ H s _ fun vs H1 rs k j rr e => by
  subst e
  cases rr with
  | cons r t =>
    cases t
    cases r
    exact ⟨n, rfl, h1.1, h1.2, q _ H1 [] _ k j (fun _ h => nomatch h) (fun _ h => nomatch h) src_of_range rfl⟩
theorem src_rng2 {m n : Int} (h : EvA F ta ds (· = [.d (.int m), .d (.int n)])) (h1 : -(2 ^ 62) ≤ m ∧ m < 2 ^ 62 ∧ -(2 ^ 62) ≤ n ∧ n < 2 ^ 62) : EvI F (iRng2 ta) ds (· = intsD m (n - m).toNat) := fun H0 P σ H s R q => h H0 P σ H s _ fun vs H1 rs k j rr e => by
  subst e
  cases rr with
  | cons r t =>
    cases r
    cases t with
    | cons r t =>
      cases r
      cases t
      exact ⟨m, n, rfl, h1, q _ H1 [] _ k j (fun _ h => nomatch h) (fun _ h => nomatch h) src_of_range rfl⟩
/-- zip of two tuples -/
theorem src_zip {xs ys : List D} (h : EvA F ta ds (· = [.d (.tup xs), .d (.tup ys)])) : EvI F (RZ.iZipA K ta) ds (· = List.zipWith (fun x y => .tup [x, y]) xs ys) := fun H0 P σ H s R q => h H0 P σ H s _ fun vs H1 rs k j rr e => by
  subst e
  cases rr with
  | cons r t =>
    cases t with
    | cons r2 t =>
      cases t
      cases r with
      | @tup a us _ ha hr =>
        cases r2 with
        | @tup b ws _ hb hs =>
          have l1 := hr.length
          have l2 := hs.length
          refine ⟨a, b, us, ws, rfl, .inr ⟨.inl (.inl ha), .inl (.inl hb), q _ H1 [.tup a us xs, .tup b ws ys] _ k j (fun q hq => ?_) (fun q hq => .inr fun p vs' zs e => ?_) ⟨fun H => SqT K H a us ∧ SqT K H b ws, YPair (fun i => us[i]?) (fun i => ws[i]?), ?_, fun H2 _ hp => ?_, fun i H2 x H3 hi _ hp y => ?_⟩ rfl⟩⟩
          · rcases List.mem_cons.mp hq with z | z
            · rw [z]
              exact ⟨ha, hr⟩
            · rw [List.mem_singleton.mp z]
              exact ⟨hb, hs⟩
          · rcases List.mem_cons.mp hq with z | z
            · rw [z] at e
              cases e
            · rw [List.mem_singleton.mp z] at e
              cases e
          · rw [List.length_zipWith, ← l1, ← l2]
            refine ⟨fun i _ hi q => ?_, fun _ q => ⟨us, ws, q.1, q.2, by omega⟩, fun i H v H' _ q y => ?_⟩
            · have h1 : i < us.length := by omega
              have h2 : i < ws.length := by omega
              exact ⟨us, ws, us[i], ws[i], q.1, q.2, by simp [h1], by simp [h2]⟩
            · obtain ⟨T, x, z, h1, h2, h3, h4, h5⟩ := y
              exact ⟨T, x, z, h1, h2, h3, h4 us q.1, h5 ws q.2⟩
          · exact ⟨.inl (.inl (hp _ List.mem_cons_self).1), .inl (.inl (hp _ (List.mem_cons_of_mem _ (List.mem_singleton.mpr rfl))).1)⟩
          · obtain ⟨T, x1, x2, rfl, hT, rfl, e1, e2⟩ := y
            obtain ⟨d1, f1, g1⟩ := (hp _ List.mem_cons_self).2.getV e1
            obtain ⟨d2, f2, g2⟩ := (hp _ (List.mem_cons_of_mem _ (List.mem_singleton.mpr rfl))).2.getV e2
            have ts : TSm H2 (upd H2 T (.tup [x1, x2])) := TSm.upd fun vs' z => by rw [hT] at z; cases z
            refine ⟨.tup [d1, d2], ?_, .tup upd_same (.cons (g1.mono ts) (.one (g2.mono ts))), .inr ⟨T, _, hT, rfl⟩⟩
            show (List.zipWith _ xs ys)[i]? = _
            rw [List.getElem?_zipWith, f1, f2]
end
end Wb
/-! WbE -/
set_option maxHeartbeats 4000000
/-! enumerate(tuple) -/
namespace PySem
open Sem (wp)
open AutoSeq1 (wpAny_loadPart')
theorem wb_enumerate_newT (l : Addr) (items : Array Value) (n : Nat) (dct : Option Addr) (sl : Array (Option Value)) :
    Meets (Builtin.«enumerate.__new__» ⟨[.type "enumerate", .ref l], []⟩) (fun _ R s => s.heap.get? l = some { cls := .type "tuple", dict := dct, data := .seq items n, slots := sl } ∧
      R (.ok (.ret (.ref (s.heap.push { cls := .type "tuple_iterator", data := .fields #[.ref l, .int 0 0] }).objs.size)))
        { s with heap := (s.heap.push { cls := .type "tuple_iterator", data := .fields #[.ref l, .int 0 0] }).push { cls := .type "enumerate", data := .fields #[.none, .bool false, .ref s.heap.objs.size, rawInt 0, .none, .none] } }) :=
  .of_wp fun prog w A R s h => by
    obtain ⟨hp, g, d, tk, os⟩ := s; obtain ⟨hl, h⟩ := h
    have hsub := sub_enumerate
    have hL : Heap.IsTuple (Shared.heap ⟨hp, g, d, tk, os⟩) l items := ⟨_, hl, rfl, n, rfl⟩
    wp_walk using wpAny_loadPart' hl
    refine wpAny_stack_any fun st => wpAny_pure ?_
    split
    · rename_i c _ _ _ _ _
      cases (c == Value.type "enumerate")
      · wp_walk using wpAny_loadPart' hl, wpAny_pyIter_tuple hL
        exact ⟨_, rfl, h⟩
      · wp_walk using wpAny_loadPart' hl, wpAny_pyIter_tuple hL
        exact ⟨_, rfl, h⟩
    · wp_walk using wpAny_loadPart' hl, wpAny_pyIter_tuple hL
      exact ⟨_, rfl, h⟩
section
variable {prog : Program} {w : World} {A : Around} {E : Value → Shared → Prop} {s : Shared}
theorem wb_call_enumerate_tup {l : Addr} {items : Array Value} {Q : Value → Shared → Prop} (hL : s.heap.IsTuple l items)
    (h : ∀ h', IsEnum h' (s.heap.objs.size + 1) s.heap.objs.size 0 .none → h'.IsTupleIter s.heap.objs.size l 0 → h'.objs.size = s.heap.objs.size + 2 →
      (∀ b o, s.heap.get? b = some o → h'.get? b = some o) → Q (.ref (s.heap.objs.size + 1)) { s with heap := h' }) :
    wpAny (model prog w) A (call (.type "enumerate") [.ref l]) Q E s := by
  obtain ⟨⟨c, dct, dt, sl⟩, hl, hc, n, hd⟩ := hL
  replace hc : c = .type "tuple" := hc
  replace hd : dt = .seq items n := hd
  subst hc hd
  refine callType_new F.called_enumerate (by decide) (F.typeCall_enumerate_1 _) (F.newCall_enumerate_1 _) (fun obj => F.args_object_init_2 obj _) F.entry_enumerate_new
    (wb_enumerate_newT l items n dct sl) ⟨hl, ?_⟩
  have hz : (s.heap.push { cls := .type "tuple_iterator", data := .fields #[.ref l, .int 0 0] }).objs.size = s.heap.objs.size + 1 := Heap.size_push ..
  show _ ∧ _
  rw [hz]
  have he : IsEnum ((s.heap.push { cls := .type "tuple_iterator", data := .fields #[.ref l, .int 0 0] }).push
      { cls := .type "enumerate", data := .fields #[.none, .bool false, .ref s.heap.objs.size, rawInt 0, .none, .none] }) (s.heap.objs.size + 1) s.heap.objs.size 0 .none := by
    have := Heap.get?_push_size (s.heap.push { cls := .type "tuple_iterator", data := .fields #[.ref l, .int 0 0] })
      (o := { cls := .type "enumerate", data := .fields #[.none, .bool false, .ref s.heap.objs.size, rawInt 0, .none, .none] }) rfl
    rw [hz] at this; exact this
  refine ⟨⟨_, he, rfl⟩, h _ he ⟨_, Heap.get?_push_of_some _ (Heap.get?_push_size _ rfl), rfl, rfl⟩ (by rw [Heap.size_push, hz]) fun b o x => Heap.get?_push_of_some _ (Heap.get?_push_of_some _ x)⟩
end
end PySem
namespace Wb
open PySem PySem.Spec PyProof.Rows L2
/-- the tuple at a as it stands, each item in a new pair with its number -/
def IteT (K : PySem.W.Frag) (a : Addr) : It :=
  ⟨fun i H => ∃ (xs : List V) (x : V), SqT K H a xs ∧ xs[i]? = some x,
    fun i H v H' => ∃ T x, v = .ref T ∧ H T = none ∧ H' = upd H T (.tup [.int (i : Nat), x]) ∧ ∀ xs, SqT K H a xs → xs[i]? = some x,
    fun i H => ∃ xs : List V, SqT K H a xs ∧ xs.length = i⟩
theorem turn_enumT {P : Program} {w : World} {K : PySem.W.Frag} {elts : List Expr} {kk : Nat} {tpos : Pos} (a e it : Addr) (hai : a ≠ it) (hae : a ≠ e) :
    Turn P w K (.Tuple elts kk tpos) (IteT K a) [e, it] e (fun i h => (∃ old, IsEnum h e it ((i : Nat) : Int) old) ∧ h.IsTupleIter it a i ∧ e ≠ it) where
  mem := by simp
  obj := fun i h st b hb => by
    obtain ⟨⟨old, he⟩, ⟨o, ho, hc, hd⟩, _⟩ := st
    have e' : b = e ∨ b = it := by simpa using hb
    rcases e' with z | z
    · rw [z]; exact ⟨_, he, fun v q => nomatch q⟩
    · rw [z]; exact ⟨o, ho, fun v q => by rw [hd] at q; cases q⟩
  keep := fun i h h' st k => let ⟨⟨old, he⟩, hi, hne⟩ := st; ⟨⟨old, k e (by simp) _ he⟩, hi.at fun o q => k it (by simp) o q, hne⟩
  item := by
    intro X hP hw hK hc i pins s σ H E I hf st hg
    subst hP hw hK
    obtain ⟨⟨old, he⟩, hit, hne⟩ := st
    obtain ⟨xs, x, hq, hx⟩ := hg
    obtain ⟨its, rv, p, hz⟩ := I.tuple hq
    obtain ⟨u, hu, ru⟩ := rv.get hx
    have hel : e < s.heap.objs.size := Heap.lt_size he
    have hil : it < s.heap.objs.size := by obtain ⟨_, q, _⟩ := hit; exact Heap.lt_size q
    have hilt : i < its.toArray.size := by
      have := (List.getElem?_eq_some_iff.mp hu).1
      simpa using this
    have hea : e ∉ [it, a] := fun z => by
      rcases List.mem_cons.mp z with z | z
      · exact hne z
      · exact hae (List.mem_singleton.mp z).symm
    have hh : X.A.in1.handled = none := I.ok.hd hc
    refine wpAny_pyNext_enum_itemD (Draws.tuple (prog := X.prog) (w := X.w) hh it a hai its.toArray) he ⟨hit, p⟩ hilt hne hea fun u' h' tk hu' ho hit' hT hsz hk => ?_
    have eu : u' = u := by
      have q : its.toArray[i]? = some u' := hu'
      have q2 : its.toArray[i]? = some u := by simpa using hu
      rw [q2] at q
      exact (Option.some.inj q).symm
    subst eu
    refine ⟨_, rfl, wpAny_letOwnedTupleGo_enum (s := { s with heap := h', toks := tk + 1 }) ho fun h'' he' sb => ?_⟩
    have hT2 : h''.get? s.heap.objs.size = some { cls := .type "tuple", data := .seq #[.int i tk, u'] } := (sb.2 _ (Nat.ne_of_gt hel)).trans hT
    have new : ObjOk X.prog X.w (upd H s.heap.objs.size (.tup [.int (i : Nat), x])) h'' s.heap.objs.size (.tup [.int (i : Nat), x]) :=
      ⟨by show 2 ≤ sizeLine; decide, [.int i tk, u'], .cons ⟨_, rfl⟩ (.cons ru .nil), ⟨_, hT2, rfl, _, rfl⟩⟩
    have I1 : Inv X pins σ (upd H s.heap.objs.size (.tup [.int (i : Nat), x])) { s with heap := h'', toks := tk + 1 } :=
      I.turnedNew (ch := [e, it]) (fun b ob hb q => (sb.2 b (fun z => hb (by simp [z]))).trans (hk b ob (fun z => hb (by simp [z])) (fun z => hb (by simp [z])) q)) hf (Nat.le_refl _) new
    refine ⟨.ref s.heap.objs.size, _, I1, rfl, ⟨_, x, rfl, I.hok.fresh (Nat.le_refl _), rfl, fun ys hy => by rw [I.tuple_inj hy hq]; exact hx⟩, ⟨⟨u', ?_⟩, hit'.1.at fun o q => (sb.2 it (Ne.symm hne)).trans q, hne⟩, fun b hb => ?_⟩
    · have e1 : ((i + 1 : Nat) : Int) = (i : Int) + 1 := by omega
      rw [e1]; exact he'
    · have hb' : b < s.heap.objs.size := by
        have e' : b = e ∨ b = it := by simpa using hb
        rcases e' with z | z
        · rw [z]; exact hel
        · rw [z]; exact hil
      rw [upd_ne (Nat.ne_of_lt hb')]
      exact (hf b hb).1
  done := by
    intro X hP hw hK hc i pins s σ H E I hf st hg
    subst hP hw hK
    obtain ⟨⟨old, he⟩, hit, hne⟩ := st
    obtain ⟨xs, hq, hx⟩ := hg
    obtain ⟨its, rv, p, hz⟩ := I.tuple hq
    obtain ⟨f0, f1, f2, f3, f4, f5⟩ := hf it (by simp)
    have hl := rv.length
    have hh : X.A.in1.handled = none := I.ok.hd hc
    have hi : i = its.toArray.size := by simp; omega
    subst hi
    exact wpAny_pyNext_enum_endD (Draws.tuple (prog := X.prog) (w := X.w) hh it a hai its.toArray) he ⟨hit, p⟩ fun h' eb => ⟨rfl, I.turned (t' := s.toks) (fun b o hb q => eb b o hb q) f0 f1 f3 f4 f5⟩
  self := fun A i s Q E st h => let ⟨⟨_, he⟩, _⟩ := st; wpAny_pyIter_enum he h
def iEnumT (K : PySem.W.Frag) (ta : TA) : TI := fun σ H R => ta σ H fun vs H1 => ∃ a xs, vs = [.ref a] ∧ SqT K H1 a xs ∧ R (IteT K a) H1
theorem pi_enumT {X : Cx} {e : Expr} {ta : TA} {p pos tpos : Pos} {elts : List Expr} {kk : Nat} (hg : Gl X "enumerate") (hm : X.mg "enumerate" = none) (ha : PA X [e] ta) (hs : starEach [e] X.env = [(false, eval e X.env)] := by rfl) :
    PI X (.Tuple elts kk tpos) (.Call (.Name "enumerate" p) [e] [] pos) (iEnumT X.K ta) := by
  refine ⟨fun pins s σ H R I h => ?_⟩
  refine Call_ (ld_blt I hg hm boot_enumerate (PyProof.Rows.callWith_type1 (thn (ha.run pos pins s σ H _ I h) fun us s1 ⟨vs, H1, I1, r1, q1⟩ => ?_) hs rfl))
  obtain ⟨a, xs, ex, hq, q⟩ := q1
  subst ex
  cases r1 with
  | cons r rr =>
    cases rr
    cases r
    obtain ⟨its, rv, p', hz⟩ := I1.tuple hq
    have hlt : a < s1.heap.objs.size := by
      obtain ⟨o, ho, _⟩ := p'
      exact Heap.lt_size ho
    refine wb_call_enumerate_tup p' fun h' he hit hsz hk => wpAny_pyIter_enum he ?_
    have I2 : Inv X pins σ H1 { s1 with heap := h' } := I1.kept (t' := s1.toks) hk
    refine ⟨s1.heap.objs.size + 1, [s1.heap.objs.size + 1, s1.heap.objs.size], _, _, H1, rfl, I2, turn_enumT a (s1.heap.objs.size + 1) s1.heap.objs.size (Nat.ne_of_lt hlt) (Nat.ne_of_lt (Nat.lt_succ_of_lt hlt)), ⟨⟨.none, he⟩, hit, Nat.succ_ne_self _⟩, fun b hb => ?_, q⟩
    have e' : b = s1.heap.objs.size + 1 ∨ b = s1.heap.objs.size := by simpa using hb
    have hle : s1.heap.objs.size ≤ b := by
      rcases e' with z | z
      · rw [z]; exact Nat.le_add_right _ _
      · rw [z]; exact Nat.le_refl _
    exact I1.fpOk hle (I1.hok.fresh hle)
/-- the pairs of the numbers from k on and the items -/
def numd : Nat → List D → List D
  | _, [] => []
  | k, x :: xs => .tup [.int k, x] :: numd (k + 1) xs
theorem numd_len : ∀ (xs : List D) (k : Nat), (numd k xs).length = xs.length
  | [], _ => rfl
  | _ :: xs, k => congrArg Nat.succ (numd_len xs (k + 1))
theorem numd_at : ∀ (xs : List D) (k i : Nat), (numd k xs)[i]? = xs[i]?.map fun x => .tup [.int ((k + i : Nat) : Int), x]
  | [], _, _ => rfl
  | x :: xs, k, 0 => rfl
  | x :: xs, k, i + 1 => by
    show (numd (k + 1) xs)[i]? = xs[i]?.map _
    rw [numd_at xs (k + 1) i, show k + 1 + i = k + (i + 1) by omega]
theorem src_enum {F : Fm} {ds : Ds} {ta : TA} {K : PySem.W.Frag} {xs : List D} (h : EvA F ta ds (· = [.d (.tup xs)])) : EvI F (iEnumT K ta) ds (· = numd 0 xs) := fun H0 P σ H s R q => h H0 P σ H s _ fun vs H1 rs k j rr e => by
  subst e
  cases rr with
  | cons r t =>
    cases t
    cases r with
    | @tup a us _ ha hr =>
      have l1 := hr.length
      refine ⟨a, us, rfl, .inl (.inl ha), q _ H1 [.tup a us xs] _ k j (fun q hq => ?_) (fun q hq => .inr fun p vs' zs e => ?_) ⟨fun H => SqT K H a us, YPair (fun i => some (.int (i : Nat))) (fun i => us[i]?), ?_, fun H2 _ hp => ?_, fun i H2 x H3 hi _ hp y => ?_⟩ rfl⟩
      · rw [List.mem_singleton.mp hq]
        exact ⟨ha, hr⟩
      · rw [List.mem_singleton.mp hq] at e
        cases e
      · rw [numd_len, ← l1]
        refine ⟨fun i _ hi q => ⟨us, us[i], q, by simp [hi]⟩, fun _ q => ⟨us, q, rfl⟩, fun i H v H' _ q y => ?_⟩
        obtain ⟨T, x, h1, h2, h3, h4⟩ := y
        exact ⟨T, .int (i : Nat), x, h1, h2, h3, rfl, h4 us q⟩
      · exact .inl (.inl (hp _ (List.mem_singleton.mpr rfl)).1)
      · obtain ⟨T, x1, x2, rfl, hT, rfl, e1, e2⟩ := y
        cases e1
        obtain ⟨d2, f2, g2⟩ := (hp _ (List.mem_singleton.mpr rfl)).2.getV e2
        have ts : TSm H2 (upd H2 T (.tup [.int (i : Nat), x2])) := TSm.upd fun vs' z => by rw [hT] at z; cases z
        refine ⟨.tup [.int (i : Nat), d2], ?_, .tup upd_same (.cons (.int _) (.one (g2.mono ts))), .inr ⟨T, _, hT, rfl⟩⟩
        show (numd 0 xs)[i]? = _
        rw [numd_at, f2, Nat.zero_add]
        rfl
end Wb
/-! WbF -/
set_option maxHeartbeats 4000000
namespace Wb
open PySem PySem.Spec PyProof.Rows L2

/-! ### comprehensions -/
section
variable {F : Fm} {ds : Ds} {wi wi1 : TI} {g g1 : TG} {tt : TT} {te : TE} {vs vs1 : List Nat} {φs : List D → Prop} {χ : SV → Prop}
theorem SrcOk.at {F : Fm} {J : It} {n : Nat} {pn : List Pn} {f : Nat → Option D} (h : SrcOk F J n pn f) : ∃ G Y, Walk J n G Y ∧ (∀ H, F.J H → (∀ q ∈ pn, PinOk F H q) → G H) ∧
  (∀ i H x H', i < n → F.J H → (∀ q ∈ pn, PinOk F H q) → Y i H x H' → ∃ d, f i = some d ∧ Rep H' x d ∧ Kp F H H' ∧ F.J H' ∧ ∀ D o, H D = some o → H' D = some o) := by
  obtain ⟨G, Y, w, g, y⟩ := h
  refine ⟨G, Y, w, g, fun i H x H' hi j hp hy => ?_⟩
  obtain ⟨d, h1, h2, h3⟩ := y i H x H' hi j hp hy
  refine ⟨d, h1, h2, ?_⟩
  rcases h3 with e | ⟨p, o, n, e⟩
  · subst e
    exact ⟨Kp.refl F _, j, fun _ _ z => z⟩
  · subst e
    exact ⟨Kp.new n, F.upd j n j, fun D u z => by rw [upd_ne (ne_of_none z n)]; exact z⟩
theorem ev_lcG (hs : EvI F wi ds φs) (hb : ∀ xs, φs xs → ∃ (keep : D → Bool) (out : D → D → Prop), xs.length < sizeLine ∧
    (∀ x ∈ xs, ∃ is ds', TgOk g is (wipeD ds vs) x ds' ∧ (∀ i ∈ is, i ∈ vs) ∧ EvT F tt ds' (· = keep x) ∧ (keep x = true → Ev F te ds' fun r => ∃ y, r = .d y ∧ out x y)) ∧
    ∀ ys, Paired out (xs.filter keep) ys → χ (.own ys)) : Ev F (tLc wi g tt te vs) ds χ := fun H0 P σ H s Q q =>
  hs H0 P σ H s _ fun J H1 pn xs k1 j1 hp1 _ hsrc p1 => by
    obtain ⟨keep, out, hl, hbody, hend⟩ := hb xs p1
    obtain ⟨G, Y, w, hG, hY⟩ := hsrc.at
    intro Dl hD
    refine lc_it w (fun i H' => Kp F H1 H' ∧ F.J H' ∧ ∃ acc ys, H' Dl = some (.lst acc) ∧ RepL H' acc ys ∧ Paired out ((xs.take i).filter keep) ys) ⟨Kp.new hD, F.upd j1 hD j1, [], [], upd_same, .nil, .nil⟩ (fun i H' _ ⟨k, j, _⟩ => hG H' j fun q hq => (hp1 q hq).mono k j1) ?_ ?_
    · rintro i v H2 H3 hi ⟨k2, j2, acc, ys, hacc, hr, hpair⟩ hy
      obtain ⟨x, hx, rx, k3, j3, keepD⟩ := hY i H2 v H3 hi j2 (fun q hq => (hp1 q hq).mono k2 j1) hy
      have hmem : x ∈ xs := List.mem_of_getElem? hx
      obtain ⟨is, ds', htg, his, htt, hte⟩ := hbody x hmem
      have s3 : Ste F H0 P (wipe σ vs) H3 (wipeD ds vs) := (s.wipe vs).mono ((k1.trans k2).trans k3) j3
      have acc3 := keepD Dl _ hacc
      have nS : ¬ F.S Dl := F.newS j1 hD
      have hfl : ((xs.take (i + 1)).filter keep) = ((xs.take i).filter keep) ++ (if keep x then [x] else []) := by
        rw [List.take_add_one, hx, List.filter_append]
        congr 1
        show List.filter keep [x] = _
        rw [List.filter_cons, List.filter_nil]
      have hal : ys.length ≤ i := by
        have e1 := Paired.length hpair
        have e2 := List.length_filter_le keep (xs.take i)
        rw [List.length_take] at e2
        omega
      refine htg F H0 P (wipe σ vs) H3 v _ s3 rx fun σ2 s4 l4 e4 => ⟨?_, ?_⟩
      · rw [wipe_eq l4 fun a ha => e4 a fun z => ha (his a z)]
        exact wipe_wipe σ vs
      · refine htt H0 P σ2 H3 s4 _ fun b H4 k4 j4 eb => ?_
        subst eb
        have acc4 := k4 Dl _ nS acc3
        cases hk : keep x with
        | true =>
          rw [if_pos rfl]
          refine hte hk H0 P σ2 H4 (s4.mono k4 j4) _ fun y H5 r k5 j5 rr ⟨yd, er, ho⟩ => ?_
          subst er
          have acc5 := k5 Dl _ nS acc4
          have kk : Kp F H1 H5 := ((k2.trans k3).trans k4).trans k5
          have ts : TSm H5 (upd H5 Dl (.lst (acc ++ [y]))) := TSm.upd fun vs' z => by rw [acc5] at z; cases z
          refine ⟨acc, acc5, by rw [hr.length]; omega, kk.mut hD, F.upd j1 hD j5, acc ++ [y], ys ++ [yd], upd_same, ?_, ?_⟩
          · exact ((hr.mono (((k3.trans k4).trans k5).ts j2)).mono ts).append (.one (Rep.mono ts rr))
          · rw [hfl, hk, if_pos rfl]
            exact pairedApp hpair (.cons ho .nil)
        | false =>
          rw [if_neg Bool.false_ne_true]
          refine ⟨(k2.trans k3).trans k4, j4, acc, ys, acc4, hr.mono ((k3.trans k4).ts j2), ?_⟩
          rw [hfl, hk, if_neg Bool.false_ne_true, List.append_nil]
          exact hpair
    · rintro H2 ⟨k2, j2, acc, ys, hacc, hr, hpair⟩
      rw [List.take_length] at hpair
      exact q (.ref Dl) H2 (.own ys) (k1.trans k2) j2 ⟨Dl, acc, rfl, k1.free s.j j1 hD, hacc, hr⟩ (hend ys hpair)
where
  pairedApp {α β : Type} {R : α → β → Prop} : ∀ {as : List α} {bs : List β} {cs : List α} {es : List β}, Paired R as bs → Paired R cs es → Paired R (as ++ cs) (bs ++ es)
    | _, _, _, _, .nil, h => h
    | _, _, _, _, .cons a t, h => .cons a (pairedApp t h)
theorem paired_map {f : D → D} : ∀ {xs ys : List D}, Paired (fun x y => y = f x) xs ys → ys = xs.map f
  | _, _, .nil => rfl
  | _, _, .cons h t => by rw [h, paired_map t]; rfl
/-- [f x for x in xs] -/
theorem ev_lc {xs : List D} (f : D → D) (hs : EvI F wi ds (· = xs)) (hl : xs.length < sizeLine)
    (hb : ∀ x ∈ xs, ∃ is ds', TgOk g is (wipeD ds vs) x ds' ∧ (∀ i ∈ is, i ∈ vs) ∧ Ev F te ds' (· = .d (f x))) : Ev F (tLc wi g tYes te vs) ds (· = .own (xs.map f)) :=
  ev_lcG hs fun ys e => by
    subst e
    refine ⟨fun _ => true, fun x y => y = f x, hl, fun x hx => ?_, fun zs hz => ?_⟩
    · obtain ⟨is, ds', h1, h2, h3⟩ := hb x hx
      exact ⟨is, ds', h1, h2, fun H0 P σ H s Q q => q true H (Kp.refl F H) s.j rfl, fun _ => h3.imp fun r e => ⟨_, e, rfl⟩⟩
    · rw [List.filter_eq_self.mpr fun _ _ => rfl] at hz
      rw [paired_map hz]
/-- [f x for x in xs if p x] -/
theorem ev_lcIf {xs : List D} (f : D → D) (p : D → Bool) (hs : EvI F wi ds (· = xs)) (hl : xs.length < sizeLine)
    (hb : ∀ x ∈ xs, ∃ is ds', TgOk g is (wipeD ds vs) x ds' ∧ (∀ i ∈ is, i ∈ vs) ∧ EvT F tt ds' (· = p x) ∧ (p x = true → Ev F te ds' (· = .d (f x)))) : Ev F (tLc wi g tt te vs) ds (· = .own ((xs.filter p).map f)) :=
  ev_lcG hs fun ys e => by
    subst e
    refine ⟨p, fun x y => y = f x, hl, fun x hx => ?_, fun zs hz => ?_⟩
    · obtain ⟨is, ds', h1, h2, h3, h4⟩ := hb x hx
      exact ⟨is, ds', h1, h2, h3, fun e => (h4 e).imp fun r e => ⟨_, e, rfl⟩⟩
    · rw [paired_map hz]
/-- [y for x in xs], y told by a relation -/
theorem ev_lcR {out : D → D → Prop} (hs : EvI F wi ds φs) (hl : ∀ xs, φs xs → xs.length < sizeLine)
    (hb : ∀ xs, φs xs → ∀ x ∈ xs, ∃ is ds', TgOk g is (wipeD ds vs) x ds' ∧ (∀ i ∈ is, i ∈ vs) ∧ Ev F te ds' fun r => ∃ y, r = .d y ∧ out x y) (he : ∀ xs, φs xs → ∀ ys, Paired out xs ys → χ (.own ys)) : Ev F (tLc wi g tYes te vs) ds χ :=
  ev_lcG hs fun xs e => by
    refine ⟨fun _ => true, out, hl xs e, fun x hx => ?_, fun zs hz => ?_⟩
    · obtain ⟨is, ds', h1, h2, h3⟩ := hb xs e x hx
      exact ⟨is, ds', h1, h2, fun H0 P σ H s Q q => q true H (Kp.refl F H) s.j rfl, fun _ => h3⟩
    · rw [List.filter_eq_self.mpr fun _ _ => rfl] at hz
      exact he xs e zs hz
def noOwn : Ds → Bool
  | [] => true
  | some (.own _) :: _ => false
  | _ :: r => noOwn r
theorem noOwn_at : ∀ {ds : Ds} {i : Nat} {xs : List D}, noOwn ds = true → ds[i]? = some (some (.own xs)) → False
  | [], i, xs, _, e => by simp at e
  | some (.own _) :: _, _, _, h, _ => by cases h
  | none :: r, 0, _, _, e => by simp at e
  | some (.d _) :: r, 0, _, _, e => by simp at e
  | some (.bor _) :: r, 0, _, _, e => by simp at e
  | none :: r, i + 1, xs, h, e => noOwn_at (ds := r) (i := i) h (by simpa using e)
  | some (.d _) :: r, i + 1, xs, h, e => noOwn_at (ds := r) (i := i) h (by simpa using e)
  | some (.bor _) :: r, i + 1, xs, h, e => noOwn_at (ds := r) (i := i) h (by simpa using e)
theorem Ste.move {F : Fm} {H0 Hs H H' : Hp} {P : List Pn} {σ σs : L2.St} {ds dss : Ds} (s : Ste F H0 P σ H ds) (ss : Ste F H0 P σs Hs dss) (k : Kp F Hs H') (j : F.J H') (t : TSm H H') (n : noOwn ds = true) : Ste F H0 P σ H' ds where
  j0 := s.j0
  kp := ss.kp.trans k
  j := j
  len := s.len
  pin := fun q hq => (ss.pin q hq).mono k ss.j
  env := fun i sv e => by
    obtain ⟨v, h1, h2⟩ := s.env i sv e
    refine ⟨v, h1, ?_⟩
    cases sv with
    | d x => exact Rep.mono t h2
    | own xs => exact (noOwn_at n e).elim
    | bor xs => exact h2
  dist := fun i j xs ys p e => (noOwn_at n e).elim
/-- [f x z for x in xs for z in inner x] -/
theorem ev_lc2 {xs : List D} (inner : D → List D) (f : D → D → D) (hs : EvI F wi ds (· = xs)) (hl : (xs.flatMap fun x => (inner x).map (f x)).length < sizeLine)
    (hb : ∀ x ∈ xs, ∃ is ds1, TgOk g is (wipeD ds vs) x ds1 ∧ (∀ i ∈ is, i ∈ vs) ∧ noOwn ds1 = true ∧ EvI F wi1 ds1 (· = inner x) ∧ ∀ z ∈ inner x, ∃ js ds2, TgOk g1 js (wipeD ds1 vs1) z ds2 ∧ (∀ j ∈ js, j ∈ vs1) ∧ Ev F te ds2 (· = .d (f x z))) :
    Ev F (tLc2 wi g tYes wi1 g1 tYes te vs vs1) ds (· = .own (xs.flatMap fun x => (inner x).map (f x))) := fun H0 P σ H s Q q =>
  hs H0 P σ H s _ fun J H1 pn xs' k1 j1 hp1 _ hsrc p1 => by
    subst p1
    obtain ⟨G, Y, w, hG, hY⟩ := hsrc.at
    intro Dl hD
    have nS : ¬ F.S Dl := F.newS j1 hD
    refine ⟨fun i m H' => m = xs'.length - i ∧ i ≤ xs'.length ∧ Kp F H1 H' ∧ F.J H' ∧ ∃ acc, H' Dl = some (.lst acc) ∧ RepL H' acc ((xs'.take i).flatMap fun x => (inner x).map (f x)), ⟨xs'.length, by simp, Nat.zero_le _, Kp.new hD, F.upd j1 hD j1, [], upd_same, .nil⟩, ?_⟩
    rintro i m H2 ⟨rfl, hi, k2, j2, acc, hacc, hr⟩
    have g2 := hG H2 j2 fun q hq => (hp1 q hq).mono k2 j1
    by_cases hlt : i < xs'.length
    · refine .inr ⟨w.goes i H2 hlt g2, fun H' => i + 1 ≤ xs'.length ∧ Kp F H1 H' ∧ F.J H' ∧ ∃ acc, H' Dl = some (.lst acc) ∧ RepL H' acc ((xs'.take (i + 1)).flatMap fun x => (inner x).map (f x)), fun H' p' => ⟨xs'.length - (i + 1), by omega, rfl, p'⟩, fun v H3 hy => ?_⟩
      obtain ⟨x, hx, rx, k3, j3, keepD⟩ := hY i H2 v H3 hlt j2 (fun q hq => (hp1 q hq).mono k2 j1) (w.yields i H2 v H3 hlt g2 hy)
      have hmem : x ∈ xs' := List.mem_of_getElem? hx
      obtain ⟨is, ds1, htg, his, hno, hin, hel⟩ := hb x hmem
      have s3 : Ste F H0 P (wipe σ vs) H3 (wipeD ds vs) := (s.wipe vs).mono ((k1.trans k2).trans k3) j3
      have acc3 := keepD Dl _ hacc
      have hfl : ((xs'.take (i + 1)).flatMap fun x => (inner x).map (f x)) = ((xs'.take i).flatMap fun x => (inner x).map (f x)) ++ (inner x).map (f x) := by
        rw [List.take_add_one, hx, List.flatMap_append]
        congr 1
        show List.flatMap _ [x] = _
        rw [List.flatMap_cons, List.flatMap_nil, List.append_nil]
      have hlen : ∀ j, j < (inner x).length → ((xs'.take i).flatMap fun x => (inner x).map (f x)).length + j < (xs'.flatMap fun x => (inner x).map (f x)).length := fun j hj => by
        have e : (xs'.flatMap fun x => (inner x).map (f x)) = ((xs'.take (i + 1)).flatMap fun x => (inner x).map (f x)) ++ ((xs'.drop (i + 1)).flatMap fun x => (inner x).map (f x)) := by
          rw [← List.flatMap_append, List.take_append_drop]
        rw [e, hfl, List.length_append, List.length_append, List.length_map]
        omega
      refine htg F H0 P (wipe σ vs) H3 v _ s3 rx fun σ2 s4 l4 e4 => ⟨?_, ?_⟩
      · rw [wipe_eq l4 fun a ha => e4 a fun z => ha (his a z)]
        exact wipe_wipe σ vs
      · show (if true = true then _ else (fun H' => i + 1 ≤ xs'.length ∧ Kp F H1 H' ∧ F.J H' ∧ ∃ acc, H' Dl = some (.lst acc) ∧ RepL H' acc ((xs'.take (i + 1)).flatMap fun x => (inner x).map (f x))) H3)
        rw [if_pos rfl]
        refine hin H0 P σ2 H3 s4 _ fun J1 H4 pn1 zs k4 j4 hp4 hfr hsrc1 ez => ?_
        subst ez
        obtain ⟨G1, Y1, w1, hG1, hY1⟩ := hsrc1.at
        have acc4 := k4 Dl _ nS acc3
        refine ⟨fun j m H' => m = (inner x).length - j ∧ j ≤ (inner x).length ∧ Kp F H1 H' ∧ F.J H' ∧ (∀ b o, ¬ F.S b → b ≠ Dl → H4 b = some o → H' b = some o) ∧ ∃ acc1, H' Dl = some (.lst acc1) ∧ RepL H' acc1 (((xs'.take i).flatMap fun x => (inner x).map (f x)) ++ ((inner x).take j).map (f x)), ⟨(inner x).length, by simp, Nat.zero_le _, ((k2.trans k3).trans k4), j4, fun b o _ _ z => z, acc, acc4, ?_⟩, ?_⟩
        · rw [List.take_zero, List.map_nil, List.append_nil]
          exact hr.mono ((k3.trans k4).ts j2)
        · rintro j m H5 ⟨rfl, hj, k5, j5, kD, acc1, hacc1, hr1⟩
          have tsm : TSm H4 H5 := fun a vs' e => kD a _ (fun sa => F.nt H4 a vs' j4 sa e) (fun e2 => by rw [e2, acc4] at e; cases e) e
          have pin5 : ∀ q ∈ pn1, PinOk F H5 q := fun q hq => by
            have z := hp4 q hq
            cases q with
            | tup a us ws => exact ⟨tsm _ _ z.1, z.2.mono tsm⟩
            | lst p us ws =>
              have np : p ≠ Dl := fun ep => by
                subst ep
                rcases hfr _ hq with hP | hf
                · have zz : PinOk F H1 (Pn.lst p us ws) := (s.pin _ hP).mono k1 s.j
                  have z2 := zz.2.1
                  rw [hD] at z2
                  cases z2
                · have zz := hf p us ws rfl
                  rw [acc3] at zz
                  cases zz
              exact ⟨z.1, kD p _ z.1 np z.2.1, z.2.2.mono tsm⟩
          have g5 := hG1 H5 j5 pin5
          have s5 : Ste F H0 P σ2 H5 ds1 := (s4.mono k4 j4).move s (k1.trans k5) j5 tsm hno
          by_cases hlt1 : j < (inner x).length
          · refine .inr ⟨w1.goes j H5 hlt1 g5, fun H' => j + 1 ≤ (inner x).length ∧ Kp F H1 H' ∧ F.J H' ∧ (∀ b o, ¬ F.S b → b ≠ Dl → H4 b = some o → H' b = some o) ∧ ∃ acc1, H' Dl = some (.lst acc1) ∧ RepL H' acc1 (((xs'.take i).flatMap fun x => (inner x).map (f x)) ++ ((inner x).take (j + 1)).map (f x)), fun H' p' => ⟨(inner x).length - (j + 1), by omega, rfl, p'⟩, fun v1 H6 y1 => ?_⟩
            obtain ⟨z, hz, rz, k6, j6, keepD6⟩ := hY1 j H5 v1 H6 hlt1 j5 pin5 (w1.yields j H5 v1 H6 hlt1 g5 y1)
            have hzm : z ∈ inner x := List.mem_of_getElem? hz
            obtain ⟨js, ds2, htg1, hjs, hev⟩ := hel z hzm
            have acc6 := keepD6 Dl _ hacc1
            refine htg1 F H0 P (wipe σ2 vs1) H6 v1 _ ((s5.mono k6 j6).wipe vs1) rz fun σ3 s6 l6 e6 => ⟨?_, ?_⟩
            · rw [wipe_eq l6 fun a ha => e6 a fun z => ha (hjs a z)]
              exact wipe_wipe σ2 vs1
            · show (if true = true then _ else (fun H' => j + 1 ≤ (inner x).length ∧ Kp F H1 H' ∧ F.J H' ∧ (∀ b o, ¬ F.S b → b ≠ Dl → H4 b = some o → H' b = some o) ∧ ∃ acc1, H' Dl = some (.lst acc1) ∧ RepL H' acc1 (((xs'.take i).flatMap fun x => (inner x).map (f x)) ++ ((inner x).take (j + 1)).map (f x))) H6)
              rw [if_pos rfl]
              refine hev H0 P σ3 H6 s6 _ fun y H7 r k7 j7 rr er => ?_
              subst er
              have acc7 := k7 Dl _ nS acc6
              have ts : TSm H7 (upd H7 Dl (.lst (acc1 ++ [y]))) := TSm.upd fun vs' z => by rw [acc7] at z; cases z
              have hl1 := hr1.length
              rw [List.length_append, List.length_map, List.length_take, Nat.min_eq_left hj] at hl1
              have hl2 := hlen j hlt1
              refine ⟨acc1, acc7, by omega, by omega, ((k5.trans k6).trans k7).mut hD, F.upd j1 hD j7, fun b o nb ne e => ?_, acc1 ++ [y], upd_same, ?_⟩
              · rw [upd_ne ne]
                exact k7 b o nb (k6 b o nb (kD b o nb ne e))
              · rw [List.take_add_one, hz, List.map_append, ← List.append_assoc]
                exact ((hr1.mono ((k6.trans k7).ts j5)).mono ts).append (.one (Rep.mono ts rr))
          · have e : j = (inner x).length := by omega
            subst e
            refine .inl ⟨w1.stops H5 g5, hlt, k5, j5, acc1, hacc1, ?_⟩
            rw [hfl]
            rw [List.take_length] at hr1
            exact hr1
    · have e : i = xs'.length := by omega
      subst e
      rw [List.take_length] at hr
      exact .inl ⟨w.stops H2 g2, q (.ref Dl) H2 (.own (xs'.flatMap fun x => (inner x).map (f x))) (k1.trans k2) j2 ⟨Dl, acc, rfl, k1.free s.j j1 hD, hacc, hr⟩ rfl⟩
end
end Wb
/-! WbG -/
set_option maxHeartbeats 4000000
namespace Wb
open PySem PySem.Spec PyProof.Rows L2

/-! ### loops -/
section
variable {F : Fm} {ds : Ds} {wi : TI} {g : TG} {tb : TS} {tc : TT} {te : TE} {ta : TA} {N : Ds → Prop} {R : SV → Prop} {φs : List D → Prop}
theorem Ste.pinsL {H0 H H1 : Hp} {P : List Pn} {σ : L2.St} (s : Ste F H0 P σ H ds) (k : Kp F H H1) (j : F.J H1) : ∀ (pn : List Pn), (∀ q ∈ pn, PinOk F H1 q) → (∀ q ∈ pn, q ∈ P ∨ ∀ p vs zs, q = Pn.lst p vs zs → H p = none) →
    ∃ P', (∀ q ∈ P, q ∈ P') ∧ (∀ q ∈ pn, q ∈ P') ∧ Ste F H0 P' σ H1 ds
  | [], _, _ => ⟨P, fun _ h => h, (fun _ h => nomatch h), s.mono k j⟩
  | q :: pn, h1, h2 => by
    obtain ⟨P', a, b, s'⟩ := Ste.pinsL s k j pn (fun q hq => h1 q (List.mem_cons_of_mem _ hq)) fun q hq => h2 q (List.mem_cons_of_mem _ hq)
    rcases h2 q List.mem_cons_self with hq | hq
    · refine ⟨P', a, fun q' h' => ?_, s'⟩
      rcases List.mem_cons.mp h' with e | h'
      · rw [e]
        exact a q hq
      · exact b q' h'
    · refine ⟨q :: P', fun q' h' => List.mem_cons_of_mem _ (a q' h'), fun q' h' => ?_, s'.pins (h1 q List.mem_cons_self) fun p vs xs e i ys ei z => ?_⟩
      · rcases List.mem_cons.mp h' with e | h'
        · rw [e]
          exact List.mem_cons_self
        · exact List.mem_cons_of_mem _ (b q' h')
      · have n := hq p vs xs e
        obtain ⟨v, z1, p', vs', rfl, z2, z3, _⟩ := s.env i _ ei
        rw [z] at z1
        cases z1
        rw [n] at z3
        cases z3
/-- for, Iv xs i: of the slots ahead of turn i -/
theorem sd_for (Iv : List D → Nat → Ds → Prop) (hs : EvI F wi ds φs) (h0 : ∀ xs, φs xs → Iv xs 0 ds)
    (hb : ∀ xs i x ds1, φs xs → xs[i]? = some x → Iv xs i ds1 → ∃ is ds2, TgOk g is ds1 x ds2 ∧ Sd F tb ds2 (Iv xs (i + 1)) R)
    (hd : ∀ xs ds1, φs xs → Iv xs xs.length ds1 → N ds1) : Sd F (tFor wi g tb) ds N R := fun H0 P σ H D s n r =>
  hs H0 P σ H s _ fun J H1 pn xs k1 j1 hp1 hfr hsrc p1 => by
    obtain ⟨P1, hP, hpn, s1⟩ := s.pinsL k1 j1 pn hp1 hfr
    obtain ⟨G, Y, w, hG, hY⟩ := hsrc.at
    refine ⟨fun i m σ' H' => m = xs.length - i ∧ i ≤ xs.length ∧ ∃ P' ds1, (∀ q ∈ P1, q ∈ P') ∧ Ste F H0 P' σ' H' ds1 ∧ Iv xs i ds1, ⟨xs.length, by simp, Nat.zero_le _, P1, ds, fun _ h => h, s1, h0 xs p1⟩, ?_⟩
    rintro i m σ2 H2 ⟨rfl, hi, P2, ds2, hP2, s2, iv⟩
    have pins : ∀ q ∈ pn, PinOk F H2 q := fun q hq => s2.pin q (hP2 q (hpn q hq))
    have g2 := hG H2 s2.j pins
    by_cases hlt : i < xs.length
    · refine .inr ⟨w.goes i H2 hlt g2, fun σ' H' => i + 1 ≤ xs.length ∧ ∃ P' ds1, (∀ q ∈ P1, q ∈ P') ∧ Ste F H0 P' σ' H' ds1 ∧ Iv xs (i + 1) ds1, fun σ' H' p' => ⟨xs.length - (i + 1), by omega, rfl, p'⟩, fun v H3 hy => ?_⟩
      obtain ⟨x, hx, rx, k3, j3, _⟩ := hY i H2 v H3 hlt s2.j pins (w.yields i H2 v H3 hlt g2 hy)
      obtain ⟨is, ds3, htg, hsd⟩ := hb xs i x ds2 p1 hx iv
      refine htg F H0 P2 σ2 H3 v _ (s2.mono k3 j3) rx fun σ4 s4 _ _ => ?_
      exact hsd H0 P2 σ4 H3 _ s4 (fun P' σ' H' ds' hq s' iv' => ⟨hlt, P', ds', fun q h => hq q (hP2 q h), s', iv'⟩) r
    · have e : i = xs.length := by omega
      subst e
      exact .inl ⟨w.stops H2 g2, n P2 σ2 H2 ds2 (fun q h => hP2 q (hP q h)) s2 (hd xs ds2 p1 iv)⟩
/-- while, by a measure -/
theorem sd_while (Iv : Nat → Ds → Prop) (h0 : ∃ m, Iv m ds)
    (hb : ∀ m ds1, Iv m ds1 → ∃ b : Bool, EvT F tc ds1 (· = b) ∧ (b = true → Sd F tb ds1 (fun ds2 => ∃ m', m' < m ∧ Iv m' ds2) R) ∧ (b = false → N ds1)) : Sd F (tWhile tc tb) ds N R := fun H0 P σ H D s n r => by
  obtain ⟨m0, i0⟩ := h0
  refine ⟨fun m σ' H' => ∃ P' ds1, (∀ q ∈ P, q ∈ P') ∧ Ste F H0 P' σ' H' ds1 ∧ Iv m ds1, ⟨m0, P, ds, fun _ h => h, s, i0⟩, ?_⟩
  rintro m σ2 H2 ⟨P2, ds2, hP2, s2, iv⟩
  obtain ⟨b, hc, ht, hf⟩ := hb m ds2 iv
  refine hc H0 P2 σ2 H2 s2 _ fun b' H3 k3 j3 e => ?_
  subst e
  cases b' with
  | true =>
    rw [if_pos rfl]
    refine ⟨fun σ' H' => ∃ m', m' < m ∧ ∃ P' ds1, (∀ q ∈ P, q ∈ P') ∧ Ste F H0 P' σ' H' ds1 ∧ Iv m' ds1, fun σ' H' ⟨m', h1, h2⟩ => ⟨m', h1, h2⟩, ?_⟩
    exact ht rfl H0 P2 σ2 H3 _ (s2.mono k3 j3) (fun P' σ' H' ds' hq s' ⟨m', h1, h2⟩ => ⟨m', h1, P', ds', fun q h => hq q (hP2 q h), s', h2⟩) r
  | false =>
    rw [if_neg Bool.false_ne_true]
    exact n P2 σ2 H3 ds2 hP2 (s2.mono k3 j3) (hf rfl)
/-- x = e, x a tuple of names -/
theorem sd_asg {x : D} {is : List Nat} {ds' : Ds} (h : Ev F te ds (· = .d x)) (htg : TgOk g is ds x ds') (hn : N ds') : Sd F (tAsg te g) ds N R := fun H0 P σ H D s n _ =>
  h H0 P σ H s _ fun v H2 r k2 j2 r2 p2 => by
    subst p2
    exact htg F H0 P σ H2 v _ (s.mono k2 j2) r2 fun σ' s' _ _ => n P σ' H2 ds' (fun _ h => h) s' hn
/-- the result of a call, of which something is known -/
theorem sd_asgG {φ : SV → Prop} (h : Ev F te ds φ) (k : ∀ r, φ r → ∃ x is ds', r = .d x ∧ TgOk g is ds x ds' ∧ N ds') : Sd F (tAsg te g) ds N R := fun H0 P σ H D s n _ =>
  h H0 P σ H s _ fun v H2 r k2 j2 r2 p2 => by
    obtain ⟨x, is, ds', rfl, htg, hn⟩ := k r p2
    exact htg F H0 P σ H2 v _ (s.mono k2 j2) r2 fun σ' s' _ _ => n P σ' H2 ds' (fun _ h => h) s' hn
/-- two results go to two slots -/
theorem Ste.set2 {H0 H H2 : Hp} {P : List Pn} {σ : L2.St} {v w : V} {x y : SV} (s : Ste F H0 P σ H ds) (k : Kp F H H2) (j : F.J H2) (i l : Nat) (hx : RRep F H H2 v x) (hy : RRep F H H2 w y) (nx : x.noB) (ny : y.noB)
    (hne : ∀ xs ys p, x = .own xs → y = .own ys → v = .ref p → w = .ref p → False) (hil : i ≠ l) : Ste F H0 P ((σ.set i (some v)).set l (some w)) H2 ((ds.set i (some x)).set l (some y)) := by
  have nb : ∀ {z : SV}, z.noB → ∀ xs, z ≠ .bor xs := fun {z} h xs e => by
    rw [e] at h
    exact h
  have s1 := s.set k j i hx (nb nx)
  have s2 := s.set k j l hy (nb ny)
  have e1 : ∀ (a : Nat), a ≠ l → ((ds.set i (some x)).set l (some y))[a]? = (ds.set i (some x))[a]? := fun a h => List.getElem?_set_ne (Ne.symm h)
  have f1 : ∀ (a : Nat), a ≠ l → ((σ.set i (some v)).set l (some w))[a]? = (σ.set i (some v))[a]? := fun a h => List.getElem?_set_ne (Ne.symm h)
  have e2 : ((ds.set i (some x)).set l (some y))[l]? = (ds.set l (some y))[l]? := by simp [List.getElem?_set]
  have f2 : ((σ.set i (some v)).set l (some w))[l]? = (σ.set l (some w))[l]? := by simp [List.getElem?_set]
  have out : ∀ (a : Nat), a ≠ i → (ds.set i (some x))[a]? = ds[a]? := fun a h => List.getElem?_set_ne (Ne.symm h)
  have both : ∀ {a b : Nat} {xs ys : List D} {p : Addr}, a = l → b ≠ l → ((ds.set i (some x)).set l (some y))[a]? = some (some (.own xs)) → ((ds.set i (some x)).set l (some y))[b]? = some (some (.own ys)) → ((σ.set i (some v)).set l (some w))[a]? = some (some (.ref p)) → ((σ.set i (some v)).set l (some w))[b]? = some (some (.ref p)) → False := fun {a b xs ys p} ha hb ea eb va vb => by
    subst ha
    rw [e2] at ea
    rw [f2] at va
    rw [e1 b hb] at eb
    rw [f1 b hb] at vb
    by_cases hbi : b = i
    · subst hbi
      have hl1 : b < ds.length := by
        have := (List.getElem?_eq_some_iff.mp eb).1
        simpa using this
      have hl2 : a < ds.length := by
        have := (List.getElem?_eq_some_iff.mp ea).1
        simpa using this
      rw [List.getElem?_set_self hl2] at ea
      rw [List.getElem?_set_self (by rw [s.len]; exact hl2)] at va
      rw [List.getElem?_set_self hl1] at eb
      rw [List.getElem?_set_self (by rw [s.len]; exact hl1)] at vb
      cases ea
      cases eb
      cases va
      cases vb
      exact hne _ _ p rfl rfl rfl rfl
    · rw [List.getElem?_set_ne (Ne.symm hbi)] at eb vb
      have eb' : (ds.set a (some y))[b]? = some (some (.own ys)) := by rw [List.getElem?_set_ne (Ne.symm hb)]; exact eb
      have vb' : (σ.set a (some w))[b]? = some (some (.ref p)) := by rw [List.getElem?_set_ne (Ne.symm hb)]; exact vb
      exact hb (s2.dist a b _ _ p ea eb' va vb').symm
  refine ⟨s.j0, s1.kp, j, by simp [s.len], s1.pin, fun a sv ea => ?_, fun a b xs ys p ea eb va vb => ?_⟩
  · by_cases hl : a = l
    · subst hl
      rw [e2] at ea
      obtain ⟨u, h1, h2⟩ := s2.env a sv ea
      exact ⟨u, by rw [f2]; exact h1, h2⟩
    · rw [e1 a hl] at ea
      obtain ⟨u, h1, h2⟩ := s1.env a sv ea
      exact ⟨u, by rw [f1 a hl]; exact h1, h2⟩
  · by_cases ha : a = l
    · by_cases hb : b = l
      · rw [ha, hb]
      · exact (both ha hb ea eb va vb).elim
    · by_cases hb : b = l
      · exact (both hb ha eb ea vb va).elim
      · rw [e1 a ha] at ea
        rw [f1 a ha] at va
        rw [e1 b hb] at eb
        rw [f1 b hb] at vb
        exact s1.dist a b xs ys p ea eb va vb
/-- x, y = a, b: at most one of them a list -/
theorem sd_par {i l : Nat} {ta tb : TE} {φ ψ : SV → Prop} (ha : Ev F ta ds φ) (hb : Ev F tb ds ψ) (hil : i ≠ l) (k : ∀ x y, φ x → ψ y → x.noB ∧ y.noB ∧ ((∃ d, x = .d d) ∨ ∃ d, y = .d d) ∧ N ((ds.set i (some x)).set l (some y))) :
    Sd F (tPar i l (tCons ta (tCons tb tNil))) ds N R := fun H0 P σ H D s n _ =>
  ha H0 P σ H s _ fun v H1 x k1 j1 r1 p1 => hb H0 P σ H1 (s.mono k1 j1) _ fun w H2 y k2 j2 r2 p2 => by
    obtain ⟨nx, ny, hd, hn⟩ := k x y p1 p2
    refine ⟨v, w, rfl, n P _ H2 _ (fun _ h => h) (s.set2 (k1.trans k2) j2 i l (r1.mono s.j k2 j1) (r2.back k1 s.j j1) nx ny (fun xs ys p e1 e2 _ _ => ?_) hil) hn⟩
    rcases hd with ⟨d, e⟩ | ⟨d, e⟩
    · rw [e1] at e
      cases e
    · rw [e2] at e
      cases e
end
end Wb
/-! WbW -/
set_option maxHeartbeats 4000000
namespace Wb
open PySem PySem.Spec PyProof.Rows L2
/-! ### what the top leaves, bundled -/
structure Wf (w : World) (K : PySem.W.Frag) (mg : Str → Option Value) : Prop where
  says : SaysK w K
  ns : ∃ h : Heap, K.In h ∧ h.Ns mainGlobals mg
section
variable {P : Program} {w : World} {K : PySem.W.Frag} {mg : Str → Option Value} {base : Heap}
theorem Wf.fact (W : Wf w K mg) {f : He.Fa} (i : Nat) (h : fa[i]? = some f) : f.ok K = true := by
  have e : ((fa.all fun f => f.ok K) && (ex K && kvB K)) = true := congrArg (fun z => z.1) W.says.1
  rw [Bool.and_eq_true] at e
  exact List.all_eq_true.mp e.1 f (List.mem_of_getElem? h)
theorem Wf.exs (W : Wf w K mg) : ex K = true ∧ kvB K = true := by
  have e : ((fa.all fun f => f.ok K) && (ex K && kvB K)) = true := congrArg (fun z => z.1) W.says.1
  rw [Bool.and_eq_true, Bool.and_eq_true] at e
  exact e.2
theorem Wf.glo (W : Wf w K mg) {x : Str} (i : Nat) (h : fa[i]? = some (.glo x)) : mg x = some (.ref (He.ga K x)) :=
  let ⟨_, X, G⟩ := W.ns; He.glo_ok X G (W.fact i h)
theorem Wf.free (W : Wf w K mg) {x : Str} (i : Nat) (h : fa[i]? = some (.free x)) : mg x = none :=
  let ⟨_, X, G⟩ := W.ns; He.free_ok X G (W.fact i h)
theorem Wf.int (W : Wf w K mg) {x : Str} {n : Int} (i : Nat) (h : fa[i]? = some (.int x n)) : ∃ t, mg x = some (.int n t) :=
  let ⟨_, X, G⟩ := W.ns; He.int_ok X G (W.fact i h)
theorem Wf.str (W : Wf w K mg) {x z : Str} (i : Nat) (h : fa[i]? = some (.str x z)) : ∃ t, mg x = some (.str z t) :=
  let ⟨_, X, G⟩ := W.ns; He.str_ok X G (W.fact i h)
theorem Wf.def_ (W : Wf w K mg) {d : He.DefD} (i : Nat) (h : fn[i]? = some d) : ∃ fd, FunD K d.name d.qual d.params d.body d.scope (d.dvs K) (d.kws K) (He.fAd K d.at_) fd := by
  have c2 : (fn.all fun d => d.ok K) = true := congrArg (fun z => z.1) W.says.2
  have e : fn.map (fun d => He.fnW K d.at_) = fn.map He.DefD.val := congrArg (fun z => z.2.1) W.says.2
  have e2 : (fn.map fun d => He.fnW K d.at_)[i]? = (fn.map He.DefD.val)[i]? := by rw [e]
  rw [List.getElem?_map, List.getElem?_map, h] at e2
  exact He.DefD.funD (Option.some.inj e2) (List.all_eq_true.mp c2 d (List.mem_of_getElem? h))
/-- a def of the top that keeps the promise sp -/
def Cal (P : Program) (w : World) (K : PySem.W.Frag) (mg : Str → Option Value) (base : Heap) (k : Nat) (x : Str) (ps : List Str) (sp : Sp) : Prop :=
  ∃ (f : Addr) (fd : FuncData), FnOk P w K mg base CX0 k f fd ps sp ∧ mg x = some (.ref f) ∧ PySem.W.keepIn K (.ref f) = true ∧ Binds K fd ps []
theorem Wf.cal (W : Wf w K mg) {d : He.DefD} {k : Nat} {x : Str} {N ps : List Str} {F : Fm} {Pre : List SV → Prop} {Post : List SV → SV → Prop} (i j : Nat) (h : fn[i]? = some d) (hg : fa[j]? = some (.glo x)) (S : FnScope N ps d.scope)
    (hb : ∀ (kV doc pm : Value) (an : Option Addr) (cdv ct : Value) (us : List Value), us.length = ps.length → bindArgs (PySem.W.fnOf d.name d.qual d.params d.body d.scope .none kV doc pm an cdv ct) ⟨us, []⟩ = pure (ps.zip us))
    (hl : ∀ as, Pre as → as.length = ps.length)
    (hbody : ∀ (f : Addr) (cdv : Value) (A : Around) (outer : List Env) (s : Shared) (H : Hp) (E : XK), Room k (A.deeper (envOfC d.qual d.scope s.heap.objs.size f cdv)) →
      ∃ t, PSs (cxOf CX0 P w K mg base N d.qual d.scope f cdv A outer s H E).nox d.body t ∧ ∀ as, Pre as → Sd F t (sta N.length as) (fun _ => Post as (.d .non)) (Post as))
    (ha : He.fAd K d.at_ = He.ga K x := by rfl) (h0 : d.dfl = [] := by rfl) (h1 : d.kwd = [] := by rfl) : Cal P w K mg base (k + 1) x ps (spD F Pre Post) := by
  obtain ⟨fd, FD⟩ := W.def_ i h
  have e0 : d.dvs K = [] := by
    unfold He.DefD.dvs
    rw [h0]
    rfl
  have e1 : d.kws K = [] := by
    unfold He.DefD.kws
    rw [h1]
    rfl
  rw [e0, e1] at FD
  refine ⟨He.fAd K d.at_, fd, FD.ok S (fun vs H Q E ⟨as, r, _, p, _⟩ => r.length.trans (hl as p)) fun cdv A outer s H vs Q E hr hs => ?_, by rw [ha]; exact W.glo j hg, FD.kp, FD.bindsN hb⟩
  obtain ⟨t, ht, hq⟩ := hbody (He.fAd K d.at_) cdv A outer s H E hr
  exact ⟨t, PSs.nox ht, entry hs fun as p _ => hq as p⟩
end
section
variable {X : Cx} {k : Nat} {x : Str} {ps : List Str} {sp : Sp} {e : Expr} {es : List Expr} {t : TA} {p pos : Pos}
theorem pe_cal (C : Cal X.prog X.w X.K X.mg X.base k x ps sp) (hr : Room k X.A) (hg : Gl X x) (ha : PA X (e :: es) t) (hdb : (x == ("__debug__" : Str)) = false := by decide)
    (he : starEach (e :: es) X.env = (false, eval e X.env) :: starEach es X.env := by rfl) (hpl : (backTo pos (starEach es X.env)).any (·.1) = false := by rfl) : PE X (.Call (.Name x p) (e :: es) [] pos) (tCall sp [] E0 t) := by
  refine ⟨fun pins s σ H Q I h => ?_⟩
  obtain ⟨f, fd, G, hm, hk, hb⟩ := C
  exact (pe_call G hr hg hm hk hb .nil pass0 ha hdb he hpl).run pins s σ H Q I h
theorem pe_cal0 (C : Cal X.prog X.w X.K X.mg X.base k x ps sp) (hr : Room k X.A) (hg : Gl X x) (hdb : (x == ("__debug__" : Str)) = false := by decide) : PE X (.Call (.Name x p) [] [] pos) (tCall sp [] E0 tNil) := by
  refine ⟨fun pins s σ H Q I h => ?_⟩
  obtain ⟨f, fd, G, hm, hk, hb⟩ := C
  exact (pe_call0 G hr hg hm hk hb .nil pass0 hdb).run pins s σ H Q I h
theorem pe_gint {i : Int} (hm : ∃ t, X.mg x = some (.int i t)) (hg : Gl X x) (hd : (x == ("__debug__" : Str)) = false := by decide) : PE X (.Name x pos) (tC (.int i)) := by
  obtain ⟨t, hm⟩ := hm
  exact pe_glob hg hm ⟨t, rfl⟩ hd
theorem pe_gstr {z : Str} (hm : ∃ t, X.mg x = some (.str z t)) (hg : Gl X x) (hd : (x == ("__debug__" : Str)) = false := by decide) : PE X (.Name x pos) (tC (.str z)) := by
  obtain ⟨t, hm⟩ := hm
  exact pe_glob hg hm ⟨t, rfl⟩ hd
end
end Wb
/-! WbK -/
set_option maxHeartbeats 4000000
namespace Wb
open PySem PySem.Spec PyProof.Rows L2
/-! ### rules with K by name (for blocks) -/
section
variable {X : Cx} {K : PySem.W.Frag}
theorem k_pg {es : List Expr} {kk n : Nat} {pos : Pos} {t : TGs} (hK : X.K = K) (hc : X.calm = true) (h : PGs X es t) (hn : (assignEach es X.env).length = n := by rfl) (hst : (assignEach es X.env).findIdx? (·.1) = none := by rfl) : PG X (.Tuple es kk pos) (gTup K n t) :=
  hK ▸ pg_tup hc h hn hst
theorem k_ixT (hK : X.K = K) : IxR X (rIxT K) := hK ▸ ix_tup
theorem k_ixL (hK : X.K = K) : IxR X (rIxL K) := hK ▸ ix_list
theorem k_slT (hK : X.K = K) : SlR X (rSlA K) := hK ▸ sl_tupA
theorem k_slL (hK : X.K = K) : SlR X (rSlL K) := hK ▸ sl_list
theorem k_piT {tg l : Expr} {tl : TE} (hK : X.K = K) (hl : PE X l tl) : PI X tg l (iTup K tl) := hK ▸ pi_tup hl
theorem k_piL {tg l : Expr} {tl : TE} (hK : X.K = K) (hl : PE X l tl) : PI X tg l (iList K tl) := hK ▸ pi_list hl
theorem k_zip {e e2 : Expr} {ta : TA} {p pos tpos : Pos} {elts : List Expr} {kk : Nat} (hK : X.K = K) (hg : Gl X "zip") (hm : X.mg "zip" = none) (ha : PA X [e, e2] ta) (hs : starEach [e, e2] X.env = (false, eval e X.env) :: starEach [e2] X.env := by rfl) (hpl : (backTo pos (starEach [e2] X.env)).any (·.1) = false := by rfl) :
    PI X (.Tuple elts kk tpos) (.Call (.Name "zip" p) [e, e2] [] pos) (RZ.iZipA K ta) := hK ▸ RZ.pi_zipA hg hm ha hs hpl
theorem k_enum {e : Expr} {ta : TA} {p pos tpos : Pos} {elts : List Expr} {kk : Nat} (hK : X.K = K) (hg : Gl X "enumerate") (hm : X.mg "enumerate" = none) (ha : PA X [e] ta) (hs : starEach [e] X.env = [(false, eval e X.env)] := by rfl) :
    PI X (.Tuple elts kk tpos) (.Call (.Name "enumerate" p) [e] [] pos) (iEnumT K ta) := hK ▸ pi_enumT hg hm ha hs
def rLenQ (K : PySem.W.Frag) : List V → Hp → VK → Prop := fun xs H Q => ∃ p ys, xs = [.ref p] ∧ (SqL K H p ys ∨ SqT K H p ys) ∧ Q (.int ys.length) H
theorem k_len (hK : X.K = K) : CallR X (.builtin "len") (rLenQ K) := hK ▸ call_len_seq
def rTupQ (K : PySem.W.Frag) : List V → Hp → VK → Prop := fun xs H Q => ∃ p ys, xs = [.ref p] ∧ ((SqL K H p ys ∧ ∀ l, H l = none → Q (.ref l) (upd H l (.tup ys))) ∨ (SqT K H p ys ∧ Q (.ref p) H))
theorem k_tuple (hK : X.K = K) : CallR X (.type "tuple") (rTupQ K) := hK ▸ call_tuple_of
def rLstQ (K : PySem.W.Frag) : List V → Hp → VK → Prop := fun xs H Q => ∃ p ys, xs = [.ref p] ∧ (SqL K H p ys ∨ SqT K H p ys) ∧ ∀ l, H l = none → Q (.ref l) (upd H l (.lst ys))
theorem k_list (hK : X.K = K) : CallR X (.type "list") (rLstQ K) := hK ▸ call_list_of
theorem k_sum (hK : X.K = K) (hc : X.calm = true) : CallR X (.builtin "sum") (rSum K) := hK ▸ cr_sum hc
theorem k_all (hK : X.K = K) (hc : X.calm = true) : CallR X (.builtin "all") (rAll K) := hK ▸ cr_all hc
theorem k_maxL (hK : X.K = K) (hc : X.calm = true) : CallR X (.builtin "max") (rMax K) := hK ▸ cr_max hc
theorem k_isi (hK : X.K = K) : CallR X (.builtin "isinstance") (rIsi K) := hK ▸ call_isi
theorem k_catT (hK : X.K = K) : OpR X (binaryOp .Add) (rCatA K) := hK ▸ op_catA
theorem k_repT (hK : X.K = K) : OpR X (binaryOp .Mult) (rRepT K) := hK ▸ op_repT
theorem k_eqD (hK : X.K = K) (hu : X.A.units + 64 < cLine) : OpR X (compareOp .Eq) (rEqD K) := hK ▸ op_eqD hu
theorem k_neD (hK : X.K = K) (hu : X.A.units + 64 < cLine) : OpR X (compareOp .NotEq) (rNeD K) := hK ▸ op_neD hu
def rIntQ : List V → Hp → VK → Prop := fun xs H Q => (∃ i, xs = [.int i] ∧ Q (.int i) H) ∨ ∃ k, xs = [.bl k] ∧ Q (.int (if k then 1 else 0)) H
theorem k_int : CallR X (.type "int") rIntQ := call_int1
def rAbsQ : List V → Hp → VK → Prop := fun xs H Q => ∃ i, xs = [.int i] ∧ Q (.int (if i < 0 then -i else i)) H
theorem k_abs : CallR X (.builtin "abs") rAbsQ := call_abs
def rMaxQ : List V → Hp → VK → Prop := fun xs H Q => ∃ i j, xs = [.int i, .int j] ∧ Q (.int (if j > i then j else i)) H
theorem k_max2 (hc : X.calm = true) : CallR X (.builtin "max") rMaxQ := call_max2 hc
def rMinQ : List V → Hp → VK → Prop := fun xs H Q => ∃ i j, xs = [.int i, .int j] ∧ Q (.int (if j < i then j else i)) H
theorem k_min2 (hc : X.calm = true) : CallR X (.builtin "min") rMinQ := call_min2 hc
def rStrQ : List V → Hp → VK → Prop := fun xs H Q => ∃ i : Int, xs = [.int i] ∧ i.natAbs.log2 < 1920 ∧ Q (.str (toString i)) H
theorem k_str : CallR X (.type "str") rStrQ := call_str_int
def rIntS : List V → Hp → VK → Prop := fun xs H Q => ∃ a n, xs = [.str a] ∧ PySem.intText? a = some n ∧ a.length ≤ 640 ∧ Q (.int n) H
theorem k_intS : CallR X (.type "int") rIntS := call_int_str
def rLenS : List V → Hp → VK → Prop := fun xs H Q => ∃ z, xs = [.str z] ∧ z.length ≤ sizeLine ∧ Q (.int z.length) H
theorem k_lenS : CallR X (.builtin "len") rLenS := call_len_str
end
/-! ### their data -/
section
variable {F : Fm} {K : PySem.W.Frag} {χ : SV → Prop}
/-- a thing with items: a tuple or a list -/
inductive IsSeq : SV → List D → Prop
  | tup (xs : List D) : IsSeq (.d (.tup xs)) xs
  | own (xs : List D) : IsSeq (.own xs) xs
  | bor (xs : List D) : IsSeq (.bor xs) xs
theorem IsLst.seq {r : SV} {xs : List D} (h : IsLst r xs) : IsSeq r xs := by
  rcases h with e | e
  · rw [e]
    exact .own xs
  · rw [e]
    exact .bor xs
theorem rr_seq {Hb H : Hp} {v : V} {r : SV} {xs : List D} (h : RRep F Hb H v r) (e : IsSeq r xs) : ∃ p vs, v = .ref p ∧ (SqL K H p vs ∨ SqT K H p vs) ∧ RepL H vs xs := by
  cases e with
  | tup xs =>
    have h : Rep H v (.tup xs) := h
    cases h with
    | @tup a vs _ ha hr => exact ⟨a, vs, rfl, .inr (.inl (.inl ha)), hr⟩
  | own xs =>
    obtain ⟨p, vs, h1, _, h2, h3⟩ := h
    exact ⟨p, vs, h1, .inl (.inl (.inl h2)), h3⟩
  | bor xs =>
    obtain ⟨p, vs, h1, _, h2, h3⟩ := h
    exact ⟨p, vs, h1, .inl (.inl (.inl h2)), h3⟩
theorem rr_lst1 {Hb H : Hp} {vs : List V} {r : SV} (h : RRL F Hb H vs [r]) : ∃ v, vs = [v] ∧ RRep F Hb H v r := by
  cases h with
  | cons h t =>
    cases t
    exact ⟨_, rfl, h⟩
theorem rcl_len {r : SV} {xs : List D} (e : IsSeq r xs) : RCl F (rLenQ K) [r] (· = .d (.int xs.length)) := fun Hb H vs Q _ jh _ rr q => by
  obtain ⟨v, rfl, h⟩ := rr_lst1 rr
  obtain ⟨p, ws, rfl, hs, hr⟩ := rr_seq (K := K) h e
  exact ⟨p, ws, rfl, hs, q _ H (.d (.int xs.length)) (Kp.refl F H) jh (by rw [hr.length]; exact .int _) rfl⟩
theorem rcl_sum {r : SV} {ns : List Int} (e : IsLst r (ns.map .int)) : RCl F (rSum K) [r] (· = .d (.int ns.sum)) := fun Hb H vs Q _ jh _ rr q => by
  obtain ⟨v, rfl, h⟩ := rr_lst1 rr
  obtain ⟨p, ws, rfl, hp, hr⟩ := rr_lst h e
  rw [hr.ints] at hp
  exact ⟨p, ns, rfl, .inl (.inl hp), q _ H (.d (.int ns.sum)) (Kp.refl F H) jh (.int _) rfl⟩
theorem rcl_all {r : SV} {bs : List Bool} (e : IsLst r (bs.map .bl)) : RCl F (rAll K) [r] (· = .d (.bl (bs.all id))) := fun Hb H vs Q _ jh _ rr q => by
  obtain ⟨v, rfl, h⟩ := rr_lst1 rr
  obtain ⟨p, ws, rfl, hp, hr⟩ := rr_lst h e
  rw [hr.bls] at hp
  exact ⟨p, bs, rfl, .inl (.inl hp), q _ H (.d (.bl _)) (Kp.refl F H) jh (.bl _) rfl⟩
theorem rcl_maxL {r : SV} {ns : List Int} (e : IsLst r (ns.map .int)) (h0 : 0 < ns.length) : RCl F (rMax K) [r] fun z => ∃ m, z = .d (.int m) ∧ m ∈ ns ∧ ∀ y ∈ ns, y ≤ m := fun Hb H vs Q _ jh _ rr q => by
  obtain ⟨v, rfl, h⟩ := rr_lst1 rr
  obtain ⟨p, ws, rfl, hp, hr⟩ := rr_lst h e
  rw [hr.ints] at hp
  exact ⟨p, ns, rfl, .inl (.inl hp), h0, fun m h1 h2 => q _ H (.d (.int m)) (Kp.refl F H) jh (.int _) ⟨m, rfl, h1, h2⟩⟩
theorem rcl_tuple {r : SV} {xs : List D} (e : IsSeq r xs) : RCl F (rTupQ K) [r] (· = .d (.tup xs)) := fun Hb H vs Q jb jh kb rr q => by
  obtain ⟨v, rfl, h⟩ := rr_lst1 rr
  have new : ∀ p ws, H p = some (.lst ws) → RepL H ws xs → rTupQ K [.ref p] H Q := fun p ws hp hr => ⟨p, ws, rfl, .inl ⟨.inl (.inl hp), fun l hl => q _ _ (.d (.tup xs)) (Kp.new hl) (F.upd jh hl jh) (.tup upd_same (hr.mono fun a vs' e => by rw [upd_ne (ne_of_none e hl)]; exact e)) rfl⟩⟩
  cases e with
  | tup xs =>
    have h : Rep H v (.tup xs) := h
    cases h with
    | @tup a vs _ ha hr2 => exact ⟨a, vs, rfl, .inr ⟨.inl (.inl ha), q _ H (.d (.tup xs)) (Kp.refl F H) jh (.tup ha hr2) rfl⟩⟩
  | own xs =>
    obtain ⟨p', vs, rfl, _, h2, h3⟩ := h
    exact new p' vs h2 h3
  | bor xs =>
    obtain ⟨p', vs, rfl, _, h2, h3⟩ := h
    exact new p' vs h2 h3
theorem rcl_list {r : SV} {xs : List D} (e : IsSeq r xs) : RCl F (rLstQ K) [r] (· = .own xs) := fun Hb H vs Q jb jh kb rr q => by
  obtain ⟨v, rfl, h⟩ := rr_lst1 rr
  obtain ⟨p, ws, rfl, hs, hr⟩ := rr_seq (K := K) h e
  exact ⟨p, ws, rfl, hs, fun l hl => q _ _ (.own xs) (Kp.new hl) (F.upd jh hl jh) ⟨l, ws, rfl, kb.free jb jh hl, upd_same, hr.mono fun a vs' e => by rw [upd_ne (ne_of_none e hl)]; exact e⟩ rfl⟩
theorem rr_two {Hb H : Hp} {vs : List V} {x y : D} (h : RRL F Hb H vs [.d x, .d y]) : ∃ v u, vs = [v, u] ∧ Rep H v x ∧ Rep H u y := by
  cases h with
  | cons h t =>
    cases t with
    | cons h2 t =>
      cases t
      exact ⟨_, _, rfl, h, h2⟩
/-- isinstance with a built-in class -/
theorem rcl_isi {x : D} {n : String} {t : Value} {b : Bool} (ht : ∀ (H : Hp) v, Rep H v x → TyOf K H v t) (hb : PySem.W.kitOne K t (.type n) = some b) : RCl F (rIsi K) [.d x, .d (.ty n)] (· = .d (.bl b)) := fun Hb H vs Q _ jh _ rr q => by
  obtain ⟨v, u, rfl, h1, h2⟩ := rr_two rr
  cases h2
  exact ⟨v, .ty n, t, .type n, b, rfl, .ty n, .base (ht H v h1), hb, q _ H (.d (.bl b)) (Kp.refl F H) jh (.bl _) rfl⟩
end
end Wb
/-! WbL -/
set_option maxHeartbeats 4000000
namespace Wb
open PySem PySem.Spec PyProof.Rows L2
section
variable {F : Fm} {K : PySem.W.Frag} {ds : Ds} {χ : SV → Prop} {te : TE} {tl th : TO} {x : SV}
/-! ### slices -/
def EvP (F : Fm) (t : TO) (ds : Ds) (φ : Option Int → Prop) : Prop := ∀ (H0 : Hp) (P : List Pn) (σ : L2.St) (H : Hp), Ste F H0 P σ H ds →
  ∀ Q : Option Int → Hp → Prop, (∀ b H2, Kp F H H2 → F.J H2 → φ b → Q b H2) → t σ H Q
theorem ep_none : EvP F tNoPart ds (· = none) := fun H0 P σ H s Q q => q none H (Kp.refl F H) s.j rfl
theorem ep_some {i : Int} (h : Ev F te ds (· = .d (.int i))) : EvP F (tPart te) ds (· = some i) := fun H0 P σ H s Q q => h H0 P σ H s _ fun v H2 r k j rr e => by
  subst e
  cases rr
  exact ⟨i, rfl, q (some i) H2 k j rfl⟩
def RSl (F : Fm) (r : V → Option Int → Option Int → Hp → VK → Prop) (x : SV) (lo hi : Option Int) (χ : SV → Prop) : Prop := ∀ (Hb H : Hp) (vx : V) (Q : VK), F.J Hb → F.J H → Kp F Hb H → RRep F Hb H vx x →
  (∀ v H2 z, Kp F H H2 → F.J H2 → RRep F Hb H2 v z → χ z → Q v H2) → r vx lo hi H Q
theorem ev_sl {r : V → Option Int → Option Int → Hp → VK → Prop} {lo hi : Option Int} (ha : Ev F te ds (· = x)) (hl : EvP F tl ds (· = lo)) (hh : EvP F th ds (· = hi)) (hr : RSl F r x lo hi χ) : Ev F (tSl r te tl th) ds χ := fun H0 P σ H s Q q =>
  ha H0 P σ H s _ fun vx H1 z k1 j1 r1 e1 => hl H0 P σ H1 (s.mono k1 j1) _ fun l H2 k2 j2 e2 => hh H0 P σ H2 (s.mono (k1.trans k2) j2) _ fun u H3 k3 j3 e3 => by
    subst e1
    subst e2
    subst e3
    exact hr H H3 vx Q s.j j3 ((k1.trans k2).trans k3) (r1.mono s.j (k2.trans k3) j1) fun v H4 z k4 j4 r4 p4 => q v H4 z (((k1.trans k2).trans k3).trans k4) j4 r4 p4
def cutD (xs : List D) (lo hi : Option Int) : List D := (xs.drop (HT.sIx xs.length 0 lo)).take (HT.sIx xs.length xs.length hi - HT.sIx xs.length 0 lo)
theorem RepL.cut {H : Hp} {vs : List V} {xs : List D} (h : RepL H vs xs) (lo hi : Option Int) : RepL H (cutV vs lo hi) (cutD xs lo hi) := by
  unfold cutV cutD
  rw [h.length]
  exact (h.drop _).take _
theorem cutD_all {xs : List D} {lo hi : Option Int} (h : HT.sIx xs.length 0 lo = 0 ∧ HT.sIx xs.length xs.length hi = xs.length) : cutD xs lo hi = xs := by
  unfold cutD
  rw [h.1, h.2, List.drop_zero, Nat.sub_zero, List.take_length]
theorem rsl_tup {xs : List D} {lo hi : Option Int} : RSl F (rSlA K) (.d (.tup xs)) lo hi (· = .d (.tup (cutD xs lo hi))) := fun Hb H vx Q jb jh kb rx q => by
  have rx : Rep H vx (.tup xs) := rx
  cases rx with
  | @tup a vs _ ha hr =>
    refine ⟨a, vs, rfl, .inl (.inl ha), fun h => ?_, fun _ p hp => ?_⟩
    · rw [hr.length] at h
      exact q _ H (.d (.tup _)) (Kp.refl F H) jh (by rw [cutD_all h]; exact .tup ha hr) rfl
    · exact q _ _ (.d (.tup _)) (Kp.new hp) (F.upd jh hp jh) (.tup upd_same ((hr.cut lo hi).mono fun a vs' e => by rw [upd_ne (ne_of_none e hp)]; exact e)) rfl
theorem rsl_lst {xs : List D} {lo hi : Option Int} (e : IsLst x xs) : RSl F (rSlL K) x lo hi (· = .own (cutD xs lo hi)) := fun Hb H vx Q jb jh kb rx q => by
  obtain ⟨p, vs, rfl, hp, hr⟩ := rr_lst rx e
  exact ⟨p, vs, rfl, .inl (.inl hp), fun l hl => q _ _ (.own _) (Kp.new hl) (F.upd jh hl jh) ⟨l, _, rfl, kb.free jb jh hl, upd_same, (hr.cut lo hi).mono fun a vs' e => by rw [upd_ne (ne_of_none e hl)]; exact e⟩ rfl⟩
theorem rsl_str {z : Str} {lo hi : Option Int} (h : z.length ≤ sizeLine) : RSl F rSlS (.d (.str z)) lo hi (· = .d (.str (cutS z lo hi))) := fun Hb H vx Q jb jh kb rx q => by
  have rx : Rep H vx (.str z) := rx
  cases rx
  exact ⟨z, rfl, h, q _ H (.d (.str _)) (Kp.refl F H) jh (.str _) rfl⟩
theorem ro_ixS {z : Str} {i : Int} {c : Nat} (hz : z.length ≤ sizeLine) (h : atI z.cps.toList i = some c) : RO F rIxS (.d (.str z)) (.d (.int i)) (· = .d (.str ⟨#[c]⟩)) := fun Hb H vx vy Q _ jh _ rx ry q => by
  have rx : Rep H vx (.str z) := rx
  have ry : Rep H vy (.int i) := ry
  cases rx
  cases ry
  exact ⟨z, i, c, rfl, rfl, hz, h, q _ H (.d (.str _)) (Kp.refl F H) jh (.str _) rfl⟩
/-! ### more built-ins -/
theorem rr_one {Hb H : Hp} {vs : List V} {x : D} (h : RRL F Hb H vs [.d x]) : ∃ v, vs = [v] ∧ Rep H v x := rr_lst1 h
theorem rcl_int {i : Int} : RCl F rIntQ [.d (.int i)] (· = .d (.int i)) := fun Hb H vs Q _ jh _ rr q => by
  obtain ⟨v, rfl, h⟩ := rr_one rr
  cases h
  exact .inl ⟨i, rfl, q _ H (.d (.int i)) (Kp.refl F H) jh (.int _) rfl⟩
theorem rcl_intB {b : Bool} : RCl F rIntQ [.d (.bl b)] (· = .d (.int (if b then 1 else 0))) := fun Hb H vs Q _ jh _ rr q => by
  obtain ⟨v, rfl, h⟩ := rr_one rr
  cases h
  exact .inr ⟨b, rfl, q _ H (.d (.int _)) (Kp.refl F H) jh (.int _) rfl⟩
theorem rcl_abs {i : Int} : RCl F rAbsQ [.d (.int i)] (· = .d (.int (if i < 0 then -i else i))) := fun Hb H vs Q _ jh _ rr q => by
  obtain ⟨v, rfl, h⟩ := rr_one rr
  cases h
  exact ⟨i, rfl, q _ H (.d (.int _)) (Kp.refl F H) jh (.int _) rfl⟩
theorem rcl_str {i : Int} (hz : i.natAbs.log2 < 1920) : RCl F rStrQ [.d (.int i)] (· = .d (.str (toString i))) := fun Hb H vs Q _ jh _ rr q => by
  obtain ⟨v, rfl, h⟩ := rr_one rr
  cases h
  exact ⟨i, rfl, hz, q _ H (.d (.str _)) (Kp.refl F H) jh (.str _) rfl⟩
theorem rcl_intS {a : Str} {n : Int} (h1 : PySem.intText? a = some n) (h2 : a.length ≤ 640) : RCl F rIntS [.d (.str a)] (· = .d (.int n)) := fun Hb H vs Q _ jh _ rr q => by
  obtain ⟨v, rfl, h⟩ := rr_one rr
  cases h
  exact ⟨a, n, rfl, h1, h2, q _ H (.d (.int n)) (Kp.refl F H) jh (.int _) rfl⟩
theorem rcl_lenS {z : Str} (hz : z.length ≤ sizeLine) : RCl F rLenS [.d (.str z)] (· = .d (.int z.length)) := fun Hb H vs Q _ jh _ rr q => by
  obtain ⟨v, rfl, h⟩ := rr_one rr
  cases h
  exact ⟨z, rfl, hz, q _ H (.d (.int _)) (Kp.refl F H) jh (.int _) rfl⟩
theorem rcl_max2 {i j : Int} : RCl F rMaxQ [.d (.int i), .d (.int j)] (· = .d (.int (if j > i then j else i))) := fun Hb H vs Q _ jh _ rr q => by
  obtain ⟨v, u, rfl, h1, h2⟩ := rr_two rr
  cases h1
  cases h2
  exact ⟨i, j, rfl, q _ H (.d (.int _)) (Kp.refl F H) jh (.int _) rfl⟩
theorem rcl_min2 {i j : Int} : RCl F rMinQ [.d (.int i), .d (.int j)] (· = .d (.int (if j < i then j else i))) := fun Hb H vs Q _ jh _ rr q => by
  obtain ⟨v, u, rfl, h1, h2⟩ := rr_two rr
  cases h1
  cases h2
  exact ⟨i, j, rfl, q _ H (.d (.int _)) (Kp.refl F H) jh (.int _) rfl⟩
/-! ### + and * of sequences -/
theorem ro_catT {xs ys : List D} (hl : xs.length + ys.length ≤ sizeLine) : RO F (rCatA K) (.d (.tup xs)) (.d (.tup ys)) (· = .d (.tup (xs ++ ys))) := fun Hb H vx vy Q _ jh _ rx ry q => by
  have rx : Rep H vx (.tup xs) := rx
  have ry : Rep H vy (.tup ys) := ry
  cases rx with
  | @tup a vs _ ha hr =>
    cases ry with
    | @tup b us _ hb hs =>
      refine ⟨a, b, vs, us, rfl, rfl, .inl (.inl ha), .inl (.inl hb), by rw [hr.length, hs.length]; exact hl, fun e => ?_, fun _ e => ?_, fun _ _ p hp => ?_⟩
      · subst e
        cases hr
        exact q _ H (.d (.tup ys)) (Kp.refl F H) jh (.tup hb hs) rfl
      · subst e
        cases hs
        exact q _ H (.d (.tup (xs ++ []))) (Kp.refl F H) jh (by rw [List.append_nil]; exact .tup ha hr) rfl
      · exact q _ _ (.d (.tup _)) (Kp.new hp) (F.upd jh hp jh) (.tup upd_same ((hr.append hs).mono fun a vs' e => by rw [upd_ne (ne_of_none e hp)]; exact e)) rfl
theorem ro_catL {x y : SV} {xs ys : List D} (e1 : IsLst x xs) (e2 : IsLst y ys) (hl : xs.length + ys.length ≤ sizeLine) : RO F rCat x y (· = .own (xs ++ ys)) := fun Hb H vx vy Q jb jh kb rx ry q => by
  obtain ⟨p, vs, rfl, hp, hr⟩ := rr_lst rx e1
  obtain ⟨p2, us, rfl, hp2, hs⟩ := rr_lst ry e2
  exact ⟨p, p2, vs, us, rfl, rfl, hp, hp2, by rw [hr.length, hs.length]; exact hl, fun l hl => q _ _ (.own _) (Kp.new hl) (F.upd jh hl jh) ⟨l, _, rfl, kb.free jb jh hl, upd_same, (hr.append hs).mono fun a vs' e => by rw [upd_ne (ne_of_none e hl)]; exact e⟩ rfl⟩
theorem RepL.rep {H : Hp} {vs : List V} {xs : List D} (h : RepL H vs xs) : ∀ n : Nat, RepL H (List.replicate n vs).flatten (List.replicate n xs).flatten
  | 0 => .nil
  | n + 1 => by
    rw [List.replicate_succ, List.replicate_succ, List.flatten_cons, List.flatten_cons]
    exact h.append (RepL.rep h n)
theorem ro_repL {x : SV} {xs : List D} {k : Int} (e1 : IsLst x xs) (h1 : -(2 ^ 63) ≤ k ∧ k < 2 ^ 63) (hl : xs.length * k.toNat ≤ sizeLine) : RO F rRep x (.d (.int k)) (· = .own (List.replicate k.toNat xs).flatten) := fun Hb H vx vy Q jb jh kb rx ry q => by
  have ry : Rep H vy (.int k) := ry
  cases ry
  obtain ⟨p, vs, rfl, hp, hr⟩ := rr_lst rx e1
  exact ⟨p, k, vs, rfl, rfl, hp, h1.1, h1.2, by rw [hr.length]; exact hl, fun l hl => q _ _ (.own _) (Kp.new hl) (F.upd jh hl jh) ⟨l, _, rfl, kb.free jb jh hl, upd_same, (hr.rep _).mono fun a vs' e => by rw [upd_ne (ne_of_none e hl)]; exact e⟩ rfl⟩
theorem ro_repT {xs : List D} {k : Int} (hx : xs ≠ []) (h1 : 2 ≤ k ∧ k ≤ 1000) (hl : xs.length ≤ 1000) : RO F (rRepT K) (.d (.tup xs)) (.d (.int k)) (· = .d (.tup (List.replicate k.toNat xs).flatten)) := fun Hb H vx vy Q jb jh kb rx ry q => by
  have ry : Rep H vy (.int k) := ry
  have rx : Rep H vx (.tup xs) := rx
  cases ry
  cases rx with
  | @tup a vs _ ha hr =>
    exact ⟨a, k, vs, rfl, rfl, .inl (.inl ha), (fun e => hx (by subst e; cases hr; rfl)), h1.1, h1.2, by rw [hr.length]; exact hl, fun l hl => q _ _ (.d (.tup _)) (Kp.new hl) (F.upd jh hl jh) (.tup upd_same ((hr.rep _).mono fun a vs' e => by rw [upd_ne (ne_of_none e hl)]; exact e)) rfl⟩
def rAddS : R2 := fun x y H Q => ∃ i j, x = .str i ∧ y = .str j ∧ i.length + j.length ≤ sizeLine ∧ Q (.str (i ++ j)) H
theorem k_addS {X : Cx} : OpR X (binaryOp .Add) rAddS := op_add_str
theorem ro_addS {a b : Str} (h : a.length + b.length ≤ sizeLine) : RO F rAddS (.d (.str a)) (.d (.str b)) (· = .d (.str (a ++ b))) := fun Hb H vx vy Q jb jh kb rx ry q => by
  have rx : Rep H vx (.str a) := rx
  have ry : Rep H vy (.str b) := ry
  cases rx
  cases ry
  exact ⟨a, b, rfl, rfl, h, q _ H (.d (.str _)) (Kp.refl F H) jh (.str _) rfl⟩
def rIsNQ : R2 := fun x y H Q => y = .non ∧ Q (.bl (decide (x = .non))) H
theorem k_isN {X : Cx} : OpR X (compareOp .Is) rIsNQ := op_isN
def rNotNQ : R2 := fun x y H Q => y = .non ∧ Q (.bl (!decide (x = .non))) H
theorem k_notN {X : Cx} : OpR X (compareOp .IsNot) rNotNQ := op_notN
def isNon : D → Bool
  | .non => true
  | _ => false
theorem rep_isNon {H : Hp} {v : V} {a : D} (r : Rep H v a) : decide (v = .non) = isNon a := by cases r <;> first | exact decide_eq_true rfl | exact decide_eq_false (fun e => nomatch e)
theorem ro_isN {a : D} : RO F rIsNQ (.d a) (.d .non) (· = .d (.bl (isNon a))) := fun Hb H vx vy Q jb jh kb rx ry q => by
  have rx : Rep H vx a := rx
  have ry : Rep H vy .non := ry
  cases ry
  exact ⟨rfl, q _ H (.d (.bl _)) (Kp.refl F H) jh (by rw [rep_isNon rx]; exact .bl _) rfl⟩
theorem ro_notN {a : D} : RO F rNotNQ (.d a) (.d .non) (· = .d (.bl (!isNon a))) := fun Hb H vx vy Q jb jh kb rx ry q => by
  have rx : Rep H vx a := rx
  have ry : Rep H vy .non := ry
  cases ry
  exact ⟨rfl, q _ H (.d (.bl _)) (Kp.refl F H) jh (by rw [rep_isNon rx]; exact .bl _) rfl⟩
/-! ### == deep -/
mutual
def toPy : D → PyData
  | .non => .none
  | .bl b => .bool b
  | .int i => .int i
  | .str s => .str s
  | .tup xs => .tuple (toPys xs)
  | .obj _ => .none
  | .ty _ => .none
def toPys : List D → List PyData
  | [] => []
  | x :: xs => toPy x :: toPys xs
end
mutual
/-- plain data, texts not too long -/
def plainD : D → Bool
  | .str s => PyData.canLay0 (.str s)
  | .tup xs => plainDs xs
  | .obj _ => false
  | .ty _ => false
  | _ => true
def plainDs : List D → Bool
  | [] => true
  | x :: xs => plainD x && plainDs xs
end
mutual
theorem Rep.dp {H : Hp} : ∀ {v : V} {d : D}, Rep H v d → plainD d = true → Dp K H v (toPy d)
  | _, _, .non, _ => by unfold toPy; exact .non
  | _, _, .bl b, _ => by unfold toPy; exact .bl b
  | _, _, .int b, _ => by unfold toPy; exact .int b
  | _, _, .str b, _ => by unfold toPy; exact .str b
  | _, _, .tup ha hr, h => by
    unfold toPy
    unfold plainD at h
    exact .tup (.inl (.inl ha)) (RepL.dp hr h)
  | _, _, .obj a, h => by
    unfold plainD at h
    cases h
  | _, _, .ty a, h => by
    unfold plainD at h
    cases h
theorem RepL.dp {H : Hp} : ∀ {vs : List V} {ds : List D}, RepL H vs ds → plainDs ds = true → DpAll K H vs (toPys ds)
  | _, _, .nil, _ => by unfold toPys; exact .nil
  | _, _, .cons h t, e => by
    unfold plainDs at e
    rw [Bool.and_eq_true] at e
    unfold toPys
    exact .cons (Rep.dp h e.1) (RepL.dp t e.2)
end
mutual
theorem canLay_plain : ∀ d : D, plainD d = true → (toPy d).canLay0 = true
  | .non, _ => by simp only [toPy, PyData.canLay0]
  | .bl b, _ => by simp only [toPy, PyData.canLay0]
  | .int b, _ => by simp only [toPy, PyData.canLay0]
  | .str b, h => by
    unfold plainD at h
    unfold toPy
    exact h
  | .tup xs, h => by
    unfold plainD at h
    simp only [toPy, PyData.canLay0]
    exact canLay_plains xs h
  | .obj a, h => by
    unfold plainD at h
    cases h
  | .ty a, h => by
    unfold plainD at h
    cases h
theorem canLay_plains : ∀ ds : List D, plainDs ds = true → PyData.canLayAll0 (toPys ds) = true
  | [], _ => by simp only [toPys, PyData.canLayAll0]
  | d :: ds, h => by
    unfold plainDs at h
    rw [Bool.and_eq_true] at h
    simp only [toPys, PyData.canLayAll0, canLay_plain d h.1, canLay_plains ds h.2, Bool.and_true]
end
mutual
def depD : D → Nat
  | .tup xs => depDs xs + 1
  | _ => 0
def depDs : List D → Nat
  | [] => 0
  | x :: xs => max (depD x) (depDs xs)
end
mutual
theorem depth_toPy : ∀ d : D, (toPy d).depth = depD d
  | .non => by simp only [toPy, PyData.depth, depD]
  | .bl b => by simp only [toPy, PyData.depth, depD]
  | .int b => by simp only [toPy, PyData.depth, depD]
  | .str b => by simp only [toPy, PyData.depth, depD]
  | .tup xs => by simp only [toPy, PyData.depth, depD, depth_toPys xs]
  | .obj a => by simp only [toPy, PyData.depth, depD]
  | .ty a => by simp only [toPy, PyData.depth, depD]
theorem depth_toPys : ∀ ds : List D, PyData.depthAll (toPys ds) = depDs ds
  | [] => by simp only [toPys, PyData.depthAll, depDs]
  | d :: ds => by simp only [toPys, PyData.depthAll, depDs, depth_toPy d, depth_toPys ds]
end
theorem shaped_of {d : D} (h : plainD d = true) (hd : depD d ≤ 64) : SeqAt.shaped (toPy d) = true := by
  unfold SeqAt.shaped
  rw [Bool.and_eq_true]
  exact ⟨canLay_plain d h, by rw [depth_toPy]; exact decide_eq_true hd⟩
def eqD (a b : D) : Bool := PyData.eqv (toPy a) (toPy b)
theorem ro_eqD {a b : D} (h1 : plainD a = true) (h2 : plainD b = true) (d1 : depD a ≤ 64) (d2 : depD b ≤ 64) : RO F (rEqD K) (.d a) (.d b) (· = .d (.bl (eqD a b))) := fun Hb H vx vy Q jb jh kb rx ry q => by
  have rx : Rep H vx a := rx
  have ry : Rep H vy b := ry
  exact ⟨toPy a, toPy b, rx.dp h1, ry.dp h2, shaped_of h1 d1, shaped_of h2 d2, q _ H (.d (.bl _)) (Kp.refl F H) jh (.bl _) rfl⟩
theorem ro_neD {a b : D} (h1 : plainD a = true) (h2 : plainD b = true) (d1 : depD a ≤ 64) (d2 : depD b ≤ 64) : RO F (rNeD K) (.d a) (.d b) (· = .d (.bl (!eqD a b))) := fun Hb H vx vy Q jb jh kb rx ry q => by
  have rx : Rep H vx a := rx
  have ry : Rep H vy b := ry
  exact ⟨toPy a, toPy b, rx.dp h1, ry.dp h2, shaped_of h1 d1, shaped_of h2 d2, q _ H (.d (.bl _)) (Kp.refl F H) jh (.bl _) rfl⟩
theorem shaped_lst {ds : List D} (h : plainDs ds = true) (hd : depDs ds < 64) : SeqAt.shaped (.list (toPys ds)) = true := by
  unfold SeqAt.shaped
  rw [Bool.and_eq_true]
  refine ⟨by simp only [PyData.canLay0]; exact canLay_plains ds h, decide_eq_true ?_⟩
  simp only [PyData.depth, depth_toPys]
  omega
theorem eqv_nil {ds : List D} : PyData.eqv (.list (toPys ds)) (.list (toPys [])) = ds.isEmpty := by
  cases ds with
  | nil => simp only [toPys, PyData.eqv, PyData.eqvAll, List.isEmpty_nil]
  | cons d ds => simp only [toPys, PyData.eqv, PyData.eqvAll, List.isEmpty_cons]
/-- xs == [] -/
theorem ro_eqNil {x : SV} {xs : List D} (e : IsLst x xs) (h : plainDs xs = true) (hd : depDs xs < 64) : RO F (rEqD K) x (.own []) (· = .d (.bl xs.isEmpty)) := fun Hb H vx vy Q jb jh kb rx ry q => by
  obtain ⟨p, vs, rfl, hp, hr⟩ := rr_lst rx e
  obtain ⟨p2, us, rfl, hp2, hs⟩ := rr_lst ry (.inl rfl)
  refine ⟨.list (toPys xs), .list (toPys []), .lst (.inl (.inl hp)) (hr.dp h), .lst (.inl (.inl hp2)) (hs.dp (by unfold plainDs; rfl)), shaped_lst h hd, shaped_lst (by unfold plainDs; rfl) (by unfold depDs; decide), ?_⟩
  rw [eqv_nil]
  exact q _ H (.d (.bl _)) (Kp.refl F H) jh (.bl _) rfl
theorem ro_neNil {x : SV} {xs : List D} (e : IsLst x xs) (h : plainDs xs = true) (hd : depDs xs < 64) : RO F (rNeD K) x (.own []) (· = .d (.bl (!xs.isEmpty))) := fun Hb H vx vy Q jb jh kb rx ry q => by
  obtain ⟨p, vs, rfl, hp, hr⟩ := rr_lst rx e
  obtain ⟨p2, us, rfl, hp2, hs⟩ := rr_lst ry (.inl rfl)
  refine ⟨.list (toPys xs), .list (toPys []), .lst (.inl (.inl hp)) (hr.dp h), .lst (.inl (.inl hp2)) (hs.dp (by unfold plainDs; rfl)), shaped_lst h hd, shaped_lst (by unfold plainDs; rfl) (by unfold depDs; decide), ?_⟩
  rw [eqv_nil]
  exact q _ H (.d (.bl _)) (Kp.refl F H) jh (.bl _) rfl
mutual
theorem eqD_refl : ∀ d : D, plainD d = true → eqD d d = true
  | .non, _ => by simp only [eqD, toPy, PyData.eqv]
  | .bl b, _ => by simp only [eqD, toPy, PyData.eqv, beq_self_eq_true]
  | .int b, _ => by simp only [eqD, toPy, PyData.eqv, beq_self_eq_true]
  | .str b, _ => by simp only [eqD, toPy, PyData.eqv, beq_self_eq_true]
  | .tup xs, h => by
    unfold plainD at h
    simp only [eqD, toPy, PyData.eqv]
    exact eqDs_refl xs h
  | .obj a, h => by
    unfold plainD at h
    cases h
  | .ty a, h => by
    unfold plainD at h
    cases h
theorem eqDs_refl : ∀ ds : List D, plainDs ds = true → PyData.eqvAll (toPys ds) (toPys ds) = true
  | [], _ => by simp only [toPys, PyData.eqvAll]
  | d :: ds, h => by
    unfold plainDs at h
    rw [Bool.and_eq_true] at h
    have e := eqD_refl d h.1
    unfold eqD at e
    simp only [toPys, PyData.eqvAll, e, eqDs_refl ds h.2, Bool.and_true]
end
end
end Wb
/-! WbM -/
set_option maxHeartbeats 4000000
namespace Wb
open PySem PySem.Spec PyProof.Rows L2
theorem hu64 {A : Around} {k : Nat} (hr : Room k A) : A.units + 64 < cLine := hr.units
section
variable {F : Fm} {ds : Ds} {wi wi1 : TI} {g g1 : TG} {tt : TT} {te : TE} {tb : TS} {vs vs1 : List Nat} {N : Ds → Prop} {R : SV → Prop} {α β : Type}
theorem paired_mapI {g0 f : α → D} (inj : ∀ a b, g0 a = g0 b → a = b) : ∀ {zs : List α} {ys : List D}, Paired (fun x y => ∃ z, x = g0 z ∧ y = f z) (zs.map g0) ys → ys = zs.map f
  | [], _, h => by
    cases h
    rfl
  | z :: zs, _, h => by
    cases h with
    | cons h t =>
      obtain ⟨z', e1, e2⟩ := h
      rw [inj _ _ e1, e2, paired_mapI inj t]
      rfl
theorem ev_lcM {zs : List α} (g0 f : α → D) (inj : ∀ a b, g0 a = g0 b → a = b) (hs : EvI F wi ds (· = zs.map g0)) (hl : zs.length < sizeLine)
    (hb : ∀ z ∈ zs, ∃ is ds', TgOk g is (wipeD ds vs) (g0 z) ds' ∧ (∀ i ∈ is, i ∈ vs) ∧ Ev F te ds' (· = .d (f z))) : Ev F (tLc wi g tYes te vs) ds (· = .own (zs.map f)) :=
  ev_lcR (out := fun x y => ∃ z, x = g0 z ∧ y = f z) hs (fun xs e => by subst e; rw [List.length_map]; exact hl) (fun xs e x hx => by
    subst e
    obtain ⟨z, hz, rfl⟩ := List.mem_map.mp hx
    obtain ⟨is, ds', h1, h2, h3⟩ := hb z hz
    exact ⟨is, ds', h1, h2, h3.imp fun r e => ⟨_, e, z, rfl, rfl⟩⟩) fun xs e ys hp => by
    subst e
    rw [paired_mapI inj hp]
theorem filter_map' {g0 : α → D} {p : α → Bool} {q : D → Bool} (h : ∀ z, q (g0 z) = p z) : ∀ zs : List α, (zs.map g0).filter q = (zs.filter p).map g0
  | [] => rfl
  | z :: zs => by
    rw [List.map_cons, List.filter_cons, List.filter_cons, h z, filter_map' h zs]
    cases p z <;> rfl
/-- with a test -/
theorem ev_lcMIf {zs : List α} (g0 f : α → D) (p : α → Bool) (inj : ∀ a b, g0 a = g0 b → a = b) (inv : D → α) (hinv : ∀ a, inv (g0 a) = a) (hs : EvI F wi ds (· = zs.map g0)) (hl : zs.length < sizeLine)
    (hb : ∀ z ∈ zs, ∃ is ds', TgOk g is (wipeD ds vs) (g0 z) ds' ∧ (∀ i ∈ is, i ∈ vs) ∧ EvT F tt ds' (· = p z) ∧ (p z = true → Ev F te ds' (· = .d (f z)))) : Ev F (tLc wi g tt te vs) ds (· = .own ((zs.filter p).map f)) :=
  ev_lcG hs fun xs e => by
    subst e
    refine ⟨fun x => p (inv x), fun x y => ∃ z, x = g0 z ∧ y = f z, by rw [List.length_map]; exact hl, fun x hx => ?_, fun ys hp => ?_⟩
    · obtain ⟨z, hz, rfl⟩ := List.mem_map.mp hx
      obtain ⟨is, ds', h1, h2, h3, h4⟩ := hb z hz
      exact ⟨is, ds', h1, h2, h3.imp fun r e => by show r = p (inv (g0 z)); rw [e, hinv], fun e => (h4 (by have e' : p (inv (g0 z)) = true := e; rw [hinv] at e'; exact e')).imp fun r e => ⟨_, e, z, rfl, rfl⟩⟩
    · rw [filter_map' (p := p) (fun z => by rw [hinv])] at hp
      rw [paired_mapI inj hp]
theorem zip_map (f : α → D) (h : β → D) : ∀ (xs : List α) (ys : List β), List.zipWith (fun x y => D.tup [x, y]) (xs.map f) (ys.map h) = (List.zip xs ys).map fun p => .tup [f p.1, h p.2]
  | [], _ => rfl
  | _ :: _, [] => rfl
  | x :: xs, y :: ys => congrArg (_ :: ·) (zip_map f h xs ys)
theorem numd_map (f : α → D) : ∀ (xs : List α) (k : Nat), numd k (xs.map f) = (xs.zipIdx k).map fun p => .tup [.int p.2, f p.1]
  | [], _ => rfl
  | x :: xs, k => congrArg (_ :: ·) (numd_map f xs (k + 1))
/-- lo, lo + 1, .. -/
def rngI (lo : Int) (n : Nat) : List Int := (List.range n).map fun (i : Nat) => lo + (i : Int)
theorem intsD_eq (lo : Int) (n : Nat) : intsD lo n = (rngI lo n).map .int := by
  unfold intsD rngI
  rw [List.map_map]
  rfl
theorem rngI_len (lo : Int) (n : Nat) : (rngI lo n).length = n := by
  unfold rngI
  rw [List.length_map, List.length_range]
theorem mem_rngI {lo : Int} {n : Nat} {i : Int} : i ∈ rngI lo n ↔ lo ≤ i ∧ i < lo + n := by
  unfold rngI
  rw [List.mem_map]
  constructor
  · rintro ⟨k, hk, rfl⟩
    have := List.mem_range.mp hk
    omega
  · rintro ⟨h1, h2⟩
    exact ⟨(i - lo).toNat, List.mem_range.mpr (by omega), by omega⟩
theorem EvI.cast {xs ys : List D} (h : EvI F wi ds (· = xs)) (e : xs = ys) : EvI F wi ds (· = ys) := e ▸ h
theorem int_inj (a b : Int) (h : D.int a = D.int b) : a = b := by cases h; rfl
theorem str_inj (a b : Str) (h : D.str a = D.str b) : a = b := by cases h; rfl
theorem int2_inj (a b : Int × Int) (h : D.tup [.int a.1, .int a.2] = D.tup [.int b.1, .int b.2]) : a = b := by
  obtain ⟨a1, a2⟩ := a
  obtain ⟨b1, b2⟩ := b
  cases h
  rfl
/-- a tuple of ints -/
def tI (ns : List Int) : D := .tup (ns.map .int)
theorem tI_inj (a b : List Int) (h : tI a = tI b) : a = b := by
  unfold tI at h
  have e : a.map D.int = b.map D.int := D.tup.inj h
  exact (List.map_inj_right fun x y e => by cases e; rfl).mp e
theorem mul_ok {i j : Int} (h : -(2 ^ 64) < i ∧ i < 2 ^ 64) : CMul i j := .inl h
end
/-! ### promises with a witness -/
def spA {α : Type} (F : Fm) (args : α → List SV) (pre : α → Prop) (post : α → SV → Prop) : Sp := fun vs H Q _ => ∃ a, RRL F H H vs (args a) ∧ F.J H ∧ pre a ∧ ∀ v H' r, Kp F H H' → F.J H' → RRep F H H' v r → post a r → Q v H'
section
variable {α : Type} {F : Fm} {ds : Ds} {φ : SV → Prop} {t : TA} {ρ : List SV → Prop} {args : α → List SV} {pre : α → Prop} {post : α → SV → Prop} {E : XK}
/-- a call of a def that changes nothing -/
theorem ev_callA (h : EvA F t ds ρ) (hp : ∀ as, ρ as → ∃ a, as.map SV.arg = args a ∧ pre a ∧ ∀ r, post a r → φ r ∧ r.noB) : Ev F (tCall (spA Fm.pure args pre post) [] E t) ds φ := fun H0 P σ H s Q q =>
  h H0 P σ H s _ fun vs H1 as k1 j1 r1 p1 => by
    rw [List.append_nil]
    obtain ⟨a, ea, hpa, hq⟩ := hp as p1
    refine ⟨a, by rw [← ea]; exact (r1.args s.j).toPure, trivial, hpa, fun v H2 r k2 _ r2 p2 => ?_⟩
    have sm := k2.pure_same
    obtain ⟨p3, nb⟩ := hq r p2
    refine q v H2 r (k1.trans (Kp.same sm)) (F.same j1 sm) ?_ p3
    cases r with
    | d x => exact r2
    | own xs =>
      obtain ⟨p, vs, h1, h2, h3, h4⟩ := r2
      exact ⟨p, vs, h1, k1.free s.j j1 h2, h3, h4⟩
    | bor xs => exact nb.elim
/-- a call of a def with the same frame -/
theorem ev_callAF (h : EvA F t ds ρ) (hp : ∀ as, ρ as → ∃ a, as.map SV.arg = args a ∧ pre a ∧ ∀ r, post a r → φ r) : Ev F (tCall (spA F args pre post) [] E t) ds φ := fun H0 P σ H s Q q =>
  h H0 P σ H s _ fun vs H1 as k1 j1 r1 p1 => by
    rw [List.append_nil]
    obtain ⟨a, ea, hpa, hq⟩ := hp as p1
    exact ⟨a, by rw [← ea]; exact r1.args s.j, j1, hpa, fun v H2 r k2 j2 r2 p2 => q v H2 r (k1.trans k2) j2 (r2.back k1 s.j j1) (hq r p2)⟩
/-- a call, args known, the result known -/
theorem ev_fnA {as : List SV} {r : SV} (a : α) (h : EvA F t ds (· = as)) (hp : pre a) (hq : ∀ z, post a z → z = r) (ea : as.map SV.arg = args a := by rfl) (nb : r.noB := by trivial) : Ev F (tCall (spA Fm.pure args pre post) [] E t) ds (· = r) :=
  ev_callA h fun _ e => by
    subst e
    exact ⟨a, ea, hp, fun z p => ⟨hq z p, by rw [hq z p]; exact nb⟩⟩
theorem ev_fnAG {as : List SV} (a : α) (h : EvA F t ds (· = as)) (hp : pre a) (hq : ∀ z, post a z → φ z ∧ z.noB) (ea : as.map SV.arg = args a := by rfl) : Ev F (tCall (spA Fm.pure args pre post) [] E t) ds φ :=
  ev_callA h fun _ e => by
    subst e
    exact ⟨a, ea, hp, hq⟩
theorem ev_fnAF {as : List SV} (a : α) (h : EvA F t ds (· = as)) (hp : pre a) (hq : ∀ z, post a z → φ z) (ea : as.map SV.arg = args a := by rfl) : Ev F (tCall (spA F args pre post) [] E t) ds φ :=
  ev_callAF h fun _ e => by
    subst e
    exact ⟨a, ea, hp, hq⟩
end
section
variable {P : Program} {w : World} {K : PySem.W.Frag} {mg : Str → Option Value} {base : Heap} {α : Type}
theorem Wf.calA (W : Wf w K mg) {d : He.DefD} {k : Nat} {x : Str} {N ps : List Str} {F : Fm} {args : α → List SV} {pre : α → Prop} {post : α → SV → Prop} (i j : Nat) (h : fn[i]? = some d) (hg : fa[j]? = some (.glo x)) (S : FnScope N ps d.scope)
    (hb : ∀ (kV doc pm : Value) (an : Option Addr) (cdv ct : Value) (us : List Value), us.length = ps.length → bindArgs (PySem.W.fnOf d.name d.qual d.params d.body d.scope .none kV doc pm an cdv ct) ⟨us, []⟩ = pure (ps.zip us))
    (hl : ∀ a, (args a).length = ps.length)
    (hbody : ∀ (f : Addr) (cdv : Value) (A : Around) (outer : List Env) (s : Shared) (H : Hp) (E : XK), Room k (A.deeper (envOfC d.qual d.scope s.heap.objs.size f cdv)) →
      ∃ t, PSs (cxOf CX0 P w K mg base N d.qual d.scope f cdv A outer s H E).nox d.body t ∧ ∀ a, pre a → Sd F t (sta N.length (args a)) (fun _ => post a (.d .non)) (post a))
    (ha : He.fAd K d.at_ = He.ga K x := by rfl) (h0 : d.dfl = [] := by rfl) (h1 : d.kwd = [] := by rfl) : Cal P w K mg base (k + 1) x ps (spA F args pre post) := by
  obtain ⟨fd, FD⟩ := W.def_ i h
  have e0 : d.dvs K = [] := by
    unfold He.DefD.dvs
    rw [h0]
    rfl
  have e1 : d.kws K = [] := by
    unfold He.DefD.kws
    rw [h1]
    rfl
  rw [e0, e1] at FD
  refine ⟨He.fAd K d.at_, fd, FD.ok S (fun vs H Q E ⟨a, r, _, p, _⟩ => r.length.trans (hl a)) fun cdv A outer s H vs Q E hr hs => ?_, by rw [ha]; exact W.glo j hg, FD.kp, FD.bindsN hb⟩
  obtain ⟨t, ht, hq⟩ := hbody (He.fAd K d.at_) cdv A outer s H E hr
  refine ⟨t, PSs.nox ht, ?_⟩
  obtain ⟨a, r, j, hp, q⟩ := hs
  exact entry (E := E) (Pre := fun as => as = args a) (Post := fun _ => post a) ⟨args a, r, j, rfl, q⟩ fun as e _ => by
    subst e
    exact hq a hp
end
section
variable {F : Fm} {ds : Ds} {te : TE} {t : TA} {K : PySem.W.Frag} {N : Ds → Prop} {R : SV → Prop}
theorem k_star {X : Cx} {e : Expr} {es : List Expr} {p : Pos} (hK : X.K = K) (he : PE X e te) (hr : PA X es t) (hs : starEach (.Starred e p :: es) X.env = (true, eval e X.env) :: starEach es X.env := by rfl) : PA X (.Starred e p :: es) (StX.tStar K te t) := hK ▸ StX.pa_star he hr hs
theorem RRL.ofRepL {H H2 : Hp} : ∀ {vs : List V} {xs : List D}, RepL H2 vs xs → RRL F H H2 vs (xs.map .d)
  | _, _, .nil => .nil
  | _, _, .cons h t => .cons h (RRL.ofRepL t)
theorem RRL.append {H H2 : Hp} : ∀ {vs us : List V} {xs ys : List SV}, RRL F H H2 vs xs → RRL F H H2 us ys → RRL F H H2 (vs ++ us) (xs ++ ys)
  | _, _, _, _, .nil, s => s
  | _, _, _, _, .cons h t, s => .cons h (RRL.append t s)
theorem RRL.mono {H H2 H3 : Hp} (jb : F.J H) (k : Kp F H2 H3) (j : F.J H2) : ∀ {vs : List V} {xs : List SV}, RRL F H H2 vs xs → RRL F H H3 vs xs
  | _, _, .nil => .nil
  | _, _, .cons h t => .cons (h.mono jb k j) (RRL.mono jb k j t)
theorem ea_star {x : SV} {xs : List D} {rs : List SV} (e : IsSeq x xs) (h : Ev F te ds (· = x)) (ht : EvA F t ds (· = rs)) : EvA F (StX.tStar K te t) ds (· = xs.map .d ++ rs) := fun H0 P σ H s Q q =>
  h H0 P σ H s _ fun v H1 z k1 j1 r1 e1 => by
    subst e1
    obtain ⟨p, vs, rfl, hs, hr⟩ := rr_seq (K := K) r1 e
    refine ⟨p, vs, rfl, hs.symm, ht H0 P σ H1 (s.mono k1 j1) _ fun us H2 zs k2 j2 r2 e2 => ?_⟩
    subst e2
    exact q _ H2 _ (k1.trans k2) j2 ((RRL.ofRepL (hr.mono (k2.ts j1))).append (r2.back k1 s.j j1)) rfl
theorem sd_retE {r0 : SV} (h : Ev F te ds (· = r0)) (k : R r0) : Sd F (tRet te) ds N R := sd_ret h fun r e => by
  rw [e]
  exact k
theorem sd_setE {i : Nat} {r0 : SV} (h : Ev F te ds (· = r0)) (k : N (ds.set i (some r0))) (nb : r0.noB := by trivial) : Sd F (tAsg te (gName i)) ds N R := sd_set h fun r e => by
  rw [e]
  exact ⟨nb, k⟩
/-- a statement whose end is one state -/
theorem sd_seqE {t u : TS} {ds1 : Ds} (h : Sd F t ds (· = ds1) R) (k : Sd F u ds1 N R) : Sd F (tSeq t u) ds N R := sd_seq h fun d e => by
  rw [e]
  exact k
end
end Wb
namespace Wb
open PySem PySem.Spec PyProof.Rows L2
section
variable {α β : Type} {F : Fm} {ds : Ds} {wi wi1 : TI} {g g1 : TG} {te : TE} {vs vs1 : List Nat}
theorem inv_of {γ : Type} [Nonempty α] {g0 : α → γ} (inj : ∀ a b, g0 a = g0 b → a = b) : ∃ inv : γ → α, ∀ a, inv (g0 a) = a := by
  classical
  refine ⟨fun d => if h : ∃ a, g0 a = d then h.choose else Classical.choice ‹_›, fun a => ?_⟩
  have h : ∃ b, g0 b = g0 a := ⟨a, rfl⟩
  show (if h : ∃ b, g0 b = g0 a then h.choose else _) = a
  rw [dif_pos h]
  exact inj _ _ h.choose_spec
theorem ev_lc2M {zs : List α} (g0 : α → D) (inner : α → List β) (h0 : β → D) (f : α → β → D) (inj : ∀ a b, g0 a = g0 b → a = b) (inj2 : ∀ a b, h0 a = h0 b → a = b) (hs : EvI F wi ds (· = zs.map g0)) (hl : (zs.flatMap fun z => (inner z).map (f z)).length < sizeLine)
    (hb : ∀ z ∈ zs, ∃ is ds1, TgOk g is (wipeD ds vs) (g0 z) ds1 ∧ (∀ i ∈ is, i ∈ vs) ∧ noOwn ds1 = true ∧ EvI F wi1 ds1 (· = (inner z).map h0) ∧ ∀ y ∈ inner z, ∃ js ds2, TgOk g1 js (wipeD ds1 vs1) (h0 y) ds2 ∧ (∀ j ∈ js, j ∈ vs1) ∧ Ev F te ds2 (· = .d (f z y))) :
    Ev F (tLc2 wi g tYes wi1 g1 tYes te vs vs1) ds (· = .own (zs.flatMap fun z => (inner z).map (f z))) := by
  have key : ∀ (i1 : D → List D) (f1 : D → D → D), (∀ z ∈ zs, i1 (g0 z) = (inner z).map h0) → (∀ z ∈ zs, ∀ y ∈ inner z, f1 (g0 z) (h0 y) = f z y) → Ev F (tLc2 wi g tYes wi1 g1 tYes te vs vs1) ds (· = .own (zs.flatMap fun z => (inner z).map (f z))) := by
    intro i1 f1 h1 h2
    have e : ((zs.map g0).flatMap fun x => (i1 x).map (f1 x)) = zs.flatMap fun z => (inner z).map (f z) := by
      clear hs hl hb
      induction zs with
      | nil => rfl
      | cons z zs ih =>
        rw [List.map_cons, List.flatMap_cons, List.flatMap_cons, ih (fun z hz => h1 z (List.mem_cons_of_mem _ hz)) fun z hz => h2 z (List.mem_cons_of_mem _ hz)]
        congr 1
        rw [h1 z List.mem_cons_self, List.map_map]
        exact List.map_congr_left fun y hy => h2 z List.mem_cons_self y hy
    rw [← e]
    refine ev_lc2 i1 f1 hs (by rw [e]; exact hl) fun x hx => ?_
    obtain ⟨z, hz, rfl⟩ := List.mem_map.mp hx
    obtain ⟨is, ds1, a1, a2, a3, a4, a5⟩ := hb z hz
    refine ⟨is, ds1, a1, a2, a3, a4.cast (h1 z hz).symm, fun y' hy' => ?_⟩
    rw [h1 z hz] at hy'
    obtain ⟨y, hy, rfl⟩ := List.mem_map.mp hy'
    obtain ⟨js, ds2, b1, b2, b3⟩ := a5 y hy
    exact ⟨js, ds2, b1, b2, by rw [h2 z hz y hy]; exact b3⟩
  by_cases hα : Nonempty α
  · obtain ⟨inv, hinv⟩ := inv_of inj
    by_cases hβ : Nonempty β
    · obtain ⟨inv2, hinv2⟩ := inv_of inj2
      exact key (fun x => (inner (inv x)).map h0) (fun x y => f (inv x) (inv2 y)) (fun z _ => by rw [hinv]) fun z _ y _ => by rw [hinv, hinv2]
    · have e : ∀ z, inner z = [] := fun z => by
        cases h : inner z with
        | nil => rfl
        | cons y _ => exact (hβ ⟨y⟩).elim
      exact key (fun _ => []) (fun _ _ => .non) (fun z _ => by rw [e]; rfl) fun z _ y hy => by
        rw [e] at hy
        cases hy
  · have e : zs = [] := by
      cases h : zs with
      | nil => rfl
      | cons y _ => exact (hα ⟨y⟩).elim
    subst e
    exact key (fun _ => []) (fun _ _ => .non) (fun z hz => nomatch hz) fun z hz => nomatch hz
end
section
variable {w : World} {K : PySem.W.Frag} {mg : Str → Option Value}
def kindsT : List (Str × Int) := [("copy", 1), ("neg", 1), ("add", 2), ("sub", 2), ("mul", 2), ("least", 2), ("most", 2), ("madd", 3)]
theorem Wf.kinds (W : Wf w K mg) : ∃ es n, KDict K w (He.ga K "KINDS") es n := by
  have e := W.says.1
  have e2 : ts.map (fun t => He.dicW K (t.1 K)) = ts.map fun t => some (He.keysIn w.params t.2) := congrArg (fun z => z.2) e
  have e3 := congrArg (fun l => l[0]?) e2
  exact He.dicW_ok (Option.some.inj e3)
theorem Wf.kval (W : Wf w K mg) {k : Str} {n : Int} (h : (k, n) ∈ kindsT) : ∃ u, PySem.W.nsIn K (He.ga K "KINDS") k = some (some u) ∧ RelV (.int n) u := by
  have h1 := W.exs.2
  have key : ∀ (l : List (Str × Int)) (l2 : List (Str × He.Dv)), l2 = l.map (fun p => (p.1, He.Dv.int p.2)) → (k, n) ∈ l → (k, He.Dv.int n) ∈ l2 := fun l l2 e h => by
    rw [e]
    exact List.mem_map.mpr ⟨(k, n), h, rfl⟩
  exact He.valsB_ok h1 (key kindsT _ rfl h)
theorem Wf.kdct (W : Wf w K mg) {k : Str} {n : Int} (h : (k, n) ∈ kindsT) : KDct K w (He.ga K "KINDS") k (.int n) := by
  obtain ⟨es, m, D⟩ := W.kinds
  obtain ⟨u, h1, h2⟩ := W.kval h
  exact ⟨es, m, u, D.at_, D.lit, h1, h2⟩
def rInKD (K : PySem.W.Frag) (d : Addr) : R2 := fun x y H Q => ∃ (z : Str) (r : Option Value), x = .str z ∧ y = .ref d ∧ PySem.W.nsIn K d z = some r ∧ Q (.bl r.isSome) H
theorem k_inKD {X : Cx} (W : Wf X.w X.K mg) : OpR X (compareOp .In) (rInKD X.K (He.ga X.K "KINDS")) := fun pins s σ H x y v u Q I rx ry q => by
  obtain ⟨es, m, D⟩ := W.kinds
  exact op_in_kd D pins s σ H x y v u Q I rx ry q
theorem ro_inKD {F : Fm} (W : Wf w K mg) {k : Str} {n : Int} (h : (k, n) ∈ kindsT) : RO F (rInKD K (He.ga K "KINDS")) (.d (.str k)) (.d (.obj (He.ga K "KINDS"))) (· = .d (.bl true)) := fun Hb H vx vy Q _ jh _ rx ry q => by
  have rx : Rep H vx (.str k) := rx
  have ry : Rep H vy (.obj _) := ry
  cases rx
  cases ry
  obtain ⟨u, h1, h2⟩ := W.kval h
  exact ⟨k, some u, rfl, rfl, h1, q _ H (.d (.bl true)) (Kp.refl F H) jh (.bl _) rfl⟩
theorem k_ixKD {X : Cx} (hK : X.K = K) (hw : X.w = w) : IxR X (rIxD K w) := by
  subst hK hw
  exact ix_kdict
theorem ro_ixKD {F : Fm} (W : Wf w K mg) {k : Str} {n : Int} (h : (k, n) ∈ kindsT) : RO F (rIxD K w) (.d (.obj (He.ga K "KINDS"))) (.d (.str k)) (· = .d (.int n)) := fun Hb H vx vy Q _ jh _ rx ry q => by
  have rx : Rep H vx (.obj _) := rx
  have ry : Rep H vy (.str k) := ry
  cases rx
  cases ry
  exact ⟨_, k, .int n, rfl, rfl, W.kdct h, q _ H (.d (.int n)) (Kp.refl F H) jh (.int _) rfl⟩
end
end Wb
/-! WbN -/
set_option maxHeartbeats 4000000
namespace Wb
open PySem PySem.Spec PyProof.Rows L2
section
variable {X : Cx} {K : PySem.W.Frag}
/-! ### >=, min, sorted of plain data -/
def rGeD (K : PySem.W.Frag) : R2 := fun x y H Q => ∃ d e, Dp K H x d ∧ Dp K H y e ∧ PySem.W.alike d e = true ∧ d ≠ .none ∧ d.depth ≤ 60 ∧ Q (.bl (!PySem.W.dataLt d e)) H
theorem k_geD (hK : X.K = K) (hu : X.A.units + 64 < cLine) : OpR X (compareOp .GtE) (rGeD K) := by
  subst hK
  intro pins s σ H x y v u Q I rx ry h
  obtain ⟨d, e, hd, he, ha, hn, hdp, q⟩ := h
  obtain ⟨as, r1⟩ := Dp.reads I d x v hd rx
  obtain ⟨bs, r2⟩ := Dp.reads I e y u he ry
  have hm : min d.depth e.depth ≤ d.depth := Nat.min_le_left _ _
  exact PySem.W.ge_data r1 r2 ha hn (by omega) ⟨.bl _, H, I, rfl, q⟩
/-- some item of the list -/
def rMinD (K : PySem.W.Frag) : List V → Hp → VK → Prop := fun vs H Q => ∃ (a : Addr) (xs : List V) (d : PyData) (ds : List PyData), vs = [V.ref a] ∧ SqL K H a xs ∧ DpAll K H xs (d :: ds) ∧ PySem.W.AlikeAll (d :: ds) ∧ PyData.depthAll (d :: ds) ≤ 60 ∧ ∀ (i : Nat) (x : V), xs[i]? = some x → Q x H
theorem k_minD (hK : X.K = K) (hc : X.calm = true) (hu : X.A.units + 64 < cLine) : CallR X (.builtin "min") (rMinD K) := by
  subst hK
  intro pins s σ H vs us Q I r h
  obtain ⟨a, xs, d, ds, rfl, hs, hd, hal, hdp, q⟩ := h
  obtain ⟨its, rv, hl, hz⟩ := I.list hs
  rw [Vals.ref1 r]
  obtain ⟨as, hr⟩ := Dp.readsAll I (d :: ds) xs its hd rv
  refine PySem.W.min_list_data (I.ok.hd hc) hl.isList (by simpa using hr) hal (by omega) fun i v h' tk bs hv _ hk => ?_
  have hv' : its[i]? = some v := by simpa using hv
  have hlt : i < xs.length := by
    rw [rv.length]
    exact (List.getElem?_eq_some_iff.mp hv').1
  obtain ⟨u, hu2, ru⟩ := rv.get (List.getElem?_eq_getElem hlt)
  have e : u = v := by
    rw [hv'] at hu2
    exact (Option.some.inj hu2).symm
  subst e
  exact ⟨xs[i], H, I.kept (t' := tk) hk, ru, q i _ (List.getElem?_eq_getElem hlt)⟩
def leD (a b : D) : Bool := !PySem.W.dataLt (toPy b) (toPy a)
/-- the data of the list sorted -/
def rSortD (K : PySem.W.Frag) : List V → Hp → VK → Prop := fun vs H Q => ∃ (a : Addr) (xs : List V) (ds : List D), vs = [V.ref a] ∧ SqL K H a xs ∧ RepL H xs ds ∧ plainDs ds = true ∧ PySem.W.AllAlike (ds.map toPy) ∧ PySem.W.Sortable (ds.map toPy) ∧ depDs ds ≤ 50 ∧
  ∀ (ys : List V) (p : Addr), RepL H ys (ds.mergeSort leD) → H p = none → Q (.ref p) (upd H p (.lst ys))
theorem dep_mem {d : D} : ∀ {ds : List D}, d ∈ ds → depD d ≤ depDs ds
  | x :: xs, h => by
    unfold depDs
    rcases List.mem_cons.mp h with e | h
    · rw [e]
      exact Nat.le_max_left _ _
    · exact Nat.le_trans (dep_mem h) (Nat.le_max_right _ _)
theorem toPys_map : ∀ ds : List D, toPys ds = ds.map toPy
  | [] => by
    unfold toPys
    rfl
  | d :: ds => by
    unfold toPys
    rw [toPys_map ds]
    rfl
theorem RepL.zips {H : Hp} : ∀ {vs : List V} {ds : List D}, RepL H vs ds → ∀ p ∈ vs.zip ds, Rep H p.1 p.2
  | _, _, .nil, p, h => nomatch h
  | _, _, .cons r t, p, h => by
    rcases List.mem_cons.mp h with e | h
    · rw [e]
      exact r
    · exact RepL.zips t p h
theorem RepL.unzip {H : Hp} : ∀ {ps : List (V × D)}, (∀ p ∈ ps, Rep H p.1 p.2) → RepL H (ps.map Prod.fst) (ps.map Prod.snd)
  | [], _ => .nil
  | p :: ps, h => .cons (h p List.mem_cons_self) (RepL.unzip fun q hq => h q (List.mem_cons_of_mem _ hq))
theorem vals_of_each {bs : List (V × D)} {us : List Value} (e : PySem.W.EachIs (fun v (b : V × D) => RelV b.1 v) us bs) : Vals (bs.map Prod.fst) us := by
  induction e with
  | nil => exact .nil
  | cons h _ ih => exact .cons h ih
theorem each_of_vals {R : Value → V × D → Prop} : ∀ {vs : List V} {us : List Value} {ds : List D}, Vals vs us → vs.length = ds.length → (∀ (i : Nat) u v d, us[i]? = some u → vs[i]? = some v → ds[i]? = some d → RelV v u → R u (v, d)) → PySem.W.EachIs R us (vs.zip ds)
  | _, _, [], .nil, _, _ => .nil
  | _, _, d :: ds, .cons h t, e, k => .cons (k 0 _ _ _ rfl rfl rfl h) (each_of_vals t (Nat.succ.inj e) fun i u v d a b c => k (i + 1) u v d a b c)
theorem dpAll_get {H : Hp} : ∀ {vs : List V} {ds : List PyData} {i : Nat} {v : V} {d : PyData}, DpAll K H vs ds → vs[i]? = some v → ds[i]? = some d → Dp K H v d
  | _, _, _, _, _, .nil, h, _ => by simp at h
  | _, _, 0, _, _, .cons h _, e1, e2 => by
    simp at e1 e2
    subst e1 e2
    exact h
  | _, _, i + 1, v, d, .cons _ t, e1, e2 => dpAll_get (i := i) t (by simpa using e1) (by simpa using e2)
theorem k_sortD (hK : X.K = K) (hu : X.A.units + 64 < cLine) : CallR X (.builtin "sorted") (rSortD K) := by
  subst hK
  intro pins s σ H vs us Q I r h
  obtain ⟨a, xs, ds, rfl, hs, hr, hp, hal, hso, hdp, q⟩ := h
  obtain ⟨its, rv, hl, hz⟩ := I.list hs
  rw [Vals.ref1 r]
  have hdd : DpAll X.K H xs (toPys ds) := hr.dp hp
  have hsnd : (xs.zip ds).map Prod.snd = ds := List.map_snd_zip (by rw [hr.length]; exact Nat.le_refl _)
  have henc : (xs.zip ds).map (fun b => toPy b.2) = ds.map toPy := by
    rw [← hsnd, List.map_map, hsnd]
    rfl
  have hlen : (xs.zip ds).length = xs.length := by rw [List.length_zip, hr.length]; exact Nat.min_self _
  have e1 : PySem.W.EachIs (fun v (b : V × D) => RelV b.1 v) its (xs.zip ds) := each_of_vals rv hr.length fun i u v d _ _ _ h => h
  have e2 : PySem.W.EachIs (fun v (b : V × D) => ∃ as, Reads s.heap v (toPy b.2) as) its (xs.zip ds) := each_of_vals rv hr.length fun i u v d _ hv hd h => by
    refine Dp.reads I (toPy d) v u (dpAll_get hdd hv ?_) h
    rw [toPys_map, List.getElem?_map, hd]
    rfl
  refine PySem.W.sorted_data (enc := fun b : V × D => toPy b.2) hl.isList e1 e2 (by rw [henc]; exact hal) (by rw [henc]; exact hso) (by rw [hlen]; exact hz) (fun b hb => ?_) fun out hout eo => ?_
  · have hm : b.2 ∈ ds := by
      rw [← hsnd]
      exact List.mem_map_of_mem hb
    have := dep_mem hm
    rw [depth_toPy]
    omega
  · obtain ⟨ep, he'⟩ := PyProof.Rows.sortedAll_at s.heap its out.toArray
    have hv := vals_of_each eo
    have hrep : RepL H (((xs.zip ds).mergeSort (PySem.W.dataLe false fun b : V × D => toPy b.2)).map Prod.fst) (ds.mergeSort leD) := by
      have h1 : ∀ p ∈ (xs.zip ds).mergeSort (PySem.W.dataLe false fun b : V × D => toPy b.2), Rep H p.1 p.2 := fun p hp => hr.zips p (List.mem_mergeSort.mp hp)
      have h2 : ((xs.zip ds).mergeSort (PySem.W.dataLe false fun b : V × D => toPy b.2)).map Prod.snd = ds.mergeSort leD := by
        rw [List.map_mergeSort (s := leD), hsnd]
        intro p _ q _
        rw [PySem.W.dataLe_eq]
        rfl
      rw [← h2]
      exact RepL.unzip h1
    have hll : (((xs.zip ds).mergeSort (PySem.W.dataLe false fun b : V × D => toPy b.2)).map Prod.fst).length ≤ sizeLine := by
      rw [List.length_map, List.length_mergeSort, hlen]
      exact hz
    exact ⟨.ref _, upd H (s.heap.objs.size + 1) (.lst _), I.laid (t' := s.toks) (fun _ _ => PyProof.Rows.sortedAll_old) (Nat.le_succ _) ⟨hll, out, ep, hv, he'⟩, rfl, q _ _ hrep (I.hok.fresh (Nat.le_succ _))⟩
end
section
variable {F : Fm} {K : PySem.W.Frag}
theorem ro_geD {a b : D} (h1 : plainD a = true) (h2 : plainD b = true) (ha : PySem.W.alike (toPy a) (toPy b) = true) (hn : toPy a ≠ .none) (d1 : depD a ≤ 60) : RO F (rGeD K) (.d a) (.d b) (· = .d (.bl (!PySem.W.dataLt (toPy a) (toPy b)))) := fun Hb H vx vy Q jb jh kb rx ry q => by
  have rx : Rep H vx a := rx
  have ry : Rep H vy b := ry
  exact ⟨toPy a, toPy b, rx.dp h1, ry.dp h2, ha, hn, by rw [depth_toPy]; exact d1, q _ H (.d (.bl _)) (Kp.refl F H) jh (.bl _) rfl⟩
theorem rcl_minD {r : SV} {d : D} {ds : List D} (e : IsLst r (d :: ds)) (hp : plainDs (d :: ds) = true) (ha : PySem.W.AlikeAll ((d :: ds).map toPy)) (hd : depDs (d :: ds) ≤ 60) : RCl F (rMinD K) [r] fun z => ∃ x, z = .d x ∧ x ∈ d :: ds := fun Hb H vs Q _ jh _ rr q => by
  obtain ⟨v, rfl, h⟩ := rr_lst1 rr
  obtain ⟨p, ws, rfl, hw, hr⟩ := rr_lst h e
  have hdp := hr.dp (K := K) hp
  rw [toPys_map] at hdp
  refine ⟨p, ws, toPy d, ds.map toPy, rfl, .inl (.inl hw), hdp, ha, ?_, fun i x hx => ?_⟩
  · have := depth_toPys (d :: ds)
    rw [toPys_map] at this
    exact Nat.le_trans (Nat.le_of_eq this) hd
  · obtain ⟨y, hy, ry⟩ := hr.getV hx
    exact q x H (.d y) (Kp.refl F H) jh ry ⟨y, rfl, List.mem_of_getElem? hy⟩
theorem rcl_sortD {r : SV} {ds : List D} (e : IsLst r ds) (hp : plainDs ds = true) (ha : PySem.W.AllAlike (ds.map toPy)) (hso : PySem.W.Sortable (ds.map toPy)) (hd : depDs ds ≤ 50) : RCl F (rSortD K) [r] (· = .own (ds.mergeSort leD)) := fun Hb H vs Q jb jh kb rr q => by
  obtain ⟨v, rfl, h⟩ := rr_lst1 rr
  obtain ⟨p, ws, rfl, hw, hr⟩ := rr_lst h e
  exact ⟨p, ws, ds, rfl, .inl (.inl hw), hr, hp, ha, hso, hd, fun ys l hy hl => q _ _ (.own _) (Kp.new hl) (F.upd jh hl jh) ⟨l, ys, rfl, kb.free jb jh hl, upd_same, hy.mono fun a vs' e => by rw [upd_ne (ne_of_none e hl)]; exact e⟩ rfl⟩
end
end Wb
/-! WbT -/
set_option maxHeartbeats 4000000
namespace Wb
open PySem PySem.Spec PyProof.Rows L2
/-! ### texts -/
section
variable {F : Fm} {ds : Ds} {te to : TE} {K : PySem.W.Frag} {N : Ds → Prop} {R : SV → Prop} {χ : SV → Prop}
def rJoinQ (K : PySem.W.Frag) : V → List V → Hp → VK → Prop := fun x xs H Q => ∃ a p, ∃ ys : List Str, x = .str a ∧ xs = [.ref p] ∧ (SqL K H p (ys.map V.str) ∨ SqT K H p (ys.map V.str)) ∧ (ys.map (·.length)).sum + ys.length * a.length ≤ 16777216 ∧ Q (.str (Txt.join a ys)) H
theorem k_join {X : Cx} {o e : Expr} {apos pos : Pos} (hK : X.K = K) (ho : PE X o to) (he : PE X e te) (hs : starEach [e] X.env = [(false, eval e X.env)] := by rfl) (hbase : attributeBase o "join" X.env (eval o X.env) = eval o X.env := by rfl) (hline : (apos.endLine == pos.line) = true := by rfl) :
    PE X (.Call (.Attribute o "join" apos) [e] [] pos) (tM1 (rJoinQ K) to te) := hK ▸ pe_join ho he hs hbase hline
theorem ev_join {a : Str} {ys : List Str} (ho : Ev F to ds (· = .d (.str a))) (he : Ev F te ds (· = .own (ys.map .str))) (hz : (ys.map (·.length)).sum + ys.length * a.length ≤ 16777216) : Ev F (tM1 (rJoinQ K) to te) ds (· = .d (.str (Txt.join a ys))) := fun H0 P σ H s Q q =>
  ho H0 P σ H s _ fun v H1 r k1 j1 r1 e1 => by
    subst e1
    cases r1
    refine ⟨⟨a, rfl⟩, he H0 P σ H1 (s.mono k1 j1) _ fun u H2 r2 k2 j2 r3 e2 => ?_⟩
    subst e2
    obtain ⟨p, vs, rfl, hp, hr⟩ := rr_lst r3 (.inl rfl)
    rw [hr.strs] at hp
    exact ⟨a, p, ys, rfl, rfl, .inl (.inl (.inl hp)), hz, q _ H2 (.d (.str _)) (k1.trans k2) j2 (.str _) rfl⟩
def rSplQ : V → List V → Hp → VK → Prop := fun x xs H Q => ∃ a b, x = .str a ∧ xs = [.str b] ∧ (b.length == 0) = false ∧ a.length + 2 ≤ sizeLine ∧ rNewStrs (Txt.split a b) H Q
theorem k_split {X : Cx} {o e : Expr} {apos pos : Pos} (ho : PE X o to) (he : PE X e te) (hs : starEach [e] X.env = [(false, eval e X.env)] := by rfl) (hbase : attributeBase o "split" X.env (eval o X.env) = eval o X.env := by rfl) (hline : (apos.endLine == pos.line) = true := by rfl) :
    PE X (.Call (.Attribute o "split" apos) [e] [] pos) (tM1 rSplQ to te) := pe_split ho he hs hbase hline
theorem ev_split {a b : Str} {ws : List Str} (ho : Ev F to ds (· = .d (.str a))) (he : Ev F te ds (· = .d (.str b))) (hb : (b.length == 0) = false) (hz : a.length + 2 ≤ sizeLine) (e : Txt.split a b = ws) : Ev F (tM1 rSplQ to te) ds (· = .own (ws.map .str)) := fun H0 P σ H s Q q =>
  ho H0 P σ H s _ fun v H1 r k1 j1 r1 e1 => by
    subst e1
    cases r1
    refine ⟨⟨a, rfl⟩, he H0 P σ H1 (s.mono k1 j1) _ fun u H2 r2 k2 j2 r3 e2 => ?_⟩
    subst e2
    cases r3
    refine ⟨a, b, rfl, rfl, hb, hz, fun p hp => ?_⟩
    rw [e]
    have hp0 : H p = none := (k1.trans k2).free s.j j2 hp
    exact q _ _ (.own _) ((k1.trans k2).trans (Kp.new hp)) (F.upd j2 hp j2) ⟨p, _, rfl, hp0, upd_same, RepL.of_strs ws⟩ rfl
/-- the signs of a text -/
theorem src_str {z : Str} (h : Ev F te ds (· = .d (.str z))) : EvI F (iStr te) ds (· = z.cps.toList.map fun c => .str ⟨#[c]⟩) := fun H0 P σ H s R q => h H0 P σ H s _ fun v H1 r k j rr e => by
  subst e
  cases rr
  refine ⟨z, rfl, q _ H1 [] _ k j (fun _ h => nomatch h) (fun _ h => nomatch h) ⟨fun _ => True, fun i H v H' => H' = H ∧ ∃ c, z.cps[i]? = some c ∧ v = .str ⟨#[c]⟩, ?_, fun _ _ _ => trivial, fun i H2 x H3 hi _ hp y => ?_⟩ rfl⟩
  · rw [List.length_map, Array.length_toList]
    exact walk_str
  · obtain ⟨e, c, hc, e2⟩ := y
    subst e e2
    refine ⟨.str ⟨#[c]⟩, ?_, .str _, .inl rfl⟩
    have hc' : z.cps.toList[i]? = some c := by rw [Array.getElem?_toList]; exact hc
    show (z.cps.toList.map fun c => D.str ⟨#[c]⟩)[i]? = _
    rw [List.getElem?_map, hc']
    rfl
def rInSg : R2 := fun x y H Q => ∃ (c : Nat) (z : Str), x = .str ⟨#[c]⟩ ∧ y = .str z ∧ Q (.bl (decide (c ∈ z.cps.toList))) H
theorem k_inSg {X : Cx} : OpR X (compareOp .In) rInSg := op_in_sign
theorem ro_inSg {c : Nat} {z : Str} : RO F rInSg (.d (.str ⟨#[c]⟩)) (.d (.str z)) (· = .d (.bl (decide (c ∈ z.cps.toList)))) := fun Hb H vx vy Q jb jh kb rx ry q => by
  have rx : Rep H vx (.str _) := rx
  have ry : Rep H vy (.str z) := ry
  cases rx
  cases ry
  exact ⟨c, z, rfl, rfl, q _ H (.d (.bl _)) (Kp.refl F H) jh (.bl _) rfl⟩
theorem k_inL {X : Cx} (hK : X.K = K) : OpR X (compareOp .In) (rIn K false) := hK ▸ op_in_seq
theorem k_notInL {X : Cx} (hK : X.K = K) : OpR X (compareOp .NotIn) (rIn K true) := hK ▸ op_notIn_seq
theorem ro_noneInI {x : SV} {ns : List Int} (e : IsLst x (ns.map .int)) : RO F (rIn K false) (.d .non) x (· = .d (.bl false)) := fun Hb H vx vy Q jb jh kb rx ry q => by
  have rx : Rep H vx .non := rx
  cases rx
  obtain ⟨p, vs, rfl, hp, hr⟩ := rr_lst ry e
  rw [hr.ints] at hp
  refine ⟨p, ns.map .int, rfl, .inl (.inl (.inl hp)), rfl, ?_, ?_⟩
  · rw [List.all_map, List.all_eq_true]
    exact fun _ _ => rfl
  · have e2 : inV .non (ns.map V.int) = false := by
      unfold inV
      rw [List.any_map, List.any_eq_false]
      exact fun _ _ h => nomatch h
    rw [if_neg Bool.false_ne_true, e2]
    exact q _ H (.d (.bl false)) (Kp.refl F H) jh (.bl _) rfl
theorem RepL.strsT {H : Hp} {vs : List V} {ws : List Str} (h : RepL H vs (ws.map D.str)) : vs = ws.map V.str := h.strs
theorem ro_notInT {a : Str} {ws : List Str} : RO F (rIn K true) (.d (.str a)) (.d (.tup (ws.map .str))) (· = .d (.bl (!(inV (.str a) (ws.map V.str))))) := fun Hb H vx vy Q jb jh kb rx ry q => by
  have rx : Rep H vx (.str a) := rx
  have ry : Rep H vy (.tup _) := ry
  cases rx
  cases ry with
  | @tup p vs _ hp hr =>
    have e := hr.strs
    subst e
    refine ⟨p, ws.map V.str, rfl, .inr (.inl (.inl hp)), rfl, ?_, ?_⟩
    · rw [List.all_map, List.all_eq_true]
      exact fun _ _ => rfl
    · rw [if_pos rfl]
      exact q _ H (.d (.bl _)) (Kp.refl F H) jh (.bl _) rfl
/-- x, y, z = a, b, c: at most one of a, b a list, c none -/
theorem sd_par3 {i j l : Nat} {ta tb tc : TE} {x y : SV} {z : D} (ha : Ev F ta ds (· = x)) (hb : Ev F tb ds (· = y)) (hc : Ev F tc ds (· = .d z)) (hij : i ≠ j) (nx : x.noB) (ny : y.noB) (hd : (∃ d, x = .d d) ∨ ∃ d, y = .d d) (hn : N (((ds.set i (some x)).set j (some y)).set l (some (.d z)))) :
    Sd F (tPar3 i j l (tCons ta (tCons tb (tCons tc tNil)))) ds N R := fun H0 P σ H D s n _ =>
  ha H0 P σ H s _ fun u H1 rx k1 j1 r1 p1 => hb H0 P σ H1 (s.mono k1 j1) _ fun v H2 ry k2 j2 r2 p2 => hc H0 P σ H2 (s.mono (k1.trans k2) j2) _ fun w H3 rz k3 j3 r3 p3 => by
    subst p1 p2 p3
    have s2 := s.set2 ((k1.trans k2).trans k3) j3 i j ((r1.mono s.j k2 j1).mono s.j k3 j2) ((r2.back k1 s.j j1).mono s.j k3 j2) nx ny (fun xs ys p e1 e2 _ _ => by
      rcases hd with ⟨d, e⟩ | ⟨d, e⟩
      · rw [e1] at e
        cases e
      · rw [e2] at e
        cases e) hij
    exact ⟨u, v, w, rfl, n P _ H3 _ (fun _ h => h) (s2.setD l r3) hn⟩
end
/-! ### the numbers that stand in the texts -/
abbrev numS (i : Int) : Str := Str.ofString (toString i)
def digI : List Int := [-4, -3, -2, -1, 0, 1, 2, 3, 4, 5, 6, 7, 8, 9]
def digS (i : Int) : Str := if i < 0 then cutS (numS i) (some 1) none else numS i
def numB (i : Int) : Bool := decide (cutS (numS i) none (some 1) = "-") == decide (i < 0) && (decide (digS i ≠ "") && (decide ((digS i).length ≤ 1) && ((digS i).cps.toList.all fun c => decide (c ∈ ("0123456789" : Str).cps.toList)) &&
  (decide ((numS i).length ≤ 2) && (match (digS i).cps.toList with | [c] => (!decide ((⟨#[c]⟩ : Str) = "0")) || decide (numS i = "0") | _ => false))))
theorem num_facts : ∀ i ∈ digI, numB i = true := by decide +kernel
theorem num_reads : ∀ i ∈ digI, PySem.intText? (numS i) = some i := by decide +kernel
theorem num_signs : ∀ i ∈ digI, (TL.tl (numS i)).all (fun c => c != 32 && c != 64 && c != 44 && c != 47) = true := by decide +kernel
section
variable {α : Type} {F : Fm} {ds : Ds} {wi : TI} {g : TG} {te : TE} {vs : List Nat}
theorem paired_mapM {all : List α} {g0 f : α → D} (inj : ∀ a ∈ all, ∀ b ∈ all, g0 a = g0 b → a = b) : ∀ {zs : List α} {ys : List D}, (∀ z ∈ zs, z ∈ all) → Paired (fun x y => ∃ z ∈ all, x = g0 z ∧ y = f z) (zs.map g0) ys → ys = zs.map f
  | [], _, _, h => by
    cases h
    rfl
  | z :: zs, _, m, h => by
    cases h with
    | cons h t =>
      obtain ⟨z', hz, e1, e2⟩ := h
      rw [inj _ (m z List.mem_cons_self) _ hz e1, e2, paired_mapM inj (fun y hy => m y (List.mem_cons_of_mem _ hy)) t]
      rfl
/-- ev_lcM, the coding one-to-one on what is there -/
theorem ev_lcMm {zs : List α} (g0 f : α → D) (inj : ∀ a ∈ zs, ∀ b ∈ zs, g0 a = g0 b → a = b) (hs : EvI F wi ds (· = zs.map g0)) (hl : zs.length < sizeLine)
    (hb : ∀ z ∈ zs, ∃ is ds', TgOk g is (wipeD ds vs) (g0 z) ds' ∧ (∀ i ∈ is, i ∈ vs) ∧ Ev F te ds' (· = .d (f z))) : Ev F (tLc wi g tYes te vs) ds (· = .own (zs.map f)) :=
  ev_lcR (out := fun x y => ∃ z ∈ zs, x = g0 z ∧ y = f z) hs (fun xs e => by subst e; rw [List.length_map]; exact hl) (fun xs e x hx => by
    subst e
    obtain ⟨z, hz, rfl⟩ := List.mem_map.mp hx
    obtain ⟨is, ds', h1, h2, h3⟩ := hb z hz
    exact ⟨is, ds', h1, h2, h3.imp fun r e => ⟨_, e, z, hz, rfl, rfl⟩⟩) fun xs e ys hp => by
    subst e
    rw [paired_mapM inj (fun _ h => h) hp]
end
theorem numS_inj {a b : Int} (ha : a ∈ digI) (hb : b ∈ digI) (h : numS a = numS b) : a = b := by
  have h1 := num_reads a ha
  rw [h, num_reads b hb] at h1
  exact (Option.some.inj h1).symm
end Wb
/-! WbX1 -/
set_option maxHeartbeats 4000000
namespace Wb
open PySem PySem.Spec PyProof.Rows L2
variable {P : Program} {w : World} {K : PySem.W.Frag} {mg : Str → Option Value} {base : Heap}
def dotI (xs ys : List Int) : Int := ((List.zip xs ys).map fun p => p.1 * p.2).sum
def subI (xs ys : List Int) : List Int := (List.zip xs ys).map fun p => p.1 - p.2
def small (n : Int) : Prop := -(2 ^ 64) < n ∧ n < 2 ^ 64
theorem lt_line {n : Nat} (h : n ≤ 100000) : n < sizeLine := Nat.lt_of_le_of_lt h (by decide)
theorem zip_le {α β : Type} {xs : List α} {ys : List β} {n : Nat} (h : xs.length ≤ n) : (List.zip xs ys).length ≤ n := by
  rw [List.length_zip]
  omega
/-! ### isinstance -/
theorem isi_int_int : PySem.W.kitOne K (.type "int") (.type "int") = some true := kit_ty (by decide +kernel)
theorem isi_int_bool : PySem.W.kitOne K (.type "int") (.type "bool") = some false := kit_ty (by decide +kernel)
theorem isi_tup_tup : PySem.W.kitOne K (.type "tuple") (.type "tuple") = some true := kit_ty (by decide +kernel)
theorem isi_str_str : PySem.W.kitOne K (.type "str") (.type "str") = some true := kit_ty (by decide +kernel)
theorem rcl_isi_ii {F : Fm} {i : Int} : RCl F (rIsi K) [.d (.int i), .d (.ty "int")] (· = .d (.bl true)) := rcl_isi (fun H v r => by cases r; exact .int _) isi_int_int
theorem rcl_isi_ib {F : Fm} {i : Int} : RCl F (rIsi K) [.d (.int i), .d (.ty "bool")] (· = .d (.bl false)) := rcl_isi (fun H v r => by cases r; exact .int _) isi_int_bool
theorem rcl_isi_tt {F : Fm} {xs : List D} : RCl F (rIsi K) [.d (.tup xs), .d (.ty "tuple")] (· = .d (.bl true)) := rcl_isi (fun H v r => by cases r with | tup ha hr => exact .tup ha) isi_tup_tup
theorem rcl_isi_ss {F : Fm} {x : Str} : RCl F (rIsi K) [.d (.str x), .d (.ty "str")] (· = .d (.bl true)) := rcl_isi (fun H v r => by cases r; exact .str _) isi_str_str
theorem ev_ty {F : Fm} {ds : Ds} {n : String} : Ev F (tC (.ty n)) ds (· = .d (.ty n)) := fun H0 P σ H s Q q => q _ H (.d (.ty n)) (Kp.refl F H) s.j (.ty n) rfl
abbrev N_is_integer : List Str := ["value", "low", "high"]
abbrev P_is_integer : List Str := ["value", "low", "high"]
theorem sc_is_integer : FnScope N_is_integer P_is_integer d_is_integer.scope := ⟨rfl, rfl, rfl, by decide +kernel, rfl, by decide +kernel, by decide +kernel⟩
theorem b_is_integer (kV doc pm : Value) (an : Option Addr) (cdv ct : Value) (us : List Value) (hl : us.length = P_is_integer.length) : bindArgs (PySem.W.fnOf d_is_integer.name d_is_integer.qual d_is_integer.params d_is_integer.body d_is_integer.scope .none kV doc pm an cdv ct) ⟨us, []⟩ = pure (P_is_integer.zip us) := match us, hl with
  | [_, _, _], _ => rfl
theorem c_is_integer (W : Wf w K mg) : Cal P w K mg base 1 "is_integer" P_is_integer (spA Fm.pure (fun a : Int × Int × Int => [.d (.int a.1), .d (.int a.2.1), .d (.int a.2.2)]) (fun _ => True) fun a r => r = .d (.bl (decide (a.2.1 ≤ a.1) && decide (a.1 ≤ a.2.2)))) := by
  have nd := sc_is_integer.nd
  refine W.calA (d := d_is_integer) (N := N_is_integer) 1 0 rfl rfl sc_is_integer b_is_integer ?_ ?_
  rotate_left
  · intro f cdv A outer s H E hr
    refine ⟨_, (pss_one (ps_ret (pe_and (pe_callB (k_isi (K := K) rfl) rfl (W.free 72 rfl) (by decide +kernel) (pa_cons (pv 0) (pa_cons (pe_bltn (v := .ty "int") (u := .type "int") rfl (W.free 71 rfl) (by decide +kernel) rfl) pa_nil))) (pe_and (pe_not (pe_callB (k_isi (K := K) rfl) rfl (W.free 72 rfl) (by decide +kernel) (pa_cons (pv 0) (pa_cons (pe_bltn (v := .ty "bool") (u := .type "bool") rfl (W.free 69 rfl) (by decide +kernel) rfl) pa_nil)))) (pe_one (pe_chain op_le op_le (pv 1) (pv 0) (pv 2))))))), ?_⟩
    rintro ⟨v, lo, hi⟩ -
    exact sd_retE (ev_and (a := true) (ev_call_b (ea_cons ev_var (ea_cons ev_ty ea_nil)) rcl_isi_ii) fun _ => ev_and (a := true) (ev_not (a := false) (ev_call_b (ea_cons ev_var (ea_cons ev_ty ea_nil)) rcl_isi_ib)) fun _ => ev_chain ev_var ev_var ev_var) (by simp)
  · intro a
    rfl
abbrev N_are_integers : List Str := ["value", "many", "low", "high", "item"]
abbrev P_are_integers : List Str := ["value", "many", "low", "high"]
theorem sc_are_integers : FnScope N_are_integers P_are_integers d_are_integers.scope := ⟨rfl, rfl, rfl, by decide +kernel, rfl, by decide +kernel, by decide +kernel⟩
theorem b_are_integers (kV doc pm : Value) (an : Option Addr) (cdv ct : Value) (us : List Value) (hl : us.length = P_are_integers.length) : bindArgs (PySem.W.fnOf d_are_integers.name d_are_integers.qual d_are_integers.params d_are_integers.body d_are_integers.scope .none kV doc pm an cdv ct) ⟨us, []⟩ = pure (P_are_integers.zip us) := match us, hl with
  | [_, _, _, _], _ => rfl
theorem c_are_integers (W : Wf w K mg) : Cal P w K mg base 2 "are_integers" P_are_integers (spA Fm.pure (fun a : List Int × Int × Int × Int => [.d (tI a.1), .d (.int a.2.1), .d (.int a.2.2.1), .d (.int a.2.2.2)]) (fun a => (a.1.length : Int) = a.2.1 ∧ a.1.length ≤ 100000 ∧ ∀ x ∈ a.1, a.2.2.1 ≤ x ∧ x ≤ a.2.2.2) fun a r => r = .d (.bl true)) := by
  have nd := sc_are_integers.nd
  refine W.calA (d := d_are_integers) (N := N_are_integers) 2 1 rfl rfl sc_are_integers b_are_integers ?_ ?_
  rotate_left
  · intro f cdv A outer s H E hr
    refine ⟨_, (pss_cons (ps_if (PW.pt (pw_or (pt_not (pt_val (pe_callB (k_isi (K := K) rfl) rfl (W.free 72 rfl) (by decide +kernel) (pa_cons (pv 0) (pa_cons (pe_bltn (v := .ty "tuple") (u := .type "tuple") rfl (W.free 82 rfl) (by decide +kernel) rfl) pa_nil))))) (pw_or1 (pt_cmpR op_ne (pe_callB (k_len (K := K) rfl) rfl (W.free 73 rfl) (by decide +kernel) (pa_cons (pv 0) pa_nil)) (pv 1) (nomark _))))) (pss_one (ps_ret pe_bl)) pss_nil) (pss_one (ps_ret (pe_callB (k_all (K := K) rfl rfl) rfl (W.free 68 rfl) (by decide +kernel) (pa_cons (pe_lc (own := [("item", 4)]) (tt := tYes) rfl nd (k_piT (K := K) rfl (pv 0)) (blkOk_by (N := N_are_integers) (sc := d_are_integers.scope) (by decide +kernel)) (fun _ _ _ _ _ => (pg_name (i := 4) nd rfl (Or.inl rfl))) (fun _ _ _ _ _ => pts_nil) (fun _ _ _ _ _ => (pe_cal (c_is_integer W) (hr.mono (by decide)) rfl (pa_cons (pv 4) (pa_cons (pv 2) (pa_cons (pv 3) pa_nil)))))) pa_nil))))), ?_⟩
    rintro ⟨xs, m, lo, hi⟩ ⟨hl, hz, hr⟩
    refine sd_seqE (ds1 := _) (sd_ifF (et_is (et_or (a := false) (et_not (a := true) (et_BD (ev_call_b (ea_cons ev_var (ea_cons ev_ty ea_nil)) rcl_isi_tt))) fun _ => et_testD (ev_op (ev_call_b (ea_cons ev_var ea_nil) (rcl_len (.tup _))) ev_var (ro_ne rfl rfl rfl))) ?_) (sd_next rfl)) ?_
    · rw [List.length_map, hl]
      simp
    · refine sd_retE (ev_call_b (ea_cons (ev_lcM (zs := xs) .int (fun x => .bl (decide (lo ≤ x) && decide (x ≤ hi))) int_inj (src_tup ev_var) (lt_line hz) fun z hm => ⟨_, _, tg_nm, by decide, ev_fnA (z, lo, hi) (ea_cons ev_var (ea_cons ev_var (ea_cons ev_var ea_nil))) trivial fun r e => e⟩) ea_nil) (rcl_all (bs := xs.map fun x => decide (lo ≤ x) && decide (x ≤ hi)) (.inl (by rw [List.map_map]; rfl)))) ?_
      congr 2
      rw [List.all_map, List.all_eq_true]
      intro x hx
      simp [hr x hx]
  · intro a
    rfl
abbrev N_dot : List Str := ["one", "other", "left", "right"]
abbrev P_dot : List Str := ["one", "other"]
theorem sc_dot : FnScope N_dot P_dot d_dot.scope := ⟨rfl, rfl, rfl, by decide +kernel, rfl, by decide +kernel, by decide +kernel⟩
theorem b_dot (kV doc pm : Value) (an : Option Addr) (cdv ct : Value) (us : List Value) (hl : us.length = P_dot.length) : bindArgs (PySem.W.fnOf d_dot.name d_dot.qual d_dot.params d_dot.body d_dot.scope .none kV doc pm an cdv ct) ⟨us, []⟩ = pure (P_dot.zip us) := match us, hl with
  | [_, _], _ => rfl
theorem c_dot (W : Wf w K mg) : Cal P w K mg base 1 "dot" P_dot (spA Fm.pure (fun a : List Int × List Int => [.d (tI a.1), .d (tI a.2)]) (fun a => a.1.length ≤ 100000 ∧ ∀ x ∈ a.1, small x) fun a r => r = .d (.int (dotI a.1 a.2))) := by
  have nd := sc_dot.nd
  refine W.calA (d := d_dot) (N := N_dot) 3 2 rfl rfl sc_dot b_dot ?_ ?_
  rotate_left
  · intro f cdv A outer s H E hr
    refine ⟨_, (pss_one (ps_ret (pe_callB (k_sum (K := K) rfl rfl) rfl (W.free 81 rfl) (by decide +kernel) (pa_cons (pe_lc (own := [("left", 2), ("right", 3)]) (tt := tYes) rfl nd (k_zip (K := K) rfl rfl (W.free 83 rfl) (pa_cons (pv 0) (pa_cons (pv 1) pa_nil))) (blkOk_by (N := N_dot) (sc := d_dot.scope) (by decide +kernel)) (fun _ _ _ _ _ => (k_pg (K := K) (n := 2) rfl rfl (pgs_cons (pg_name (i := 2) nd rfl (Or.inl rfl)) (pgs_cons (pg_name (i := 3) nd rfl (Or.inl rfl)) pgs_nil)))) (fun _ _ _ _ _ => pts_nil) (fun _ _ _ _ _ => (pe_op op_mul (pv 2) (pv 3)))) pa_nil)))), ?_⟩
    rintro ⟨xs, ys⟩ ⟨hl, hs⟩
    refine sd_retE (ev_call_b (ea_cons (ev_lcM (zs := List.zip xs ys) (fun p => .tup [.int p.1, .int p.2]) (fun p => .int (p.1 * p.2)) int2_inj ((src_zip (ea_cons ev_var (ea_cons ev_var ea_nil))).cast (zip_map _ _ _ _)) (lt_line (zip_le hl)) fun z hz => ⟨_, _, tg_tup (tgs_cons tg_nm (tgs_cons tg_nm tgs_nil)), by decide, ?_⟩) ea_nil) (rcl_sum (ns := (List.zip xs ys).map fun p => p.1 * p.2) (.inl ?_))) rfl
    · exact ev_op ev_var ev_var (ro_i (mul_ok (hs _ (List.of_mem_zip hz).1)))
    · rw [List.map_map]
      rfl
  · intro a
    rfl
abbrev N_difference : List Str := ["one", "other", "left", "right"]
abbrev P_difference : List Str := ["one", "other"]
theorem sc_difference : FnScope N_difference P_difference d_difference.scope := ⟨rfl, rfl, rfl, by decide +kernel, rfl, by decide +kernel, by decide +kernel⟩
theorem b_difference (kV doc pm : Value) (an : Option Addr) (cdv ct : Value) (us : List Value) (hl : us.length = P_difference.length) : bindArgs (PySem.W.fnOf d_difference.name d_difference.qual d_difference.params d_difference.body d_difference.scope .none kV doc pm an cdv ct) ⟨us, []⟩ = pure (P_difference.zip us) := match us, hl with
  | [_, _], _ => rfl
theorem c_difference (W : Wf w K mg) : Cal P w K mg base 1 "difference" P_difference (spA Fm.pure (fun a : List Int × List Int => [.d (tI a.1), .d (tI a.2)]) (fun a => a.1.length ≤ 100000) fun a r => r = .d (tI (subI a.1 a.2))) := by
  have nd := sc_difference.nd
  refine W.calA (d := d_difference) (N := N_difference) 4 3 rfl rfl sc_difference b_difference ?_ ?_
  rotate_left
  · intro f cdv A outer s H E hr
    refine ⟨_, (pss_one (ps_ret (pe_callTy (k_tuple (K := K) rfl) rfl (W.free 82 rfl) (by decide +kernel) (pa_cons (pe_lc (own := [("left", 2), ("right", 3)]) (tt := tYes) rfl nd (k_zip (K := K) rfl rfl (W.free 83 rfl) (pa_cons (pv 0) (pa_cons (pv 1) pa_nil))) (blkOk_by (N := N_difference) (sc := d_difference.scope) (by decide +kernel)) (fun _ _ _ _ _ => (k_pg (K := K) (n := 2) rfl rfl (pgs_cons (pg_name (i := 2) nd rfl (Or.inl rfl)) (pgs_cons (pg_name (i := 3) nd rfl (Or.inl rfl)) pgs_nil)))) (fun _ _ _ _ _ => pts_nil) (fun _ _ _ _ _ => (pe_op op_sub (pv 2) (pv 3)))) pa_nil)))), ?_⟩
    rintro ⟨xs, ys⟩ hl
    refine sd_retE (ev_call_b (ea_cons (ev_lcM (zs := List.zip xs ys) (fun p => .tup [.int p.1, .int p.2]) (fun p => .int (p.1 - p.2)) int2_inj ((src_zip (ea_cons ev_var (ea_cons ev_var ea_nil))).cast (zip_map _ _ _ _)) (lt_line (zip_le hl)) fun z hz => ⟨_, _, tg_tup (tgs_cons tg_nm (tgs_cons tg_nm tgs_nil)), by decide, ev_op ev_var ev_var ro_i0⟩) ea_nil) (rcl_tuple (.own _))) ?_
    unfold tI subI
    rw [List.map_map]
    rfl
  · intro a
    rfl
end Wb
/-! WbX2 -/
set_option maxHeartbeats 4000000
namespace Wb
open PySem PySem.Spec PyProof.Rows L2
variable {P : Program} {w : World} {K : PySem.W.Frag} {mg : Str → Option Value} {base : Heap}
def prodI (ns : List Int) : Int := ns.foldl (· * ·) 1
theorem take_succ' {α : Type} {xs : List α} {i : Nat} {x : α} (h : xs[i]? = some x) : xs.take (i + 1) = xs.take i ++ [x] := by
  rw [List.take_add_one, h]
  rfl
theorem get_map {α β : Type} {f : α → β} {xs : List α} {i : Nat} {y : β} (h : (xs.map f)[i]? = some y) : ∃ x, xs[i]? = some x ∧ y = f x := by
  rw [List.getElem?_map] at h
  obtain ⟨x, hx, e⟩ := Option.map_eq_some_iff.mp h
  exact ⟨x, hx, e.symm⟩
theorem take_all {α : Type} {xs : List α} : xs.take xs.length = xs := List.take_length
abbrev N_count_points : List Str := ["box", "found", "size"]
abbrev P_count_points : List Str := ["box"]
theorem sc_count_points : FnScope N_count_points P_count_points d_count_points.scope := ⟨rfl, rfl, rfl, by decide +kernel, rfl, by decide +kernel, by decide +kernel⟩
theorem b_count_points (kV doc pm : Value) (an : Option Addr) (cdv ct : Value) (us : List Value) (hl : us.length = P_count_points.length) : bindArgs (PySem.W.fnOf d_count_points.name d_count_points.qual d_count_points.params d_count_points.body d_count_points.scope .none kV doc pm an cdv ct) ⟨us, []⟩ = pure (P_count_points.zip us) := match us, hl with
  | [_], _ => rfl
theorem c_count_points (W : Wf w K mg) : Cal P w K mg base 1 "count_points" P_count_points (spA Fm.pure (fun a : List Int => [.d (tI a)]) (fun a => ∀ x ∈ a, small x) fun a r => r = .d (.int (prodI a))) := by
  have nd := sc_count_points.nd
  refine W.calA (d := d_count_points) (N := N_count_points) 6 5 rfl rfl sc_count_points b_count_points ?_ ?_
  rotate_left
  · intro f cdv A outer s H E hr
    refine ⟨_, (pss_cons (ps_set (i := 1) nd rfl (Or.inl rfl) pe_int) (pss_cons (ps_for PassesOwn.never rfl (k_piT (K := K) rfl (pv 0)) (pg_name (i := 2) nd rfl (Or.inl rfl)) (pss_one (ps_set (i := 1) nd rfl (Or.inl rfl) (pe_op op_mul (pv 1) (pv 2))))) (pss_one (ps_ret (pv 1))))), ?_⟩
    intro ns hs
    refine sd_seqE (sd_setE ev_ci rfl) ?_
    refine sd_seq (M := fun d => ∃ o, d = [some (.d (tI ns)), some (.d (.int (prodI ns))), o]) (sd_for (fun xs i d => ∃ o, d = [some (.d (tI ns)), some (.d (.int (prodI (ns.take i)))), o]) (src_tup ev_var) (fun xs e => ⟨_, rfl⟩) ?_ ?_) ?_
    · rintro xs i x ds1 rfl hx ⟨o, rfl⟩
      obtain ⟨n, hn, rfl⟩ := get_map hx
      refine ⟨_, _, tg_nm, sd_setE (ev_op ev_var ev_var (ro_i (.inr (hs n (List.mem_of_getElem? hn))))) ?_⟩
      rw [take_succ' hn]
      unfold prodI
      rw [List.foldl_append]
      exact ⟨_, rfl⟩
    · rintro xs ds1 rfl ⟨o, rfl⟩
      rw [List.length_map, take_all]
      exact ⟨o, rfl⟩
    · rintro d ⟨o, rfl⟩
      exact sd_retE ev_var rfl
  · intro a
    rfl
abbrev N_require_small : List Str := ["box"]
abbrev P_require_small : List Str := ["box"]
theorem sc_require_small : FnScope N_require_small P_require_small d_require_small.scope := ⟨rfl, rfl, rfl, by decide +kernel, rfl, by decide +kernel, by decide +kernel⟩
theorem b_require_small (kV doc pm : Value) (an : Option Addr) (cdv ct : Value) (us : List Value) (hl : us.length = P_require_small.length) : bindArgs (PySem.W.fnOf d_require_small.name d_require_small.qual d_require_small.params d_require_small.body d_require_small.scope .none kV doc pm an cdv ct) ⟨us, []⟩ = pure (P_require_small.zip us) := match us, hl with
  | [_], _ => rfl
theorem c_require_small (W : Wf w K mg) : Cal P w K mg base 2 "require_small" P_require_small (spA Fm.pure (fun a : List Int => [.d (tI a)]) (fun a => (∀ x ∈ a, small x) ∧ prodI a ≤ 240) fun a r => r = .d .non) := by
  have nd := sc_require_small.nd
  refine W.calA (d := d_require_small) (N := N_require_small) 7 6 rfl rfl sc_require_small b_require_small ?_ ?_
  rotate_left
  · intro f cdv A outer s H E hr
    refine ⟨_, (pss_one (ps_if (pt_cmpR op_gt (pe_cal (c_count_points W) (hr.mono (by decide)) rfl (pa_cons (pv 0) pa_nil)) (pe_gint (W.int 88 rfl) rfl) (nomark _)) (pss_never) pss_nil)), ?_⟩
    rintro ns ⟨hs, hp⟩
    exact sd_ifF (et_is (et_testD (ev_op (ev_fnA ns (ea_cons ev_var ea_nil) hs fun r e => e) ev_ci ro_b0)) (decide_eq_false (by omega))) (sd_next rfl)
  · intro a
    rfl
abbrev N_is_inside : List Str := ["box", "vector", "item", "size"]
abbrev P_is_inside : List Str := ["box", "vector"]
theorem sc_is_inside : FnScope N_is_inside P_is_inside d_is_inside.scope := ⟨rfl, rfl, rfl, by decide +kernel, rfl, by decide +kernel, by decide +kernel⟩
theorem b_is_inside (kV doc pm : Value) (an : Option Addr) (cdv ct : Value) (us : List Value) (hl : us.length = P_is_inside.length) : bindArgs (PySem.W.fnOf d_is_inside.name d_is_inside.qual d_is_inside.params d_is_inside.body d_is_inside.scope .none kV doc pm an cdv ct) ⟨us, []⟩ = pure (P_is_inside.zip us) := match us, hl with
  | [_, _], _ => rfl
theorem c_is_inside (W : Wf w K mg) : Cal P w K mg base 1 "is_inside" P_is_inside (spA Fm.pure (fun a : List Int × List Int => [.d (tI a.1), .d (tI a.2)]) (fun a => a.2.length ≤ 100000) fun a r => r = .d (.bl ((List.zip a.2 a.1).all fun p => decide (0 ≤ p.1) && decide (p.1 < p.2)))) := by
  have nd := sc_is_inside.nd
  refine W.calA (d := d_is_inside) (N := N_is_inside) 8 7 rfl rfl sc_is_inside b_is_inside ?_ ?_
  rotate_left
  · intro f cdv A outer s H E hr
    refine ⟨_, (pss_one (ps_ret (pe_callB (k_all (K := K) rfl rfl) rfl (W.free 68 rfl) (by decide +kernel) (pa_cons (pe_lc (own := [("item", 2), ("size", 3)]) (tt := tYes) rfl nd (k_zip (K := K) rfl rfl (W.free 83 rfl) (pa_cons (pv 1) (pa_cons (pv 0) pa_nil))) (blkOk_by (N := N_is_inside) (sc := d_is_inside.scope) (by decide +kernel)) (fun _ _ _ _ _ => (k_pg (K := K) (n := 2) rfl rfl (pgs_cons (pg_name (i := 2) nd rfl (Or.inl rfl)) (pgs_cons (pg_name (i := 3) nd rfl (Or.inl rfl)) pgs_nil)))) (fun _ _ _ _ _ => pts_nil) (fun _ _ _ _ _ => (pe_chain op_le op_lt pe_int (pv 2) (pv 3)))) pa_nil)))), ?_⟩
    rintro ⟨xs, ys⟩ hl
    refine sd_retE (ev_call_b (ea_cons (ev_lcM (zs := List.zip ys xs) (fun p => .tup [.int p.1, .int p.2]) (fun p => .bl (decide (0 ≤ p.1) && decide (p.1 < p.2))) int2_inj ((src_zip (ea_cons ev_var (ea_cons ev_var ea_nil))).cast (zip_map _ _ _ _)) (lt_line (zip_le hl)) fun z hz => ⟨_, _, tg_tup (tgs_cons tg_nm (tgs_cons tg_nm tgs_nil)), by decide, ev_chain ev_ci ev_var ev_var⟩) ea_nil) (rcl_all (bs := (List.zip ys xs).map fun p => decide (0 ≤ p.1) && decide (p.1 < p.2)) (.inl (by rw [List.map_map]; rfl)))) ?_
    rw [List.all_map]
    rfl
  · intro a
    rfl
/-- the rows, one size more -/
def ptsF (rows : List (List Int)) (size : Int) : List (List Int) := rows.flatMap fun row => (rngI 0 size.toNat).map fun item => row ++ [item]
def ptsOf (box : List Int) : List (List Int) := box.foldl ptsF [[]]
theorem flat_map_tI (rows : List (List Int)) (n : Nat) : ((rows.map tI).flatMap fun x => ((intsD 0 n).map fun z => (match x, z with | .tup xs, z => D.tup (xs ++ [z]) | _, _ => .non))) = (rows.flatMap fun row => (rngI 0 n).map fun item => row ++ [item]).map tI := by
  rw [intsD_eq, List.flatMap_map, List.map_flatMap]
  congr 1
  funext row
  rw [List.map_map, List.map_map]
  congr 1
  funext i
  show D.tup (row.map .int ++ [.int i]) = D.tup ((row ++ [i]).map .int)
  rw [List.map_append]
  rfl
def tsT (ps : List (List Int)) : D := .tup (ps.map tI)
theorem ptsF_len (rows : List (List Int)) (size : Int) : (ptsF rows size).length = rows.length * size.toNat := by
  unfold ptsF
  rw [List.length_flatMap]
  simp only [List.length_map, rngI_len, List.map_const', List.sum_replicate_nat]
theorem pts_dim {box : List Int} : ∀ p ∈ ptsOf box, p.length = box.length := by
  have key : ∀ (box : List Int) (rows : List (List Int)) (n : Nat), (∀ p ∈ rows, p.length = n) → ∀ p ∈ box.foldl ptsF rows, p.length = n + box.length := by
    intro box
    induction box with
    | nil => intro rows n h p hp; exact h p hp
    | cons b box ih =>
      intro rows n h p hp
      have := ih (ptsF rows b) (n + 1) (fun q hq => by
        unfold ptsF at hq
        obtain ⟨row, h1, h2⟩ := List.mem_flatMap.mp hq
        obtain ⟨i, _, rfl⟩ := List.mem_map.mp h2
        rw [List.length_append, h row h1]
        rfl) p hp
      rw [this, List.length_cons]
      omega
  intro p hp
  have := key box [[]] 0 (fun p hp => by rw [List.mem_singleton.mp hp]; rfl) p hp
  omega
theorem pts_len {box : List Int} (h : ∀ x ∈ box, 0 ≤ x) : ((ptsOf box).length : Int) = prodI box := by
  have key : ∀ (box : List Int) (rows : List (List Int)), (∀ x ∈ box, 0 ≤ x) → ((box.foldl ptsF rows).length : Int) = box.foldl (· * ·) (rows.length : Int) := by
    intro box
    induction box with
    | nil => intro rows _; rfl
    | cons b box ih =>
      intro rows h
      rw [List.foldl_cons, List.foldl_cons, ih _ fun x hx => h x (List.mem_cons_of_mem _ hx), ptsF_len]
      have := h b List.mem_cons_self
      congr 1
      rw [Int.natCast_mul, Int.toNat_of_nonneg this]
  exact key box [[]] h
abbrev N_index_in : List Str := ["box", "point", "found", "item", "size"]
abbrev P_index_in : List Str := ["box", "point"]
theorem sc_index_in : FnScope N_index_in P_index_in d_index_in.scope := ⟨rfl, rfl, rfl, by decide +kernel, rfl, by decide +kernel, by decide +kernel⟩
theorem b_index_in (kV doc pm : Value) (an : Option Addr) (cdv ct : Value) (us : List Value) (hl : us.length = P_index_in.length) : bindArgs (PySem.W.fnOf d_index_in.name d_index_in.qual d_index_in.params d_index_in.body d_index_in.scope .none kV doc pm an cdv ct) ⟨us, []⟩ = pure (P_index_in.zip us) := match us, hl with
  | [_, _], _ => rfl
theorem c_index_in (W : Wf w K mg) : Cal P w K mg base 1 "index_in" P_index_in (spA Fm.pure (fun a : List Int × List Int => [.d (tI a.1), .d (tI a.2)]) (fun a => ∀ x ∈ a.1, small x) fun a r => r = .d (.int ((List.zip a.2 a.1).foldl (fun f p => f * p.2 + p.1) 0))) := by
  have nd := sc_index_in.nd
  refine W.calA (d := d_index_in) (N := N_index_in) 10 9 rfl rfl sc_index_in b_index_in ?_ ?_
  rotate_left
  · intro f cdv A outer s H E hr
    refine ⟨_, (pss_cons (ps_set (i := 2) nd rfl (Or.inl rfl) pe_int) (pss_cons (ps_for PassesOwn.never rfl (k_zip (K := K) rfl rfl (W.free 83 rfl) (pa_cons (pv 1) (pa_cons (pv 0) pa_nil))) (k_pg (K := K) (n := 2) rfl rfl (pgs_cons (pg_name (i := 3) nd rfl (Or.inl rfl)) (pgs_cons (pg_name (i := 4) nd rfl (Or.inl rfl)) pgs_nil))) (pss_one (ps_set (i := 2) nd rfl (Or.inl rfl) (pe_op op_add (pe_op op_mul (pv 2) (pv 4)) (pv 3))))) (pss_one (ps_ret (pv 2))))), ?_⟩
    rintro ⟨xs, ys⟩ hs
    refine sd_seqE (sd_setE ev_ci rfl) ?_
    refine sd_seq (M := fun d => ∃ o o2, d = [some (.d (tI xs)), some (.d (tI ys)), some (.d (.int ((List.zip ys xs).foldl (fun f p => f * p.2 + p.1) 0))), o, o2]) (sd_for (fun _ i d => ∃ o o2, d = [some (.d (tI xs)), some (.d (tI ys)), some (.d (.int (((List.zip ys xs).take i).foldl (fun f p => f * p.2 + p.1) 0))), o, o2]) ((src_zip (ea_cons ev_var (ea_cons ev_var ea_nil))).cast (zip_map _ _ _ _)) (fun xs e => ⟨_, _, rfl⟩) ?_ ?_) ?_
    · rintro zs i x ds1 rfl hx ⟨o, o2, rfl⟩
      obtain ⟨n, hn, rfl⟩ := get_map hx
      refine ⟨_, _, tg_tup (tgs_cons tg_nm (tgs_cons tg_nm tgs_nil)), sd_setE (ev_op (ev_op ev_var ev_var (ro_i (.inr (hs n.2 (List.of_mem_zip (List.mem_of_getElem? hn)).2)))) ev_var ro_i0) ?_⟩
      rw [take_succ' hn, List.foldl_append]
      exact ⟨_, _, rfl⟩
    · rintro zs ds1 rfl ⟨o, o2, rfl⟩
      rw [List.length_map, take_all]
      exact ⟨o, o2, rfl⟩
    · rintro d ⟨o, o2, rfl⟩
      exact sd_retE ev_var rfl
  · intro a
    rfl
abbrev N_box_error : List Str := ["dims", "value", "index", "size"]
abbrev P_box_error : List Str := ["dims", "value"]
theorem sc_box_error : FnScope N_box_error P_box_error d_box_error.scope := ⟨rfl, rfl, rfl, by decide +kernel, rfl, by decide +kernel, by decide +kernel⟩
theorem b_box_error (kV doc pm : Value) (an : Option Addr) (cdv ct : Value) (us : List Value) (hl : us.length = P_box_error.length) : bindArgs (PySem.W.fnOf d_box_error.name d_box_error.qual d_box_error.params d_box_error.body d_box_error.scope .none kV doc pm an cdv ct) ⟨us, []⟩ = pure (P_box_error.zip us) := match us, hl with
  | [_, _], _ => rfl
theorem c_box_error (W : Wf w K mg) : Cal P w K mg base 2 "box_error" P_box_error (spA Fm.pure (fun a : Int × List Int => [.d (.int a.1), .d (tI a.2)]) (fun a => (a.2.length : Int) = a.1 ∧ ∀ x ∈ a.2, 1 ≤ x ∧ x ≤ 1000000000) fun a r => r = .d .non) := by
  have nd := sc_box_error.nd
  refine W.calA (d := d_box_error) (N := N_box_error) 5 4 rfl rfl sc_box_error b_box_error ?_ ?_
  rotate_left
  · intro f cdv A outer s H E hr
    refine ⟨_, (pss_cons (ps_if (PW.pt (pw_or (pt_not (pt_val (pe_callB (k_isi (K := K) rfl) rfl (W.free 72 rfl) (by decide +kernel) (pa_cons (pv 1) (pa_cons (pe_bltn (v := .ty "tuple") (u := .type "tuple") rfl (W.free 82 rfl) (by decide +kernel) rfl) pa_nil))))) (pw_or1 (pt_cmpR op_ne (pe_callB (k_len (K := K) rfl) rfl (W.free 73 rfl) (by decide +kernel) (pa_cons (pv 1) pa_nil)) (pv 0) (nomark _))))) (pss_one (ps_ret (pe_tup (pa_cons pe_non (pa_cons pe_str pa_nil))))) pss_nil) (pss_cons (ps_for PassesOwn.never rfl (k_enum (K := K) rfl rfl (W.free 70 rfl) (pa_cons (pv 1) pa_nil)) (k_pg (K := K) (n := 2) rfl rfl (pgs_cons (pg_name (i := 2) nd rfl (Or.inl rfl)) (pgs_cons (pg_name (i := 3) nd rfl (Or.inl rfl)) pgs_nil))) (pss_one (ps_if (pt_not (pt_val (pe_cal (c_is_integer W) (hr.mono (by decide)) rfl (pa_cons (pv 3) (pa_cons pe_int (pa_cons (pe_gint (W.int 87 rfl) rfl) pa_nil)))))) (pss_one (ps_ret (pe_tup (pa_cons (pv 2) (pa_cons pe_str pa_nil))))) pss_nil))) (pss_one (ps_ret pe_non)))), ?_⟩
    rintro ⟨m, xs⟩ ⟨hl, hr⟩
    refine sd_seqE (ds1 := _) (sd_ifF (et_is (et_or (a := false) (et_not (a := true) (et_BD (ev_call_b (ea_cons ev_var (ea_cons ev_ty ea_nil)) rcl_isi_tt))) fun _ => et_testD (ev_op (ev_call_b (ea_cons ev_var ea_nil) (rcl_len (.tup _))) ev_var (ro_ne rfl rfl rfl))) ?_) (sd_next rfl)) ?_
    · rw [List.length_map, hl]
      simp
    · refine sd_seq (M := fun d => True) (sd_for (fun _ i d => ∃ o o2, d = [some (.d (.int m)), some (.d (tI xs)), o, o2]) ((src_enum (ea_cons ev_var ea_nil)).cast (numd_map _ _ _)) (fun xs e => ⟨_, _, rfl⟩) ?_ fun _ _ _ _ => trivial) fun d _ => sd_retE ev_cn rfl
      rintro zs i x ds1 rfl hx ⟨o, o2, rfl⟩
      obtain ⟨n, hn, rfl⟩ := get_map hx
      have hm : n.1 ∈ xs := List.mem_zipIdx' (List.mem_of_getElem? hn) |>.2 ▸ List.getElem_mem _
      have hb := hr n.1 hm
      exact ⟨_, _, tg_tup (tgs_cons tg_nm (tgs_cons tg_nm tgs_nil)), sd_ifF (et_is (et_not (et_BD (ev_fnA (n.1, 1, 1000000000) (ea_cons ev_var (ea_cons ev_ci (ea_cons ev_ci ea_nil))) trivial fun r e => e))) (by simp [hb])) (sd_next ⟨_, _, rfl⟩)⟩
  · intro a
    rfl
end Wb
/-! WbX3 -/
set_option maxHeartbeats 4000000
namespace Wb
open PySem PySem.Spec PyProof.Rows L2
variable {P : Program} {w : World} {K : PySem.W.Frag} {mg : Str → Option Value} {base : Heap}
/-! ### boxes, points -/
structure VBox (box : List Int) : Prop where
  pos : ∀ x ∈ box, 1 ≤ x
  few : prodI box ≤ 240
theorem prod_mul : ∀ (box : List Int) (c : Int), box.foldl (· * ·) c = c * prodI box
  | [], c => (Int.mul_one c).symm
  | b :: box, c => by
    unfold prodI
    rw [List.foldl_cons, List.foldl_cons, prod_mul box (c * b), prod_mul box (1 * b), Int.one_mul, Int.mul_assoc]
theorem prod_cons (b : Int) (box : List Int) : prodI (b :: box) = b * prodI box := by
  unfold prodI
  rw [List.foldl_cons, prod_mul box (1 * b), Int.one_mul]
  rfl
theorem prod_app (xs ys : List Int) : prodI (xs ++ ys) = prodI xs * prodI ys := by
  show (xs ++ ys).foldl (· * ·) 1 = _
  rw [List.foldl_append, prod_mul]
  rfl
theorem prod_pos : ∀ {box : List Int}, (∀ x ∈ box, 1 ≤ x) → 1 ≤ prodI box
  | [], _ => Int.le_refl 1
  | b :: box, h => by
    rw [prod_cons]
    have h1 := h b List.mem_cons_self
    have h2 := prod_pos fun x hx => h x (List.mem_cons_of_mem _ hx)
    have := Int.mul_le_mul h1 h2 (by omega) (by omega)
    omega
theorem prod_take {box : List Int} (h : ∀ x ∈ box, 1 ≤ x) (i : Nat) : prodI (box.take i) ≤ prodI box := by
  have e := prod_app (box.take i) (box.drop i)
  rw [List.take_append_drop] at e
  have h1 : 1 ≤ prodI (box.take i) := prod_pos fun x hx => h x (List.mem_of_mem_take hx)
  have h2 : 1 ≤ prodI (box.drop i) := prod_pos fun x hx => h x (List.mem_of_mem_drop hx)
  have := Int.mul_le_mul_of_nonneg_left h2 (show 0 ≤ prodI (box.take i) by omega)
  rw [e]
  omega
theorem prod_mem {box : List Int} (h : ∀ x ∈ box, 1 ≤ x) : ∀ x ∈ box, x ≤ prodI box := by
  intro x hx
  obtain ⟨s, t, rfl⟩ := List.append_of_mem hx
  rw [prod_app, prod_cons]
  have h1 : 1 ≤ prodI s := prod_pos fun y hy => h y (List.mem_append_left _ hy)
  have h2 : 1 ≤ prodI t := prod_pos fun y hy => h y (List.mem_append_right _ (List.mem_cons_of_mem _ hy))
  have h3 := h x hx
  have a := Int.mul_le_mul_of_nonneg_left h2 (show 0 ≤ x by omega)
  have b := Int.mul_le_mul_of_nonneg_right h1 (show 0 ≤ x * prodI t by omega)
  omega
theorem VBox.small {box : List Int} (v : VBox box) : ∀ x ∈ box, small x := fun x hx => by
  have h1 := v.pos x hx
  have h2 := prod_mem v.pos x hx
  have h3 := v.few
  unfold Wb.small
  omega
theorem ptsOf_take {box : List Int} {i : Nat} {x : Int} (h : box[i]? = some x) : ptsOf (box.take (i + 1)) = ptsF (ptsOf (box.take i)) x := by
  unfold ptsOf
  rw [take_succ' h, List.foldl_append]
  rfl
theorem pts_few {box : List Int} (v : VBox box) (i : Nat) : (ptsOf (box.take i)).length ≤ 240 := by
  have e := pts_len (box := box.take i) fun x hx => by
    have := v.pos x (List.mem_of_mem_take hx)
    omega
  have h1 := prod_take v.pos i
  have h2 := v.few
  omega
theorem le_line {n : Nat} (h : n ≤ 100000) : n ≤ sizeLine := Nat.le_of_lt (lt_line h)
theorem box_le3 {box : List Int} (h : box.length ≤ 3) (i : Nat) : ∀ p ∈ ptsOf (box.take i), p.length ≤ 3 := fun p hp => by
  rw [pts_dim p hp, List.length_take]
  omega
abbrev N_points_of : List Str := ["box", "rows", "size", "row", "item"]
abbrev P_points_of : List Str := ["box"]
theorem sc_points_of : FnScope N_points_of P_points_of d_points_of.scope := ⟨rfl, rfl, rfl, by decide +kernel, rfl, by decide +kernel, by decide +kernel⟩
theorem b_points_of (kV doc pm : Value) (an : Option Addr) (cdv ct : Value) (us : List Value) (hl : us.length = P_points_of.length) : bindArgs (PySem.W.fnOf d_points_of.name d_points_of.qual d_points_of.params d_points_of.body d_points_of.scope .none kV doc pm an cdv ct) ⟨us, []⟩ = pure (P_points_of.zip us) := match us, hl with
  | [_], _ => rfl
theorem c_points_of (W : Wf w K mg) : Cal P w K mg base 3 "points_of" P_points_of (spA Fm.pure (fun a : List Int => [.d (tI a)]) (fun a => VBox a ∧ a.length ≤ 3) fun a r => r = .d (tsT (ptsOf a))) := by
  have nd := sc_points_of.nd
  refine W.calA (d := d_points_of) (N := N_points_of) 9 8 rfl rfl sc_points_of b_points_of ?_ ?_
  rotate_left
  · intro f cdv A outer s H E hr
    refine ⟨_, (pss_cons (ps_expr (pe_cal (c_require_small W) (hr.mono (by decide)) rfl (pa_cons (pv 0) pa_nil))) (pss_cons (ps_set (i := 1) nd rfl (Or.inl rfl) (pe_lst (pa_cons (pe_tup pa_nil) pa_nil))) (pss_cons (ps_for PassesOwn.never rfl (k_piT (K := K) rfl (pv 0)) (pg_name (i := 2) nd rfl (Or.inr rfl)) (pss_one (ps_setLc2 (i := 1) (own := [("row", 3), ("item", 4)]) (vs1 := [4]) (tt := tYes) (tt1 := tYes) rfl nd rfl rfl (sw_true rfl rfl rfl (by decide +kernel)) (k_piL (K := K) rfl (pv 1)) (blkOk_by (N := N_points_of) (sc := d_points_of.scope) (by decide +kernel)) (by decide) (fun _ _ _ _ _ => (pg_name (i := 3) nd rfl (Or.inl rfl))) (fun _ _ _ _ _ => pts_nil) (fun _ _ _ _ _ => (pi_range1 rfl (W.free 77 rfl) (pa_cons (pv 2) pa_nil))) (fun _ _ _ _ _ => (pg_name (i := 4) nd rfl (Or.inl rfl))) (fun _ _ _ _ _ => pts_nil) (fun _ _ _ _ _ => (pe_tup (k_star (K := K) rfl (pv 3) (pa_cons (pv 4) pa_nil))))))) (pss_one (ps_ret (pe_callTy (k_tuple (K := K) rfl) rfl (W.free 82 rfl) (by decide +kernel) (pa_cons (pv 1) pa_nil))))))), ?_⟩
    rintro box ⟨v, h3⟩
    refine sd_seqE (ds1 := _) (sd_drop (ev_fnA box (ea_cons ev_var ea_nil) ⟨v.small, v.few⟩ fun r e => e) rfl) ?_
    refine sd_seqE (sd_setE (ev_lst [.tup []] (ea_cons (ev_tup [] ea_nil) ea_nil)) rfl) ?_
    refine sd_seq (M := fun d => ∃ o o2 o3, d = [some (.d (tI box)), some (.own ((ptsOf box).map tI)), o, o2, o3]) (sd_for (fun _ i d => ∃ o o2 o3, d = [some (.d (tI box)), some (.own ((ptsOf (box.take i)).map tI)), o, o2, o3]) (src_tup ev_var) (fun xs e => ⟨_, _, _, rfl⟩) ?_ ?_) ?_
    · rintro zs i x ds1 rfl hx ⟨o, o2, o3, rfl⟩
      obtain ⟨n, hn, rfl⟩ := get_map hx
      have hlen : (ptsF (ptsOf (box.take i)) n).length ≤ 240 := by
        rw [← ptsOf_take hn]
        exact pts_few v (i + 1)
      refine ⟨_, _, tg_nm, sd_frz (i := 1) rfl (sd_setE (ev_lc2M (zs := ptsOf (box.take i)) tI (fun _ => rngI 0 n.toNat) .int (fun row item => tI (row ++ [item])) tI_inj int_inj src_slot (lt_line ?_) fun row hrow => ⟨_, _, tg_nm, by decide, rfl, (src_rng1 (ea_cons ev_var ea_nil) ?_).cast (intsD_eq _ _), fun item hitem => ⟨_, _, tg_nm, by decide, ?_⟩⟩) ?_)⟩
      · rw [List.length_flatMap]
        unfold ptsF at hlen
        rw [List.length_flatMap] at hlen
        simp only [List.length_map] at hlen ⊢
        omega
      · have h1 := v.pos n (List.mem_of_getElem? hn)
        have h2 := prod_mem v.pos n (List.mem_of_getElem? hn)
        have h3 := v.few
        omega
      · refine ev_is (ev_tup (row.map .int ++ [.int item]) (ea_star (.tup _) ev_var (ea_cons ev_var ea_nil)) (by rw [List.map_append]; rfl) ?_) ?_
        · have := box_le3 h3 i row hrow
          rw [List.length_append, List.length_map]
          exact le_line (by show row.length + 1 ≤ 100000; omega)
        · unfold tI
          rw [List.map_append]
          rfl
      · rw [ptsOf_take hn]
        unfold ptsF
        rw [List.map_flatMap]
        simp only [List.map_map]
        exact ⟨_, _, _, rfl⟩
    · rintro zs ds1 rfl ⟨o, o2, o3, rfl⟩
      rw [List.length_map, take_all]
      exact ⟨o, o2, o3, rfl⟩
    · rintro d ⟨o, o2, o3, rfl⟩
      exact sd_retE (ev_call_b (ea_cons ev_varO ea_nil) (rcl_tuple (.bor _))) rfl
  · intro a
    rfl
end Wb
/-! WbX4 -/
set_option maxHeartbeats 4000000
namespace Wb
open PySem PySem.Spec PyProof.Rows L2
variable {P : Program} {w : World} {K : PySem.W.Frag} {mg : Str → Option Value} {base : Heap}
/-! ### flows -/
abbrev Rdt := Int × List Int
abbrev Rul := Str × List Rdt
abbrev Flw := Int × List Rul
def readD (r : Rdt) : D := .tup [.int r.1, tI r.2]
def ruleD (r : Rul) : D := .tup (.str r.1 :: r.2.map readD)
def flowD (f : Flw) : D := .tup [.int f.1, .tup (f.2.map ruleD)]
structure VRead (dims many : Int) (q : Rdt) : Prop where
  lo : 0 ≤ q.1
  hi : q.1 < many
  dim : (q.2.length : Int) = dims
  near : ∀ d ∈ q.2, -4 ≤ d ∧ d ≤ 4
structure VRule (dims many : Int) (r : Rul) : Prop where
  kind : (r.1, (r.2.length : Int)) ∈ kindsT
  reads : ∀ q ∈ r.2, VRead dims many q
structure VFlow (f : Flw) : Prop where
  dims : f.1 = 2 ∨ f.1 = 3
  n1 : 1 ≤ f.2.length
  n6 : f.2.length ≤ 6
  rules : ∀ r ∈ f.2, VRule f.1 f.2.length r
theorem kinds_few {k : Str} {n : Int} (h : (k, n) ∈ kindsT) : 1 ≤ n ∧ n ≤ 3 := by
  have key : ∀ p ∈ kindsT, 1 ≤ p.2 ∧ p.2 ≤ 3 := by decide
  exact key _ h
theorem kinds_str {k : Str} {n : Int} (h : (k, n) ∈ kindsT) : PyData.canLay0 (.str k) = true := by
  have key : ∀ p ∈ kindsT, PyData.canLay0 (.str p.1) = true := by decide +kernel
  exact key _ h
abbrev N_reads_in : List Str := ["kind"]
abbrev P_reads_in : List Str := ["kind"]
theorem sc_reads_in : FnScope N_reads_in P_reads_in d_reads_in.scope := ⟨rfl, rfl, rfl, by decide +kernel, rfl, by decide +kernel, by decide +kernel⟩
theorem b_reads_in (kV doc pm : Value) (an : Option Addr) (cdv ct : Value) (us : List Value) (hl : us.length = P_reads_in.length) : bindArgs (PySem.W.fnOf d_reads_in.name d_reads_in.qual d_reads_in.params d_reads_in.body d_reads_in.scope .none kV doc pm an cdv ct) ⟨us, []⟩ = pure (P_reads_in.zip us) := match us, hl with
  | [_], _ => rfl
theorem c_reads_in (W : Wf w K mg) : Cal P w K mg base 1 "reads_in" P_reads_in (spA Fm.pure (fun a : Str × Int => [.d (.str a.1)]) (fun a => a ∈ kindsT) fun a r => r = .d (.int a.2)) := by
  have nd := sc_reads_in.nd
  refine W.calA (d := d_reads_in) (N := N_reads_in) 11 10 rfl rfl sc_reads_in b_reads_in ?_ ?_
  rotate_left
  · intro f cdv A outer s H E hr
    refine ⟨_, (pss_one (ps_ret (pe_ix (k_ixKD (K := K) (w := w) rfl rfl) (pe_glob (v := .ref (He.ga K "KINDS")) rfl (W.glo 114 rfl) rfl) (pv 0) (fun _ _ => rfl)))), ?_⟩
    rintro ⟨k, n⟩ h
    exact sd_retE (ev_op ev_ca ev_var (ro_ixKD W h)) rfl
  · intro a
    rfl
abbrev N_is_kind : List Str := ["value"]
abbrev P_is_kind : List Str := ["value"]
theorem sc_is_kind : FnScope N_is_kind P_is_kind d_is_kind.scope := ⟨rfl, rfl, rfl, by decide +kernel, rfl, by decide +kernel, by decide +kernel⟩
theorem b_is_kind (kV doc pm : Value) (an : Option Addr) (cdv ct : Value) (us : List Value) (hl : us.length = P_is_kind.length) : bindArgs (PySem.W.fnOf d_is_kind.name d_is_kind.qual d_is_kind.params d_is_kind.body d_is_kind.scope .none kV doc pm an cdv ct) ⟨us, []⟩ = pure (P_is_kind.zip us) := match us, hl with
  | [_], _ => rfl
theorem c_is_kind (W : Wf w K mg) : Cal P w K mg base 1 "is_kind" P_is_kind (spA Fm.pure (fun a : Str × Int => [.d (.str a.1)]) (fun a => a ∈ kindsT) fun a r => r = .d (.bl true)) := by
  have nd := sc_is_kind.nd
  refine W.calA (d := d_is_kind) (N := N_is_kind) 12 11 rfl rfl sc_is_kind b_is_kind ?_ ?_
  rotate_left
  · intro f cdv A outer s H E hr
    refine ⟨_, (pss_one (ps_ret (pe_and (pe_callB (k_isi (K := K) rfl) rfl (W.free 72 rfl) (by decide +kernel) (pa_cons (pv 0) (pa_cons (pe_bltn (v := .ty "str") (u := .type "str") rfl (W.free 80 rfl) (by decide +kernel) rfl) pa_nil))) (pe_one (pe_cmpR (k_inKD (mg := mg) W) (pv 0) (pe_glob (v := .ref (He.ga K "KINDS")) rfl (W.glo 114 rfl) rfl) (by rfl)))))), ?_⟩
    rintro ⟨k, n⟩ h
    exact sd_retE (ev_and (a := true) (ev_call_b (ea_cons ev_var (ea_cons ev_ty ea_nil)) rcl_isi_ss) fun _ => ev_op ev_var ev_ca (ro_inKD W h)) rfl
  · intro a
    rfl
abbrev N_read_word : List Str := ["dims", "many", "value"]
abbrev P_read_word : List Str := ["dims", "many", "value"]
theorem sc_read_word : FnScope N_read_word P_read_word d_read_word.scope := ⟨rfl, rfl, rfl, by decide +kernel, rfl, by decide +kernel, by decide +kernel⟩
theorem b_read_word (kV doc pm : Value) (an : Option Addr) (cdv ct : Value) (us : List Value) (hl : us.length = P_read_word.length) : bindArgs (PySem.W.fnOf d_read_word.name d_read_word.qual d_read_word.params d_read_word.body d_read_word.scope .none kV doc pm an cdv ct) ⟨us, []⟩ = pure (P_read_word.zip us) := match us, hl with
  | [_, _, _], _ => rfl
theorem c_read_word (W : Wf w K mg) : Cal P w K mg base 3 "read_word" P_read_word (spA Fm.pure (fun a : Int × Int × Rdt => [.d (.int a.1), .d (.int a.2.1), .d (readD a.2.2)]) (fun a => VRead a.1 a.2.1 a.2.2 ∧ a.2.2.2.length ≤ 100000) fun a r => r = .d .non) := by
  have nd := sc_read_word.nd
  refine W.calA (d := d_read_word) (N := N_read_word) 13 12 rfl rfl sc_read_word b_read_word ?_ ?_
  rotate_left
  · intro f cdv A outer s H E hr
    refine ⟨_, (pss_cons (ps_if (PW.pt (pw_or (pt_not (pt_val (pe_callB (k_isi (K := K) rfl) rfl (W.free 72 rfl) (by decide +kernel) (pa_cons (pv 2) (pa_cons (pe_bltn (v := .ty "tuple") (u := .type "tuple") rfl (W.free 82 rfl) (by decide +kernel) rfl) pa_nil))))) (pw_or1 (pt_cmpR op_ne (pe_callB (k_len (K := K) rfl) rfl (W.free 73 rfl) (by decide +kernel) (pa_cons (pv 2) pa_nil)) pe_int (nomark _))))) (pss_one (ps_ret pe_str)) pss_nil) (pss_cons (ps_if (pt_not (pt_val (pe_cal (c_is_integer W) (hr.mono (by decide)) rfl (pa_cons (pe_ix (k_ixT (K := K) rfl) (pv 2) pe_int (fun _ _ => rfl)) (pa_cons pe_int (pa_cons (pe_op op_sub (pv 1) pe_int) pa_nil)))))) (pss_one (ps_ret pe_str)) pss_nil) (pss_one (ps_ret (pe_ifExp (pt_val (pe_cal (c_are_integers W) (hr.mono (by decide)) rfl (pa_cons (pe_ix (k_ixT (K := K) rfl) (pv 2) pe_int (fun _ _ => rfl)) (pa_cons (pv 0) (pa_cons (pe_un un_neg (pe_gint (W.int 85 rfl) rfl)) (pa_cons (pe_gint (W.int 85 rfl) rfl) pa_nil)))))) pe_non pe_str))))), ?_⟩
    rintro ⟨dims, many, q, dist⟩ ⟨v, hz⟩
    refine sd_seqE (ds1 := _) (sd_ifF (et_is (et_or (a := false) (et_not (a := true) (et_BD (ev_call_b (ea_cons ev_var (ea_cons ev_ty ea_nil)) rcl_isi_tt))) fun _ => et_testD (ev_op (ev_call_b (ea_cons ev_var ea_nil) (rcl_len (.tup _))) ev_ci (ro_ne rfl rfl rfl))) rfl) (sd_next rfl)) ?_
    refine sd_seqE (ds1 := _) (sd_ifF (et_is (et_not (et_BD (ev_fnA (q, 0, many - 1) (ea_cons (ev_op ev_var ev_ci (ro_ixT rfl)) (ea_cons ev_ci (ea_cons (ev_op ev_var ev_ci ro_i0) ea_nil))) trivial fun r e => e))) ?_) (sd_next rfl)) ?_
    · have h1 : 0 ≤ q := v.lo
      have h2 : q < many := v.hi
      have : q ≤ many - 1 := by omega
      simp [h1, this]
    · exact sd_retE (ev_if (et_BD (b := true) (ev_fnA (dist, dims, -4, 4) (ea_cons (ev_op ev_var ev_ci (ro_ixT rfl)) (ea_cons ev_var (ea_cons (ev_un ev_ci ru_i) (ea_cons ev_ci ea_nil)))) ⟨v.dim, hz, v.near⟩ fun r e => e)) (fun _ => ev_cn) fun e => nomatch e) rfl
  · intro a
    rfl
theorem plain_tI (ns : List Int) : plainD (tI ns) = true := by
  unfold tI plainD
  induction ns with
  | nil =>
    unfold plainDs
    rfl
  | cons n ns ih =>
    rw [List.map_cons]
    unfold plainDs
    rw [ih]
    unfold plainD
    rfl
theorem plainDs_map {α : Type} {f : α → D} : ∀ {xs : List α}, (∀ x ∈ xs, plainD (f x) = true) → plainDs (xs.map f) = true
  | [], _ => by
    unfold plainDs
    rfl
  | x :: xs, h => by
    rw [List.map_cons]
    unfold plainDs
    rw [h x List.mem_cons_self, plainDs_map fun y hy => h y (List.mem_cons_of_mem _ hy)]
    rfl
theorem depDs_map {α : Type} {f : α → D} {n : Nat} : ∀ {xs : List α}, (∀ x ∈ xs, depD (f x) ≤ n) → depDs (xs.map f) ≤ n
  | [], _ => by
    unfold depDs
    exact Nat.zero_le _
  | x :: xs, h => by
    rw [List.map_cons]
    unfold depDs
    exact Nat.max_le.mpr ⟨h x List.mem_cons_self, depDs_map fun y hy => h y (List.mem_cons_of_mem _ hy)⟩
theorem dep_tI (ns : List Int) : depD (tI ns) ≤ 1 := by
  unfold tI depD
  have := depDs_map (f := D.int) (n := 0) (xs := ns) fun x _ => by unfold depD; exact Nat.le_refl _
  omega
theorem plain_readD (r : Rdt) : plainD (readD r) = true := by
  unfold readD
  simp only [plainD, plainDs, plain_tI, Bool.and_self]
theorem dep_readD (r : Rdt) : depD (readD r) ≤ 2 := by
  unfold readD
  have := dep_tI r.2
  simp only [depD, depDs]
  omega
theorem plain_ruleD {dims many : Int} {r : Rul} (v : VRule dims many r) : plainD (ruleD r) = true := by
  unfold ruleD
  have h1 := kinds_str v.kind
  have h2 := plainDs_map (f := readD) (xs := r.2) fun x _ => plain_readD x
  simp only [plainD, plainDs, h1, h2, Bool.and_self]
theorem dep_ruleD (r : Rul) : depD (ruleD r) ≤ 3 := by
  unfold ruleD
  have h2 := depDs_map (f := readD) (n := 2) (xs := r.2) fun x _ => dep_readD x
  simp only [depD, depDs]
  omega
theorem at0 {α : Type} {x : α} {xs : List α} : atI (x :: xs) 0 = some x := atI_nat (j := 0) rfl
theorem eqD_nilT {x : D} {xs : List D} : eqD (.tup (x :: xs)) (.tup []) = false := by simp only [eqD, toPy, toPys, PyData.eqv, PyData.eqvAll]
theorem cut1 {x : D} {xs : List D} : cutD (x :: xs) (some 1) none = xs := by
  unfold cutD
  have e : HT.sIx (x :: xs).length 0 (some 1) = 1 := by
    have h : HT.sIx (x :: xs).length 0 (some ((1 : Nat) : Int)) = min 1 (x :: xs).length := HT.sIx_nat _ 0 1
    have h2 : min 1 (x :: xs).length = 1 := by
      rw [List.length_cons]
      omega
    exact h.trans h2
  rw [e]
  show List.take ((x :: xs).length - 1) xs = xs
  rw [List.length_cons, Nat.add_sub_cancel, List.take_length]
abbrev N_rule_fault : List Str := ["dims", "many", "value", "operand", "read", "word"]
abbrev P_rule_fault : List Str := ["dims", "many", "value"]
theorem sc_rule_fault : FnScope N_rule_fault P_rule_fault d_rule_fault.scope := ⟨rfl, rfl, rfl, by decide +kernel, rfl, by decide +kernel, by decide +kernel⟩
theorem b_rule_fault (kV doc pm : Value) (an : Option Addr) (cdv ct : Value) (us : List Value) (hl : us.length = P_rule_fault.length) : bindArgs (PySem.W.fnOf d_rule_fault.name d_rule_fault.qual d_rule_fault.params d_rule_fault.body d_rule_fault.scope .none kV doc pm an cdv ct) ⟨us, []⟩ = pure (P_rule_fault.zip us) := match us, hl with
  | [_, _, _], _ => rfl
theorem c_rule_fault (W : Wf w K mg) : Cal P w K mg base 4 "rule_fault" P_rule_fault (spA Fm.pure (fun a : Int × Int × Rul => [.d (.int a.1), .d (.int a.2.1), .d (ruleD a.2.2)]) (fun a => VRule a.1 a.2.1 a.2.2 ∧ a.1 ≤ 1000) fun a r => r = .d .non) := by
  have nd := sc_rule_fault.nd
  refine W.calA (d := d_rule_fault) (N := N_rule_fault) 14 13 rfl rfl sc_rule_fault b_rule_fault ?_ ?_
  rotate_left
  · intro f cdv A outer s H E hr
    refine ⟨_, (pss_cons (ps_if (PW.pt (pw_or (pt_not (pt_val (pe_callB (k_isi (K := K) rfl) rfl (W.free 72 rfl) (by decide +kernel) (pa_cons (pv 2) (pa_cons (pe_bltn (v := .ty "tuple") (u := .type "tuple") rfl (W.free 82 rfl) (by decide +kernel) rfl) pa_nil))))) (pw_or (pt_cmpR (k_eqD (K := K) rfl (hu64 hr)) (pv 2) (pe_tup pa_nil) (nomark _)) (pw_or (pt_not (pt_val (pe_cal (c_is_kind W) (hr.mono (by decide)) rfl (pa_cons (pe_ix (k_ixT (K := K) rfl) (pv 2) pe_int (fun _ _ => rfl)) pa_nil)))) (pw_or1 (pt_cmpR op_ne (pe_callB (k_len (K := K) rfl) rfl (W.free 73 rfl) (by decide +kernel) (pa_cons (pv 2) pa_nil)) (pe_op op_add (pe_ix (k_ixKD (K := K) (w := w) rfl rfl) (pe_glob (v := .ref (He.ga K "KINDS")) rfl (W.glo 114 rfl) rfl) (pe_ix (k_ixT (K := K) rfl) (pv 2) pe_int (fun _ _ => rfl)) (fun _ _ => rfl)) pe_int) (nomark _))))))) (pss_one (ps_ret (pe_tup (pa_cons pe_non (pa_cons pe_str pa_nil))))) pss_nil) (pss_cons (ps_for PassesOwn.never rfl (k_enum (K := K) rfl rfl (W.free 70 rfl) (pa_cons (pe_slice (k_slT (K := K) rfl) (pv 2) (po_some pe_int) po_none) pa_nil)) (k_pg (K := K) (n := 2) rfl rfl (pgs_cons (pg_name (i := 3) nd rfl (Or.inl rfl)) (pgs_cons (pg_name (i := 4) nd rfl (Or.inl rfl)) pgs_nil))) (pss_cons (ps_set (i := 5) nd rfl (Or.inl rfl) (pe_cal (c_read_word W) (hr.mono (by decide)) rfl (pa_cons (pv 0) (pa_cons (pv 1) (pa_cons (pv 4) pa_nil))))) (pss_one (ps_if (pt_cmpR k_notN (pv 5) pe_non (nomark _)) (pss_one (ps_ret (pe_tup (pa_cons (pv 3) (pa_cons (pv 5) pa_nil))))) pss_nil)))) (pss_one (ps_ret pe_non)))), ?_⟩
    rintro ⟨dims, many, k, rs⟩ ⟨v, hd⟩
    have hd : dims ≤ 1000 := hd
    have hk : (k, (rs.length : Int)) ∈ kindsT := v.kind
    have hpl : plainD (ruleD (k, rs)) = true := plain_ruleD v
    have hdp : depD (ruleD (k, rs)) ≤ 3 := dep_ruleD (k, rs)
    refine sd_seqE (ds1 := _) (sd_ifF (et_is (et_or (a := false) (et_not (a := true) (et_BD (ev_call_b (ea_cons ev_var (ea_cons ev_ty ea_nil)) rcl_isi_tt))) fun _ => et_or (a := false) (et_is (et_testD (ev_op ev_var (ev_tup [] ea_nil) (ro_eqD hpl (by simp only [plainD, plainDs]) (by omega) (by simp only [depD, depDs]; omega)))) eqD_nilT) fun _ => et_or (a := false) (et_not (a := true) (et_BD (ev_fnA (k, (rs.length : Int)) (ea_cons (ev_op ev_var ev_ci (ro_ixT at0)) ea_nil) hk fun r e => e))) fun _ => et_testD (ev_op (ev_call_b (ea_cons ev_var ea_nil) (rcl_len (.tup _))) (ev_op (ev_op ev_ca (ev_op ev_var ev_ci (ro_ixT at0)) (ro_ixKD W hk)) ev_ci ro_i0) (ro_ne rfl rfl rfl))) ?_) (sd_next rfl)) ?_
    · rw [List.length_cons, List.length_map]
      simp
    · refine sd_seq (M := fun d => True) (sd_for (fun _ i d => ∃ o o2 o3, d = [some (.d (.int dims)), some (.d (.int many)), some (.d (ruleD (k, rs))), o, o2, o3]) (EvI.cast (ys := rs.zipIdx.map fun p => .tup [.int p.2, readD p.1]) (src_enum (ea_cons (ev_sl ev_var (ep_some ev_ci) ep_none rsl_tup) ea_nil)) (by rw [cut1]; exact numd_map _ _ _)) (fun xs e => ⟨_, _, _, rfl⟩) ?_ fun _ _ _ _ => trivial) fun d _ => sd_retE ev_cn rfl
      · rintro zs i x ds1 rfl hx ⟨o, o2, o3, rfl⟩
        obtain ⟨⟨n, j⟩, hn, rfl⟩ := get_map hx
        have hm : n ∈ rs := (List.mem_zipIdx' (List.mem_of_getElem? hn)).2 ▸ List.getElem_mem _
        have hv := v.reads n hm
        have hz : n.2.length ≤ 100000 := by
          have := hv.dim
          omega
        exact ⟨_, _, tg_tup (tgs_cons tg_nm (tgs_cons tg_nm tgs_nil)), sd_seqE (sd_setE (ev_fnA (dims, many, n) (ea_cons ev_var (ea_cons ev_var (ea_cons ev_var ea_nil))) ⟨hv, hz⟩ fun r e => e) rfl) (sd_ifF (et_testD (ev_op ev_var ev_cn ro_notN)) (sd_next ⟨_, _, _, rfl⟩))⟩
  · intro a
    rfl
end Wb
/-! WbX5 -/
set_option maxHeartbeats 4000000
namespace Wb
open PySem PySem.Spec PyProof.Rows L2
variable {P : Program} {w : World} {K : PySem.W.Frag} {mg : Str → Option Value} {base : Heap}
theorem mem_zi {α : Type} {xs : List α} {p : α × Nat} {i k : Nat} (h : (xs.zipIdx k)[i]? = some p) : p.2 = k + i ∧ xs[i]? = some p.1 := by
  rw [List.getElem?_zipIdx] at h
  cases e : xs[i]? with
  | none =>
    rw [e] at h
    cases h
  | some x =>
    rw [e] at h
    cases h
    exact ⟨rfl, rfl⟩
theorem mem_zi1 {α : Type} {xs : List α} {p : α × Nat} (h : p ∈ xs.zipIdx) : xs[p.2]? = some p.1 := by
  obtain ⟨i, hi⟩ := List.mem_iff_getElem?.mp h
  obtain ⟨h1, h2⟩ := mem_zi hi
  rw [h1, Nat.zero_add]
  exact h2
theorem VRule.few {dims many : Int} {r : Rul} (v : VRule dims many r) : 1 ≤ r.2.length ∧ r.2.length ≤ 3 := by
  have := kinds_few v.kind
  omega
abbrev N_flow_error : List Str := ["value", "dims", "rules", "plane", "rule", "found"]
abbrev P_flow_error : List Str := ["value"]
theorem sc_flow_error : FnScope N_flow_error P_flow_error d_flow_error.scope := ⟨rfl, rfl, rfl, by decide +kernel, rfl, by decide +kernel, by decide +kernel⟩
theorem b_flow_error (kV doc pm : Value) (an : Option Addr) (cdv ct : Value) (us : List Value) (hl : us.length = P_flow_error.length) : bindArgs (PySem.W.fnOf d_flow_error.name d_flow_error.qual d_flow_error.params d_flow_error.body d_flow_error.scope .none kV doc pm an cdv ct) ⟨us, []⟩ = pure (P_flow_error.zip us) := match us, hl with
  | [_], _ => rfl
theorem c_flow_error (W : Wf w K mg) : Cal P w K mg base 5 "flow_error" P_flow_error (spA Fm.pure (fun a : Flw => [.d (flowD a)]) VFlow fun a r => r = .d .non) := by
  have nd := sc_flow_error.nd
  refine W.calA (d := d_flow_error) (N := N_flow_error) 15 14 rfl rfl sc_flow_error b_flow_error ?_ ?_
  rotate_left
  · intro f cdv A outer s H E hr
    refine ⟨_, (pss_cons (ps_if (PW.pt (pw_or (pt_not (pt_val (pe_callB (k_isi (K := K) rfl) rfl (W.free 72 rfl) (by decide +kernel) (pa_cons (pv 0) (pa_cons (pe_bltn (v := .ty "tuple") (u := .type "tuple") rfl (W.free 82 rfl) (by decide +kernel) rfl) pa_nil))))) (pw_or1 (pt_cmpR op_ne (pe_callB (k_len (K := K) rfl) rfl (W.free 73 rfl) (by decide +kernel) (pa_cons (pv 0) pa_nil)) pe_int (nomark _))))) (pss_one (ps_ret (pe_tup (pa_cons pe_non (pa_cons pe_str pa_nil))))) pss_nil) (pss_cons (ps_asg (pv 0) (k_pg (K := K) (n := 2) rfl rfl (pgs_cons (pg_name (i := 1) nd rfl (Or.inl rfl)) (pgs_cons (pg_name (i := 2) nd rfl (Or.inl rfl)) pgs_nil)))) (pss_cons (ps_if (pt_not (pt_val (pe_cal (c_is_integer W) (hr.mono (by decide)) rfl (pa_cons (pv 1) (pa_cons pe_int (pa_cons pe_int pa_nil)))))) (pss_one (ps_ret (pe_tup (pa_cons pe_non (pa_cons pe_str pa_nil))))) pss_nil) (pss_cons (ps_if (PW.pt (pw_or (pt_not (pt_val (pe_callB (k_isi (K := K) rfl) rfl (W.free 72 rfl) (by decide +kernel) (pa_cons (pv 2) (pa_cons (pe_bltn (v := .ty "tuple") (u := .type "tuple") rfl (W.free 82 rfl) (by decide +kernel) rfl) pa_nil))))) (pw_or1 (pt_not (pt_chain op_le op_le pe_int (pe_callB (k_len (K := K) rfl) rfl (W.free 73 rfl) (by decide +kernel) (pa_cons (pv 2) pa_nil)) (pe_gint (W.int 86 rfl) rfl)))))) (pss_one (ps_ret (pe_tup (pa_cons pe_non (pa_cons pe_str pa_nil))))) pss_nil) (pss_cons (ps_for PassesOwn.never rfl (k_enum (K := K) rfl rfl (W.free 70 rfl) (pa_cons (pv 2) pa_nil)) (k_pg (K := K) (n := 2) rfl rfl (pgs_cons (pg_name (i := 3) nd rfl (Or.inl rfl)) (pgs_cons (pg_name (i := 4) nd rfl (Or.inl rfl)) pgs_nil))) (pss_cons (ps_set (i := 5) nd rfl (Or.inl rfl) (pe_cal (c_rule_fault W) (hr.mono (by decide)) rfl (pa_cons (pv 1) (pa_cons (pe_callB (k_len (K := K) rfl) rfl (W.free 73 rfl) (by decide +kernel) (pa_cons (pv 2) pa_nil)) (pa_cons (pv 4) pa_nil))))) (pss_one (ps_if (pt_cmpR k_notN (pv 5) pe_non (nomark _)) (pss_one (ps_ret (pe_tup (pa_cons (pe_ifExp (pt_cmpR k_isN (pe_ix (k_ixT (K := K) rfl) (pv 5) pe_int (fun _ _ => rfl)) pe_non (nomark _)) (pv 3) (pe_tup (pa_cons (pv 3) (pa_cons (pe_ix (k_ixT (K := K) rfl) (pv 5) pe_int (fun _ _ => rfl)) pa_nil)))) (pa_cons (pe_ix (k_ixT (K := K) rfl) (pv 5) pe_int (fun _ _ => rfl)) pa_nil))))) pss_nil)))) (pss_one (ps_ret pe_non))))))), ?_⟩
    rintro ⟨dims, rules⟩ v
    have hd : dims = 2 ∨ dims = 3 := v.dims
    have h1 : 1 ≤ rules.length := v.n1
    have h6 : rules.length ≤ 6 := v.n6
    refine sd_seqE (ds1 := _) (sd_ifF (et_is (et_or (a := false) (et_not (a := true) (et_BD (ev_call_b (ea_cons ev_var (ea_cons ev_ty ea_nil)) rcl_isi_tt))) fun _ => et_testD (ev_op (ev_call_b (ea_cons ev_var ea_nil) (rcl_len (.tup _))) ev_ci (ro_ne rfl rfl rfl))) rfl) (sd_next rfl)) ?_
    refine sd_seqE (ds1 := _) (sd_asg ev_var (tg_tup (tgs_cons tg_nm (tgs_cons tg_nm tgs_nil))) rfl) ?_
    refine sd_seqE (ds1 := _) (sd_ifF (et_is (et_not (et_BD (ev_fnA (dims, 2, 3) (ea_cons ev_var (ea_cons ev_ci (ea_cons ev_ci ea_nil))) trivial fun r e => e))) ?_) (sd_next rfl)) ?_
    · rcases hd with e | e <;> subst e <;> rfl
    refine sd_seqE (ds1 := _) (sd_ifF (et_is (et_or (a := false) (et_not (a := true) (et_BD (ev_call_b (ea_cons ev_var (ea_cons ev_ty ea_nil)) rcl_isi_tt))) fun _ => et_not (et_testD (ev_chain ev_ci (ev_call_b (ea_cons ev_var ea_nil) (rcl_len (.tup _))) ev_ci))) ?_) (sd_next rfl)) ?_
    · rw [List.length_map]
      have e1 : decide ((1 : Int) ≤ (rules.length : Int)) = true := decide_eq_true (by omega)
      have e2 : decide ((rules.length : Int) ≤ 6) = true := decide_eq_true (by omega)
      rw [e1, e2]
      rfl
    refine sd_seq (M := fun d => True) (sd_for (fun _ i d => ∃ o o2 o3, d = [some (.d (flowD (dims, rules))), some (.d (.int dims)), some (.d (.tup (rules.map ruleD))), o, o2, o3]) (EvI.cast (ys := rules.zipIdx.map fun p => .tup [.int p.2, ruleD p.1]) (src_enum (ea_cons ev_var ea_nil)) (numd_map _ _ _)) (fun xs e => ⟨_, _, _, rfl⟩) ?_ fun _ _ _ _ => trivial) fun d _ => sd_retE ev_cn rfl
    rintro zs i x ds1 rfl hx ⟨o, o2, o3, rfl⟩
    obtain ⟨⟨n, j⟩, hn, rfl⟩ := get_map hx
    have hv : VRule dims rules.length n := v.rules n (List.mem_of_getElem? (mem_zi hn).2)
    refine ⟨_, _, tg_tup (tgs_cons tg_nm (tgs_cons tg_nm tgs_nil)), sd_seqE (sd_setE (ev_fnA (dims, (rules.length : Int), n) (ea_cons ev_var (ea_cons (ev_call_b (ea_cons ev_var ea_nil) (rcl_len (.tup _))) (ea_cons ev_var ea_nil))) ⟨hv, ?_⟩ (fun r e => e) ?_) rfl) (sd_ifF (et_testD (ev_op ev_var ev_cn ro_notN)) (sd_next ⟨_, _, _, rfl⟩))⟩
    · show dims ≤ 1000
      omega
    · rw [List.length_map]
      rfl
  · intro a
    rfl
/-! ### reads, rows -/
abbrev Row := Int × Int × Int × List Int
def rowD (r : Row) : D := .tup [.int r.1, .int r.2.1, .int r.2.2.1, tI r.2.2.2]
def rowsF (f : Flw) : List Row := f.2.zipIdx.flatMap fun p => p.1.2.zipIdx.map fun q => ((p.2 : Int), (q.2 : Int), q.1.1, q.1.2)
theorem ruleD_inj (a b : Rul) (h : ruleD a = ruleD b) : a = b := by
  obtain ⟨k, rs⟩ := a
  obtain ⟨k2, rs2⟩ := b
  have e := D.tup.inj h
  injection e with e1 e2
  cases e1
  have e3 : rs = rs2 := (List.map_inj_right fun x y e => by
    obtain ⟨x1, x2⟩ := x
    obtain ⟨y1, y2⟩ := y
    have e := D.tup.inj e
    injection e with e1 e2
    injection e2 with e2 _
    cases e1
    exact congrArg (Prod.mk x1) (tI_inj x2 y2 e2)).mp e2
  rw [e3]
theorem readD_inj (a b : Rdt) (h : readD a = readD b) : a = b := by
  obtain ⟨x1, x2⟩ := a
  obtain ⟨y1, y2⟩ := b
  have e := D.tup.inj h
  injection e with e1 e2
  injection e2 with e2 _
  cases e1
  exact congrArg (Prod.mk x1) (tI_inj x2 y2 e2)
theorem pair_inj {α : Type} {g : α → D} (h : ∀ a b, g a = g b → a = b) (a b : α × Nat) (e : D.tup [.int a.2, g a.1] = D.tup [.int b.2, g b.1]) : a = b := by
  obtain ⟨x, i⟩ := a
  obtain ⟨y, j⟩ := b
  have e := D.tup.inj e
  injection e with e1 e2
  injection e2 with e2 _
  have e3 := h _ _ e2
  have e4 : i = j := by
    have := D.int.inj e1
    exact Int.ofNat.inj this
  subst e3 e4
  rfl
theorem sum_le {α : Type} {f : α → Nat} {n : Nat} : ∀ {xs : List α}, (∀ x ∈ xs, f x ≤ n) → (xs.map f).sum ≤ xs.length * n
  | [], _ => by simp
  | x :: xs, h => by
    have h1 := h x List.mem_cons_self
    have h2 := sum_le fun y hy => h y (List.mem_cons_of_mem _ hy)
    rw [List.map_cons, List.sum_cons, List.length_cons, Nat.succ_mul]
    omega
abbrev N_reads_of : List Str := ["flow", "rows", "plane", "rule", "operand", "read"]
abbrev P_reads_of : List Str := ["flow"]
theorem sc_reads_of : FnScope N_reads_of P_reads_of d_reads_of.scope := ⟨rfl, rfl, rfl, by decide +kernel, rfl, by decide +kernel, by decide +kernel⟩
theorem b_reads_of (kV doc pm : Value) (an : Option Addr) (cdv ct : Value) (us : List Value) (hl : us.length = P_reads_of.length) : bindArgs (PySem.W.fnOf d_reads_of.name d_reads_of.qual d_reads_of.params d_reads_of.body d_reads_of.scope .none kV doc pm an cdv ct) ⟨us, []⟩ = pure (P_reads_of.zip us) := match us, hl with
  | [_], _ => rfl
theorem c_reads_of (W : Wf w K mg) : Cal P w K mg base 1 "reads_of" P_reads_of (spA Fm.pure (fun a : Flw => [.d (flowD a)]) VFlow fun a r => r = .d (.tup ((rowsF a).map rowD))) := by
  have nd := sc_reads_of.nd
  refine W.calA (d := d_reads_of) (N := N_reads_of) 16 15 rfl rfl sc_reads_of b_reads_of ?_ ?_
  rotate_left
  · intro f cdv A outer s H E hr
    refine ⟨_, (pss_cons (ps_setLc2 (i := 1) (own := [("plane", 2), ("rule", 3), ("operand", 4), ("read", 5)]) (vs1 := [4, 5]) (tt := tYes) (tt1 := tYes) rfl nd rfl rfl (sw_true rfl rfl rfl (by decide +kernel)) (k_enum (K := K) rfl rfl (W.free 70 rfl) (pa_cons (pe_ix (k_ixT (K := K) rfl) (pv 0) pe_int (fun _ _ => rfl)) pa_nil)) (blkOk_by (N := N_reads_of) (sc := d_reads_of.scope) (by decide +kernel)) (by decide) (fun _ _ _ _ _ => (k_pg (K := K) (n := 2) rfl rfl (pgs_cons (pg_name (i := 2) nd rfl (Or.inl rfl)) (pgs_cons (pg_name (i := 3) nd rfl (Or.inl rfl)) pgs_nil)))) (fun _ _ _ _ _ => pts_nil) (fun _ _ _ _ _ => (k_enum (K := K) rfl rfl (W.free 70 rfl) (pa_cons (pe_slice (k_slT (K := K) rfl) (pv 3) (po_some pe_int) po_none) pa_nil))) (fun _ _ _ _ _ => (k_pg (K := K) (n := 2) rfl rfl (pgs_cons (pg_name (i := 4) nd rfl (Or.inl rfl)) (pgs_cons (pg_name (i := 5) nd rfl (Or.inl rfl)) pgs_nil)))) (fun _ _ _ _ _ => pts_nil) (fun _ _ _ _ _ => (pe_tup (pa_cons (pv 2) (pa_cons (pv 4) (k_star (K := K) rfl (pv 5) pa_nil)))))) (pss_one (ps_ret (pe_callTy (k_tuple (K := K) rfl) rfl (W.free 82 rfl) (by decide +kernel) (pa_cons (pv 1) pa_nil))))), ?_⟩
    rintro ⟨dims, rules⟩ v
    have h6 : rules.length ≤ 6 := v.n6
    refine sd_seqE (ds1 := _) (sd_setE (ev_lc2M (zs := rules.zipIdx) (fun p => .tup [.int p.2, ruleD p.1]) (fun p => p.1.2.zipIdx) (fun q => .tup [.int q.2, readD q.1]) (fun p q => rowD ((p.2 : Int), (q.2 : Int), q.1.1, q.1.2)) (pair_inj ruleD_inj) (pair_inj readD_inj) (EvI.cast (src_enum (ea_cons (ev_op ev_var ev_ci (ro_ixT rfl)) ea_nil)) (numd_map _ _ _)) (lt_line ?_) fun p hp => ⟨_, _, tg_tup (tgs_cons tg_nm (tgs_cons tg_nm tgs_nil)), by decide, rfl, EvI.cast (src_enum (ea_cons (ev_sl ev_var (ep_some ev_ci) ep_none rsl_tup) ea_nil)) (by rw [cut1]; exact numd_map _ _ _), fun q hq => ⟨_, _, tg_tup (tgs_cons tg_nm (tgs_cons tg_nm tgs_nil)), by decide, ?_⟩⟩) rfl) ?_
    · rw [List.length_flatMap]
      refine Nat.le_trans (sum_le (n := 3) fun p hp => ?_) ?_
      · rw [List.length_map, List.length_zipIdx]
        exact ((v.rules p.1 (List.mem_of_getElem? (mem_zi1 hp))).few).2
      · rw [List.length_zipIdx]
        omega
    · exact ev_tup _ (ea_cons ev_var (ea_cons ev_var (ea_star (.tup _) ev_var ea_nil)))
    · refine sd_retE (ev_call_b (ea_cons ev_varO ea_nil) (rcl_tuple (.bor _))) ?_
      unfold rowsF
      rw [List.map_flatMap]
      simp only [List.map_map]
      rfl
  · intro a
    rfl
end Wb
/-! WbX6 -/
set_option maxHeartbeats 4000000
namespace Wb
open PySem PySem.Spec PyProof.Rows L2
variable {P : Program} {w : World} {K : PySem.W.Frag} {mg : Str → Option Value} {base : Heap}
/-! ### beats -/
abbrev Tim := List Int × List Int
def timD (t : Tim) : D := .tup [tI t.1, tI t.2]
def stI (t : Tim) (i : Int) : Int := t.2.getD i.toNat 0
def delayI (t : Tim) (plane source : Int) (dist : List Int) : Int := dotI t.1 dist + stI t plane - stI t source
def VWts (dims : Int) (ws : List Int) : Prop := (ws.length : Int) = dims ∧ ∀ x ∈ ws, -60 ≤ x ∧ x ≤ 60
structure VBeats (f : Flw) (t : Tim) : Prop where
  wts : VWts f.1 t.1
  many : t.2.length = f.2.length
  near : ∀ x ∈ t.2, -10000 ≤ x ∧ x ≤ 10000
  delays : ∀ r ∈ rowsF f, 1 ≤ delayI t r.1 r.2.2.1 r.2.2.2
theorem VFlow.dims3 {f : Flw} (v : VFlow f) : f.1 ≤ 3 := by
  rcases v.dims with e | e <;> omega
theorem VWts.len3 {f : Flw} (v : VFlow f) {ws : List Int} (h : VWts f.1 ws) : ws.length ≤ 100000 := by
  have := h.1
  have := v.dims3
  omega
theorem small_of {lo hi x : Int} (h : lo ≤ x ∧ x ≤ hi) (h1 : -(10 ^ 15) ≤ lo := by decide) (h2 : hi ≤ 10 ^ 15 := by decide) : small x := by
  unfold small
  omega
abbrev N_is_weights : List Str := ["dims", "value"]
abbrev P_is_weights : List Str := ["dims", "value"]
theorem sc_is_weights : FnScope N_is_weights P_is_weights d_is_weights.scope := ⟨rfl, rfl, rfl, by decide +kernel, rfl, by decide +kernel, by decide +kernel⟩
theorem b_is_weights (kV doc pm : Value) (an : Option Addr) (cdv ct : Value) (us : List Value) (hl : us.length = P_is_weights.length) : bindArgs (PySem.W.fnOf d_is_weights.name d_is_weights.qual d_is_weights.params d_is_weights.body d_is_weights.scope .none kV doc pm an cdv ct) ⟨us, []⟩ = pure (P_is_weights.zip us) := match us, hl with
  | [_, _], _ => rfl
theorem c_is_weights (W : Wf w K mg) : Cal P w K mg base 3 "is_weights" P_is_weights (spA Fm.pure (fun a : Int × List Int => [.d (.int a.1), .d (tI a.2)]) (fun a => VWts a.1 a.2 ∧ a.2.length ≤ 100000) fun a r => r = .d (.bl true)) := by
  have nd := sc_is_weights.nd
  refine W.calA (d := d_is_weights) (N := N_is_weights) 17 16 rfl rfl sc_is_weights b_is_weights ?_ ?_
  rotate_left
  · intro f cdv A outer s H E hr
    refine ⟨_, (pss_one (ps_ret (pe_cal (c_are_integers W) (hr.mono (by decide)) rfl (pa_cons (pv 1) (pa_cons (pv 0) (pa_cons (pe_un un_neg (pe_gint (W.int 90 rfl) rfl)) (pa_cons (pe_gint (W.int 90 rfl) rfl) pa_nil))))))), ?_⟩
    rintro ⟨dims, ws⟩ ⟨v, hz⟩
    exact sd_retE (ev_fnA (ws, dims, -60, 60) (ea_cons ev_var (ea_cons ev_var (ea_cons (ev_un ev_ci ru_i) (ea_cons ev_ci ea_nil)))) ⟨v.1, hz, v.2⟩ fun r e => e) rfl
  · intro a
    rfl
abbrev N_require_weights : List Str := ["flow", "weights"]
abbrev P_require_weights : List Str := ["flow", "weights"]
theorem sc_require_weights : FnScope N_require_weights P_require_weights d_require_weights.scope := ⟨rfl, rfl, rfl, by decide +kernel, rfl, by decide +kernel, by decide +kernel⟩
theorem b_require_weights (kV doc pm : Value) (an : Option Addr) (cdv ct : Value) (us : List Value) (hl : us.length = P_require_weights.length) : bindArgs (PySem.W.fnOf d_require_weights.name d_require_weights.qual d_require_weights.params d_require_weights.body d_require_weights.scope .none kV doc pm an cdv ct) ⟨us, []⟩ = pure (P_require_weights.zip us) := match us, hl with
  | [_, _], _ => rfl
theorem c_require_weights (W : Wf w K mg) : Cal P w K mg base 4 "require_weights" P_require_weights (spA Fm.pure (fun a : Flw × List Int => [.d (flowD a.1), .d (tI a.2)]) (fun a => VFlow a.1 ∧ VWts a.1.1 a.2) fun a r => r = .d .non) := by
  have nd := sc_require_weights.nd
  refine W.calA (d := d_require_weights) (N := N_require_weights) 18 17 rfl rfl sc_require_weights b_require_weights ?_ ?_
  rotate_left
  · intro f cdv A outer s H E hr
    refine ⟨_, (pss_one (ps_if (pt_not (pt_val (pe_cal (c_is_weights W) (hr.mono (by decide)) rfl (pa_cons (pe_ix (k_ixT (K := K) rfl) (pv 0) pe_int (fun _ _ => rfl)) (pa_cons (pv 1) pa_nil))))) (pss_never) pss_nil)), ?_⟩
    rintro ⟨f, ws⟩ ⟨v, h⟩
    exact sd_ifF (et_not (a := true) (et_BD (ev_fnA (f.1, ws) (ea_cons (ev_op ev_var ev_ci (ro_ixT rfl)) (ea_cons ev_var ea_nil)) ⟨h, h.len3 v⟩ fun r e => e))) (sd_next rfl)
  · intro a
    rfl
abbrev N_first_odd : List Str := ["values", "most", "index", "value"]
abbrev P_first_odd : List Str := ["values", "most"]
theorem sc_first_odd : FnScope N_first_odd P_first_odd d_first_odd.scope := ⟨rfl, rfl, rfl, by decide +kernel, rfl, by decide +kernel, by decide +kernel⟩
theorem b_first_odd (kV doc pm : Value) (an : Option Addr) (cdv ct : Value) (us : List Value) (hl : us.length = P_first_odd.length) : bindArgs (PySem.W.fnOf d_first_odd.name d_first_odd.qual d_first_odd.params d_first_odd.body d_first_odd.scope .none kV doc pm an cdv ct) ⟨us, []⟩ = pure (P_first_odd.zip us) := match us, hl with
  | [_, _], _ => rfl
theorem c_first_odd (W : Wf w K mg) : Cal P w K mg base 2 "first_odd" P_first_odd (spA Fm.pure (fun a : List Int × Int => [.d (tI a.1), .d (.int a.2)]) (fun a => ∀ x ∈ a.1, -a.2 ≤ x ∧ x ≤ a.2) fun a r => r = .d .non) := by
  have nd := sc_first_odd.nd
  refine W.calA (d := d_first_odd) (N := N_first_odd) 19 18 rfl rfl sc_first_odd b_first_odd ?_ ?_
  rotate_left
  · intro f cdv A outer s H E hr
    refine ⟨_, (pss_cons (ps_for PassesOwn.never rfl (k_enum (K := K) rfl rfl (W.free 70 rfl) (pa_cons (pv 0) pa_nil)) (k_pg (K := K) (n := 2) rfl rfl (pgs_cons (pg_name (i := 2) nd rfl (Or.inl rfl)) (pgs_cons (pg_name (i := 3) nd rfl (Or.inl rfl)) pgs_nil))) (pss_one (ps_if (pt_not (pt_val (pe_cal (c_is_integer W) (hr.mono (by decide)) rfl (pa_cons (pv 3) (pa_cons (pe_un un_neg (pv 1)) (pa_cons (pv 1) pa_nil)))))) (pss_one (ps_ret (pv 2))) pss_nil))) (pss_one (ps_ret pe_non))), ?_⟩
    rintro ⟨xs, m⟩ h
    refine sd_seq (M := fun d => True) (sd_for (fun _ i d => ∃ o o2, d = [some (.d (tI xs)), some (.d (.int m)), o, o2]) (EvI.cast (ys := xs.zipIdx.map fun p => .tup [.int p.2, .int p.1]) (src_enum (ea_cons ev_var ea_nil)) (numd_map _ _ _)) (fun xs e => ⟨_, _, rfl⟩) ?_ fun _ _ _ _ => trivial) fun d _ => sd_retE ev_cn rfl
    rintro zs i x ds1 rfl hx ⟨o, o2, rfl⟩
    obtain ⟨⟨n, j⟩, hn, rfl⟩ := get_map hx
    have hb : -m ≤ n ∧ n ≤ m := h n (List.mem_of_getElem? (mem_zi hn).2)
    exact ⟨_, _, tg_tup (tgs_cons tg_nm (tgs_cons tg_nm tgs_nil)), sd_ifF (et_is (et_not (et_BD (ev_fnA (n, -m, m) (ea_cons ev_var (ea_cons (ev_un ev_var ru_i) (ea_cons ev_var ea_nil))) trivial fun r e => e))) (by simp [hb])) (sd_next ⟨_, _, rfl⟩)⟩
  · intro a
    rfl
abbrev N_timing_error : List Str := ["flow", "value", "weights", "starts", "index", "plane"]
abbrev P_timing_error : List Str := ["flow", "value"]
theorem sc_timing_error : FnScope N_timing_error P_timing_error d_timing_error.scope := ⟨rfl, rfl, rfl, by decide +kernel, rfl, by decide +kernel, by decide +kernel⟩
theorem b_timing_error (kV doc pm : Value) (an : Option Addr) (cdv ct : Value) (us : List Value) (hl : us.length = P_timing_error.length) : bindArgs (PySem.W.fnOf d_timing_error.name d_timing_error.qual d_timing_error.params d_timing_error.body d_timing_error.scope .none kV doc pm an cdv ct) ⟨us, []⟩ = pure (P_timing_error.zip us) := match us, hl with
  | [_, _], _ => rfl
theorem c_timing_error (W : Wf w K mg) : Cal P w K mg base 3 "timing_error" P_timing_error (spA Fm.pure (fun a : Flw × Tim => [.d (flowD a.1), .d (timD a.2)]) (fun a => VFlow a.1 ∧ VBeats a.1 a.2) fun a r => r = .d .non) := by
  have nd := sc_timing_error.nd
  refine W.calA (d := d_timing_error) (N := N_timing_error) 20 19 rfl rfl sc_timing_error b_timing_error ?_ ?_
  rotate_left
  · intro f cdv A outer s H E hr
    refine ⟨_, (pss_cons (ps_if (PW.pt (pw_or (pt_not (pt_val (pe_callB (k_isi (K := K) rfl) rfl (W.free 72 rfl) (by decide +kernel) (pa_cons (pv 1) (pa_cons (pe_bltn (v := .ty "tuple") (u := .type "tuple") rfl (W.free 82 rfl) (by decide +kernel) rfl) pa_nil))))) (pw_or1 (pt_cmpR op_ne (pe_callB (k_len (K := K) rfl) rfl (W.free 73 rfl) (by decide +kernel) (pa_cons (pv 1) pa_nil)) pe_int (nomark _))))) (pss_one (ps_ret (pe_tup (pa_cons pe_non (pa_cons pe_str pa_nil))))) pss_nil) (pss_cons (ps_asg (pv 1) (k_pg (K := K) (n := 2) rfl rfl (pgs_cons (pg_name (i := 2) nd rfl (Or.inl rfl)) (pgs_cons (pg_name (i := 3) nd rfl (Or.inl rfl)) pgs_nil)))) (pss_cons (ps_if (PW.pt (pw_or (pt_not (pt_val (pe_callB (k_isi (K := K) rfl) rfl (W.free 72 rfl) (by decide +kernel) (pa_cons (pv 2) (pa_cons (pe_bltn (v := .ty "tuple") (u := .type "tuple") rfl (W.free 82 rfl) (by decide +kernel) rfl) pa_nil))))) (pw_or1 (pt_cmpR op_ne (pe_callB (k_len (K := K) rfl) rfl (W.free 73 rfl) (by decide +kernel) (pa_cons (pv 2) pa_nil)) (pe_ix (k_ixT (K := K) rfl) (pv 0) pe_int (fun _ _ => rfl)) (nomark _))))) (pss_one (ps_ret (pe_tup (pa_cons pe_non (pa_cons pe_str pa_nil))))) pss_nil) (pss_cons (ps_set (i := 4) nd rfl (Or.inl rfl) (pe_cal (c_first_odd W) (hr.mono (by decide)) rfl (pa_cons (pv 2) (pa_cons (pe_gint (W.int 90 rfl) rfl) pa_nil)))) (pss_cons (ps_if (pt_cmpR k_notN (pv 4) pe_non (nomark _)) (pss_one (ps_ret (pe_tup (pa_cons (pv 4) (pa_cons pe_str pa_nil))))) pss_nil) (pss_cons (ps_if (PW.pt (pw_or (pt_not (pt_val (pe_callB (k_isi (K := K) rfl) rfl (W.free 72 rfl) (by decide +kernel) (pa_cons (pv 3) (pa_cons (pe_bltn (v := .ty "tuple") (u := .type "tuple") rfl (W.free 82 rfl) (by decide +kernel) rfl) pa_nil))))) (pw_or1 (pt_cmpR op_ne (pe_callB (k_len (K := K) rfl) rfl (W.free 73 rfl) (by decide +kernel) (pa_cons (pv 3) pa_nil)) (pe_callB (k_len (K := K) rfl) rfl (W.free 73 rfl) (by decide +kernel) (pa_cons (pe_ix (k_ixT (K := K) rfl) (pv 0) pe_int (fun _ _ => rfl)) pa_nil)) (nomark _))))) (pss_one (ps_ret (pe_tup (pa_cons pe_non (pa_cons pe_str pa_nil))))) pss_nil) (pss_cons (ps_set (i := 5) nd rfl (Or.inl rfl) (pe_cal (c_first_odd W) (hr.mono (by decide)) rfl (pa_cons (pv 3) (pa_cons (pe_gint (W.int 91 rfl) rfl) pa_nil)))) (pss_one (ps_ret (pe_ifExp (pt_cmpR k_isN (pv 5) pe_non (nomark _)) pe_non (pe_tup (pa_cons (pv 5) (pa_cons pe_str pa_nil))))))))))))), ?_⟩
    rintro ⟨f, t⟩ ⟨v, b⟩
    refine sd_seqE (ds1 := _) (sd_ifF (et_is (et_or (a := false) (et_not (a := true) (et_BD (ev_call_b (ea_cons ev_var (ea_cons ev_ty ea_nil)) rcl_isi_tt))) fun _ => et_testD (ev_op (ev_call_b (ea_cons ev_var ea_nil) (rcl_len (.tup _))) ev_ci (ro_ne rfl rfl rfl))) rfl) (sd_next rfl)) ?_
    refine sd_seqE (ds1 := _) (sd_asg ev_var (tg_tup (tgs_cons tg_nm (tgs_cons tg_nm tgs_nil))) rfl) ?_
    refine sd_seqE (ds1 := _) (sd_ifF (et_is (et_or (a := false) (et_not (a := true) (et_BD (ev_call_b (ea_cons ev_var (ea_cons ev_ty ea_nil)) rcl_isi_tt))) fun _ => et_testD (ev_op (ev_call_b (ea_cons ev_var ea_nil) (rcl_len (.tup _))) (ev_op ev_var ev_ci (ro_ixT rfl)) (ro_ne rfl rfl rfl))) ?_) (sd_next rfl)) ?_
    · have h1 : (t.1.length : Int) = f.1 := b.wts.1
      rw [List.length_map, h1]
      simp
    refine sd_seqE (ds1 := _) (sd_setE (ev_fnA (t.1, 60) (ea_cons ev_var (ea_cons ev_ci ea_nil)) b.wts.2 fun r e => e) rfl) ?_
    refine sd_seqE (ds1 := _) (sd_ifF (et_testD (ev_op ev_var ev_cn ro_notN)) (sd_next rfl)) ?_
    refine sd_seqE (ds1 := _) (sd_ifF (et_is (et_or (a := false) (et_not (a := true) (et_BD (ev_call_b (ea_cons ev_var (ea_cons ev_ty ea_nil)) rcl_isi_tt))) fun _ => et_testD (ev_op (ev_call_b (ea_cons ev_var ea_nil) (rcl_len (.tup _))) (ev_call_b (ea_cons (ev_op ev_var ev_ci (ro_ixT rfl)) ea_nil) (rcl_len (.tup _))) (ro_ne rfl rfl rfl))) ?_) (sd_next rfl)) ?_
    · have h1 : t.2.length = f.2.length := b.many
      rw [List.length_map, List.length_map, h1]
      simp
    refine sd_seqE (ds1 := _) (sd_setE (ev_fnA (t.2, 10000) (ea_cons ev_var (ea_cons ev_ci ea_nil)) b.near fun r e => e) rfl) ?_
    exact sd_retE (ev_if (et_testD (b := true) (ev_op ev_var ev_cn ro_isN)) (fun _ => ev_cn) fun e => nomatch e) rfl
  · intro a
    rfl
theorem at_st {t : Tim} {i : Int} (h0 : 0 ≤ i) (h1 : i < t.2.length) : atI (t.2.map D.int) i = some (.int (stI t i)) := by
  obtain ⟨n, rfl⟩ := Int.eq_ofNat_of_zero_le h0
  refine atI_nat ?_
  have hn : n < t.2.length := by omega
  rw [List.getElem?_map, List.getElem?_eq_getElem hn]
  unfold stI
  rw [Int.toNat_natCast, List.getD_eq_getElem?_getD, List.getElem?_eq_getElem hn]
  rfl
abbrev N_delay_with : List Str := ["timing", "plane", "source", "distance", "weights", "starts"]
abbrev P_delay_with : List Str := ["timing", "plane", "source", "distance"]
theorem sc_delay_with : FnScope N_delay_with P_delay_with d_delay_with.scope := ⟨rfl, rfl, rfl, by decide +kernel, rfl, by decide +kernel, by decide +kernel⟩
theorem b_delay_with (kV doc pm : Value) (an : Option Addr) (cdv ct : Value) (us : List Value) (hl : us.length = P_delay_with.length) : bindArgs (PySem.W.fnOf d_delay_with.name d_delay_with.qual d_delay_with.params d_delay_with.body d_delay_with.scope .none kV doc pm an cdv ct) ⟨us, []⟩ = pure (P_delay_with.zip us) := match us, hl with
  | [_, _, _, _], _ => rfl
theorem c_delay_with (W : Wf w K mg) : Cal P w K mg base 2 "delay_with" P_delay_with (spA Fm.pure (fun a : Tim × Int × Int × List Int => [.d (timD a.1), .d (.int a.2.1), .d (.int a.2.2.1), .d (tI a.2.2.2)]) (fun a => a.1.1.length ≤ 100000 ∧ (∀ x ∈ a.1.1, small x) ∧ (0 ≤ a.2.1 ∧ a.2.1 < a.1.2.length) ∧ 0 ≤ a.2.2.1 ∧ a.2.2.1 < a.1.2.length) fun a r => r = .d (.int (delayI a.1 a.2.1 a.2.2.1 a.2.2.2))) := by
  have nd := sc_delay_with.nd
  refine W.calA (d := d_delay_with) (N := N_delay_with) 21 20 rfl rfl sc_delay_with b_delay_with ?_ ?_
  rotate_left
  · intro f cdv A outer s H E hr
    refine ⟨_, (pss_cons (ps_asg (pv 0) (k_pg (K := K) (n := 2) rfl rfl (pgs_cons (pg_name (i := 4) nd rfl (Or.inl rfl)) (pgs_cons (pg_name (i := 5) nd rfl (Or.inl rfl)) pgs_nil)))) (pss_one (ps_ret (pe_op op_sub (pe_op op_add (pe_cal (c_dot W) (hr.mono (by decide)) rfl (pa_cons (pv 4) (pa_cons (pv 3) pa_nil))) (pe_ix (k_ixT (K := K) rfl) (pv 5) (pv 1) (fun _ _ => rfl))) (pe_ix (k_ixT (K := K) rfl) (pv 5) (pv 2) (fun _ _ => rfl)))))), ?_⟩
    rintro ⟨t, p, q, dist⟩ ⟨h1, h2, h3, h4⟩
    refine sd_seqE (ds1 := _) (sd_asg ev_var (tg_tup (tgs_cons tg_nm (tgs_cons tg_nm tgs_nil))) rfl) ?_
    exact sd_retE (ev_op (ev_op (ev_fnA (t.1, dist) (ea_cons ev_var (ea_cons ev_var ea_nil)) ⟨h1, h2⟩ fun r e => e) (ev_op ev_var ev_var (ro_ixT (at_st h3.1 h3.2))) ro_i0) (ev_op ev_var ev_var (ro_ixT (at_st h4.1 h4.2))) ro_i0) rfl
  · intro a
    rfl
theorem rows_mem {f : Flw} {r : Row} (h : r ∈ rowsF f) : ∃ rule q, f.2[r.1.toNat]? = some rule ∧ 0 ≤ r.1 ∧ r.1 < f.2.length ∧ rule.2[r.2.1.toNat]? = some q ∧ 0 ≤ r.2.1 ∧ r.2.2 = q := by
  unfold rowsF at h
  obtain ⟨⟨rule, p⟩, h1, h2⟩ := List.mem_flatMap.mp h
  obtain ⟨⟨q, o⟩, h3, rfl⟩ := List.mem_map.mp h2
  have e1 : f.2[p]? = some rule := mem_zi1 h1
  have e2 : rule.2[o]? = some q := mem_zi1 h3
  have hp := (List.getElem?_eq_some_iff.mp e1).1
  exact ⟨rule, q, e1, Int.natCast_nonneg _, by show (p : Int) < _; omega, e2, Int.natCast_nonneg _, rfl⟩
theorem VFlow.row {f : Flw} (v : VFlow f) {r : Row} (h : r ∈ rowsF f) : VRead f.1 f.2.length r.2.2 := by
  obtain ⟨rule, q, h1, _, _, h4, _, h6⟩ := rows_mem h
  rw [h6]
  exact (v.rules rule (List.mem_of_getElem? h1)).reads q (List.mem_of_getElem? h4)
abbrev N_beats_error : List Str := ["flow", "value", "error", "plane", "operand", "source", "distance"]
abbrev P_beats_error : List Str := ["flow", "value"]
theorem sc_beats_error : FnScope N_beats_error P_beats_error d_beats_error.scope := ⟨rfl, rfl, rfl, by decide +kernel, rfl, by decide +kernel, by decide +kernel⟩
theorem b_beats_error (kV doc pm : Value) (an : Option Addr) (cdv ct : Value) (us : List Value) (hl : us.length = P_beats_error.length) : bindArgs (PySem.W.fnOf d_beats_error.name d_beats_error.qual d_beats_error.params d_beats_error.body d_beats_error.scope .none kV doc pm an cdv ct) ⟨us, []⟩ = pure (P_beats_error.zip us) := match us, hl with
  | [_, _], _ => rfl
theorem c_beats_error (W : Wf w K mg) : Cal P w K mg base 4 "beats_error" P_beats_error (spA Fm.pure (fun a : Flw × Tim => [.d (flowD a.1), .d (timD a.2)]) (fun a => VFlow a.1 ∧ VBeats a.1 a.2) fun a r => r = .d .non) := by
  have nd := sc_beats_error.nd
  refine W.calA (d := d_beats_error) (N := N_beats_error) 22 21 rfl rfl sc_beats_error b_beats_error ?_ ?_
  rotate_left
  · intro f cdv A outer s H E hr
    refine ⟨_, (pss_cons (ps_set (i := 2) nd rfl (Or.inl rfl) (pe_cal (c_timing_error W) (hr.mono (by decide)) rfl (pa_cons (pv 0) (pa_cons (pv 1) pa_nil)))) (pss_cons (ps_if (pt_cmpR k_notN (pv 2) pe_non (nomark _)) (pss_one (ps_ret (pv 2))) pss_nil) (pss_cons (ps_for PassesOwn.never rfl (k_piT (K := K) rfl (pe_cal (c_reads_of W) (hr.mono (by decide)) rfl (pa_cons (pv 0) pa_nil))) (k_pg (K := K) (n := 4) rfl rfl (pgs_cons (pg_name (i := 3) nd rfl (Or.inl rfl)) (pgs_cons (pg_name (i := 4) nd rfl (Or.inl rfl)) (pgs_cons (pg_name (i := 5) nd rfl (Or.inl rfl)) (pgs_cons (pg_name (i := 6) nd rfl (Or.inl rfl)) pgs_nil))))) (pss_one (ps_if (pt_cmpR op_lt (pe_cal (c_delay_with W) (hr.mono (by decide)) rfl (pa_cons (pv 1) (pa_cons (pv 3) (pa_cons (pv 5) (pa_cons (pv 6) pa_nil))))) pe_int (nomark _)) (pss_one (ps_ret (pe_tup (pa_cons (pe_tup (pa_cons (pv 3) (pa_cons (pv 4) pa_nil))) (pa_cons pe_str pa_nil))))) pss_nil))) (pss_one (ps_ret pe_non))))), ?_⟩
    rintro ⟨f, t⟩ ⟨v, b⟩
    refine sd_seqE (ds1 := _) (sd_setE (ev_fnA (f, t) (ea_cons ev_var (ea_cons ev_var ea_nil)) ⟨v, b⟩ fun r e => e) rfl) ?_
    refine sd_seqE (ds1 := _) (sd_ifF (et_testD (ev_op ev_var ev_cn ro_notN)) (sd_next rfl)) ?_
    refine sd_seq (M := fun d => True) (sd_for (fun _ i d => ∃ o1 o2 o3 o4, d = [some (.d (flowD f)), some (.d (timD t)), some (.d .non), o1, o2, o3, o4]) (src_tup (xs := (rowsF f).map rowD) (ev_fnA f (ea_cons ev_var ea_nil) v fun r e => e)) (fun xs e => ⟨_, _, _, _, rfl⟩) ?_ fun _ _ _ _ => trivial) fun d _ => sd_retE ev_cn rfl
    rintro zs i x ds1 rfl hx ⟨o1, o2, o3, o4, rfl⟩
    obtain ⟨n, hn, rfl⟩ := get_map hx
    have hm := List.mem_of_getElem? hn
    have hd := b.delays n hm
    obtain ⟨rule, q, h1, h2, h3, _⟩ := rows_mem hm
    have hq := v.row hm
    have e1 : t.2.length = f.2.length := b.many
    refine ⟨_, _, tg_tup (tgs_cons tg_nm (tgs_cons tg_nm (tgs_cons tg_nm (tgs_cons tg_nm tgs_nil)))), sd_ifF (et_is (et_testD (ev_op (ev_fnA (t, n.1, n.2.2.1, n.2.2.2) (ea_cons ev_var (ea_cons ev_var (ea_cons ev_var (ea_cons ev_var ea_nil)))) ⟨b.wts.len3 v, fun x hx => small_of (b.wts.2 x hx), ⟨h2, ?_⟩, hq.lo, ?_⟩ fun r e => e) ev_ci ro_b0)) (decide_eq_false (Int.not_lt.mpr hd))) (sd_next ⟨_, _, _, _, rfl⟩)⟩
    · rw [e1]
      exact h3
    · rw [e1]
      exact hq.hi
  · intro a
    rfl
abbrev N_require_flow : List Str := ["flow", "error"]
abbrev P_require_flow : List Str := ["flow"]
theorem sc_require_flow : FnScope N_require_flow P_require_flow d_require_flow.scope := ⟨rfl, rfl, rfl, by decide +kernel, rfl, by decide +kernel, by decide +kernel⟩
theorem b_require_flow (kV doc pm : Value) (an : Option Addr) (cdv ct : Value) (us : List Value) (hl : us.length = P_require_flow.length) : bindArgs (PySem.W.fnOf d_require_flow.name d_require_flow.qual d_require_flow.params d_require_flow.body d_require_flow.scope .none kV doc pm an cdv ct) ⟨us, []⟩ = pure (P_require_flow.zip us) := match us, hl with
  | [_], _ => rfl
theorem c_require_flow (W : Wf w K mg) : Cal P w K mg base 6 "require_flow" P_require_flow (spA Fm.pure (fun a : Flw => [.d (flowD a)]) VFlow fun a r => r = .d .non) := by
  have nd := sc_require_flow.nd
  refine W.calA (d := d_require_flow) (N := N_require_flow) 57 50 rfl rfl sc_require_flow b_require_flow ?_ ?_
  rotate_left
  · intro f cdv A outer s H E hr
    refine ⟨_, (pss_cons (ps_set (i := 1) nd rfl (Or.inl rfl) (pe_cal (c_flow_error W) (hr.mono (by decide)) rfl (pa_cons (pv 0) pa_nil))) (pss_one (ps_if (pt_cmpR k_notN (pv 1) pe_non (nomark _)) (pss_never) pss_nil))), ?_⟩
    rintro f v
    refine sd_seqE (ds1 := _) (sd_setE (ev_fnA f (ea_cons ev_var ea_nil) v fun r e => e) rfl) ?_
    exact sd_ifF (et_testD (ev_op ev_var ev_cn ro_notN)) (sd_next rfl)
  · intro a
    rfl
end Wb
/-! WbX7 -/
set_option maxHeartbeats 4000000
namespace Wb
open PySem PySem.Spec PyProof.Rows L2
variable {P : Program} {w : World} {K : PySem.W.Frag} {mg : Str → Option Value} {base : Heap}
/-! ### words -/
abbrev Ent := Int × List Int × Int
def entD (e : Ent) : D := .tup [.int e.1, tI e.2.1, .int e.2.2]
def inBox (box v : List Int) : Bool := (List.zip v box).all fun p => decide (0 ≤ p.1) && decide (p.1 < p.2)
structure VEnt (f : Flw) (box : List Int) (e : Ent) : Prop where
  lo : 0 ≤ e.1
  hi : e.1 < f.2.length
  dim : e.2.1.length = box.length
  near : ∀ p ∈ List.zip e.2.1 box, -1000000000 ≤ p.1 ∧ p.1 ≤ 999999999 + p.2
  out : inBox box e.2.1 = false
  word : 0 ≤ e.2.2 ∧ e.2.2 < 65521
abbrev N_is_near : List Str := ["box", "value", "item", "size"]
abbrev P_is_near : List Str := ["box", "value"]
theorem sc_is_near : FnScope N_is_near P_is_near d_is_near.scope := ⟨rfl, rfl, rfl, by decide +kernel, rfl, by decide +kernel, by decide +kernel⟩
theorem b_is_near (kV doc pm : Value) (an : Option Addr) (cdv ct : Value) (us : List Value) (hl : us.length = P_is_near.length) : bindArgs (PySem.W.fnOf d_is_near.name d_is_near.qual d_is_near.params d_is_near.body d_is_near.scope .none kV doc pm an cdv ct) ⟨us, []⟩ = pure (P_is_near.zip us) := match us, hl with
  | [_, _], _ => rfl
theorem c_is_near (W : Wf w K mg) : Cal P w K mg base 2 "is_near" P_is_near (spA Fm.pure (fun a : List Int × List Int => [.d (tI a.1), .d (tI a.2)]) (fun a => a.2.length = a.1.length ∧ a.2.length ≤ 100000 ∧ ∀ p ∈ List.zip a.2 a.1, -1000000000 ≤ p.1 ∧ p.1 ≤ 999999999 + p.2) fun a r => r = .d (.bl true)) := by
  have nd := sc_is_near.nd
  refine W.calA (d := d_is_near) (N := N_is_near) 31 30 rfl rfl sc_is_near b_is_near ?_ ?_
  rotate_left
  · intro f cdv A outer s H E hr
    refine ⟨_, (pss_cons (ps_if (PW.pt (pw_or (pt_not (pt_val (pe_callB (k_isi (K := K) rfl) rfl (W.free 72 rfl) (by decide +kernel) (pa_cons (pv 1) (pa_cons (pe_bltn (v := .ty "tuple") (u := .type "tuple") rfl (W.free 82 rfl) (by decide +kernel) rfl) pa_nil))))) (pw_or1 (pt_cmpR op_ne (pe_callB (k_len (K := K) rfl) rfl (W.free 73 rfl) (by decide +kernel) (pa_cons (pv 1) pa_nil)) (pe_callB (k_len (K := K) rfl) rfl (W.free 73 rfl) (by decide +kernel) (pa_cons (pv 0) pa_nil)) (nomark _))))) (pss_one (ps_ret pe_bl)) pss_nil) (pss_one (ps_ret (pe_callB (k_all (K := K) rfl rfl) rfl (W.free 68 rfl) (by decide +kernel) (pa_cons (pe_lc (own := [("item", 2), ("size", 3)]) (tt := tYes) rfl nd (k_zip (K := K) rfl rfl (W.free 83 rfl) (pa_cons (pv 1) (pa_cons (pv 0) pa_nil))) (blkOk_by (N := N_is_near) (sc := d_is_near.scope) (by decide +kernel)) (fun _ _ _ _ _ => (k_pg (K := K) (n := 2) rfl rfl (pgs_cons (pg_name (i := 2) nd rfl (Or.inl rfl)) (pgs_cons (pg_name (i := 3) nd rfl (Or.inl rfl)) pgs_nil)))) (fun _ _ _ _ _ => pts_nil) (fun _ _ _ _ _ => (pe_cal (c_is_integer W) (hr.mono (by decide)) rfl (pa_cons (pv 2) (pa_cons (pe_un un_neg (pe_gint (W.int 87 rfl) rfl)) (pa_cons (pe_op op_add (pe_op op_sub (pe_gint (W.int 87 rfl) rfl) pe_int) (pv 3)) pa_nil)))))) pa_nil))))), ?_⟩
    rintro ⟨box, v⟩ ⟨hl, hz, hr⟩
    have hl : v.length = box.length := hl
    refine sd_seqE (ds1 := _) (sd_ifF (et_is (et_or (a := false) (et_not (a := true) (et_BD (ev_call_b (ea_cons ev_var (ea_cons ev_ty ea_nil)) rcl_isi_tt))) fun _ => et_testD (ev_op (ev_call_b (ea_cons ev_var ea_nil) (rcl_len (.tup _))) (ev_call_b (ea_cons ev_var ea_nil) (rcl_len (.tup _))) (ro_ne rfl rfl rfl))) ?_) (sd_next rfl)) ?_
    · rw [List.length_map, List.length_map, hl]
      simp
    · refine sd_retE (ev_call_b (ea_cons (ev_lcM (zs := List.zip v box) (fun p => .tup [.int p.1, .int p.2]) (fun p => .bl (decide (-1000000000 ≤ p.1) && decide (p.1 ≤ 1000000000 - 1 + p.2))) int2_inj ((src_zip (ea_cons ev_var (ea_cons ev_var ea_nil))).cast (zip_map _ _ _ _)) (lt_line (zip_le hz)) fun z hm => ⟨_, _, tg_tup (tgs_cons tg_nm (tgs_cons tg_nm tgs_nil)), by decide, ev_fnA (z.1, -1000000000, 1000000000 - 1 + z.2) (ea_cons ev_var (ea_cons (ev_un ev_ci ru_i) (ea_cons (ev_op (ev_op ev_ci ev_ci ro_i0) ev_var ro_i0) ea_nil))) trivial fun r e => e⟩) ea_nil) (rcl_all (bs := (List.zip v box).map fun p => decide (-1000000000 ≤ p.1) && decide (p.1 ≤ 1000000000 - 1 + p.2)) (.inl (by rw [List.map_map]; rfl)))) ?_
      congr 2
      rw [List.all_map, List.all_eq_true]
      intro p hp
      have h1 := hr p hp
      have e1 : decide (-1000000000 ≤ p.1) = true := decide_eq_true h1.1
      have e2 : decide (p.1 ≤ 1000000000 - 1 + p.2) = true := decide_eq_true (by omega)
      show (decide (-1000000000 ≤ p.1) && decide (p.1 ≤ 1000000000 - 1 + p.2)) = true
      rw [e1, e2]
      rfl
  · intro a
    rfl
abbrev N_entry_word : List Str := ["flow", "box", "value", "plane", "vector", "word"]
abbrev P_entry_word : List Str := ["flow", "box", "value"]
theorem sc_entry_word : FnScope N_entry_word P_entry_word d_entry_word.scope := ⟨rfl, rfl, rfl, by decide +kernel, rfl, by decide +kernel, by decide +kernel⟩
theorem b_entry_word (kV doc pm : Value) (an : Option Addr) (cdv ct : Value) (us : List Value) (hl : us.length = P_entry_word.length) : bindArgs (PySem.W.fnOf d_entry_word.name d_entry_word.qual d_entry_word.params d_entry_word.body d_entry_word.scope .none kV doc pm an cdv ct) ⟨us, []⟩ = pure (P_entry_word.zip us) := match us, hl with
  | [_, _, _], _ => rfl
theorem c_entry_word (W : Wf w K mg) : Cal P w K mg base 3 "entry_word" P_entry_word (spA Fm.pure (fun a : Flw × List Int × Ent => [.d (flowD a.1), .d (tI a.2.1), .d (entD a.2.2)]) (fun a => VEnt a.1 a.2.1 a.2.2 ∧ a.2.1.length ≤ 100000) fun a r => r = .d .non) := by
  have nd := sc_entry_word.nd
  refine W.calA (d := d_entry_word) (N := N_entry_word) 32 31 rfl rfl sc_entry_word b_entry_word ?_ ?_
  rotate_left
  · intro f cdv A outer s H E hr
    refine ⟨_, (pss_cons (ps_if (PW.pt (pw_or (pt_not (pt_val (pe_callB (k_isi (K := K) rfl) rfl (W.free 72 rfl) (by decide +kernel) (pa_cons (pv 2) (pa_cons (pe_bltn (v := .ty "tuple") (u := .type "tuple") rfl (W.free 82 rfl) (by decide +kernel) rfl) pa_nil))))) (pw_or1 (pt_cmpR op_ne (pe_callB (k_len (K := K) rfl) rfl (W.free 73 rfl) (by decide +kernel) (pa_cons (pv 2) pa_nil)) pe_int (nomark _))))) (pss_one (ps_ret pe_str)) pss_nil) (pss_cons (ps_asg (pv 2) (k_pg (K := K) (n := 3) rfl rfl (pgs_cons (pg_name (i := 3) nd rfl (Or.inl rfl)) (pgs_cons (pg_name (i := 4) nd rfl (Or.inl rfl)) (pgs_cons (pg_name (i := 5) nd rfl (Or.inl rfl)) pgs_nil))))) (pss_cons (ps_if (pt_not (pt_val (pe_cal (c_is_integer W) (hr.mono (by decide)) rfl (pa_cons (pv 3) (pa_cons pe_int (pa_cons (pe_op op_sub (pe_callB (k_len (K := K) rfl) rfl (W.free 73 rfl) (by decide +kernel) (pa_cons (pe_ix (k_ixT (K := K) rfl) (pv 0) pe_int (fun _ _ => rfl)) pa_nil)) pe_int) pa_nil)))))) (pss_one (ps_ret pe_str)) pss_nil) (pss_cons (ps_if (PW.pt (pw_or (pt_not (pt_val (pe_cal (c_is_near W) (hr.mono (by decide)) rfl (pa_cons (pv 1) (pa_cons (pv 4) pa_nil))))) (pw_or1 (pt_val (pe_cal (c_is_inside W) (hr.mono (by decide)) rfl (pa_cons (pv 1) (pa_cons (pv 4) pa_nil))))))) (pss_one (ps_ret pe_str)) pss_nil) (pss_one (ps_ret (pe_ifExp (pt_val (pe_cal (c_is_integer W) (hr.mono (by decide)) rfl (pa_cons (pv 5) (pa_cons pe_int (pa_cons (pe_op op_sub (pe_gint (W.int 84 rfl) rfl) pe_int) pa_nil))))) pe_non pe_str))))))), ?_⟩
    rintro ⟨f, box, e⟩ ⟨v, hz⟩
    have hz : box.length ≤ 100000 := hz
    refine sd_seqE (ds1 := _) (sd_ifF (et_is (et_or (a := false) (et_not (a := true) (et_BD (ev_call_b (ea_cons ev_var (ea_cons ev_ty ea_nil)) rcl_isi_tt))) fun _ => et_testD (ev_op (ev_call_b (ea_cons ev_var ea_nil) (rcl_len (.tup _))) ev_ci (ro_ne rfl rfl rfl))) rfl) (sd_next rfl)) ?_
    refine sd_seqE (ds1 := _) (sd_asg ev_var (tg_tup (tgs_cons tg_nm (tgs_cons tg_nm (tgs_cons tg_nm tgs_nil)))) rfl) ?_
    refine sd_seqE (ds1 := _) (sd_ifF (et_is (et_not (et_BD (ev_fnA (e.1, 0, (f.2.length : Int) - 1) (ea_cons ev_var (ea_cons ev_ci (ea_cons (ev_op (ev_call_b (ea_cons (ev_op ev_var ev_ci (ro_ixT rfl)) ea_nil) (rcl_len (.tup _))) ev_ci ro_i0) ea_nil))) trivial (fun r e => e) ?_))) ?_) (sd_next rfl)) ?_
    · rw [List.length_map]
      rfl
    · have h1 : 0 ≤ e.1 := v.lo
      have h2 : e.1 < f.2.length := v.hi
      have : e.1 ≤ (f.2.length : Int) - 1 := by omega
      simp [h1, this]
    refine sd_seqE (ds1 := _) (sd_ifF (et_is (et_or (a := false) (et_not (a := true) (et_BD (ev_fnA (box, e.2.1) (ea_cons ev_var (ea_cons ev_var ea_nil)) ⟨v.dim, by have h := v.dim; show e.2.1.length ≤ _; have h2 : e.2.1.length = box.length := h; omega, v.near⟩ fun r e => e))) fun _ => et_BD (ev_fnA (box, e.2.1) (ea_cons ev_var (ea_cons ev_var ea_nil)) (by have h2 : e.2.1.length = box.length := v.dim; show e.2.1.length ≤ _; omega) fun r e => e)) v.out) (sd_next rfl)) ?_
    refine sd_retE (ev_if (et_is (et_BD (ev_fnA (e.2.2, 0, 65521 - 1) (ea_cons ev_var (ea_cons ev_ci (ea_cons (ev_op ev_ci ev_ci ro_i0) ea_nil))) trivial fun r e => e)) (b := true) ?_) (fun _ => ev_cn) fun e => nomatch e) rfl
    have h1 : 0 ≤ e.2.2 := v.word.1
    have h2 : e.2.2 < 65521 := v.word.2
    have : e.2.2 ≤ 65521 - 1 := by omega
    show (decide (0 ≤ e.2.2) && decide (e.2.2 ≤ 65521 - 1)) = true
    rw [decide_eq_true h1, decide_eq_true this]
    rfl
  · intro a
    rfl
/-- in order -/
def keyLt (a b : Ent) : Bool := PySem.W.dataLt (toPy (.tup [.int a.1, tI a.2.1])) (toPy (.tup [.int b.1, tI b.2.1]))
structure VOut (f : Flw) (box : List Int) (es : List Ent) : Prop where
  few : es.length ≤ 1000
  ent : ∀ e ∈ es, VEnt f box e
  ord : ∀ (i : Nat) a b, es[i]? = some a → es[i + 1]? = some b → keyLt a b = true
theorem toPys_tI (ns : List Int) : toPys (ns.map .int) = ns.map .int := by
  rw [toPys_map, List.map_map]
  exact List.map_congr_left fun n _ => by simp only [Function.comp, toPy]
theorem toPy_tI (ns : List Int) : toPy (tI ns) = .tuple (ns.map .int) := by
  unfold tI
  simp only [toPy, toPys_tI]
theorem alike_tI (xs ys : List Int) : PySem.W.alike (toPy (tI xs)) (toPy (tI ys)) = true := by
  rw [toPy_tI, toPy_tI]
  simp only [PySem.W.alike]
  exact PySem.W.alike_ints xs ys
theorem alike_key (p q : Int) (xs ys : List Int) : PySem.W.alike (toPy (.tup [.int p, tI xs])) (toPy (.tup [.int q, tI ys])) = true := by
  have h := alike_tI xs ys
  simp only [toPy, toPys, PySem.W.alike, PySem.W.alikeAll, h, Bool.and_self]
theorem cut2 {x y z : D} : cutD [x, y, z] none (some 2) = [x, y] := rfl
abbrev N_outside_error : List Str := ["flow", "box", "value", "index", "entry", "word"]
abbrev P_outside_error : List Str := ["flow", "box", "value"]
theorem sc_outside_error : FnScope N_outside_error P_outside_error d_outside_error.scope := ⟨rfl, rfl, rfl, by decide +kernel, rfl, by decide +kernel, by decide +kernel⟩
theorem b_outside_error (kV doc pm : Value) (an : Option Addr) (cdv ct : Value) (us : List Value) (hl : us.length = P_outside_error.length) : bindArgs (PySem.W.fnOf d_outside_error.name d_outside_error.qual d_outside_error.params d_outside_error.body d_outside_error.scope .none kV doc pm an cdv ct) ⟨us, []⟩ = pure (P_outside_error.zip us) := match us, hl with
  | [_, _, _], _ => rfl
theorem c_outside_error (W : Wf w K mg) : Cal P w K mg base 4 "outside_error" P_outside_error (spA Fm.pure (fun a : Flw × List Int × List Ent => [.d (flowD a.1), .d (tI a.2.1), .d (.tup (a.2.2.map entD))]) (fun a => VOut a.1 a.2.1 a.2.2 ∧ a.2.1.length ≤ 100000) fun a r => r = .d .non) := by
  have nd := sc_outside_error.nd
  refine W.calA (d := d_outside_error) (N := N_outside_error) 33 32 rfl rfl sc_outside_error b_outside_error ?_ ?_
  rotate_left
  · intro f cdv A outer s H E hr
    refine ⟨_, (pss_cons (ps_if (PW.pt (pw_or (pt_not (pt_val (pe_callB (k_isi (K := K) rfl) rfl (W.free 72 rfl) (by decide +kernel) (pa_cons (pv 2) (pa_cons (pe_bltn (v := .ty "tuple") (u := .type "tuple") rfl (W.free 82 rfl) (by decide +kernel) rfl) pa_nil))))) (pw_or1 (pt_cmpR op_gt (pe_callB (k_len (K := K) rfl) rfl (W.free 73 rfl) (by decide +kernel) (pa_cons (pv 2) pa_nil)) (pe_gint (W.int 89 rfl) rfl) (nomark _))))) (pss_one (ps_ret (pe_tup (pa_cons pe_non (pa_cons pe_str pa_nil))))) pss_nil) (pss_cons (ps_for PassesOwn.never rfl (k_enum (K := K) rfl rfl (W.free 70 rfl) (pa_cons (pv 2) pa_nil)) (k_pg (K := K) (n := 2) rfl rfl (pgs_cons (pg_name (i := 3) nd rfl (Or.inl rfl)) (pgs_cons (pg_name (i := 4) nd rfl (Or.inl rfl)) pgs_nil))) (pss_cons (ps_set (i := 5) nd rfl (Or.inl rfl) (pe_cal (c_entry_word W) (hr.mono (by decide)) rfl (pa_cons (pv 0) (pa_cons (pv 1) (pa_cons (pv 4) pa_nil))))) (pss_cons (ps_if (pt_cmpR k_notN (pv 5) pe_non (nomark _)) (pss_one (ps_ret (pe_tup (pa_cons (pv 3) (pa_cons (pv 5) pa_nil))))) pss_nil) (pss_one (ps_if (PW.pt (pw_and (pt_cmpR op_gt (pv 3) pe_int (nomark _)) (pw_and1 (pt_cmpR (k_geD (K := K) rfl (hu64 hr)) (pe_slice (k_slT (K := K) rfl) (pe_ix (k_ixT (K := K) rfl) (pv 2) (pe_op op_sub (pv 3) pe_int) (fun _ _ => rfl)) po_none (po_some pe_int)) (pe_slice (k_slT (K := K) rfl) (pv 4) po_none (po_some pe_int)) (nomark _))))) (pss_one (ps_ret (pe_tup (pa_cons (pv 3) (pa_cons pe_str pa_nil))))) pss_nil))))) (pss_one (ps_ret pe_non)))), ?_⟩
    rintro ⟨f, box, es⟩ ⟨v, hz⟩
    have hz : box.length ≤ 100000 := hz
    have hf : es.length ≤ 1000 := v.few
    refine sd_seqE (ds1 := _) (sd_ifF (et_is (et_or (a := false) (et_not (a := true) (et_BD (ev_call_b (ea_cons ev_var (ea_cons ev_ty ea_nil)) rcl_isi_tt))) fun _ => et_testD (ev_op (ev_call_b (ea_cons ev_var ea_nil) (rcl_len (.tup _))) ev_ci ro_b0)) ?_) (sd_next rfl)) ?_
    · rw [List.length_map]
      exact decide_eq_false (by show ¬ ((1000 : Int) < (es.length : Int)); omega)
    refine sd_seq (M := fun d => True) (sd_for (fun _ i d => ∃ o o2 o3, d = [some (.d (flowD f)), some (.d (tI box)), some (.d (.tup (es.map entD))), o, o2, o3]) (EvI.cast (ys := es.zipIdx.map fun p => .tup [.int p.2, entD p.1]) (src_enum (ea_cons ev_var ea_nil)) (numd_map _ _ _)) (fun xs e => ⟨_, _, _, rfl⟩) ?_ fun _ _ _ _ => trivial) fun d _ => sd_retE ev_cn rfl
    rintro zs i x ds1 rfl hx ⟨o, o2, o3, rfl⟩
    obtain ⟨⟨e, j⟩, hn, rfl⟩ := get_map hx
    obtain ⟨hj, he⟩ := mem_zi hn
    rw [Nat.zero_add] at hj
    have hj : j = i := hj
    subst hj
    have hv := v.ent e (List.mem_of_getElem? he)
    refine ⟨_, _, tg_tup (tgs_cons tg_nm (tgs_cons tg_nm tgs_nil)), sd_seqE (sd_setE (ev_fnA (f, box, e) (ea_cons ev_var (ea_cons ev_var (ea_cons ev_var ea_nil))) ⟨hv, hz⟩ fun r e => e) rfl) (sd_seqE (ds1 := _) (sd_ifF (et_testD (ev_op ev_var ev_cn ro_notN)) (sd_next rfl)) ?_)⟩
    cases j with
    | zero => exact sd_ifF (et_is (et_and (a := false) (et_testD (ev_op ev_var ev_ci ro_b0)) (b := false) fun e => nomatch e) rfl) (sd_next ⟨_, _, _, rfl⟩)
    | succ k =>
      have hk : k < es.length := by
        have := (List.getElem?_eq_some_iff.mp he).1
        omega
      have ho := v.ord k es[k] e (List.getElem?_eq_getElem hk) he
      have hat : atI (es.map entD) (((k + 1 : Nat) : Int) - 1) = some (entD es[k]) := by
        have e1 : ((k + 1 : Nat) : Int) - 1 = (k : Int) := by omega
        rw [e1]
        exact atI_nat (by rw [List.getElem?_map, List.getElem?_eq_getElem hk]; rfl)
      have hp : ∀ a : Ent, plainD (.tup [.int a.1, tI a.2.1]) = true := fun a => by simp only [plainD, plainDs, plain_tI, Bool.and_self]
      have hd : ∀ a : Ent, depD (.tup [.int a.1, tI a.2.1]) ≤ 60 := fun a => by
        have := dep_tI a.2.1
        simp only [depD, depDs]
        omega
      refine sd_ifF (et_is (et_and (a := true) (et_is (et_testD (ev_op ev_var ev_ci ro_b0)) (decide_eq_true ?_)) fun _ => et_testD (ev_op (ev_is (y := .d (.tup [.int es[k].1, tI es[k].2.1])) (ev_sl (ev_op ev_var (ev_op ev_var ev_ci ro_i0) (ro_ixT hat)) ep_none (ep_some ev_ci) rsl_tup) rfl) (ev_is (y := .d (.tup [.int e.1, tI e.2.1])) (ev_sl ev_var ep_none (ep_some ev_ci) rsl_tup) rfl) (ro_geD (hp es[k]) (hp e) (alike_key _ _ _ _) (by simp only [toPy]; exact fun h => nomatch h) (hd es[k])))) ?_) (sd_next ⟨_, _, _, rfl⟩)
      · show (0 : Int) < ((k + 1 : Nat) : Int)
        omega
      · unfold keyLt at ho
        rw [ho]
        rfl
  · intro a
    rfl
abbrev N_require_outside : List Str := ["flow", "box", "outside", "error"]
abbrev P_require_outside : List Str := ["flow", "box", "outside"]
theorem sc_require_outside : FnScope N_require_outside P_require_outside d_require_outside.scope := ⟨rfl, rfl, rfl, by decide +kernel, rfl, by decide +kernel, by decide +kernel⟩
theorem b_require_outside (kV doc pm : Value) (an : Option Addr) (cdv ct : Value) (us : List Value) (hl : us.length = P_require_outside.length) : bindArgs (PySem.W.fnOf d_require_outside.name d_require_outside.qual d_require_outside.params d_require_outside.body d_require_outside.scope .none kV doc pm an cdv ct) ⟨us, []⟩ = pure (P_require_outside.zip us) := match us, hl with
  | [_, _, _], _ => rfl
theorem c_require_outside (W : Wf w K mg) : Cal P w K mg base 5 "require_outside" P_require_outside (spA Fm.pure (fun a : Flw × List Int × List Ent => [.d (flowD a.1), .d (tI a.2.1), .d (.tup (a.2.2.map entD))]) (fun a => VOut a.1 a.2.1 a.2.2 ∧ a.2.1.length ≤ 100000) fun a r => r = .d .non) := by
  have nd := sc_require_outside.nd
  refine W.calA (d := d_require_outside) (N := N_require_outside) 34 33 rfl rfl sc_require_outside b_require_outside ?_ ?_
  rotate_left
  · intro f cdv A outer s H E hr
    refine ⟨_, (pss_cons (ps_set (i := 3) nd rfl (Or.inl rfl) (pe_cal (c_outside_error W) (hr.mono (by decide)) rfl (pa_cons (pv 0) (pa_cons (pv 1) (pa_cons (pv 2) pa_nil))))) (pss_one (ps_if (pt_cmpR k_notN (pv 3) pe_non (nomark _)) (pss_never) pss_nil))), ?_⟩
    rintro ⟨f, box, es⟩ v
    refine sd_seqE (ds1 := _) (sd_setE (ev_fnA (f, box, es) (ea_cons ev_var (ea_cons ev_var (ea_cons ev_var ea_nil))) v fun r e => e) rfl) ?_
    exact sd_ifF (et_testD (ev_op ev_var ev_cn ro_notN)) (sd_next rfl)
  · intro a
    rfl
end Wb
/-! WbX8 -/
set_option maxHeartbeats 4000000
namespace Wb
open PySem PySem.Spec PyProof.Rows L2
variable {P : Program} {w : World} {K : PySem.W.Frag} {mg : Str → Option Value} {base : Heap}
/-! ### what a rule makes -/
def made1 (k : Str) (a : Int) : Int := if k = "copy" then a else -a % 65521
def made2 (k : Str) (a b : Int) : Int := if k = "add" then (a + b) % 65521 else if k = "sub" then (a - b) % 65521 else if k = "mul" then a * b % 65521 else if k = "least" then (if b < a then b else a) else if b > a then b else a
def madeI (k : Str) : List Int → Int
  | [] => 0
  | [a] => made1 k a
  | [a, b] => made2 k a b
  | a :: b :: c :: _ => (a + b * c) % 65521
def isW (a : Int) : Prop := 0 ≤ a ∧ a < 65521
theorem isW_mod (a : Int) : isW (a % 65521) := ⟨Int.emod_nonneg _ (by decide), Int.emod_lt_of_pos _ (by decide)⟩
theorem isW_made1 {k : Str} {a : Int} (h : isW a) : isW (made1 k a) := by
  unfold made1
  split
  · exact h
  · exact isW_mod _
theorem isW_made2 {k : Str} {a b : Int} (h : isW a) (h2 : isW b) : isW (made2 k a b) := by
  unfold made2
  repeat' split
  all_goals first | exact isW_mod _ | assumption
theorem isW_made {k : Str} : ∀ {ws : List Int}, (∀ a ∈ ws, isW a) → isW (madeI k ws)
  | [], _ => by
    show isW 0
    exact ⟨by decide, by decide⟩
  | [a], h => isW_made1 (h a List.mem_cons_self)
  | [a, b], h => isW_made2 (h a List.mem_cons_self) (h b (List.mem_cons_of_mem _ List.mem_cons_self))
  | a :: b :: c :: _, _ => isW_mod _
theorem isW_small {a : Int} (h : isW a) : small a := by
  have h1 := h.1
  have h2 := h.2
  unfold small
  omega
theorem dec_str {a b : Str} : decide (V.str a = V.str b) = decide (a = b) := by
  by_cases h : a = b
  · rw [decide_eq_true h, decide_eq_true (congrArg V.str h)]
  · rw [decide_eq_false h, decide_eq_false fun e => h (V.str.inj e)]
theorem true_eq {p : Prop} [Decidable p] (h : true = decide p) : p := of_decide_eq_true h.symm
theorem false_eq {p : Prop} [Decidable p] (h : false = decide p) : ¬ p := of_decide_eq_false h.symm
abbrev N_one_made : List Str := ["kind", "word"]
abbrev P_one_made : List Str := ["kind", "word"]
theorem sc_one_made : FnScope N_one_made P_one_made d_one_made.scope := ⟨rfl, rfl, rfl, by decide +kernel, rfl, by decide +kernel, by decide +kernel⟩
theorem b_one_made (kV doc pm : Value) (an : Option Addr) (cdv ct : Value) (us : List Value) (hl : us.length = P_one_made.length) : bindArgs (PySem.W.fnOf d_one_made.name d_one_made.qual d_one_made.params d_one_made.body d_one_made.scope .none kV doc pm an cdv ct) ⟨us, []⟩ = pure (P_one_made.zip us) := match us, hl with
  | [_, _], _ => rfl
theorem c_one_made (W : Wf w K mg) : Cal P w K mg base 1 "one_made" P_one_made (spA Fm.pure (fun a : Str × Int => [.d (.str a.1), .d (.int a.2)]) (fun _ => True) fun a r => r = .d (.int (made1 a.1 a.2))) := by
  have nd := sc_one_made.nd
  refine W.calA (d := d_one_made) (N := N_one_made) 35 34 rfl rfl sc_one_made b_one_made ?_ ?_
  rotate_left
  · intro f cdv A outer s H E hr
    refine ⟨_, (pss_one (ps_ret (pe_ifExp (pt_cmpR op_eq (pv 0) pe_str (nomark _)) (pv 1) (pe_op op_mod (pe_un un_neg (pv 1)) (pe_gint (W.int 84 rfl) rfl))))), ?_⟩
    rintro ⟨k, a⟩ -
    refine sd_retE (ev_if (et_is (et_testD (ev_op ev_var ev_cs (ro_eq rfl rfl rfl))) dec_str) (fun h => ?_) fun h => ?_) rfl
    · show Ev _ _ _ (· = .d (.int (made1 k a)))
      unfold made1
      rw [if_pos (true_eq h)]
      exact ev_var
    · show Ev _ _ _ (· = .d (.int (made1 k a)))
      unfold made1
      rw [if_neg (false_eq h)]
      exact ev_op (ev_un ev_var ru_i) ev_ci (ro_i (by decide))
  · intro a
    rfl
abbrev N_two_made : List Str := ["kind", "one", "other"]
abbrev P_two_made : List Str := ["kind", "one", "other"]
theorem sc_two_made : FnScope N_two_made P_two_made d_two_made.scope := ⟨rfl, rfl, rfl, by decide +kernel, rfl, by decide +kernel, by decide +kernel⟩
theorem b_two_made (kV doc pm : Value) (an : Option Addr) (cdv ct : Value) (us : List Value) (hl : us.length = P_two_made.length) : bindArgs (PySem.W.fnOf d_two_made.name d_two_made.qual d_two_made.params d_two_made.body d_two_made.scope .none kV doc pm an cdv ct) ⟨us, []⟩ = pure (P_two_made.zip us) := match us, hl with
  | [_, _, _], _ => rfl
theorem c_two_made (W : Wf w K mg) : Cal P w K mg base 1 "two_made" P_two_made (spA Fm.pure (fun a : Str × Int × Int => [.d (.str a.1), .d (.int a.2.1), .d (.int a.2.2)]) (fun a => small a.2.1) fun a r => r = .d (.int (made2 a.1 a.2.1 a.2.2))) := by
  have nd := sc_two_made.nd
  refine W.calA (d := d_two_made) (N := N_two_made) 36 35 rfl rfl sc_two_made b_two_made ?_ ?_
  rotate_left
  · intro f cdv A outer s H E hr
    refine ⟨_, (pss_cons (ps_if (pt_cmpR op_eq (pv 0) pe_str (nomark _)) (pss_one (ps_ret (pe_op op_mod (pe_op op_add (pv 1) (pv 2)) (pe_gint (W.int 84 rfl) rfl)))) pss_nil) (pss_cons (ps_if (pt_cmpR op_eq (pv 0) pe_str (nomark _)) (pss_one (ps_ret (pe_op op_mod (pe_op op_sub (pv 1) (pv 2)) (pe_gint (W.int 84 rfl) rfl)))) pss_nil) (pss_cons (ps_if (pt_cmpR op_eq (pv 0) pe_str (nomark _)) (pss_one (ps_ret (pe_op op_mod (pe_op op_mul (pv 1) (pv 2)) (pe_gint (W.int 84 rfl) rfl)))) pss_nil) (pss_one (ps_ret (pe_ifExp (pt_cmpR op_eq (pv 0) pe_str (nomark _)) (pe_callB (k_min2 rfl) rfl (W.free 76 rfl) (by decide +kernel) (pa_cons (pv 1) (pa_cons (pv 2) pa_nil))) (pe_callB (k_max2 rfl) rfl (W.free 75 rfl) (by decide +kernel) (pa_cons (pv 1) (pa_cons (pv 2) pa_nil))))))))), ?_⟩
    rintro ⟨k, a, b⟩ hs
    have hs : small a := hs
    show Sd _ _ _ _ (· = .d (.int (made2 k a b)))
    refine sd_seq (M := fun d => d = [some (.d (.str k)), some (.d (.int a)), some (.d (.int b))] ∧ k ≠ "add") (sd_if (et_is (et_testD (ev_op ev_var ev_cs (ro_eq rfl rfl rfl))) dec_str) (fun h => ?_) fun h => sd_next ⟨rfl, false_eq h⟩) ?_
    · unfold made2
      rw [if_pos (true_eq h)]
      exact sd_retE (ev_op (ev_op ev_var ev_var ro_i0) ev_ci (ro_i (by decide))) rfl
    rintro d ⟨rfl, h1⟩
    refine sd_seq (M := fun d => d = [some (.d (.str k)), some (.d (.int a)), some (.d (.int b))] ∧ k ≠ "sub") (sd_if (et_is (et_testD (ev_op ev_var ev_cs (ro_eq rfl rfl rfl))) dec_str) (fun h => ?_) fun h => sd_next ⟨rfl, false_eq h⟩) ?_
    · unfold made2
      rw [if_neg h1, if_pos (true_eq h)]
      exact sd_retE (ev_op (ev_op ev_var ev_var ro_i0) ev_ci (ro_i (by decide))) rfl
    rintro d ⟨rfl, h2⟩
    refine sd_seq (M := fun d => d = [some (.d (.str k)), some (.d (.int a)), some (.d (.int b))] ∧ k ≠ "mul") (sd_if (et_is (et_testD (ev_op ev_var ev_cs (ro_eq rfl rfl rfl))) dec_str) (fun h => ?_) fun h => sd_next ⟨rfl, false_eq h⟩) ?_
    · unfold made2
      rw [if_neg h1, if_neg h2, if_pos (true_eq h)]
      exact sd_retE (ev_op (ev_op ev_var ev_var (ro_i (mul_ok hs))) ev_ci (ro_i (by decide))) rfl
    rintro d ⟨rfl, h3⟩
    refine sd_retE (ev_if (et_is (et_testD (ev_op ev_var ev_cs (ro_eq rfl rfl rfl))) dec_str) (fun h => ?_) fun h => ?_) rfl
    · unfold made2
      rw [if_neg h1, if_neg h2, if_neg h3, if_pos (true_eq h)]
      exact ev_call_b (ea_cons ev_var (ea_cons ev_var ea_nil)) rcl_min2
    · unfold made2
      rw [if_neg h1, if_neg h2, if_neg h3, if_neg (false_eq h)]
      exact ev_call_b (ea_cons ev_var (ea_cons ev_var ea_nil)) rcl_max2
  · intro a
    rfl
abbrev N_word_made : List Str := ["kind", "words"]
abbrev P_word_made : List Str := ["kind", "words"]
theorem sc_word_made : FnScope N_word_made P_word_made d_word_made.scope := ⟨rfl, rfl, rfl, by decide +kernel, rfl, by decide +kernel, by decide +kernel⟩
theorem b_word_made (kV doc pm : Value) (an : Option Addr) (cdv ct : Value) (us : List Value) (hl : us.length = P_word_made.length) : bindArgs (PySem.W.fnOf d_word_made.name d_word_made.qual d_word_made.params d_word_made.body d_word_made.scope .none kV doc pm an cdv ct) ⟨us, []⟩ = pure (P_word_made.zip us) := match us, hl with
  | [_, _], _ => rfl
theorem c_word_made (W : Wf w K mg) : Cal P w K mg base 2 "word_made" P_word_made (spA Fm.pure (fun a : Str × List Int => [.d (.str a.1), .bor (a.2.map .int)]) (fun a => 1 ≤ a.2.length ∧ a.2.length ≤ 3 ∧ ∀ x ∈ a.2, isW x) fun a r => r = .d (.int (madeI a.1 a.2))) := by
  have nd := sc_word_made.nd
  refine W.calA (d := d_word_made) (N := N_word_made) 37 36 rfl rfl sc_word_made b_word_made ?_ ?_
  rotate_left
  · intro f cdv A outer s H E hr
    refine ⟨_, (pss_cons (ps_if (pt_cmpR op_eq (pe_callB (k_len (K := K) rfl) rfl (W.free 73 rfl) (by decide +kernel) (pa_cons (pv 1) pa_nil)) pe_int (nomark _)) (pss_one (ps_ret (pe_cal (c_one_made W) (hr.mono (by decide)) rfl (pa_cons (pv 0) (pa_cons (pe_ix (k_ixL (K := K) rfl) (pv 1) pe_int (fun _ _ => rfl)) pa_nil))))) pss_nil) (pss_cons (ps_if (pt_cmpR op_eq (pe_callB (k_len (K := K) rfl) rfl (W.free 73 rfl) (by decide +kernel) (pa_cons (pv 1) pa_nil)) pe_int (nomark _)) (pss_one (ps_ret (pe_cal (c_two_made W) (hr.mono (by decide)) rfl (pa_cons (pv 0) (pa_cons (pe_ix (k_ixL (K := K) rfl) (pv 1) pe_int (fun _ _ => rfl)) (pa_cons (pe_ix (k_ixL (K := K) rfl) (pv 1) pe_int (fun _ _ => rfl)) pa_nil)))))) pss_nil) (pss_one (ps_ret (pe_op op_mod (pe_op op_add (pe_ix (k_ixL (K := K) rfl) (pv 1) pe_int (fun _ _ => rfl)) (pe_op op_mul (pe_ix (k_ixL (K := K) rfl) (pv 1) pe_int (fun _ _ => rfl)) (pe_ix (k_ixL (K := K) rfl) (pv 1) pe_int (fun _ _ => rfl)))) (pe_gint (W.int 84 rfl) rfl)))))), ?_⟩
    rintro ⟨k, ws⟩ ⟨h1, h3, hw⟩
    match ws, h1, h3, hw with
    | [a], _, _, hw => exact sd_seq (M := fun _ => False) (sd_ifT (et_is (et_testD (ev_op (ev_call_b (ea_cons ev_varB ea_nil) (rcl_len (.bor _))) ev_ci (ro_eq rfl rfl rfl))) rfl) (sd_retE (ev_fnA (k, a) (ea_cons ev_var (ea_cons (ev_op ev_varB ev_ci (ro_ixL (.inr rfl) rfl)) ea_nil)) trivial fun r e => e) rfl)) fun d h => h.elim
    | [a, b], _, _, hw => exact sd_seqE (ds1 := _) (sd_ifF (et_is (et_testD (ev_op (ev_call_b (ea_cons ev_varB ea_nil) (rcl_len (.bor _))) ev_ci (ro_eq rfl rfl rfl))) rfl) (sd_next rfl)) (sd_seq (M := fun _ => False) (sd_ifT (et_is (et_testD (ev_op (ev_call_b (ea_cons ev_varB ea_nil) (rcl_len (.bor _))) ev_ci (ro_eq rfl rfl rfl))) rfl) (sd_retE (ev_fnA (k, a, b) (ea_cons ev_var (ea_cons (ev_op ev_varB ev_ci (ro_ixL (.inr rfl) rfl)) (ea_cons (ev_op ev_varB ev_ci (ro_ixL (.inr rfl) rfl)) ea_nil))) (isW_small (hw a List.mem_cons_self)) fun r e => e) rfl)) fun d h => h.elim)
    | [a, b, c], _, _, hw => exact sd_seqE (ds1 := _) (sd_ifF (et_is (et_testD (ev_op (ev_call_b (ea_cons ev_varB ea_nil) (rcl_len (.bor _))) ev_ci (ro_eq rfl rfl rfl))) rfl) (sd_next rfl)) (sd_seqE (ds1 := _) (sd_ifF (et_is (et_testD (ev_op (ev_call_b (ea_cons ev_varB ea_nil) (rcl_len (.bor _))) ev_ci (ro_eq rfl rfl rfl))) rfl) (sd_next rfl)) (sd_retE (ev_op (ev_op (ev_op ev_varB ev_ci (ro_ixL (.inr rfl) rfl)) (ev_op (ev_op ev_varB ev_ci (ro_ixL (.inr rfl) rfl)) (ev_op ev_varB ev_ci (ro_ixL (.inr rfl) rfl)) (ro_i (mul_ok (isW_small (hw b (List.mem_cons_of_mem _ List.mem_cons_self)))))) ro_i0) ev_ci (ro_i (by decide))) rfl))
    | _ :: _ :: _ :: _ :: _, _, h, _ => simp at h
  · intro a
    rfl
/-! ### the order of the work -/
abbrev Ord := Int × Int × List Int
def ordD (o : Ord) : D := .tup [.int o.1, .int o.2.1, tI o.2.2]
def workOf (t : Tim) (box : List Int) : List Ord := (ptsOf box).flatMap fun pt => t.2.zipIdx.map fun p => (dotI t.1 pt + p.1, (p.2 : Int), pt)
theorem alike_ord (a b : Ord) : PySem.W.alike (toPy (ordD a)) (toPy (ordD b)) = true := by
  have h := alike_tI a.2.2 b.2.2
  unfold ordD
  simp only [toPy, toPys, PySem.W.alike, PySem.W.alikeAll, h, Bool.and_self]
theorem plain_ord (a : Ord) : plainD (ordD a) = true := by
  unfold ordD
  simp only [plainD, plainDs, plain_tI, Bool.and_self]
theorem dep_ord (a : Ord) : depD (ordD a) ≤ 2 := by
  have := dep_tI a.2.2
  unfold ordD
  simp only [depD, depDs]
  omega
def leO (a b : Ord) : Bool := leD (ordD a) (ordD b)
theorem sort_ord (os : List Ord) : (os.map ordD).mergeSort leD = (os.mergeSort leO).map ordD := (List.map_mergeSort (r := leO) (s := leD) (f := ordD) fun a _ b _ => rfl).symm
theorem work_len {t : Tim} {box : List Int} : (workOf t box).length = (ptsOf box).length * t.2.length := by
  unfold workOf
  rw [List.length_flatMap]
  simp only [List.length_map, List.length_zipIdx, List.map_const', List.sum_replicate_nat]
theorem pair_int_inj (a b : Int × Nat) (e : D.tup [.int a.2, .int a.1] = D.tup [.int b.2, .int b.1]) : a = b := pair_inj (g := D.int) int_inj a b e
abbrev N_in_order : List Str := ["flow", "beats", "box", "weights", "starts", "found", "point", "plane", "start"]
abbrev P_in_order : List Str := ["flow", "beats", "box"]
theorem sc_in_order : FnScope N_in_order P_in_order d_in_order.scope := ⟨rfl, rfl, rfl, by decide +kernel, rfl, by decide +kernel, by decide +kernel⟩
theorem b_in_order (kV doc pm : Value) (an : Option Addr) (cdv ct : Value) (us : List Value) (hl : us.length = P_in_order.length) : bindArgs (PySem.W.fnOf d_in_order.name d_in_order.qual d_in_order.params d_in_order.body d_in_order.scope .none kV doc pm an cdv ct) ⟨us, []⟩ = pure (P_in_order.zip us) := match us, hl with
  | [_, _, _], _ => rfl
theorem c_in_order (W : Wf w K mg) : Cal P w K mg base 4 "in_order" P_in_order (spA Fm.pure (fun a : Flw × Tim × List Int => [.d (flowD a.1), .d (timD a.2.1), .d (tI a.2.2)]) (fun a => VFlow a.1 ∧ VBeats a.1 a.2.1 ∧ VBox a.2.2 ∧ a.2.2.length ≤ 3) fun a r => r = .own (((workOf a.2.1 a.2.2).mergeSort leO).map ordD)) := by
  have nd := sc_in_order.nd
  refine W.calA (d := d_in_order) (N := N_in_order) 38 37 rfl rfl sc_in_order b_in_order ?_ ?_
  rotate_left
  · intro f cdv A outer s H E hr
    refine ⟨_, (pss_cons (ps_asg (pv 1) (k_pg (K := K) (n := 2) rfl rfl (pgs_cons (pg_name (i := 3) nd rfl (Or.inr rfl)) (pgs_cons (pg_name (i := 4) nd rfl (Or.inl rfl)) pgs_nil)))) (pss_cons (ps_set (i := 5) nd rfl (Or.inl rfl) (pe_lst pa_nil)) (pss_cons (ps_for PassesOwn.never rfl (k_piT (K := K) rfl (pe_cal (c_points_of W) (hr.mono (by decide)) rfl (pa_cons (pv 2) pa_nil))) (pg_name (i := 6) nd rfl (Or.inr rfl)) (pss_one (ps_expr (pe_bm PySem.F.plainAttrs_list PySem.F.slot_list_extend PySem.F.type_list_extend mt_extend (pv 5) (pa_cons (pe_lc (own := [("plane", 7), ("start", 8)]) (tt := tYes) rfl nd (k_enum (K := K) rfl rfl (W.free 70 rfl) (pa_cons (pv 4) pa_nil)) (blkOk_by (N := N_in_order) (sc := d_in_order.scope) (by decide +kernel)) (fun _ _ _ _ _ => (k_pg (K := K) (n := 2) rfl rfl (pgs_cons (pg_name (i := 7) nd rfl (Or.inl rfl)) (pgs_cons (pg_name (i := 8) nd rfl (Or.inl rfl)) pgs_nil)))) (fun _ _ _ _ _ => pts_nil) (fun _ _ _ _ _ => (pe_tup (pa_cons (pe_op op_add (pe_cal (c_dot W) (hr.mono (by decide)) rfl (pa_cons (pv 3) (pa_cons (pv 6) pa_nil))) (pv 8)) (pa_cons (pv 7) (pa_cons (pv 6) pa_nil)))))) pa_nil))))) (pss_one (ps_ret (pe_callB (k_sortD (K := K) rfl (hu64 hr)) rfl (W.free 79 rfl) (by decide +kernel) (pa_cons (pv 5) pa_nil))))))), ?_⟩
    rintro ⟨f, t, box⟩ ⟨v, b, vb, h3⟩
    have h6 : t.2.length ≤ 6 := by
      have h6 : f.2.length ≤ 6 := v.n6
      have h : t.2.length = f.2.length := b.many
      omega
    have hp : (ptsOf box).length ≤ 240 := by
      have := pts_few vb box.length
      rw [take_all] at this
      exact this
    refine sd_seqE (ds1 := _) (sd_asg ev_var (tg_tup (tgs_cons tg_nm (tgs_cons tg_nm tgs_nil))) rfl) ?_
    refine sd_seqE (sd_setE (ev_lst [] ea_nil) rfl) ?_
    refine sd_seq (M := fun d => ∃ o o2 o3, d = [some (.d (flowD f)), some (.d (timD t)), some (.d (tI box)), some (.d (tI t.1)), some (.d (tI t.2)), some (.own ((workOf t box).map ordD)), o, o2, o3]) (sd_for (fun _ i d => ∃ o o2 o3, d = [some (.d (flowD f)), some (.d (timD t)), some (.d (tI box)), some (.d (tI t.1)), some (.d (tI t.2)), some (.own ((((ptsOf box).take i).flatMap fun pt => t.2.zipIdx.map fun p => (dotI t.1 pt + p.1, (p.2 : Int), pt)).map ordD)), o, o2, o3]) (src_tup (xs := (ptsOf box).map tI) (ev_fnA box (ea_cons ev_var ea_nil) ⟨vb, h3⟩ fun r e => e)) (fun xs e => ⟨_, _, _, rfl⟩) ?_ ?_) ?_
    · rintro zs i x ds1 rfl hx ⟨o, o2, o3, rfl⟩
      obtain ⟨pt, hn, rfl⟩ := get_map hx
      have hil : i < (ptsOf box).length := (List.getElem?_eq_some_iff.mp hn).1
      refine ⟨_, _, tg_nm, sd_extend (i := 5) (xs := (((ptsOf box).take i).flatMap fun pt => t.2.zipIdx.map fun p => (dotI t.1 pt + p.1, (p.2 : Int), pt)).map ordD) rfl (ev_lcM (zs := t.2.zipIdx) (fun p => .tup [.int p.2, .int p.1]) (fun p => ordD (dotI t.1 pt + p.1, (p.2 : Int), pt)) pair_int_inj (EvI.cast (src_enum (ea_cons ev_var ea_nil)) (numd_map _ _ _)) (lt_line (by rw [List.length_zipIdx]; omega)) fun p hp => ⟨_, _, tg_tup (tgs_cons tg_nm (tgs_cons tg_nm tgs_nil)), by decide, ?_⟩) fun r e => ⟨_, e, ?_, ?_⟩⟩
      · exact ev_tup _ (ea_cons (ev_op (ev_fnA (t.1, pt) (ea_cons ev_var (ea_cons ev_var ea_nil)) ⟨b.wts.len3 v, fun x hx => small_of (b.wts.2 x hx)⟩ fun r e => e) ev_var ro_i0) (ea_cons ev_var (ea_cons ev_var ea_nil)))
      · rw [List.length_map, List.length_map, List.length_zipIdx, List.length_flatMap]
        simp only [List.length_map, List.length_zipIdx, List.map_const', List.sum_replicate_nat, List.length_take]
        refine le_line (Nat.le_trans (m := 240 * 6 + 6) ?_ (by decide))
        have h1 : min i (ptsOf box).length * t.2.length ≤ 240 * 6 := Nat.mul_le_mul (by omega) h6
        omega
      · rw [take_succ' hn, List.flatMap_append, List.map_append, List.flatMap_cons, List.flatMap_nil, List.append_nil, List.map_map]
        exact ⟨_, _, _, rfl⟩
    · rintro zs ds1 rfl ⟨o, o2, o3, rfl⟩
      rw [List.length_map, take_all]
      exact ⟨o, o2, o3, rfl⟩
    · rintro d ⟨o, o2, o3, rfl⟩
      refine sd_retE (ev_call_b (ea_cons ev_varO ea_nil) (rcl_sortD (.inr rfl) (plainDs_map fun a _ => plain_ord a) ?_ ?_ (Nat.le_trans (depDs_map fun a _ => dep_ord a) (by decide)))) ?_
      · rw [List.map_map]
        exact PySem.W.AllAlike.of (enc := toPy ∘ ordD) fun a b => alike_ord a b
      · rw [List.map_map]
        exact PySem.W.Sortable.tuples (enc := toPy ∘ ordD) fun a => ⟨.int a.1, [.int a.2.1, toPy (tI a.2.2)], by unfold ordD; simp only [Function.comp, toPy, toPys]⟩
      · rw [sort_ord]
  · intro a
    rfl
end Wb
/-! WbX9 -/
set_option maxHeartbeats 4000000
namespace Wb
open PySem PySem.Spec PyProof.Rows L2
variable {P : Program} {w : World} {K : PySem.W.Frag} {mg : Str → Option Value} {base : Heap}
/-! ### flows as texts -/
abbrev N_number_in : List Str := ["text", "most", "digits", "sign"]
abbrev P_number_in : List Str := ["text", "most"]
theorem sc_number_in : FnScope N_number_in P_number_in d_number_in.scope := ⟨rfl, rfl, rfl, by decide +kernel, rfl, by decide +kernel, by decide +kernel⟩
theorem b_number_in (kV doc pm : Value) (an : Option Addr) (cdv ct : Value) (us : List Value) (hl : us.length = P_number_in.length) : bindArgs (PySem.W.fnOf d_number_in.name d_number_in.qual d_number_in.params d_number_in.body d_number_in.scope .none kV doc pm an cdv ct) ⟨us, []⟩ = pure (P_number_in.zip us) := match us, hl with
  | [_, _], _ => rfl
theorem c_number_in (W : Wf w K mg) : Cal P w K mg base 1 "number_in" P_number_in (spA Fm.pure (fun a : Int => [.d (.str (numS a)), .d (.int 12)]) (fun a => a ∈ digI) fun a r => r = .d (.int a)) := by
  have nd := sc_number_in.nd
  refine W.calA (d := d_number_in) (N := N_number_in) 23 22 rfl rfl sc_number_in b_number_in ?_ ?_
  rotate_left
  · intro f cdv A outer s H E hr
    refine ⟨_, (pss_cons (ps_set (i := 2) nd rfl (Or.inl rfl) (pe_ifExp (pt_cmpR op_eq (pe_slice sl_str (pv 0) po_none (po_some pe_int)) pe_str (nomark _)) (pe_slice sl_str (pv 0) (po_some pe_int) po_none) (pv 0))) (pss_cons (ps_if (PW.pt (pw_or (pt_cmpR op_eq (pv 2) pe_str (nomark _)) (pw_or (pt_cmpR op_gt (pe_callB k_lenS rfl (W.free 73 rfl) (by decide +kernel) (pa_cons (pv 2) pa_nil)) (pv 1) (nomark _)) (pw_or1 (pt_not (pt_val (pe_callB (k_all (K := K) rfl rfl) rfl (W.free 68 rfl) (by decide +kernel) (pa_cons (pe_lc (own := [("sign", 3)]) (tt := tYes) rfl nd (pi_str (pv 2)) (blkOk_by (N := N_number_in) (sc := d_number_in.scope) (by decide +kernel)) (fun _ _ _ _ _ => (pg_name (i := 3) nd rfl (Or.inl rfl))) (fun _ _ _ _ _ => pts_nil) (fun _ _ _ _ _ => (pe_cmpR k_inSg (pv 3) (pe_gstr (W.str 93 rfl) rfl) (by rfl)))) pa_nil)))))))) (pss_one (ps_ret pe_non)) pss_nil) (pss_cons (ps_if (PW.pt (pw_and (pt_cmpR op_eq (pe_ix ix_str (pv 2) pe_int (fun _ _ => rfl)) pe_str (nomark _)) (pw_and1 (pt_cmpR op_ne (pv 0) pe_str (nomark _))))) (pss_one (ps_ret pe_non)) pss_nil) (pss_one (ps_ret (pe_callTy k_intS rfl (W.free 71 rfl) (by decide +kernel) (pa_cons (pv 0) pa_nil))))))), ?_⟩
    intro i hi
    have hf := num_facts i hi
    unfold numB at hf
    rw [Bool.and_eq_true, Bool.and_eq_true, Bool.and_eq_true, Bool.and_eq_true, Bool.and_eq_true] at hf
    obtain ⟨f1, f2, ⟨f3, f4⟩, f5, f6⟩ := hf
    have f1 := eq_of_beq f1
    have f5 := of_decide_eq_true f5
    have hz : (numS i).length ≤ sizeLine := le_line (by omega)
    have f3 := of_decide_eq_true f3
    refine sd_seqE (ds1 := [some (.d (.str (numS i))), some (.d (.int 12)), some (.d (.str (digS i))), none]) (sd_set (φ := (· = .d (.str (digS i)))) (ev_if (et_is (et_testD (ev_op (ev_sl ev_var ep_none (ep_some ev_ci) (rsl_str hz)) ev_cs (ro_eq rfl rfl rfl))) (dec_str.trans f1)) (fun h => ?_) fun h => ?_) fun r e => by rw [e]; exact ⟨trivial, rfl⟩) ?_
    · unfold digS
      rw [if_pos (true_eq h)]
      exact ev_sl ev_var (ep_some ev_ci) ep_none (rsl_str hz)
    · unfold digS
      rw [if_neg (false_eq h)]
      exact ev_var
    refine sd_seqE (ds1 := _) (sd_ifF (et_is (et_or (a := false) (et_is (et_testD (ev_op ev_var ev_cs (ro_eq rfl rfl rfl))) (dec_str.trans (decide_eq_false (of_decide_eq_true f2)))) fun _ => et_or (a := false) (et_is (et_testD (ev_op (ev_call_b (ea_cons ev_var ea_nil) (rcl_lenS (le_line (by omega)))) ev_var ro_b0)) (decide_eq_false (by omega))) fun _ => et_not (a := true) (et_is (et_BD (ev_call_b (ea_cons (ev_lcM (zs := (digS i).cps.toList) (fun c => .str ⟨#[c]⟩) (fun c => .bl (decide (c ∈ ("0123456789" : Str).cps.toList))) (fun a b h => by cases h; rfl) (src_str ev_var) (lt_line ?_) fun c hc => ⟨_, _, tg_nm, by decide, ev_op ev_var ev_cs ro_inSg⟩) ea_nil) (rcl_all (bs := (digS i).cps.toList.map fun c => decide (c ∈ ("0123456789" : Str).cps.toList)) (.inl (by rw [List.map_map]; rfl))))) ?_)) rfl) (sd_next rfl)) ?_
    · have : (digS i).cps.toList.length = (digS i).length := Array.length_toList
      omega
    · rw [List.all_map]
      exact f4
    have h1 : ∃ c, (digS i).cps.toList = [c] := by
      cases e : (digS i).cps.toList with
      | nil =>
        rw [e] at f6
        cases f6
      | cons c r =>
        cases r with
        | nil => exact ⟨c, rfl⟩
        | cons d r =>
          rw [e] at f6
          cases f6
    obtain ⟨c, hc⟩ := h1
    rw [hc] at f6
    have f6 : ((!decide ((⟨#[c]⟩ : Str) = "0")) || decide (numS i = "0")) = true := f6
    refine sd_seqE (ds1 := _) (sd_ifF (et_is (et_and (et_is (et_testD (ev_op (ev_op ev_var ev_ci (ro_ixS (le_line (by omega)) (by rw [hc]; rfl))) ev_cs (ro_eq rfl rfl rfl))) dec_str) fun _ => et_is (et_testD (ev_op ev_var ev_cs (ro_ne rfl rfl rfl))) (congrArg (!·) dec_str)) ?_) (sd_next rfl)) ?_
    · revert f6
      cases decide ((⟨#[c]⟩ : Str) = "0") <;> cases decide (numS i = "0") <;> first | (intro; rfl) | (intro h; cases h)
    · exact sd_retE (ev_call_b (ea_cons ev_var ea_nil) (rcl_intS (num_reads i hi) (by omega))) rfl
  · intro a
    rfl
theorem num_tl {i : Int} (h : i ∈ digI) {c : Nat} (hc : c = 32 ∨ c = 64 ∨ c = 44 ∨ c = 47) : c ∉ TL.tl (numS i) := fun hm => by
  have h1 := List.all_eq_true.mp (num_signs i h) c hm
  rcases hc with e | e | e | e <;> subst e <;> cases h1
theorem num_len {i : Int} (h : i ∈ digI) : (numS i).length ≤ 2 := by
  have hf := num_facts i h
  unfold numB at hf
  rw [Bool.and_eq_true, Bool.and_eq_true, Bool.and_eq_true, Bool.and_eq_true, Bool.and_eq_true] at hf
  exact of_decide_eq_true hf.2.2.2.1
def vecS (ns : List Int) : Str := Txt.join "," (ns.map numS)
theorem sum_le' {f : Int → Nat} {n : Nat} {xs : List Int} (h : ∀ x ∈ xs, f x ≤ n) : (xs.map f).sum ≤ xs.length * n := sum_le h
theorem vec_join_ok {ns : List Int} (h : ∀ n ∈ ns, n ∈ digI) (hl : ns.length ≤ 1000) : ((ns.map numS).map (·.length)).sum + (ns.map numS).length * (("," : Str).length) ≤ 16777216 := by
  rw [List.map_map, List.length_map]
  have h1 := sum_le (f := (fun s : Str => s.length) ∘ numS) (n := 2) (xs := ns) fun x hx => num_len (h x hx)
  have h2 : (("," : Str).length) = 1 := rfl
  rw [h2]
  omega
abbrev N_vector_text : List Str := ["vector", "item"]
abbrev P_vector_text : List Str := ["vector"]
theorem sc_vector_text : FnScope N_vector_text P_vector_text d_vector_text.scope := ⟨rfl, rfl, rfl, by decide +kernel, rfl, by decide +kernel, by decide +kernel⟩
theorem b_vector_text (kV doc pm : Value) (an : Option Addr) (cdv ct : Value) (us : List Value) (hl : us.length = P_vector_text.length) : bindArgs (PySem.W.fnOf d_vector_text.name d_vector_text.qual d_vector_text.params d_vector_text.body d_vector_text.scope .none kV doc pm an cdv ct) ⟨us, []⟩ = pure (P_vector_text.zip us) := match us, hl with
  | [_], _ => rfl
theorem c_vector_text (W : Wf w K mg) : Cal P w K mg base 1 "vector_text" P_vector_text (spA Fm.pure (fun a : List Int => [.d (tI a)]) (fun a => (∀ n ∈ a, n ∈ digI) ∧ a.length ≤ 1000) fun a r => r = .d (.str (vecS a))) := by
  have nd := sc_vector_text.nd
  refine W.calA (d := d_vector_text) (N := N_vector_text) 25 24 rfl rfl sc_vector_text b_vector_text ?_ ?_
  rotate_left
  · intro f cdv A outer s H E hr
    refine ⟨_, (pss_one (ps_ret (k_join (K := K) rfl pe_str (pe_lc (own := [("item", 1)]) (tt := tYes) rfl nd (k_piT (K := K) rfl (pv 0)) (blkOk_by (N := N_vector_text) (sc := d_vector_text.scope) (by decide +kernel)) (fun _ _ _ _ _ => (pg_name (i := 1) nd rfl (Or.inl rfl))) (fun _ _ _ _ _ => pts_nil) (fun _ _ _ _ _ => (pe_callTy k_str rfl (W.free 80 rfl) (by decide +kernel) (pa_cons (pv 1) pa_nil))))))), ?_⟩
    rintro ns ⟨h, hl⟩
    refine sd_retE (ev_join (ys := ns.map numS) ev_cs (ev_is (ev_lcM (zs := ns) .int (fun n => .str (numS n)) int_inj (src_tup ev_var) (lt_line (by omega)) fun n hn => ⟨_, _, tg_nm, by decide, ev_call_b (ea_cons ev_var ea_nil) (rcl_str ?_)⟩) (by rw [List.map_map]; rfl)) (vec_join_ok h hl)) rfl
    have key : ∀ i ∈ digI, i.natAbs.log2 < 1920 := by decide +kernel
    exact key n (h n hn)
  · intro a
    rfl
abbrev N_numbers_in : List Str := ["text", "many", "most", "found", "part"]
abbrev P_numbers_in : List Str := ["text", "many", "most"]
theorem sc_numbers_in : FnScope N_numbers_in P_numbers_in d_numbers_in.scope := ⟨rfl, rfl, rfl, by decide +kernel, rfl, by decide +kernel, by decide +kernel⟩
theorem b_numbers_in (kV doc pm : Value) (an : Option Addr) (cdv ct : Value) (us : List Value) (hl : us.length = P_numbers_in.length) : bindArgs (PySem.W.fnOf d_numbers_in.name d_numbers_in.qual d_numbers_in.params d_numbers_in.body d_numbers_in.scope .none kV doc pm an cdv ct) ⟨us, []⟩ = pure (P_numbers_in.zip us) := match us, hl with
  | [_, _, _], _ => rfl
theorem c_numbers_in (W : Wf w K mg) : Cal P w K mg base 2 "numbers_in" P_numbers_in (spA Fm.pure (fun a : List Int => [.d (.str (vecS a)), .d (.int a.length), .d (.int 12)]) (fun a => (∀ n ∈ a, n ∈ digI) ∧ a ≠ [] ∧ a.length ≤ 1000) fun a r => r = .d (tI a)) := by
  have nd := sc_numbers_in.nd
  refine W.calA (d := d_numbers_in) (N := N_numbers_in) 24 23 rfl rfl sc_numbers_in b_numbers_in ?_ ?_
  rotate_left
  · intro f cdv A outer s H E hr
    refine ⟨_, (pss_cons (ps_setLc (i := 3) (own := [("part", 4)]) (tt := tYes) rfl nd rfl rfl (sw_true rfl rfl rfl (by decide +kernel)) (k_piL (K := K) rfl (k_split (pv 0) pe_str)) (blkOk_by (N := N_numbers_in) (sc := d_numbers_in.scope) (by decide +kernel)) (fun _ _ _ _ _ => (pg_name (i := 4) nd rfl (Or.inl rfl))) (fun _ _ _ _ _ => pts_nil) (fun _ _ _ _ _ => (pe_cal (c_number_in W) (hr.mono (by decide)) rfl (pa_cons (pv 4) (pa_cons (pv 2) pa_nil))))) (pss_one (ps_ret (pe_ifExp (PW.pt (pw_or (pt_cmpR op_ne (pe_callB (k_len (K := K) rfl) rfl (W.free 73 rfl) (by decide +kernel) (pa_cons (pv 3) pa_nil)) (pv 1) (nomark _)) (pw_or1 (pt_cmpR (k_inL (K := K) rfl) pe_non (pv 3) (by rfl))))) pe_non (pe_callTy (k_tuple (K := K) rfl) rfl (W.free 82 rfl) (by decide +kernel) (pa_cons (pv 3) pa_nil)))))), ?_⟩
    rintro ns ⟨h, hne, hl⟩
    have hsp : Txt.split (vecS ns) "," = ns.map numS := by
      refine TL.split_join (s := 44) (S := []) rfl (by decide +kernel) (fun e => hne (List.map_eq_nil_iff.mp e)) fun p hp => ?_
      obtain ⟨n, hn, rfl⟩ := List.mem_map.mp hp
      exact num_tl (h n hn) (.inr (.inr (.inl rfl)))
    have hlen : (vecS ns).length + 2 ≤ sizeLine := by
      have h1 := StrLaws.join_length_le "," (ns.map numS)
      have h2 := vec_join_ok h hl
      rw [← TL.join_eq] at h1
      have h3 := sum_le (f := (fun s : Str => s.length) ∘ numS) (n := 2) (xs := ns) fun x hx => num_len (h x hx)
      rw [List.map_map, List.length_map] at h1
      have h4 : (("," : Str).length) = 1 := rfl
      rw [h4] at h1
      refine le_line ?_
      show (Txt.join "," (ns.map numS)).length + 2 ≤ 100000
      omega
    refine sd_seqE (sd_setE (ev_lcMm (zs := ns) (fun n => .str (numS n)) .int (fun a ha b hb e => numS_inj (h a ha) (h b hb) (D.str.inj e)) (EvI.cast (src_list (ev_split ev_var ev_cs rfl hlen hsp)) (by rw [List.map_map]; rfl)) (lt_line (by omega)) fun n hn => ⟨_, _, tg_nm, by decide, ev_fnA n (ea_cons ev_var (ea_cons ev_var ea_nil)) (h n hn) fun r e => e⟩) rfl) ?_
    · refine sd_retE (ev_if (et_is (et_or (a := false) (et_is (et_testD (ev_op (ev_call_b (ea_cons ev_varO ea_nil) (rcl_len (.bor _))) ev_var (ro_ne rfl rfl rfl))) ?_) fun _ => et_testD (ev_op ev_cn ev_varO (ro_noneInI (.inr rfl)))) rfl) (fun e => nomatch e) fun _ => ev_call_b (ea_cons ev_varO ea_nil) (rcl_tuple (.bor _))) rfl
      rw [List.length_map]
      simp
  · intro a
    rfl
end Wb
/-! WbX10 -/
set_option maxHeartbeats 4000000
namespace Wb
open PySem PySem.Spec PyProof.Rows L2
variable {P : Program} {w : World} {K : PySem.W.Frag} {mg : Str → Option Value} {base : Heap}
/-! ### the text of a flow -/
def readT (q : Rdt) : Str := numS q.1 ++ "@" ++ vecS q.2
def ruleT (r : Rul) : Str := Txt.join " " (r.1 :: r.2.map readT)
def flowT (f : Flw) : Str := Txt.join " / " (numS f.1 :: f.2.map ruleT)
def blkT (r : Rul) : List Str := "/" :: r.1 :: r.2.map readT
def wordsT (f : Flw) : List Str := numS f.1 :: f.2.flatMap blkT
theorem joinL_eq (S : List Nat) : ∀ (x : List Nat) (r : List (List Nat)), TL.joinL S (x :: r) = x ++ r.flatMap fun y => S ++ y
  | x, [] => (List.append_nil x).symm
  | x, y :: r => by
    show x ++ (S ++ TL.joinL S (y :: r)) = _
    rw [joinL_eq S y r, List.flatMap_cons, List.append_assoc]
theorem tl_txt (y : Str) (x : Str) (r : List Str) : TL.tl (Txt.join y (x :: r)) = TL.tl x ++ r.flatMap fun z => TL.tl y ++ TL.tl z := by
  rw [TL.join_eq, TL.tl_join, List.map_cons, joinL_eq, List.flatMap_map]
theorem tl_ext {x y : Str} (h : TL.tl x = TL.tl y) : x = y := TL.ext_tl h
theorem flowT_eq (f : Flw) : flowT f = Txt.join " " (wordsT f) := by
  apply tl_ext
  unfold flowT wordsT
  rw [tl_txt, tl_txt, List.flatMap_map, List.flatMap_assoc]
  congr 1
  congr 1
  funext r
  unfold ruleT blkT
  rw [tl_txt, List.flatMap_cons, List.flatMap_cons]
  rfl
theorem readT_eq (q : Rdt) : readT q = Txt.join "@" [numS q.1, vecS q.2] := by
  apply tl_ext
  unfold readT
  rw [tl_txt, TL.tl_append, TL.tl_append, List.flatMap_cons, List.flatMap_nil, List.append_nil, List.append_assoc]
structure TRead (q : Rdt) : Prop where
  lo : 0 ≤ q.1
  src : q.1 ∈ digI
  dist : ∀ n ∈ q.2, n ∈ digI
  some : q.2 ≠ []
  few : q.2.length ≤ 3
theorem vecS_no {ns : List Int} (h : ∀ n ∈ ns, n ∈ digI) {c : Nat} (hc : c = 32 ∨ c = 64) : c ∉ TL.tl (vecS ns) := by
  unfold vecS
  cases ns with
  | nil =>
    rw [List.map_nil, TL.join_eq, TL.tl_join]
    exact fun h => nomatch h
  | cons n ns =>
    rw [List.map_cons, tl_txt]
    intro hm
    rcases List.mem_append.mp hm with h1 | h1
    · exact num_tl (h n List.mem_cons_self) (by omega) h1
    · obtain ⟨z, hz, h2⟩ := List.mem_flatMap.mp h1
      obtain ⟨m, hm2, rfl⟩ := List.mem_map.mp hz
      rcases List.mem_append.mp h2 with h3 | h3
      · have e : TL.tl ("," : Str) = [44] := rfl
        rw [e] at h3
        have := List.mem_singleton.mp h3
        omega
      · exact num_tl (h m (List.mem_cons_of_mem _ hm2)) (by omega) h3
theorem readT_no {q : Rdt} (h : TRead q) : 32 ∉ TL.tl (readT q) := by
  unfold readT
  rw [TL.tl_append, TL.tl_append]
  intro hm
  rcases List.mem_append.mp hm with h1 | h1
  · rcases List.mem_append.mp h1 with h2 | h2
    · exact num_tl h.src (.inl rfl) h2
    · have e : TL.tl ("@" : Str) = [64] := rfl
      rw [e] at h2
      have := List.mem_singleton.mp h2
      omega
  · exact vecS_no h.dist (.inl rfl) h1
theorem str_len (s : Str) : s.length = (TL.tl s).length := Array.length_toList.symm
theorem vecS_len {ns : List Int} (h : ∀ n ∈ ns, n ∈ digI) : (vecS ns).length ≤ 3 * ns.length := by
  have h1 := StrLaws.join_length_le "," (ns.map numS)
  rw [← TL.join_eq, List.map_map, List.length_map] at h1
  have h3 := sum_le (f := (fun s : Str => s.length) ∘ numS) (n := 2) (xs := ns) fun x hx => num_len (h x hx)
  have h4 : (("," : Str).length) = 1 := rfl
  rw [h4] at h1
  show (Txt.join "," (ns.map numS)).length ≤ _
  omega
theorem readT_len {q : Rdt} (h : TRead q) : (readT q).length ≤ 20 := by
  have h1 := num_len h.src
  have h2 := vecS_len h.dist
  have h3 := h.few
  unfold readT
  rw [str_len, TL.tl_append, TL.tl_append, List.length_append, List.length_append, ← str_len, ← str_len, ← str_len]
  have h4 : (("@" : Str).length) = 1 := rfl
  rw [h4]
  omega
structure TRule (r : Rul) : Prop where
  kind : (r.1, (r.2.length : Int)) ∈ kindsT
  reads : ∀ q ∈ r.2, TRead q
theorem kind_no {k : Str} {n : Int} (h : (k, n) ∈ kindsT) : 32 ∉ TL.tl k ∧ k.length ≤ 5 := by
  have key : ∀ p ∈ kindsT, 32 ∉ TL.tl p.1 ∧ p.1.length ≤ 5 := by decide +kernel
  exact key _ h
theorem TRule.few {r : Rul} (h : TRule r) : 1 ≤ r.2.length ∧ r.2.length ≤ 3 := by
  have := kinds_few h.kind
  omega
structure TFlow (f : Flw) : Prop where
  v : VFlow f
  rules : ∀ r ∈ f.2, TRule r
theorem TFlow.of {f : Flw} (v : VFlow f) : TFlow f := by
  refine ⟨v, fun r hr => ⟨(v.rules r hr).kind, fun q hq => ?_⟩⟩
  have h := (v.rules r hr).reads q hq
  have h6 := v.n6
  have hd := v.dims
  have key : ∀ x : Int, -4 ≤ x → x ≤ 9 → x ∈ digI := fun x a b => by
    have e : x = -4 ∨ x = -3 ∨ x = -2 ∨ x = -1 ∨ x = 0 ∨ x = 1 ∨ x = 2 ∨ x = 3 ∨ x = 4 ∨ x = 5 ∨ x = 6 ∨ x = 7 ∨ x = 8 ∨ x = 9 := by omega
    unfold digI
    rcases e with e | e | e | e | e | e | e | e | e | e | e | e | e | e <;> subst e <;> decide
  have h1 := h.lo
  have h2 := h.hi
  have h3 := h.dim
  refine ⟨h.lo, key _ (by omega) (by omega), fun n hn => ?_, fun e => ?_, by omega⟩
  · have := h.near n hn
    exact key n (by omega) (by omega)
  · rw [e] at h3
    simp at h3
    omega
theorem rule_parts_ok {r : Rul} (h : TRule r) : ((r.1 :: r.2.map readT).map (·.length)).sum + (r.1 :: r.2.map readT).length * ((" " : Str).length) ≤ 200 := by
  have h1 := (kind_no h.kind).2
  have h2 := h.few
  have h3 := sum_le (f := (fun s : Str => s.length) ∘ readT) (n := 20) (xs := r.2) fun x hx => readT_len (h.reads x hx)
  rw [List.map_cons, List.sum_cons, List.map_map, List.length_cons, List.length_map]
  have h4 : ((" " : Str).length) = 1 := rfl
  rw [h4]
  omega
theorem ruleT_len {r : Rul} (h : TRule r) : (ruleT r).length ≤ 200 := by
  have h1 := StrLaws.join_length_le " " (r.1 :: r.2.map readT)
  rw [← TL.join_eq] at h1
  exact Nat.le_trans h1 (rule_parts_ok h)
abbrev N_rule_text : List Str := ["rule", "read"]
abbrev P_rule_text : List Str := ["rule"]
theorem sc_rule_text : FnScope N_rule_text P_rule_text d_rule_text.scope := ⟨rfl, rfl, rfl, by decide +kernel, rfl, by decide +kernel, by decide +kernel⟩
theorem b_rule_text (kV doc pm : Value) (an : Option Addr) (cdv ct : Value) (us : List Value) (hl : us.length = P_rule_text.length) : bindArgs (PySem.W.fnOf d_rule_text.name d_rule_text.qual d_rule_text.params d_rule_text.body d_rule_text.scope .none kV doc pm an cdv ct) ⟨us, []⟩ = pure (P_rule_text.zip us) := match us, hl with
  | [_], _ => rfl
theorem c_rule_text (W : Wf w K mg) : Cal P w K mg base 2 "rule_text" P_rule_text (spA Fm.pure (fun a : Rul => [.d (ruleD a)]) TRule fun a r => r = .d (.str (ruleT a))) := by
  have nd := sc_rule_text.nd
  refine W.calA (d := d_rule_text) (N := N_rule_text) 26 25 rfl rfl sc_rule_text b_rule_text ?_ ?_
  rotate_left
  · intro f cdv A outer s H E hr
    refine ⟨_, (pss_one (ps_ret (k_join (K := K) rfl pe_str (pe_lst (pa_cons (pe_ix (k_ixT (K := K) rfl) (pv 0) pe_int (fun _ _ => rfl)) (k_star (K := K) rfl (pe_lc (own := [("read", 1)]) (tt := tYes) rfl nd (k_piT (K := K) rfl (pe_slice (k_slT (K := K) rfl) (pv 0) (po_some pe_int) po_none)) (blkOk_by (N := N_rule_text) (sc := d_rule_text.scope) (by decide +kernel)) (fun _ _ _ _ _ => (pg_name (i := 1) nd rfl (Or.inl rfl))) (fun _ _ _ _ _ => pts_nil) (fun _ _ _ _ _ => (pe_op k_addS (pe_op k_addS (pe_callTy k_str rfl (W.free 80 rfl) (by decide +kernel) (pa_cons (pe_ix (k_ixT (K := K) rfl) (pv 1) pe_int (fun _ _ => rfl)) pa_nil)) pe_str) (pe_cal (c_vector_text W) (hr.mono (by decide)) rfl (pa_cons (pe_ix (k_ixT (K := K) rfl) (pv 1) pe_int (fun _ _ => rfl)) pa_nil))))) pa_nil)))))), ?_⟩
    rintro ⟨k, rs⟩ h
    have hf := h.few
    have hf : 1 ≤ rs.length ∧ rs.length ≤ 3 := hf
    refine sd_retE (ev_join (ys := k :: rs.map readT) ev_cs (ev_is (ev_lst (.str k :: rs.map fun q => .str (readT q)) (ea_cons (ev_op ev_var ev_ci (ro_ixT at0)) (ea_star (.own _) (ev_lcM (zs := rs) readD (fun q => .str (readT q)) readD_inj (EvI.cast (src_tup (ev_sl ev_var (ep_some ev_ci) ep_none rsl_tup)) (by rw [cut1])) (lt_line (by omega)) fun q hq => ⟨_, _, tg_nm, by decide, ?_⟩) ea_nil)) ?_ ?_) ?_) (Nat.le_trans (rule_parts_ok h) (by decide))) rfl
    · have hq' := h.reads q hq
      have h1 := num_len hq'.src
      have h2 := vecS_len hq'.dist
      have h3 := hq'.few
      have h4 : (("@" : Str).length) = 1 := rfl
      have key : ∀ i ∈ digI, i.natAbs.log2 < 1920 := by decide +kernel
      have h5 : (numS q.1 ++ ("@" : Str)).length ≤ 3 := by
        rw [str_len, TL.tl_append, List.length_append, ← str_len, ← str_len, h4]
        omega
      exact ev_op (ev_op (ev_call_b (ea_cons (ev_op ev_var ev_ci (ro_ixT rfl)) ea_nil) (rcl_str (key _ hq'.src))) ev_cs (ro_addS (le_line (Nat.le_trans (Nat.add_le_add h1 (Nat.le_of_eq h4)) (by decide))))) (ev_fnA q.2 (ea_cons (ev_op ev_var ev_ci (ro_ixT rfl)) ea_nil) ⟨hq'.dist, by omega⟩ fun r e => e) (ro_addS (le_line (Nat.le_trans (Nat.add_le_add h5 h2) (by omega))))
    · rw [List.append_nil]
      rfl
    · rw [List.length_cons, List.length_map]
      exact le_line (by omega)
    · rw [List.map_cons, List.map_map]
      rfl
  · intro a
    rfl
theorem flow_parts_ok {f : Flw} (h : TFlow f) : ((numS f.1 :: f.2.map ruleT).map (·.length)).sum + (numS f.1 :: f.2.map ruleT).length * ((" / " : Str).length) ≤ 2000 := by
  have h6 := h.v.n6
  have h3 := sum_le (f := (fun s : Str => s.length) ∘ ruleT) (n := 200) (xs := f.2) fun x hx => ruleT_len (h.rules x hx)
  have hd : (numS f.1).length ≤ 2 := num_len (by rcases h.v.dims with e | e <;> rw [e] <;> decide)
  rw [List.map_cons, List.sum_cons, List.map_map, List.length_cons, List.length_map]
  have h4 : ((" / " : Str).length) = 3 := rfl
  rw [h4]
  omega
theorem flowT_len {f : Flw} (h : TFlow f) : (flowT f).length ≤ 2000 := by
  have h1 := StrLaws.join_length_le " / " (numS f.1 :: f.2.map ruleT)
  rw [← TL.join_eq] at h1
  exact Nat.le_trans h1 (flow_parts_ok h)
abbrev N_flow_text : List Str := ["flow", "rule"]
abbrev P_flow_text : List Str := ["flow"]
theorem sc_flow_text : FnScope N_flow_text P_flow_text d_flow_text.scope := ⟨rfl, rfl, rfl, by decide +kernel, rfl, by decide +kernel, by decide +kernel⟩
theorem b_flow_text (kV doc pm : Value) (an : Option Addr) (cdv ct : Value) (us : List Value) (hl : us.length = P_flow_text.length) : bindArgs (PySem.W.fnOf d_flow_text.name d_flow_text.qual d_flow_text.params d_flow_text.body d_flow_text.scope .none kV doc pm an cdv ct) ⟨us, []⟩ = pure (P_flow_text.zip us) := match us, hl with
  | [_], _ => rfl
theorem c_flow_text (W : Wf w K mg) : Cal P w K mg base 3 "flow_text" P_flow_text (spA Fm.pure (fun a : Flw => [.d (flowD a)]) TFlow fun a r => r = .d (.str (flowT a))) := by
  have nd := sc_flow_text.nd
  refine W.calA (d := d_flow_text) (N := N_flow_text) 27 26 rfl rfl sc_flow_text b_flow_text ?_ ?_
  rotate_left
  · intro f cdv A outer s H E hr
    refine ⟨_, (pss_one (ps_ret (k_join (K := K) rfl pe_str (pe_lst (pa_cons (pe_callTy k_str rfl (W.free 80 rfl) (by decide +kernel) (pa_cons (pe_ix (k_ixT (K := K) rfl) (pv 0) pe_int (fun _ _ => rfl)) pa_nil)) (k_star (K := K) rfl (pe_lc (own := [("rule", 1)]) (tt := tYes) rfl nd (k_piT (K := K) rfl (pe_ix (k_ixT (K := K) rfl) (pv 0) pe_int (fun _ _ => rfl))) (blkOk_by (N := N_flow_text) (sc := d_flow_text.scope) (by decide +kernel)) (fun _ _ _ _ _ => (pg_name (i := 1) nd rfl (Or.inl rfl))) (fun _ _ _ _ _ => pts_nil) (fun _ _ _ _ _ => (pe_cal (c_rule_text W) (hr.mono (by decide)) rfl (pa_cons (pv 1) pa_nil)))) pa_nil)))))), ?_⟩
    rintro ⟨dims, rules⟩ h
    have h6 : rules.length ≤ 6 := h.v.n6
    have hd : dims ∈ digI := by
      have h2 : dims = 2 ∨ dims = 3 := h.v.dims
      rcases h2 with e | e <;> rw [e] <;> decide
    have key : ∀ i ∈ digI, i.natAbs.log2 < 1920 := by decide +kernel
    refine sd_retE (ev_join (ys := numS dims :: rules.map ruleT) ev_cs (ev_is (ev_lst (.str (numS dims) :: rules.map fun r => .str (ruleT r)) (ea_cons (ev_call_b (ea_cons (ev_op ev_var ev_ci (ro_ixT rfl)) ea_nil) (rcl_str (key _ hd))) (ea_star (.own _) (ev_lcM (zs := rules) ruleD (fun r => .str (ruleT r)) ruleD_inj (src_tup (ev_op ev_var ev_ci (ro_ixT rfl))) (lt_line (by omega)) fun r hr => ⟨_, _, tg_nm, by decide, ev_fnA r (ea_cons ev_var ea_nil) (h.rules r hr) fun r e => e⟩) ea_nil)) ?_ ?_) ?_) (Nat.le_trans (flow_parts_ok h) (by decide))) rfl
    · rw [List.append_nil]
      rfl
    · rw [List.length_cons, List.length_map]
      exact le_line (by omega)
    · rw [List.map_cons, List.map_map]
      rfl
  · intro a
    rfl
abbrev N_read_in : List Str := ["dims", "text", "parts", "plane", "vector"]
abbrev P_read_in : List Str := ["dims", "text"]
theorem sc_read_in : FnScope N_read_in P_read_in d_read_in.scope := ⟨rfl, rfl, rfl, by decide +kernel, rfl, by decide +kernel, by decide +kernel⟩
theorem b_read_in (kV doc pm : Value) (an : Option Addr) (cdv ct : Value) (us : List Value) (hl : us.length = P_read_in.length) : bindArgs (PySem.W.fnOf d_read_in.name d_read_in.qual d_read_in.params d_read_in.body d_read_in.scope .none kV doc pm an cdv ct) ⟨us, []⟩ = pure (P_read_in.zip us) := match us, hl with
  | [_, _], _ => rfl
theorem c_read_in (W : Wf w K mg) : Cal P w K mg base 3 "read_in" P_read_in (spA Fm.pure (fun a : Int × Rdt => [.d (.int a.1), .d (.str (readT a.2))]) (fun a => TRead a.2 ∧ (a.2.2.length : Int) = a.1) fun a r => r = .d (readD a.2)) := by
  have nd := sc_read_in.nd
  refine W.calA (d := d_read_in) (N := N_read_in) 28 27 rfl rfl sc_read_in b_read_in ?_ ?_
  rotate_left
  · intro f cdv A outer s H E hr
    refine ⟨_, (pss_cons (ps_set (i := 2) nd rfl (Or.inl rfl) (k_split (pv 1) pe_str)) (pss_cons (ps_if (pt_cmpR op_ne (pe_callB (k_len (K := K) rfl) rfl (W.free 73 rfl) (by decide +kernel) (pa_cons (pv 2) pa_nil)) pe_int (nomark _)) (pss_one (ps_ret pe_non)) pss_nil) (pss_cons (ps_par (i := 3) (j := 4) rfl nd rfl rfl (by decide) rfl rfl (pa_cons (pe_cal (c_number_in W) (hr.mono (by decide)) rfl (pa_cons (pe_ix (k_ixL (K := K) rfl) (pv 2) pe_int (fun _ _ => rfl)) (pa_cons (pe_gint (W.int 92 rfl) rfl) pa_nil))) (pa_cons (pe_cal (c_numbers_in W) (hr.mono (by decide)) rfl (pa_cons (pe_ix (k_ixL (K := K) rfl) (pv 2) pe_int (fun _ _ => rfl)) (pa_cons (pv 0) (pa_cons (pe_gint (W.int 92 rfl) rfl) pa_nil)))) pa_nil)) rfl) (pss_one (ps_ret (pe_ifExp (PW.pt (pw_or (pt_cmpR k_isN (pv 3) pe_non (nomark _)) (pw_or (pt_cmpR op_lt (pv 3) pe_int (nomark _)) (pw_or1 (pt_cmpR k_isN (pv 4) pe_non (nomark _)))))) pe_non (pe_tup (pa_cons (pv 3) (pa_cons (pv 4) pa_nil))))))))), ?_⟩
    rintro ⟨dims, q⟩ ⟨h, hd⟩
    have hd : (q.2.length : Int) = dims := hd
    have hl := readT_len h
    have h3 := h.few
    have h0 := h.lo
    have hsp : Txt.split (readT q) "@" = [numS q.1, vecS q.2] := by
      rw [readT_eq]
      refine TL.split_join (s := 64) (S := []) rfl (by decide +kernel) (fun e => nomatch e) fun p hp => ?_
      rcases List.mem_cons.mp hp with e | hp
      · rw [e]
        exact num_tl h.src (.inr (.inl rfl))
      · rw [List.mem_singleton.mp hp]
        exact vecS_no h.dist (.inr rfl)
    refine sd_seqE (sd_setE (ev_split ev_var ev_cs rfl (le_line (Nat.le_trans (Nat.add_le_add_right hl 2) (by decide))) hsp) rfl) ?_
    refine sd_seqE (ds1 := _) (sd_ifF (et_is (et_testD (ev_op (ev_call_b (ea_cons ev_varO ea_nil) (rcl_len (.bor _))) ev_ci (ro_ne rfl rfl rfl))) rfl) (sd_next rfl)) ?_
    refine sd_seqE (ds1 := [some (.d (.int dims)), some (.d (.str (readT q))), some (.own ([numS q.1, vecS q.2].map .str)), some (.d (.int q.1)), some (.d (tI q.2))]) (sd_par (φ := (· = .d (.int q.1))) (ψ := (· = .d (tI q.2))) (ev_fnA q.1 (ea_cons (ev_op ev_varO ev_ci (ro_ixL (.inr rfl) rfl)) (ea_cons ev_ci ea_nil)) h.src fun r e => e) (ev_fnA q.2 (ea_cons (ev_op ev_varO ev_ci (ro_ixL (.inr rfl) rfl)) (ea_cons ev_var (ea_cons ev_ci ea_nil))) ⟨h.dist, h.some, by omega⟩ (fun r e => e) ?_) (by decide) fun x y e1 e2 => ?_) ?_
    · rw [← hd]
      rfl
    · subst e1 e2
      exact ⟨trivial, trivial, .inl ⟨_, rfl⟩, rfl⟩
    · exact sd_retE (ev_if (et_is (et_or (a := false) (et_testD (ev_op ev_var ev_cn ro_isN)) fun _ => et_or (a := false) (et_is (et_testD (ev_op ev_var ev_ci ro_b0)) (decide_eq_false (Int.not_lt.mpr h0))) fun _ => et_testD (b := false) (ev_op ev_var ev_cn ro_isN)) rfl) (fun e => nomatch e) fun _ => ev_tup _ (ea_cons ev_var (ea_cons ev_var ea_nil))) rfl
  · intro a
    rfl
end Wb
/-! WbX11 -/
set_option maxHeartbeats 4000000
namespace Wb
open PySem PySem.Spec PyProof.Rows L2
variable {P : Program} {w : World} {K : PySem.W.Frag} {mg : Str → Option Value} {base : Heap}
/-- at place i of the words the rule r stands -/
structure RuleAt (ws : List Str) (i : Nat) (r : Rul) : Prop where
  kind : ws[i]? = some r.1
  reads : ∀ (j : Nat) q, r.2[j]? = some q → ws[i + 1 + j]? = some (readT q)
theorem at_int {α : Type} {xs : List α} {i : Int} {n : Nat} {x : α} (e : i = (n : Int)) (h : xs[n]? = some x) : atI xs i = some x := by
  subst e
  exact atI_nat h
theorem get_str {ws : List Str} {n : Nat} {s : Str} (h : ws[n]? = some s) : (ws.map D.str)[n]? = some (.str s) := by
  rw [List.getElem?_map, h]
  rfl
theorem rng_get {lo : Int} {n i : Nat} {x : D} (h : ((rngI lo n).map D.int)[i]? = some x) : i < n ∧ x = .int (lo + i) := by
  unfold rngI at h
  rw [List.map_map] at h
  obtain ⟨k, hk, e⟩ := get_map h
  have hi : i < (List.range n).length := (List.getElem?_eq_some_iff.mp hk).1
  rw [List.length_range] at hi
  rw [List.getElem?_range hi] at hk
  cases hk
  exact ⟨hi, e⟩
abbrev N_rule_in : List Str := ["dims", "words", "first", "reads", "index", "read"]
abbrev P_rule_in : List Str := ["dims", "words", "first"]
theorem sc_rule_in : FnScope N_rule_in P_rule_in d_rule_in.scope := ⟨rfl, rfl, rfl, by decide +kernel, rfl, by decide +kernel, by decide +kernel⟩
theorem b_rule_in (kV doc pm : Value) (an : Option Addr) (cdv ct : Value) (us : List Value) (hl : us.length = P_rule_in.length) : bindArgs (PySem.W.fnOf d_rule_in.name d_rule_in.qual d_rule_in.params d_rule_in.body d_rule_in.scope .none kV doc pm an cdv ct) ⟨us, []⟩ = pure (P_rule_in.zip us) := match us, hl with
  | [_, _, _], _ => rfl
theorem c_rule_in (W : Wf w K mg) : Cal P w K mg base 4 "rule_in" P_rule_in (spA Fm.pure (fun a : Int × List Str × Nat × Rul => [.d (.int a.1), .bor (a.2.1.map .str), .d (.int a.2.2.1)]) (fun a => TRule a.2.2.2 ∧ (∀ q ∈ a.2.2.2.2, (q.2.length : Int) = a.1) ∧ RuleAt a.2.1 a.2.2.1 a.2.2.2 ∧ a.2.1.length ≤ 1000) fun a r => r = .d (.tup [ruleD a.2.2.2, .int (a.2.2.1 + 1 + a.2.2.2.2.length)])) := by
  have nd := sc_rule_in.nd
  refine W.calA (d := d_rule_in) (N := N_rule_in) 29 28 rfl rfl sc_rule_in b_rule_in ?_ ?_
  rotate_left
  · intro f cdv A outer s H E hr
    refine ⟨_, (pss_cons (ps_if (PW.pt (pw_or (pt_cmpR op_ge (pv 2) (pe_callB (k_len (K := K) rfl) rfl (W.free 73 rfl) (by decide +kernel) (pa_cons (pv 1) pa_nil)) (nomark _)) (pw_or1 (pt_not (pt_val (pe_cal (c_is_kind W) (hr.mono (by decide)) rfl (pa_cons (pe_ix (k_ixL (K := K) rfl) (pv 1) (pv 2) (fun _ _ => rfl)) pa_nil))))))) (pss_one (ps_ret (pe_tup (pa_cons pe_non (pa_cons (pv 2) pa_nil))))) pss_nil) (pss_cons (ps_set (i := 3) nd rfl (Or.inl rfl) (pe_lst pa_nil)) (pss_cons (ps_for PassesOwn.never rfl (pi_range2 rfl (W.free 77 rfl) (pa_cons (pe_op op_add (pv 2) pe_int) (pa_cons (pe_op op_add (pe_op op_add (pv 2) pe_int) (pe_cal (c_reads_in W) (hr.mono (by decide)) rfl (pa_cons (pe_ix (k_ixL (K := K) rfl) (pv 1) (pv 2) (fun _ _ => rfl)) pa_nil))) pa_nil))) (pg_name (i := 4) nd rfl (Or.inl rfl)) (pss_cons (ps_set (i := 5) nd rfl (Or.inl rfl) (pe_ifExp (pt_cmpR op_lt (pv 4) (pe_callB (k_len (K := K) rfl) rfl (W.free 73 rfl) (by decide +kernel) (pa_cons (pv 1) pa_nil)) (nomark _)) (pe_cal (c_read_in W) (hr.mono (by decide)) rfl (pa_cons (pv 0) (pa_cons (pe_ix (k_ixL (K := K) rfl) (pv 1) (pv 4) (fun _ _ => rfl)) pa_nil))) pe_non)) (pss_cons (ps_if (pt_cmpR k_isN (pv 5) pe_non (nomark _)) (pss_one (ps_ret (pe_tup (pa_cons pe_non (pa_cons (pv 4) pa_nil))))) pss_nil) (pss_one (ps_expr (pe_bm PySem.F.plainAttrs_list PySem.F.slot_list_append PySem.F.type_list_append mt_append (pv 3) (pa_cons (pv 5) pa_nil))))))) (pss_one (ps_ret (pe_tup (pa_cons (pe_tup (pa_cons (pe_ix (k_ixL (K := K) rfl) (pv 1) (pv 2) (fun _ _ => rfl)) (k_star (K := K) rfl (pv 3) pa_nil))) (pa_cons (pe_op op_add (pe_op op_add (pv 2) pe_int) (pe_callB (k_len (K := K) rfl) rfl (W.free 73 rfl) (by decide +kernel) (pa_cons (pv 3) pa_nil))) pa_nil)))))))), ?_⟩
    rintro ⟨dims, ws, i, k, rs⟩ ⟨h, hd, ha, hl⟩
    have hl : ws.length ≤ 1000 := hl
    have hk : ws[i]? = some k := ha.kind
    have hf : 1 ≤ rs.length ∧ rs.length ≤ 3 := h.few
    have hi : i < ws.length := (List.getElem?_eq_some_iff.mp hk).1
    have hkk : (k, (rs.length : Int)) ∈ kindsT := h.kind
    refine sd_seqE (ds1 := _) (sd_ifF (et_is (et_or (a := false) (et_is (et_testD (ev_op ev_var (ev_call_b (ea_cons ev_varB ea_nil) (rcl_len (.bor _))) ro_b0)) (decide_eq_false ?_)) fun _ => et_not (a := true) (et_BD (ev_fnA (k, (rs.length : Int)) (ea_cons (ev_op ev_varB ev_var (ro_ixL (.inr rfl) (atI_nat (get_str hk)))) ea_nil) hkk fun r e => e))) rfl) (sd_next rfl)) ?_
    · rw [List.length_map]
      show ¬ ((ws.length : Int) ≤ (i : Int))
      omega
    refine sd_seqE (sd_setE (ev_lst [] ea_nil) rfl) ?_
    refine sd_seq (M := fun d => ∃ o o2, d = [some (.d (.int dims)), some (.bor (ws.map .str)), some (.d (.int i)), some (.own (rs.map readD)), o, o2]) (sd_for (fun _ j d => ∃ o o2, d = [some (.d (.int dims)), some (.bor (ws.map .str)), some (.d (.int i)), some (.own ((rs.take j).map readD)), o, o2]) (EvI.cast (ys := (rngI (i + 1) rs.length).map .int) (src_rng2 (m := i + 1) (n := i + 1 + rs.length) (ea_cons (ev_op ev_var ev_ci ro_i0) (ea_cons (ev_op (ev_op ev_var ev_ci ro_i0) (ev_fnA (k, (rs.length : Int)) (ea_cons (ev_op ev_varB ev_var (ro_ixL (.inr rfl) (atI_nat (get_str hk)))) ea_nil) hkk fun r e => e) ro_i0) ea_nil)) ?_) ?_) (fun xs e => ⟨_, _, rfl⟩) ?_ ?_) ?_
    · omega
    · rw [intsD_eq]
      congr 2
      omega
    · rintro zs j x ds1 rfl hx ⟨o, o2, rfl⟩
      obtain ⟨hj, rfl⟩ := rng_get hx
      have hq := List.getElem?_eq_getElem hj
      have hw := ha.reads j rs[j] hq
      have hwl : i + 1 + j < ws.length := (List.getElem?_eq_some_iff.mp hw).1
      have hm : rs[j] ∈ rs := List.getElem_mem hj
      refine ⟨_, _, tg_nm, sd_seqE (sd_set (φ := (· = .d (readD rs[j]))) (ev_if (et_is (et_testD (ev_op ev_var (ev_call_b (ea_cons ev_varB ea_nil) (rcl_len (.bor _))) ro_b0)) (b := true) (decide_eq_true ?_)) (fun _ => ?_) fun e => nomatch e) fun r e => by rw [e]; exact ⟨trivial, rfl⟩) (sd_seqE (ds1 := _) (sd_ifF (et_testD (ev_op ev_var ev_cn ro_isN)) (sd_next rfl)) (sd_append (i := 3) (xs := (rs.take j).map readD) rfl ev_var ?_ fun r e => ⟨_, e, ?_⟩))⟩
      · rw [List.length_map]
        show (i : Int) + 1 + (j : Int) < (ws.length : Int)
        omega
      · exact ev_fnA (dims, rs[j]) (ea_cons ev_var (ea_cons (ev_op ev_varB ev_var (ro_ixL (.inr rfl) (at_int (n := i + 1 + j) (by omega) (get_str hw)))) ea_nil)) ⟨h.reads _ hm, hd _ hm⟩ fun r e => e
      · rw [List.length_map, List.length_take]
        exact lt_line (by omega)
      · rw [take_succ' hq, List.map_append]
        exact ⟨_, _, rfl⟩
    · rintro zs ds1 rfl ⟨o, o2, rfl⟩
      rw [List.length_map, rngI_len, take_all]
      exact ⟨o, o2, rfl⟩
    · rintro d ⟨o, o2, rfl⟩
      refine sd_retE (ev_tup [ruleD (k, rs), .int (i + 1 + rs.length)] (ea_cons (ev_tup (.str k :: rs.map readD) (ea_cons (ev_op ev_varB ev_var (ro_ixL (.inr rfl) (atI_nat (get_str hk)))) (ea_star (.bor _) ev_varO ea_nil)) ?_ ?_) (ea_cons (ev_op (ev_op ev_var ev_ci ro_i0) (ev_call_b (ea_cons ev_varO ea_nil) (rcl_len (.bor _))) ro_i0) ea_nil)) ?_) rfl
      · rw [List.append_nil]
        rfl
      · rw [List.length_cons, List.length_map]
        exact le_line (by omega)
      · rw [List.length_map]
        rfl
  · intro a
    rfl
/-- where the j-th rule's slash stands -/
def offT (rules : List Rul) (j : Nat) : Nat := 1 + ((rules.take j).map fun r => 2 + r.2.length).sum
theorem blk_len (r : Rul) : (blkT r).length = 2 + r.2.length := by
  unfold blkT
  rw [List.length_cons, List.length_cons, List.length_map]
  omega
theorem flat_len (rules : List Rul) : (rules.flatMap blkT).length = (rules.map fun r => 2 + r.2.length).sum := by
  rw [List.length_flatMap]
  congr 1
  exact List.map_congr_left fun r _ => blk_len r
theorem off_succ {rules : List Rul} {j : Nat} {r : Rul} (h : rules[j]? = some r) : offT rules (j + 1) = offT rules j + 2 + r.2.length := by
  unfold offT
  rw [take_succ' h, List.map_append, List.sum_append, List.map_cons, List.map_nil, List.sum_cons, List.sum_nil]
  omega
theorem words_len (f : Flw) : (wordsT f).length = offT f.2 f.2.length := by
  unfold wordsT offT
  rw [List.length_cons, flat_len, take_all]
  omega
theorem words_get {f : Flw} {j : Nat} {r : Rul} (h : f.2[j]? = some r) {t : Nat} (ht : t < 2 + r.2.length) : (wordsT f)[offT f.2 j + t]? = (blkT r)[t]? := by
  have hj := (List.getElem?_eq_some_iff.mp h).1
  have e : f.2 = f.2.take j ++ (r :: f.2.drop (j + 1)) := by
    have h1 := List.take_append_drop j f.2
    have h2 : f.2.drop j = r :: f.2.drop (j + 1) := by
      rw [List.drop_eq_getElem_cons hj]
      congr 1
      exact (List.getElem?_eq_some_iff.mp h).2
    rw [← h2, h1]
  have e2 : f.2.flatMap blkT = (f.2.take j).flatMap blkT ++ (blkT r ++ (f.2.drop (j + 1)).flatMap blkT) := by
    conv => lhs; rw [e]
    rw [List.flatMap_append, List.flatMap_cons]
  unfold wordsT
  have e3 : offT f.2 j + t = (((f.2.take j).flatMap blkT).length + t) + 1 := by
    unfold offT
    rw [flat_len]
    omega
  rw [e3, List.getElem?_cons_succ, e2, List.getElem?_append_right (by omega), Nat.add_sub_cancel_left, List.getElem?_append_left (by rw [blk_len]; exact ht)]
theorem words_rule {f : Flw} {j : Nat} {r : Rul} (h : f.2[j]? = some r) : (wordsT f)[offT f.2 j]? = some "/" ∧ RuleAt (wordsT f) (offT f.2 j + 1) r := by
  refine ⟨by rw [← Nat.add_zero (offT f.2 j), words_get h (by omega)]; rfl, by rw [words_get h (by omega)]; rfl, fun t q hq => ?_⟩
  have ht := (List.getElem?_eq_some_iff.mp hq).1
  rw [show offT f.2 j + 1 + 1 + t = offT f.2 j + (2 + t) by omega, words_get h (by omega)]
  unfold blkT
  rw [show 2 + t = t + 1 + 1 by omega, List.getElem?_cons_succ, List.getElem?_cons_succ, List.getElem?_map, hq]
  rfl
theorem off_le {f : Flw} (h : TFlow f) : offT f.2 f.2.length ≤ 100 := by
  unfold offT
  rw [take_all]
  have h6 := h.v.n6
  have := sum_le (f := fun r : Rul => 2 + r.2.length) (n := 5) (xs := f.2) fun r hr => by
    have := (h.rules r hr).few
    omega
  omega
theorem off_lt {rules : List Rul} {j : Nat} (h : j < rules.length) : offT rules j < offT rules rules.length := by
  have key : ∀ k, j + 1 ≤ k → k ≤ rules.length → offT rules (j + 1) ≤ offT rules k := by
    intro k hk
    induction hk with
    | refl => intro _; exact Nat.le_refl _
    | step hk ih =>
      intro hl
      have h1 := ih (by omega)
      rename_i m
      have h2 : offT rules (m + 1) = offT rules m + 2 + _ := off_succ (List.getElem?_eq_getElem (show m < rules.length by omega))
      show offT rules (j + 1) ≤ offT rules (m + 1)
      omega
  have h1 := off_succ (List.getElem?_eq_getElem h)
  have h2 := key rules.length h (Nat.le_refl _)
  omega
theorem words_no {f : Flw} (h : TFlow f) : ∀ p ∈ wordsT f, 32 ∉ TL.tl p := by
  intro p hp
  unfold wordsT at hp
  rcases List.mem_cons.mp hp with e | hp
  · rw [e]
    exact num_tl (by rcases h.v.dims with e | e <;> rw [e] <;> decide) (.inl rfl)
  · obtain ⟨r, hr, h1⟩ := List.mem_flatMap.mp hp
    unfold blkT at h1
    rcases List.mem_cons.mp h1 with e | h1
    · rw [e]
      decide +kernel
    · rcases List.mem_cons.mp h1 with e | h1
      · rw [e]
        exact (kind_no (h.rules r hr).kind).1
      · obtain ⟨q, hq, rfl⟩ := List.mem_map.mp h1
        exact readT_no ((h.rules r hr).reads q hq)
abbrev N_parse_flow : List Str := ["value", "words", "dims", "rules", "at", "rule", "flow", "error"]
abbrev P_parse_flow : List Str := ["value"]
theorem sc_parse_flow : FnScope N_parse_flow P_parse_flow d_parse_flow.scope := ⟨rfl, rfl, rfl, by decide +kernel, rfl, by decide +kernel, by decide +kernel⟩
theorem b_parse_flow (kV doc pm : Value) (an : Option Addr) (cdv ct : Value) (us : List Value) (hl : us.length = P_parse_flow.length) : bindArgs (PySem.W.fnOf d_parse_flow.name d_parse_flow.qual d_parse_flow.params d_parse_flow.body d_parse_flow.scope .none kV doc pm an cdv ct) ⟨us, []⟩ = pure (P_parse_flow.zip us) := match us, hl with
  | [_], _ => rfl
theorem c_parse_flow (W : Wf w K mg) : Cal P w K mg base 6 "parse_flow" P_parse_flow (spA Fm.pure (fun a : Flw => [.d (.str (flowT a))]) TFlow fun a r => r = .d (flowD a)) := by
  have nd := sc_parse_flow.nd
  refine W.calA (d := d_parse_flow) (N := N_parse_flow) 30 29 rfl rfl sc_parse_flow b_parse_flow ?_ ?_
  rotate_left
  · intro f cdv A outer s H E hr
    refine ⟨_, (pss_cons (ps_if (pt_not (pt_val (pe_callB (k_isi (K := K) rfl) rfl (W.free 72 rfl) (by decide +kernel) (pa_cons (pv 0) (pa_cons (pe_bltn (v := .ty "str") (u := .type "str") rfl (W.free 80 rfl) (by decide +kernel) rfl) pa_nil))))) (pss_never) pss_nil) (pss_cons (ps_set (i := 1) nd rfl (Or.inl rfl) (k_split (pv 0) pe_str)) (pss_cons (ps_if (pt_cmpR (k_notInL (K := K) rfl) (pe_ix (k_ixL (K := K) rfl) (pv 1) pe_int (fun _ _ => rfl)) (pe_tup (pa_cons pe_str (pa_cons pe_str pa_nil))) (by rfl)) (pss_never) pss_nil) (pss_cons (ps_par3 (i := 2) (j := 3) (l := 4) rfl nd rfl rfl rfl (by decide) (by decide) (by decide) rfl rfl rfl (pa_cons (pe_callTy k_intS rfl (W.free 71 rfl) (by decide +kernel) (pa_cons (pe_ix (k_ixL (K := K) rfl) (pv 1) pe_int (fun _ _ => rfl)) pa_nil)) (pa_cons (pe_lst pa_nil) (pa_cons pe_int pa_nil))) rfl) (pss_cons (ps_while PassesOwn.never (PW.pt (pw_or (pt_cmpR op_lt (pv 4) (pe_callB (k_len (K := K) rfl) rfl (W.free 73 rfl) (by decide +kernel) (pa_cons (pv 1) pa_nil)) (nomark _)) (pw_or1 (pt_cmpR (k_eqD (K := K) rfl (hu64 hr)) (pv 3) (pe_lst pa_nil) (nomark _))))) (pss_cons (ps_if (PW.pt (pw_or (pt_cmpR op_ge (pv 4) (pe_callB (k_len (K := K) rfl) rfl (W.free 73 rfl) (by decide +kernel) (pa_cons (pv 1) pa_nil)) (nomark _)) (pw_or1 (pt_cmpR op_ne (pe_ix (k_ixL (K := K) rfl) (pv 1) (pv 4) (fun _ _ => rfl)) pe_str (nomark _))))) (pss_never) pss_nil) (pss_cons (ps_asg (pe_cal (c_rule_in W) (hr.mono (by decide)) rfl (pa_cons (pv 2) (pa_cons (pv 1) (pa_cons (pe_op op_add (pv 4) pe_int) pa_nil)))) (k_pg (K := K) (n := 2) rfl rfl (pgs_cons (pg_name (i := 5) nd rfl (Or.inl rfl)) (pgs_cons (pg_name (i := 4) nd rfl (Or.inl rfl)) pgs_nil)))) (pss_cons (ps_if (pt_cmpR k_isN (pv 5) pe_non (nomark _)) (pss_never) pss_nil) (pss_one (ps_expr (pe_bm PySem.F.plainAttrs_list PySem.F.slot_list_append PySem.F.type_list_append mt_append (pv 3) (pa_cons (pv 5) pa_nil)))))))) (pss_cons (ps_set (i := 6) nd rfl (Or.inl rfl) (pe_tup (pa_cons (pv 2) (pa_cons (pe_callTy (k_tuple (K := K) rfl) rfl (W.free 82 rfl) (by decide +kernel) (pa_cons (pv 3) pa_nil)) pa_nil)))) (pss_cons (ps_set (i := 7) nd rfl (Or.inl rfl) (pe_cal (c_flow_error W) (hr.mono (by decide)) rfl (pa_cons (pv 6) pa_nil))) (pss_cons (ps_if (pt_cmpR k_notN (pv 7) pe_non (nomark _)) (pss_never) pss_nil) (pss_one (ps_ret (pv 6))))))))))), ?_⟩
    intro f h
    have hsp : Txt.split (flowT f) " " = wordsT f := by
      rw [flowT_eq]
      exact TL.split_join (s := 32) (S := []) rfl (by decide +kernel) (fun e => nomatch e) (words_no h)
    have hwl := words_len f
    have hoff := off_le h
    have hlen := flowT_len h
    have h1 := h.v.n1
    have h6 := h.v.n6
    have hd : f.1 ∈ digI := by rcases h.v.dims with e | e <;> rw [e] <;> decide
    refine sd_seqE (ds1 := _) (sd_ifF (et_not (a := true) (et_BD (ev_call_b (ea_cons ev_var (ea_cons ev_ty ea_nil)) rcl_isi_ss))) (sd_next rfl)) ?_
    refine sd_seqE (sd_setE (ev_split ev_var ev_cs rfl (le_line (Nat.le_trans (Nat.add_le_add_right hlen 2) (by decide))) hsp) rfl) ?_
    refine sd_seqE (ds1 := _) (sd_ifF (et_is (et_testD (ev_op (ev_op ev_varO ev_ci (ro_ixL (.inr rfl) at0)) (ev_tup ((["2", "3"] : List Str).map .str) (ea_cons ev_cs (ea_cons ev_cs ea_nil))) ro_notInT)) ?_) (sd_next rfl)) ?_
    · rcases h.v.dims with e | e <;> rw [e] <;> decide +kernel
    refine sd_seqE (ds1 := [some (.d (.str (flowT f))), some (.own ((wordsT f).map .str)), some (.d (.int f.1)), some (.own []), some (.d (.int 1)), none, none, none]) (sd_par3 (x := .d (.int f.1)) (y := .own []) (z := .int 1) (ev_call_b (ea_cons (ev_op ev_varO ev_ci (ro_ixL (.inr rfl) at0)) ea_nil) (rcl_intS (num_reads _ hd) (Nat.le_trans (num_len hd) (by decide)))) (ev_lst [] ea_nil) ev_ci (by decide) trivial trivial (.inl ⟨_, rfl⟩) rfl) ?_
    refine sd_seq (M := fun d => ∃ o o2 o3, d = [some (.d (.str (flowT f))), some (.own ((wordsT f).map .str)), some (.d (.int f.1)), some (.own (f.2.map ruleD)), some (.d (.int (offT f.2 f.2.length))), o, o2, o3]) (sd_while (fun m d => ∃ j, m = f.2.length - j ∧ j ≤ f.2.length ∧ ∃ o o2 o3, d = [some (.d (.str (flowT f))), some (.own ((wordsT f).map .str)), some (.d (.int f.1)), some (.own ((f.2.take j).map ruleD)), some (.d (.int (offT f.2 j))), o, o2, o3]) ⟨_, 0, rfl, Nat.zero_le _, _, _, _, rfl⟩ ?_) ?_
    · rintro m ds1 ⟨j, rfl, hj, o, o2, o3, rfl⟩
      have hpl : plainDs ((f.2.take j).map ruleD) = true := plainDs_map fun r hr => plain_ruleD (h.v.rules r (List.mem_of_mem_take hr))
      have hdp : depDs ((f.2.take j).map ruleD) < 64 := Nat.lt_of_le_of_lt (depDs_map fun r _ => dep_ruleD r) (by decide)
      refine ⟨decide (j < f.2.length), et_is (et_or (a := decide (j < f.2.length)) (et_is (et_testD (ev_op ev_var (ev_call_b (ea_cons ev_varO ea_nil) (rcl_len (.bor _))) ro_b0)) ?_) (b := false) fun e => ?_) (Bool.or_false _), fun e => ?_, fun e => ?_⟩
      · rw [List.length_map, hwl]
        by_cases hlt : j < f.2.length
        · have := off_lt hlt
          rw [decide_eq_true hlt]
          exact decide_eq_true (by show ((offT f.2 j : Nat) : Int) < ((offT f.2 f.2.length : Nat) : Int); omega)
        · have ej : j = f.2.length := by omega
          rw [decide_eq_false hlt, ej]
          exact decide_eq_false (by omega)
      · have ej : j = f.2.length := by
          have := of_decide_eq_false e
          omega
        refine et_is (et_testD (ev_op ev_varO (ev_lst [] ea_nil) (ro_eqNil (.inr rfl) hpl hdp))) ?_
        rw [ej, take_all]
        cases hc : f.2 with
        | nil =>
          rw [hc] at h1
          cases h1
        | cons r rs => rfl
      · have hlt : j < f.2.length := of_decide_eq_true e
        have hr := List.getElem?_eq_getElem hlt
        obtain ⟨w1, w2⟩ := words_rule hr
        have hm : f.2[j] ∈ f.2 := List.getElem_mem hlt
        have hol := off_lt hlt
        refine sd_seqE (ds1 := _) (sd_ifF (et_is (et_or (a := false) (et_is (et_testD (ev_op ev_var (ev_call_b (ea_cons ev_varO ea_nil) (rcl_len (.bor _))) ro_b0)) (decide_eq_false ?_)) fun _ => et_testD (b := false) (ev_is (ev_op (ev_op ev_varO ev_var (ro_ixL (.inr rfl) (atI_nat (get_str w1)))) ev_cs (ro_ne rfl rfl rfl)) (by rw [dec_str]; rfl))) rfl) (sd_next rfl)) ?_
        · rw [List.length_map, hwl]
          omega
        refine sd_seqE (ds1 := _) (sd_asg (x := .tup [ruleD f.2[j], .int (((offT f.2 j + 1 : Nat) : Int) + 1 + f.2[j].2.length)]) (ev_fnA (f.1, wordsT f, offT f.2 j + 1, f.2[j]) (ea_cons ev_var (ea_cons ev_varO (ea_cons (ev_op ev_var ev_ci ro_i0) ea_nil))) ⟨h.rules _ hm, fun q hq => ((h.v.rules _ hm).reads q hq).dim, w2, by show (wordsT f).length ≤ 1000; omega⟩ (fun r e => e) (by rw [Int.natCast_add]; rfl)) (tg_tup (tgs_cons tg_nm (tgs_cons tg_nm tgs_nil))) rfl) ?_
        refine sd_seqE (ds1 := _) (sd_ifF (et_testD (ev_op ev_var ev_cn ro_isN)) (sd_next rfl)) ?_
        refine sd_append (i := 3) (xs := (f.2.take j).map ruleD) rfl ev_var ?_ fun r e => ⟨_, e, ?_⟩
        · rw [List.length_map, List.length_take]
          exact lt_line (by omega)
        · have e1 : ((offT f.2 j + 1 : Nat) : Int) + 1 + f.2[j].2.length = ((offT f.2 (j + 1) : Nat) : Int) := by
            rw [off_succ hr]
            omega
          refine ⟨f.2.length - (j + 1), by omega, j + 1, rfl, hlt, ?_⟩
          rw [e1, take_succ' hr, List.map_append]
          exact ⟨_, _, _, rfl⟩
      · have ej : j = f.2.length := by
          have := of_decide_eq_false e
          omega
        subst ej
        rw [take_all]
        exact ⟨o, o2, o3, rfl⟩
    · rintro d ⟨o, o2, o3, rfl⟩
      refine sd_seqE (sd_setE (ev_tup [.int f.1, .tup (f.2.map ruleD)] (ea_cons ev_var (ea_cons (ev_call_b (ea_cons ev_varO ea_nil) (rcl_tuple (.bor _))) ea_nil))) rfl) ?_
      refine sd_seqE (sd_setE (ev_fnA f (ea_cons ev_var ea_nil) h.v fun r e => e) rfl) ?_
      refine sd_seqE (ds1 := _) (sd_ifF (et_testD (ev_op ev_var ev_cn ro_notN)) (sd_next rfl)) ?_
      exact sd_retE ev_var rfl
  · intro a
    rfl
end Wb
/-! WbX12 -/
set_option maxHeartbeats 4000000
namespace Wb
open PySem PySem.Spec PyProof.Rows L2
variable {P : Program} {w : World} {K : PySem.W.Frag} {mg : Str → Option Value} {base : Heap}
theorem at_map {α : Type} {f : α → D} {xs : List α} {i : Int} {x : α} (h0 : 0 ≤ i) (h : xs[i.toNat]? = some x) : atI (xs.map f) i = some (f x) := by
  obtain ⟨n, rfl⟩ := Int.eq_ofNat_of_zero_le h0
  rw [Int.toNat_natCast] at h
  exact atI_nat (by rw [List.getElem?_map, h]; rfl)
theorem at_cons {α : Type} {f : α → D} {d : D} {xs : List α} {i : Int} {x : α} (h0 : 0 ≤ i) (h : xs[i.toNat]? = some x) : atI (d :: xs.map f) (i + 1) = some (f x) := by
  obtain ⟨n, rfl⟩ := Int.eq_ofNat_of_zero_le h0
  rw [Int.toNat_natCast] at h
  have e : (n : Int) + 1 = ((n + 1 : Nat) : Int) := by omega
  rw [e]
  refine atI_nat ?_
  rw [List.getElem?_cons_succ, List.getElem?_map, h]
  rfl
abbrev N_source_of : List Str := ["flow", "read"]
abbrev P_source_of : List Str := ["flow", "read"]
theorem sc_source_of : FnScope N_source_of P_source_of d_source_of.scope := ⟨rfl, rfl, rfl, by decide +kernel, rfl, by decide +kernel, by decide +kernel⟩
theorem b_source_of (kV doc pm : Value) (an : Option Addr) (cdv ct : Value) (us : List Value) (hl : us.length = P_source_of.length) : bindArgs (PySem.W.fnOf d_source_of.name d_source_of.qual d_source_of.params d_source_of.body d_source_of.scope .none kV doc pm an cdv ct) ⟨us, []⟩ = pure (P_source_of.zip us) := match us, hl with
  | [_, _], _ => rfl
theorem c_source_of (W : Wf w K mg) : Cal P w K mg base 1 "source_of" P_source_of (spA Fm.pure (fun a : Flw × Row => [.d (flowD a.1), .d (.tup [.int a.2.1, .int a.2.2.1])]) (fun a => a.2 ∈ rowsF a.1) fun a r => r = .d (.int a.2.2.2.1)) := by
  have nd := sc_source_of.nd
  refine W.calA (d := d_source_of) (N := N_source_of) 43 40 rfl rfl sc_source_of b_source_of ?_ ?_
  rotate_left
  · intro f cdv A outer s H E hr
    refine ⟨_, (pss_one (ps_ret (pe_ix (k_ixT (K := K) rfl) (pe_ix (k_ixT (K := K) rfl) (pe_ix (k_ixT (K := K) rfl) (pe_ix (k_ixT (K := K) rfl) (pv 0) pe_int (fun _ _ => rfl)) (pe_ix (k_ixT (K := K) rfl) (pv 1) pe_int (fun _ _ => rfl)) (fun _ _ => rfl)) (pe_op op_add (pe_ix (k_ixT (K := K) rfl) (pv 1) pe_int (fun _ _ => rfl)) pe_int) (fun _ _ => rfl)) pe_int (fun _ _ => rfl)))), ?_⟩
    rintro ⟨f, r⟩ h
    obtain ⟨rule, q, h1, h2, h3, h4, h5, h6⟩ := rows_mem h
    obtain ⟨p, o, src⟩ := r
    have h6 : src = q := h6
    subst h6
    exact sd_retE (ev_op (ev_op (ev_op (ev_op ev_var ev_ci (ro_ixT rfl)) (ev_op ev_var ev_ci (ro_ixT rfl)) (ro_ixT (at_map h2 h1))) (ev_op (ev_op ev_var ev_ci (ro_ixT rfl)) ev_ci ro_i0) (ro_ixT (at_cons h5 h4))) ev_ci (ro_ixT rfl)) rfl
  · intro a
    rfl
abbrev N_gain_of : List Str := ["flow", "weights", "read"]
abbrev P_gain_of : List Str := ["flow", "weights", "read"]
theorem sc_gain_of : FnScope N_gain_of P_gain_of d_gain_of.scope := ⟨rfl, rfl, rfl, by decide +kernel, rfl, by decide +kernel, by decide +kernel⟩
theorem b_gain_of (kV doc pm : Value) (an : Option Addr) (cdv ct : Value) (us : List Value) (hl : us.length = P_gain_of.length) : bindArgs (PySem.W.fnOf d_gain_of.name d_gain_of.qual d_gain_of.params d_gain_of.body d_gain_of.scope .none kV doc pm an cdv ct) ⟨us, []⟩ = pure (P_gain_of.zip us) := match us, hl with
  | [_, _, _], _ => rfl
theorem c_gain_of (W : Wf w K mg) : Cal P w K mg base 2 "gain_of" P_gain_of (spA Fm.pure (fun a : Flw × List Int × Row => [.d (flowD a.1), .d (tI a.2.1), .d (.tup [.int a.2.2.1, .int a.2.2.2.1])]) (fun a => a.2.2 ∈ rowsF a.1 ∧ a.2.1.length ≤ 100000 ∧ ∀ x ∈ a.2.1, small x) fun a r => r = .d (.int (dotI a.2.1 a.2.2.2.2.2))) := by
  have nd := sc_gain_of.nd
  refine W.calA (d := d_gain_of) (N := N_gain_of) 44 41 rfl rfl sc_gain_of b_gain_of ?_ ?_
  rotate_left
  · intro f cdv A outer s H E hr
    refine ⟨_, (pss_one (ps_ret (pe_cal (c_dot W) (hr.mono (by decide)) rfl (pa_cons (pv 1) (pa_cons (pe_ix (k_ixT (K := K) rfl) (pe_ix (k_ixT (K := K) rfl) (pe_ix (k_ixT (K := K) rfl) (pe_ix (k_ixT (K := K) rfl) (pv 0) pe_int (fun _ _ => rfl)) (pe_ix (k_ixT (K := K) rfl) (pv 2) pe_int (fun _ _ => rfl)) (fun _ _ => rfl)) (pe_op op_add (pe_ix (k_ixT (K := K) rfl) (pv 2) pe_int (fun _ _ => rfl)) pe_int) (fun _ _ => rfl)) pe_int (fun _ _ => rfl)) pa_nil))))), ?_⟩
    rintro ⟨f, ws, r⟩ ⟨h, hl, hs⟩
    obtain ⟨rule, q, h1, h2, h3, h4, h5, h6⟩ := rows_mem h
    obtain ⟨p, o, src⟩ := r
    have h6 : src = q := h6
    subst h6
    exact sd_retE (ev_fnA (ws, src.2) (ea_cons ev_var (ea_cons (ev_op (ev_op (ev_op (ev_op ev_var ev_ci (ro_ixT rfl)) (ev_op ev_var ev_ci (ro_ixT rfl)) (ro_ixT (at_map h2 h1))) (ev_op (ev_op ev_var ev_ci (ro_ixT rfl)) ev_ci ro_i0) (ro_ixT (at_cons h5 h4))) ev_ci (ro_ixT rfl)) ea_nil)) ⟨hl, hs⟩ fun r e => e) rfl
  · intro a
    rfl
abbrev N_slowed : List Str := ["weights", "factor", "item"]
abbrev P_slowed : List Str := ["weights", "factor"]
theorem sc_slowed : FnScope N_slowed P_slowed d_slowed.scope := ⟨rfl, rfl, rfl, by decide +kernel, rfl, by decide +kernel, by decide +kernel⟩
theorem b_slowed (kV doc pm : Value) (an : Option Addr) (cdv ct : Value) (us : List Value) (hl : us.length = P_slowed.length) : bindArgs (PySem.W.fnOf d_slowed.name d_slowed.qual d_slowed.params d_slowed.body d_slowed.scope .none kV doc pm an cdv ct) ⟨us, []⟩ = pure (P_slowed.zip us) := match us, hl with
  | [_, _], _ => rfl
theorem c_slowed (W : Wf w K mg) : Cal P w K mg base 1 "slowed" P_slowed (spA Fm.pure (fun a : List Int × Int => [.d (tI a.1), .d (.int a.2)]) (fun a => a.1.length ≤ 100000 ∧ small a.2) fun a r => r = .d (tI (a.1.map (· * a.2)))) := by
  have nd := sc_slowed.nd
  refine W.calA (d := d_slowed) (N := N_slowed) 53 46 rfl rfl sc_slowed b_slowed ?_ ?_
  rotate_left
  · intro f cdv A outer s H E hr
    refine ⟨_, (pss_one (ps_ret (pe_callTy (k_tuple (K := K) rfl) rfl (W.free 82 rfl) (by decide +kernel) (pa_cons (pe_lc (own := [("item", 2)]) (tt := tYes) rfl nd (k_piT (K := K) rfl (pv 0)) (blkOk_by (N := N_slowed) (sc := d_slowed.scope) (by decide +kernel)) (fun _ _ _ _ _ => (pg_name (i := 2) nd rfl (Or.inl rfl))) (fun _ _ _ _ _ => pts_nil) (fun _ _ _ _ _ => (pe_op op_mul (pv 2) (pv 1)))) pa_nil)))), ?_⟩
    rintro ⟨ws, k⟩ ⟨hl, hs⟩
    refine sd_retE (ev_call_b (ea_cons (ev_lcM (zs := ws) .int (fun x => .int (x * k)) int_inj (src_tup ev_var) (lt_line hl) fun z hz => ⟨_, _, tg_nm, by decide, ev_op ev_var ev_var (ro_i (.inr hs))⟩) ea_nil) (rcl_tuple (.own _))) ?_
    unfold tI
    rw [List.map_map]
    rfl
  · intro a
    rfl
theorem hu65 {A : Around} {k : Nat} (hr : Room k A) : A.units + 65 < cLine := by
  have := hr.un
  omega
theorem k_index {X : Cx} (hK : X.K = K) (hu : X.A.units + 65 < cLine) : MtR X "list.index" (rIndexD K) := hK ▸ mt_indexD hu
theorem plain_mem {d : D} : ∀ {ds : List D}, d ∈ ds → plainDs ds = true → plainD d = true
  | a :: ds, hm, hp => by
    unfold plainDs at hp
    rw [Bool.and_eq_true] at hp
    rcases List.mem_cons.mp hm with e | hm
    · rw [e]
      exact hp.1
    · exact plain_mem hm hp.2
theorem first_at {p : Nat → Prop} : ∀ j0 : Nat, p j0 → ∃ j, p j ∧ ∀ i, i < j → ¬ p i := by
  intro j0
  induction j0 using Nat.strongRecOn with
  | ind j0 ih =>
    intro h0
    by_cases hh : ∃ i, i < j0 ∧ p i
    · obtain ⟨i, hi, hz⟩ := hh
      exact ih i hi hz
    · exact ⟨j0, h0, fun i hi hz => hh ⟨i, hi, hz⟩⟩
/-- xs.index(x), x one of them -/
theorem rindexD {F : Fm} {x : SV} {ds : List D} {d : D} (e : IsLst x ds) (hm : d ∈ ds) (hp : plainDs ds = true) (hd : depDs ds < 64) (Hb H : Hp) (vx vy : V) (Q : VK) (jb : F.J Hb) (jh : F.J H) (kb : Kp F Hb H) (rx : RRep F Hb H vx x) (ry : Rep H vy d) (q : ∀ j : Nat, j < ds.length → Q (.int j) H) : rIndexD K vx [vy] H Q := by
  obtain ⟨p, vs, rfl, hv, hr⟩ := rr_lst rx e
  have hpd := plain_mem hm hp
  have hdd := dep_mem hm
  obtain ⟨j0, hj0⟩ := List.mem_iff_getElem?.mp hm
  obtain ⟨j, ⟨z, hz, ez⟩, hlt⟩ := first_at (p := fun j => ∃ z, ds[j]? = some z ∧ eqD z d = true) j0 ⟨d, hj0, eqD_refl d hpd⟩
  refine ⟨p, vy, toPy d, toPys ds, j, toPy z, rfl, rfl, .lst (.inl (.inl hv)) (hr.dp hp), ry.dp hpd, shaped_lst hp hd, shaped_of hpd (by omega), by rw [toPys_map, List.getElem?_map, hz]; rfl, ez, fun m z' hmj hz' => ?_, q j (List.getElem?_eq_some_iff.mp hz).1⟩
  rw [toPys_map] at hz'
  obtain ⟨y, hy, rfl⟩ := get_map hz'
  cases e3 : PyData.eqv (toPy y) (toPy d) with
  | false => rfl
  | true => exact (hlt m hmj ⟨y, hy, e3⟩).elim
theorem ev_index {F : Fm} {ds' : Ds} {to te : TE} {x : SV} {ds : List D} {φ : D → Prop} (ho : Ev F to ds' (· = x)) (e : IsLst x ds) (he : Ev F te ds' fun r => ∃ d, r = .d d ∧ d ∈ ds) (hp : plainDs ds = true) (hd : depDs ds < 64) : Ev F (tBM K "list" (rIndexD K) to (tCons te tNil)) ds' fun r => ∃ j : Nat, r = .d (.int j) ∧ j < ds.length := fun H0 P σ H s Q q =>
  ho H0 P σ H s _ fun v H1 r k1 j1 r1 e1 => by
    subst e1
    obtain ⟨p, vs, rfl, hv, hr⟩ := rr_lst r1 e
    refine ⟨.inl ⟨rfl, _, SqL.of hv⟩, ?_⟩
    refine he H0 P σ H1 (s.mono k1 j1) _ fun u H2 r2 k2 j2 r3 e2 => ?_
    obtain ⟨d, rfl, hm⟩ := e2
    exact rindexD e hm hp hd H H2 _ u Q s.j j2 (k1.trans k2) (r1.mono s.j k2 j1) r3 fun j hj => q (.int j) H2 (.d (.int j)) (k1.trans k2) j2 (.int _) ⟨j, rfl, hj⟩
def pairD (p : Int × Int) : D := .tup [.int p.1, .int p.2]
theorem plain_pair (p : Int × Int) : plainD (pairD p) = true := by
  unfold pairD
  simp only [plainD, plainDs, Bool.and_self]
theorem dep_pair (p : Int × Int) : depD (pairD p) ≤ 1 := by
  unfold pairD
  simp only [depD, depDs]
  omega
theorem alike_pair (p q : Int × Int) : PySem.W.alike (toPy (pairD p)) (toPy (pairD q)) = true := by
  unfold pairD
  simp only [toPy, toPys, PySem.W.alike, PySem.W.alikeAll, Bool.and_self]
theorem ep_someG {F : Fm} {ds : Ds} {te : TE} {φ : Int → Prop} (h : Ev F te ds fun r => ∃ i, r = .d (.int i) ∧ φ i) : EvP F (tPart te) ds fun o => ∃ i, o = some i ∧ φ i := fun H0 P σ H s Q q => h H0 P σ H s _ fun v H2 r k j rr ⟨i, e, p⟩ => by
  subst e
  cases rr
  exact ⟨i, rfl, q (some i) H2 k j ⟨i, rfl, p⟩⟩
abbrev N_plain_from : List Str := ["ring", "first"]
abbrev P_plain_from : List Str := ["ring"]
theorem sc_plain_from : FnScope N_plain_from P_plain_from d_plain_from.scope := ⟨rfl, rfl, rfl, by decide +kernel, rfl, by decide +kernel, by decide +kernel⟩
theorem b_plain_from (kV doc pm : Value) (an : Option Addr) (cdv ct : Value) (us : List Value) (hl : us.length = P_plain_from.length) : bindArgs (PySem.W.fnOf d_plain_from.name d_plain_from.qual d_plain_from.params d_plain_from.body d_plain_from.scope .none kV doc pm an cdv ct) ⟨us, []⟩ = pure (P_plain_from.zip us) := match us, hl with
  | [_], _ => rfl
theorem c_plain_from (W : Wf w K mg) : Cal P w K mg base 1 "plain_from" P_plain_from (spA Fm.pure (fun a : List (Int × Int) => [.bor (a.map pairD)]) (fun a => a ≠ [] ∧ a.length ≤ 1000) fun a r => ∃ xs, r = .d (.tup xs)) := by
  have nd := sc_plain_from.nd
  refine W.calA (d := d_plain_from) (N := N_plain_from) 45 42 rfl rfl sc_plain_from b_plain_from ?_ ?_
  rotate_left
  · intro f cdv A outer s H E hr
    refine ⟨_, (pss_cons (ps_set (i := 1) nd rfl (Or.inl rfl) (pe_bm PySem.F.plainAttrs_list PySem.F.slot_list_index PySem.F.type_list_index (k_index (K := K) rfl (hu65 hr)) (pv 0) (pa_cons (pe_callB (k_minD (K := K) rfl rfl (hu64 hr)) rfl (W.free 76 rfl) (by decide +kernel) (pa_cons (pv 0) pa_nil)) pa_nil))) (pss_one (ps_ret (pe_callTy (k_tuple (K := K) rfl) rfl (W.free 82 rfl) (by decide +kernel) (pa_cons (pe_op op_cat (pe_slice (k_slL (K := K) rfl) (pv 0) (po_some (pv 1)) po_none) (pe_slice (k_slL (K := K) rfl) (pv 0) po_none (po_some (pv 1)))) pa_nil))))), ?_⟩
    rintro ring ⟨hne, hl⟩
    have hp : plainDs (ring.map pairD) = true := plainDs_map fun p _ => plain_pair p
    have hd : depDs (ring.map pairD) ≤ 1 := depDs_map fun p _ => dep_pair p
    have hal : PySem.W.AlikeAll ((ring.map pairD).map toPy) := by
      rw [List.map_map]
      refine ⟨fun x hx y hy => ?_, fun x hx => ?_⟩
      · obtain ⟨a, _, rfl⟩ := List.mem_map.mp hx
        obtain ⟨b, _, rfl⟩ := List.mem_map.mp hy
        exact alike_pair a b
      · obtain ⟨a, _, rfl⟩ := List.mem_map.mp hx
        unfold pairD
        simp only [Function.comp, toPy]
        exact fun e => nomatch e
    cases ring with
    | nil => exact absurd rfl hne
    | cons a ring =>
      refine sd_seq (M := fun d => ∃ j : Nat, d = [some (.bor ((a :: ring).map pairD)), some (.d (.int j))]) (sd_set (ev_index (φ := fun _ => True) ev_varB (.inr rfl) (ev_call_b (ea_cons ev_varB ea_nil) (rcl_minD (.inr rfl) hp hal (Nat.le_trans hd (by decide)))) hp (Nat.lt_of_le_of_lt hd (by decide))) fun r ⟨j, e, _⟩ => ?_) ?_
      · rw [e]
        exact ⟨trivial, j, rfl⟩
      · rintro d ⟨j, rfl⟩
        refine sd_ret (φ := fun r => ∃ xs, r = .d (.tup xs)) ?_ fun r e => e
        refine (ev_call_b (ea_cons (ev_op (ev_sl ev_varB (ep_some ev_var) ep_none (rsl_lst (.inr rfl))) (ev_sl ev_varB ep_none (ep_some ev_var) (rsl_lst (.inr rfl))) (ro_catL (.inl rfl) (.inl rfl) ?_)) ea_nil) (rcl_tuple (.own _))).imp fun r e => ⟨_, e⟩
        have c1 : ∀ (xs : List D) lo hi, (cutD xs lo hi).length ≤ xs.length := fun xs lo hi => by
          unfold cutD
          rw [List.length_take, List.length_drop]
          omega
        have h1 := c1 ((a :: ring).map pairD) (some (j : Int)) none
        have h2 := c1 ((a :: ring).map pairD) none (some (j : Int))
        rw [List.length_map] at h1 h2
        exact le_line (by omega)
  · intro a
    rfl
end Wb
/-! WbY1 -/
set_option maxHeartbeats 4000000
namespace Wb
open PySem PySem.Spec PyProof.Rows L2
section
variable {P : Program} {w : World} {K : PySem.W.Frag} {mg : Str → Option Value} {base : Heap}
theorem Wf.cls (W : Wf w K mg) {x : Str} (i : Nat) (h : fa[i]? = some (.cls x)) : Cls K (He.ga K x) := He.cls_ok (W.fact i h)
theorem Wf.mkr (W : Wf w K mg) {x : Str} (i : Nat) (h : fa[i]? = some (.mkr x)) : Mk K (He.ga K x) (He.ma K (He.ga K x) "__init__") := He.mkr_ok (W.fact i h)
theorem Wf.noat (W : Wf w K mg) {x f : Str} (i : Nat) (h : fa[i]? = some (.noat x f)) : NoAttr K (He.ga K x) f := He.noat_ok (W.fact i h)
theorem Wf.meth (W : Wf w K mg) {x f : Str} (i : Nat) (h : fa[i]? = some (.meth x f)) : Meth K (He.ga K x) f (He.ma K (He.ga K x) f) := He.meth_ok (W.fact i h)
/-- a def (or a method) that keeps the promise sp -/
def Dok (P : Program) (w : World) (K : PySem.W.Frag) (mg : Str → Option Value) (base : Heap) (k : Nat) (f : Addr) (ps : List Str) (sp : Sp) : Prop := ∃ fd : FuncData, FnOk P w K mg base CX0 k f fd ps sp ∧ PySem.W.keepIn K (.ref f) = true ∧ Binds K fd ps []
theorem Wf.fnOk (W : Wf w K mg) {d : He.DefD} {k : Nat} {N ps : List Str} {sp : Sp} (i : Nat) (h : fn[i]? = some d) (S : FnScope N ps d.scope)
    (hb : ∀ (kV doc pm : Value) (an : Option Addr) (cdv ct : Value) (us : List Value), us.length = ps.length → bindArgs (PySem.W.fnOf d.name d.qual d.params d.body d.scope .none kV doc pm an cdv ct) ⟨us, []⟩ = pure (ps.zip us))
    (hl : ∀ vs H Q E, sp vs H Q E → vs.length = ps.length)
    (hbody : ∀ (f : Addr) (cdv : Value) (A : Around) (outer : List Env) (s : Shared) (H : Hp) (vs : List V) (Q : VK) (E : XK), Room k (A.deeper (envOfC d.qual d.scope s.heap.objs.size f cdv)) → sp vs H Q E →
      ∃ t, PSs (cxOf CX0 P w K mg base N d.qual d.scope f cdv A outer s H E).nox d.body t ∧ t { nx := fun _ H' => Q .non H', rt := Q } (start N vs) H)
    (h0 : d.dfl = [] := by rfl) (h1 : d.kwd = [] := by rfl) : Dok P w K mg base (k + 1) (He.fAd K d.at_) ps sp := by
  obtain ⟨fd, FD⟩ := W.def_ i h
  have e0 : d.dvs K = [] := by
    unfold He.DefD.dvs
    rw [h0]
    rfl
  have e1 : d.kws K = [] := by
    unfold He.DefD.kws
    rw [h1]
    rfl
  rw [e0, e1] at FD
  refine ⟨fd, FD.ok S hl fun cdv A outer s H vs Q E hr hs => ?_, FD.kp, FD.bindsN hb⟩
  obtain ⟨t, ht, hq⟩ := hbody (He.fAd K d.at_) cdv A outer s H vs Q E hr hs
  exact ⟨t, PSs.nox ht, hq⟩
theorem Dok.cal {k : Nat} {f : Addr} {ps : List Str} {sp : Sp} {x : Str} (h : Dok P w K mg base k f ps sp) (hm : mg x = some (.ref f)) : Cal P w K mg base k x ps sp := by
  obtain ⟨fd, a, b, c⟩ := h
  exact ⟨f, fd, a, hm, b, c⟩
end
/-! ### the class Numbers -/
abbrev Arc := Nat × Nat × Int
structure NSt where
  hs : List Int
  bs : List (Option Nat)
  gr : Option Nat
def optV : Option Nat → V
  | none => .non
  | some n => .int n
def relax (st : NSt) (p : Arc × Nat) : NSt :=
  if st.hs.getD p.1.1 0 + p.1.2.2 > st.hs.getD p.1.2.1 0 then ⟨st.hs.set p.1.2.1 (st.hs.getD p.1.1 0 + p.1.2.2), st.bs.set p.1.2.1 (some p.2), some p.1.2.1⟩ else st
def growM (arcs : List Arc) (st : NSt) : NSt := arcs.zipIdx.foldl relax ⟨st.hs, st.bs, none⟩
def arcD (a : Arc) : D := .tup [.int a.1, .int a.2.1, .int a.2.2]
abbrev cN (K : PySem.W.Frag) : Addr := He.ga K "Numbers"
/-- the object's parts -/
structure NP where
  a : Addr
  dx : Addr
  h : Addr
  ar : Addr
  b : Addr
structure NumAt (K : PySem.W.Frag) (H : Hp) (p : NP) (arcs : List Arc) (st : NSt) : Prop where
  obj : H p.a = some (.ins (cN K) p.dx [("heights", .ref p.h), ("arcs", .ref p.ar), ("by", .ref p.b), ("grown", optV st.gr)])
  hh : H p.h = some (.lst (st.hs.map .int))
  hb : H p.b = some (.lst (st.bs.map optV))
  har : ∃ vs, H p.ar = some (.lst vs) ∧ RepL H vs (arcs.map arcD)
  n1 : p.h ≠ p.ar
  n2 : p.h ≠ p.b
  n3 : p.b ≠ p.ar
/-- all but the object's own parts stays -/
def Chg (p : NP) (H H' : Hp) : Prop := ∀ x o, H x = some o → x ≠ p.a → x ≠ p.h → x ≠ p.b → H' x = some o
section
variable {K : PySem.W.Frag} {H H' : Hp} {p : NP} {arcs : List Arc} {st : NSt}
theorem Chg.refl : Chg p H H := fun _ _ h _ _ _ => h
theorem Chg.trans {H1 : Hp} (a : Chg p H H1) (b : Chg p H1 H') : Chg p H H' := fun x o h h1 h2 h3 => b x o (a x o h h1 h2 h3) h1 h2 h3
theorem Chg.new {q : Addr} {o : HO} (n : H q = none) : Chg p H (upd H q o) := fun x u h _ _ _ => by
  rw [upd_ne (ne_of_none h n)]
  exact h
theorem NumAt.ne1 (N : NumAt K H p arcs st) : p.h ≠ p.a := ne_of N.hh N.obj (by intro z; cases z)
theorem NumAt.ne2 (N : NumAt K H p arcs st) : p.b ≠ p.a := ne_of N.hb N.obj (by intro z; cases z)
theorem NumAt.ne3 (N : NumAt K H p arcs st) : p.ar ≠ p.a := by
  obtain ⟨vs, h, _⟩ := N.har
  exact ne_of h N.obj (by intro z; cases z)
theorem NumAt.ts (N : NumAt K H p arcs st) (c : Chg p H H') : TSm H H' := fun x vs e => c x _ e (ne_of e N.obj (by intro z; cases z)) (ne_of e N.hh (by intro z; cases z)) (ne_of e N.hb (by intro z; cases z))
/-- a new object is laid -/
theorem NumAt.new {q : Addr} {o : HO} (N : NumAt K H p arcs st) (n : H q = none) : NumAt K (upd H q o) p arcs st where
  obj := by rw [upd_ne (ne_of_none N.obj n)]; exact N.obj
  hh := by rw [upd_ne (ne_of_none N.hh n)]; exact N.hh
  hb := by rw [upd_ne (ne_of_none N.hb n)]; exact N.hb
  har := by
    obtain ⟨vs, h, r⟩ := N.har
    exact ⟨vs, by rw [upd_ne (ne_of_none h n)]; exact h, r.mono (N.ts (Chg.new n))⟩
  n1 := N.n1
  n2 := N.n2
  n3 := N.n3
theorem NumAt.setG (N : NumAt K H p arcs st) (g : Option Nat) : NumAt K (upd H p.a (.ins (cN K) p.dx [("heights", .ref p.h), ("arcs", .ref p.ar), ("by", .ref p.b), ("grown", optV g)])) p arcs ⟨st.hs, st.bs, g⟩ ∧ Chg p H (upd H p.a (.ins (cN K) p.dx [("heights", .ref p.h), ("arcs", .ref p.ar), ("by", .ref p.b), ("grown", optV g)])) := by
  have c : Chg p H (upd H p.a (.ins (cN K) p.dx [("heights", .ref p.h), ("arcs", .ref p.ar), ("by", .ref p.b), ("grown", optV g)])) := fun x o h h1 _ _ => by rw [upd_ne h1]; exact h
  refine ⟨⟨upd_same, by rw [upd_ne N.ne1]; exact N.hh, by rw [upd_ne N.ne2]; exact N.hb, ?_, N.n1, N.n2, N.n3⟩, c⟩
  obtain ⟨vs, h, r⟩ := N.har
  exact ⟨vs, by rw [upd_ne N.ne3]; exact h, r.mono (N.ts c)⟩
theorem NumAt.setH (N : NumAt K H p arcs st) (hs : List Int) : NumAt K (upd H p.h (.lst (hs.map .int))) p arcs ⟨hs, st.bs, st.gr⟩ ∧ Chg p H (upd H p.h (.lst (hs.map .int))) := by
  have c : Chg p H (upd H p.h (.lst (hs.map .int))) := fun x o h _ h2 _ => by rw [upd_ne h2]; exact h
  refine ⟨⟨by rw [upd_ne (Ne.symm N.ne1)]; exact N.obj, upd_same, by rw [upd_ne (Ne.symm N.n2)]; exact N.hb, ?_, N.n1, N.n2, N.n3⟩, c⟩
  obtain ⟨vs, h, r⟩ := N.har
  exact ⟨vs, by rw [upd_ne (Ne.symm N.n1)]; exact h, r.mono (N.ts c)⟩
theorem NumAt.setB (N : NumAt K H p arcs st) (bs : List (Option Nat)) : NumAt K (upd H p.b (.lst (bs.map optV))) p arcs ⟨st.hs, bs, st.gr⟩ ∧ Chg p H (upd H p.b (.lst (bs.map optV))) := by
  have c : Chg p H (upd H p.b (.lst (bs.map optV))) := fun x o h _ _ h3 => by rw [upd_ne h3]; exact h
  refine ⟨⟨by rw [upd_ne (Ne.symm N.ne2)]; exact N.obj, by rw [upd_ne N.n2]; exact N.hh, upd_same, ?_, N.n1, N.n2, N.n3⟩, c⟩
  obtain ⟨vs, h, r⟩ := N.har
  exact ⟨vs, by rw [upd_ne (Ne.symm N.n3)]; exact h, r.mono (N.ts c)⟩
end
/-- the arcs lie within n planes -/
def ArcsIn (n : Nat) (arcs : List Arc) : Prop := ∀ a ∈ arcs, a.1 < n ∧ a.2.1 < n
structure NOk (n : Nat) (arcs : List Arc) (st : NSt) : Prop where
  arcs : ArcsIn n arcs
  hs : st.hs.length = n
  bs : st.bs.length = n
def spGrow (K : PySem.W.Frag) : Sp := fun vs H Q _ => ∃ p arcs st n, vs = [.ref p.a] ∧ NumAt K H p arcs st ∧ NOk n arcs st ∧ ∀ H', NumAt K H' p arcs (growM arcs st) → Chg p H H' → Q (.bl (growM arcs st).gr.isSome) H'
theorem relax_len (st : NSt) (p : Arc × Nat) : (relax st p).hs.length = st.hs.length ∧ (relax st p).bs.length = st.bs.length := by
  unfold relax
  split
  · exact ⟨List.length_set .., List.length_set ..⟩
  · exact ⟨rfl, rfl⟩
theorem fold_len (l : List (Arc × Nat)) : ∀ st : NSt, (l.foldl relax st).hs.length = st.hs.length ∧ (l.foldl relax st).bs.length = st.bs.length := by
  induction l with
  | nil => exact fun _ => ⟨rfl, rfl⟩
  | cons p l ih =>
    intro st
    have h1 := ih (relax st p)
    have h2 := relax_len st p
    rw [List.foldl_cons]
    exact ⟨h1.1.trans h2.1, h1.2.trans h2.2⟩
theorem at_h {hs : List Int} {i : Nat} (h : i < hs.length) : atI (hs.map V.int) (i : Int) = some (.int (hs.getD i 0)) := by
  refine atI_nat ?_
  rw [List.getElem?_map, List.getElem?_eq_getElem h, List.getD_eq_getElem?_getD, List.getElem?_eq_getElem h]
  rfl
theorem ixN_nat {n i : Nat} (h : i < n) : ixN n (i : Int) = some i := by
  unfold ixN
  rw [if_pos (by omega), if_pos (by omega)]
  simp
section
variable {P : Program} {w : World} {K : PySem.W.Frag} {mg : Str → Option Value} {base : Heap}
abbrev N_Numbers_grow : List Str := ["self", "number", "begin", "end", "need", "here"]
abbrev P_Numbers_grow : List Str := ["self"]
theorem sc_Numbers_grow : FnScope N_Numbers_grow P_Numbers_grow d_Numbers_grow.scope := ⟨rfl, rfl, rfl, by decide +kernel, rfl, by decide +kernel, by decide +kernel⟩
theorem b_Numbers_grow (kV doc pm : Value) (an : Option Addr) (cdv ct : Value) (us : List Value) (hl : us.length = P_Numbers_grow.length) : bindArgs (PySem.W.fnOf d_Numbers_grow.name d_Numbers_grow.qual d_Numbers_grow.params d_Numbers_grow.body d_Numbers_grow.scope .none kV doc pm an cdv ct) ⟨us, []⟩ = pure (P_Numbers_grow.zip us) := match us, hl with
  | [_], _ => rfl
theorem c_Numbers_grow (W : Wf w K mg) : Dok P w K mg base 1 (He.ma K (cN K) "grow") P_Numbers_grow (spGrow K) := by
  have nd := sc_Numbers_grow.nd
  refine W.fnOk (d := d_Numbers_grow) (N := N_Numbers_grow) (ps := P_Numbers_grow) 48 rfl sc_Numbers_grow b_Numbers_grow ?_ ?_
  rotate_left
  · intro f cdv A outer s H vs Q E hr hs
    refine ⟨_, (pss_cons (ps_fld (pv 0) pe_non rfl) (pss_cons (ps_for PassesOwn.never rfl (pi_enum rfl (W.free 70 rfl) (pa_cons (pe_fld (pv 0) rfl) pa_nil)) (k_pg (K := K) (n := 2) rfl rfl (pgs_cons (pg_name (i := 1) nd rfl (Or.inl rfl)) (pgs_cons (k_pg (K := K) (n := 3) rfl rfl (pgs_cons (pg_name (i := 2) nd rfl (Or.inl rfl)) (pgs_cons (pg_name (i := 3) nd rfl (Or.inl rfl)) (pgs_cons (pg_name (i := 4) nd rfl (Or.inl rfl)) pgs_nil)))) pgs_nil))) (pss_cons (ps_set (i := 5) nd rfl (Or.inl rfl) (pe_ix (k_ixL (K := K) rfl) (pe_fld (pv 0) rfl) (pv 2) (fun _ _ => rfl))) (pss_one (ps_if (PW.pt (pw_and (pt_cmpR k_notN (pv 5) pe_non (nomark _)) (pw_and1 (PW.pt (pw_or (pt_cmpR k_isN (pe_ix (k_ixL (K := K) rfl) (pe_fld (pv 0) rfl) (pv 3) (fun _ _ => rfl)) pe_non (nomark _)) (pw_or1 (pt_cmpR op_gt (pe_op op_add (pv 5) (pv 4)) (pe_ix (k_ixL (K := K) rfl) (pe_fld (pv 0) rfl) (pv 3) (fun _ _ => rfl)) (nomark _)))))))) (pss_cons (ps_asg (pe_op op_add (pv 5) (pv 4)) (pg_sub (pe_fld (pv 0) rfl) (pv 3) set_list)) (pss_cons (ps_asg (pv 1) (pg_sub (pe_fld (pv 0) rfl) (pv 3) set_list)) (pss_one (ps_fld (pv 0) (pv 3) rfl)))) pss_nil)))) (pss_one (ps_ret (pe_cmpR k_notN (pe_fld (pv 0) rfl) pe_non (nomark _)))))), ?_⟩
    obtain ⟨p, arcs, st, n, rfl, N, ok, hq⟩ := hs
    have cl := W.cls (x := "Numbers") 98 rfl
    have nG := W.noat (x := "Numbers") (f := "grown") 107 rfl
    have nH := W.noat (x := "Numbers") (f := "heights") 104 rfl
    have nA := W.noat (x := "Numbers") (f := "arcs") 105 rfl
    have nB := W.noat (x := "Numbers") (f := "by") 106 rfl
    obtain ⟨N1, c1⟩ := N.setG none
    obtain ⟨vs, hvs, rvs⟩ := N1.har
    refine ⟨_, rfl, p.a, cN K, p.dx, _, rfl, N.obj, cl, nG, (by show 4 < 1000; decide), ?_⟩
    refine ⟨_, rfl, p.a, cN K, p.dx, _, _, rfl, N1.obj, cl, nA, rfl, p.ar, vs, rfl, SqL.of hvs, ?_⟩
    have hlen : vs.length = arcs.length := by rw [rvs.length, List.length_map]
    refine for_it walk_enum (fun i σ H' => ∃ o1 o2 o3 o4 o5, σ = [some (.ref p.a), o1, o2, o3, o4, o5] ∧ NumAt K H' p arcs ((arcs.zipIdx.take i).foldl relax ⟨st.hs, st.bs, none⟩) ∧ Chg p H H' ∧ H' p.ar = some (.lst vs)) ⟨_, _, _, _, _, rfl, N1, c1, hvs⟩ (fun i σ H' _ h => SqL.of h.choose_spec.choose_spec.choose_spec.choose_spec.choose_spec.2.2.2) ?_ ?_
    · rintro i x σ H1 H2 hi ⟨o1, o2, o3, o4, o5, rfl, M, c2, h2⟩ ⟨T, x1, x2, rfl, hT, rfl, e1, e2⟩
      cases e1
      have hil : i < arcs.length := by omega
      have hz : (arcs.zipIdx)[i]? = some (arcs[i], i) := by
        rw [List.getElem?_zipIdx, List.getElem?_eq_getElem hil, Nat.zero_add]
        rfl
      obtain ⟨vs2, hvs2, rvs2⟩ := M.har
      rw [h2] at hvs2
      cases hvs2
      obtain ⟨d, hd, rd⟩ := rvs2.getV e2
      rw [List.getElem?_map, List.getElem?_eq_getElem hil] at hd
      cases hd
      have hin := ok.arcs _ (List.getElem_mem hil)
      have hst : (arcs.zipIdx.take (i + 1)).foldl relax ⟨st.hs, st.bs, none⟩ = relax ((arcs.zipIdx.take i).foldl relax ⟨st.hs, st.bs, none⟩) (arcs[i], i) := by
        rw [take_succ' hz, List.foldl_append]
        rfl
      have hfl := fold_len (arcs.zipIdx.take i) ⟨st.hs, st.bs, none⟩
      rw [hst]
      generalize (arcs.zipIdx.take i).foldl relax ⟨st.hs, st.bs, none⟩ = S at M hfl
      have hL : S.hs.length = n := hfl.1.trans ok.hs
      have hB : S.bs.length = n := hfl.2.trans ok.bs
      generalize arcs[i] = A at rd hin
      obtain ⟨bg, en, nd2⟩ := A
      have rd : Rep H1 x2 (.tup [.int bg, .int en, .int nd2]) := rd
      cases rd with
      | @tup a us _ ha hr =>
        have e3 : us = [V.int bg, V.int en, V.int nd2] := RepL.ints (ns := [(bg : Int), (en : Int), nd2]) hr
        subst e3
        have M2 := M.new (o := .tup [.int (i : Nat), .ref a]) hT
        have c3 : Chg p H (upd H1 T (.tup [.int (i : Nat), .ref a])) := c2.trans (Chg.new hT)
        have ha2 : (upd H1 T (.tup [.int (i : Nat), .ref a])) a = some (.tup [V.int bg, V.int en, V.int nd2]) := by rw [upd_ne (ne_of_none ha hT)]; exact ha
        have har2 : (upd H1 T (.tup [.int (i : Nat), .ref a])) p.ar = some (.lst vs) := by rw [upd_ne (ne_of_none h2 hT)]; exact h2
        have hTT : (upd H1 T (.tup [.int (i : Nat), .ref a])) T = some (.tup [.int (i : Nat), .ref a]) := upd_same
        generalize upd H1 T (.tup [.int (i : Nat), .ref a]) = H2 at M2 c3 ha2 har2 hTT
        have hT2 : SqT K H2 T [.int (i : Nat), .ref a] := SqT.of hTT
        refine ⟨T, _, rfl, hT2, rfl, .int (i : Nat), [.ref a], rfl, .ref a, [], rfl, a, _, rfl, SqT.of ha2, rfl, .int bg, _, rfl, .int en, _, rfl, .int nd2, _, rfl, rfl, rfl, ?_⟩
        refine ⟨_, rfl, p.a, cN K, p.dx, _, _, rfl, M2.obj, cl, nH, rfl, _, rfl, p.h, _, (bg : Int), _, rfl, rfl, SqL.of M2.hh, at_h (by rw [hL]; exact hin.1), ?_⟩
        refine ⟨_, rfl, rfl, _, rfl, ?_⟩
        refine iteT ?_
        refine ⟨_, rfl, p.a, cN K, p.dx, _, _, rfl, M2.obj, cl, nH, rfl, _, rfl, p.h, _, (en : Int), _, rfl, rfl, SqL.of M2.hh, at_h (by rw [hL]; exact hin.2), rfl, _, rfl, ?_⟩
        refine iteF ?_
        refine ⟨_, rfl, _, rfl, _, _, rfl, rfl, _, rfl, p.a, cN K, p.dx, _, _, rfl, M2.obj, cl, nH, rfl, _, rfl, p.h, _, (en : Int), _, rfl, rfl, SqL.of M2.hh, at_h (by rw [hL]; exact hin.2), _, _, rfl, rfl, _, rfl, ?_⟩
        unfold relax
        by_cases hgt : S.hs.getD bg 0 + nd2 > S.hs.getD en 0
        · rw [if_pos hgt]
          refine (if_pos (decide_eq_true hgt)).mpr ?_
          refine ⟨_, rfl, _, rfl, _, _, rfl, rfl, _, rfl, p.a, cN K, p.dx, _, _, rfl, M2.obj, cl, nH, rfl, _, rfl, p.h, _, (en : Int), en, rfl, rfl, M2.hh, ixN_nat (by rw [List.length_map, hL]; exact hin.2), ?_⟩
          rw [← List.map_set (f := V.int)]
          obtain ⟨M3, c4⟩ := M2.setH (S.hs.set en (S.hs.getD bg 0 + nd2))
          refine ⟨_, rfl, _, rfl, p.a, cN K, p.dx, _, _, rfl, M3.obj, cl, nB, rfl, _, rfl, p.b, _, (en : Int), en, rfl, rfl, M3.hb, ixN_nat (by rw [List.length_map, hB]; exact hin.2), ?_⟩
          have e5 : (S.bs.map optV).set en (.int (i : Nat)) = (S.bs.set en (some i)).map optV := by
            rw [List.map_set]
            rfl
          rw [e5]
          obtain ⟨M4, c5⟩ := M3.setB (S.bs.set en (some i))
          obtain ⟨M5, c6⟩ := M4.setG (some en)
          refine ⟨_, rfl, _, rfl, p.a, cN K, p.dx, _, rfl, M4.obj, cl, nG, (by show 4 < 1000; decide), ?_⟩
          refine ⟨_, _, _, _, _, rfl, M5, ((c3.trans c4).trans c5).trans c6, ?_⟩
          obtain ⟨vz, hz1, hz2⟩ := M2.har
          have q4 := c4 _ _ har2 M2.ne3 (Ne.symm M2.n1) (Ne.symm M2.n3)
          have q5 := c5 _ _ q4 M2.ne3 (Ne.symm M2.n1) (Ne.symm M2.n3)
          exact c6 _ _ q5 M2.ne3 (Ne.symm M2.n1) (Ne.symm M2.n3)
        · rw [if_neg hgt]
          refine (if_neg (by rw [decide_eq_false hgt]; exact Bool.false_ne_true)).mpr ?_
          exact ⟨_, _, _, _, _, rfl, M2, c3, har2⟩
    · rintro σ H1 ⟨o1, o2, o3, o4, o5, rfl, M, c2, h2⟩
      have e6 : (arcs.zipIdx.take vs.length).foldl relax ⟨st.hs, st.bs, none⟩ = growM arcs st := by
        unfold growM
        rw [hlen, ← List.length_zipIdx (l := arcs) (i := 0), take_all]
      rw [e6] at M
      refine ⟨_, rfl, p.a, cN K, p.dx, _, _, rfl, M.obj, cl, nG, rfl, rfl, ?_⟩
      have e7 : (!decide (optV (growM arcs st).gr = V.non)) = (growM arcs st).gr.isSome := by
        cases (growM arcs st).gr <;> rfl
      rw [e7]
      exact hq H1 M c2
  · rintro vs H Q E ⟨p, arcs, st, n, rfl, _⟩
    rfl
end
end Wb
/-! WbY2 -/
set_option maxHeartbeats 4000000
namespace Wb
open PySem PySem.Spec PyProof.Rows L2
section
variable {P : Program} {w : World} {K : PySem.W.Frag} {mg : Str → Option Value} {base : Heap}
def settleM (arcs : List Arc) : Nat → NSt → Bool × NSt
  | 0, st => (false, st)
  | k + 1, st => if (growM arcs st).gr.isSome = true then settleM arcs k (growM arcs st) else (true, growM arcs st)
theorem grow_ok {n : Nat} {arcs : List Arc} {st : NSt} (h : NOk n arcs st) : NOk n arcs (growM arcs st) := by
  have := fold_len arcs.zipIdx ⟨st.hs, st.bs, none⟩
  exact ⟨h.arcs, this.1.trans h.hs, this.2.trans h.bs⟩
theorem settle_ok {n : Nat} {arcs : List Arc} : ∀ (k : Nat) {st : NSt}, NOk n arcs st → NOk n arcs (settleM arcs k st).2
  | 0, _, h => h
  | k + 1, st, h => by
    unfold settleM
    split
    · exact settle_ok k (grow_ok h)
    · exact grow_ok h
def spSettle (K : PySem.W.Frag) : Sp := fun vs H Q _ => ∃ p arcs st n, vs = [.ref p.a] ∧ NumAt K H p arcs st ∧ NOk n arcs st ∧ n ≤ 1000 ∧ ∀ H', NumAt K H' p arcs (settleM arcs n st).2 → Chg p H H' → Q (.bl (settleM arcs n st).1) H'
abbrev N_Numbers_settle : List Str := ["self", "turn"]
abbrev P_Numbers_settle : List Str := ["self"]
theorem sc_Numbers_settle : FnScope N_Numbers_settle P_Numbers_settle d_Numbers_settle.scope := ⟨rfl, rfl, rfl, by decide +kernel, rfl, by decide +kernel, by decide +kernel⟩
theorem b_Numbers_settle (kV doc pm : Value) (an : Option Addr) (cdv ct : Value) (us : List Value) (hl : us.length = P_Numbers_settle.length) : bindArgs (PySem.W.fnOf d_Numbers_settle.name d_Numbers_settle.qual d_Numbers_settle.params d_Numbers_settle.body d_Numbers_settle.scope .none kV doc pm an cdv ct) ⟨us, []⟩ = pure (P_Numbers_settle.zip us) := match us, hl with
  | [_], _ => rfl
theorem c_Numbers_settle (W : Wf w K mg) : Dok P w K mg base 2 (He.ma K (cN K) "settle") P_Numbers_settle (spSettle K) := by
  have cl := W.cls (x := "Numbers") 98 rfl
  have mG := W.meth (x := "Numbers") (f := "grow") 110 rfl
  obtain ⟨fdG, gG, _, bG⟩ := c_Numbers_grow (P := P) (w := w) (base := base) W
  have nd := sc_Numbers_settle.nd
  refine W.fnOk (d := d_Numbers_settle) (N := N_Numbers_settle) (ps := P_Numbers_settle) 49 rfl sc_Numbers_settle b_Numbers_settle ?_ ?_
  rotate_left
  · intro f cdv A outer s H vs Q E hr hs
    refine ⟨_, (pss_cons (ps_for PassesOwn.never rfl (pi_range1 rfl (W.free 77 rfl) (pa_cons (pe_callB (k_len (K := K) rfl) rfl (W.free 73 rfl) (by decide +kernel) (pa_cons (pe_fld (pv 0) rfl) pa_nil)) pa_nil)) (pg_name (i := 1) nd rfl (Or.inl rfl)) (pss_one (ps_if (pt_not (pt_val (pe_meth0 (pv 0) cl mG gG (hr.mono (by decide)) bG .nil pass0))) (pss_one (ps_ret pe_bl)) pss_nil))) (pss_one (ps_ret pe_bl))), ?_⟩
    obtain ⟨p, arcs, st, n, rfl, N, ok, hn, hq⟩ := hs
    have nH := W.noat (x := "Numbers") (f := "heights") 104 rfl
    have e1 : ((st.hs.map V.int).length : Int) = (n : Int) := by rw [List.length_map, ok.hs]
    refine ⟨_, rfl, p.a, cN K, p.dx, _, _, rfl, N.obj, cl, nH, rfl, p.h, _, rfl, .inl (SqL.of N.hh), ((st.hs.map V.int).length : Int), rfl, by rw [e1]; omega, by rw [e1]; omega, ?_⟩
    rw [e1, Int.toNat_natCast]
    generalize hT : settleM arcs n st = T at hq
    refine for_range (fun i σ H' => ∃ o, σ = [some (.ref p.a), o] ∧ ∃ S, NumAt K H' p arcs S ∧ NOk n arcs S ∧ Chg p H H' ∧ settleM arcs (n - i) S = T) ⟨_, rfl, st, N, ok, Chg.refl, hT⟩ ?_ ?_
    · rintro i σ H1 hi ⟨o, rfl, S, M, okS, c, e⟩
      refine ⟨_, rfl, p.a, p.dx, _, rfl, M.obj, rfl, p, arcs, S, n, rfl, M, okS, fun H2 M2 c2 => ?_⟩
      have e2 : n - i = (n - (i + 1)) + 1 := by omega
      rw [e2] at e
      unfold settleM at e
      refine ⟨_, rfl, ?_⟩
      cases hg : (growM arcs S).gr.isSome with
      | true =>
        rw [hg, if_pos rfl] at e
        exact iteF ⟨_, rfl, _, M2, grow_ok okS, c.trans c2, e⟩
      | false =>
        rw [hg, if_neg Bool.false_ne_true] at e
        subst e
        exact iteT (hq H2 M2 (c.trans c2))
    · rintro σ H1 ⟨o, rfl, S, M, okS, c, e⟩
      rw [Nat.sub_self] at e
      unfold settleM at e
      subst e
      exact hq H1 M c
  · rintro vs H Q E ⟨p, arcs, st, n, rfl, _⟩
    rfl
/-- the walk back along by: c 0 = grown, n steps, then L steps round -/
structure RingOk (n : Nat) (arcs : List Arc) (st : NSt) (c : Nat → Nat) (j : Nat → Nat) (L : Nat) : Prop where
  gr : st.gr = some (c 0)
  by_ : ∀ k, k < n + L → st.bs[c k]? = some (some (j k))
  arc : ∀ k, k < n + L → ∃ a, arcs[j k]? = some a ∧ a.1 = c (k + 1)
  pos : 0 < L
  back : c (n + L) = c n
  first : ∀ i, 0 < i → i < L → c (n + i) ≠ c n
  few : L ≤ 1000
def ringJ (n L : Nat) (j : Nat → Nat) : List Nat := ((List.range L).map fun i => j (n + i)).reverse
def spRing (K : PySem.W.Frag) : Sp := fun vs H Q _ => ∃ p arcs st n c j L, vs = [.ref p.a] ∧ NumAt K H p arcs st ∧ NOk n arcs st ∧ n ≤ 1000 ∧ RingOk n arcs st c j L ∧ ∀ H' q, Same H H' → H q = none → H' q = some (.lst ((ringJ n L j).map fun i => V.int (i : Nat))) → Q (.ref q) H'
theorem at_b {bs : List (Option Nat)} {i j : Nat} (h : bs[i]? = some (some j)) : atI (bs.map optV) (i : Int) = some (.int (j : Nat)) := by
  refine atI_nat ?_
  rw [List.getElem?_map, h]
  rfl
theorem NumAt.same {H H' : Hp} {p : NP} {arcs : List Arc} {st : NSt} (N : NumAt K H p arcs st) (s : Same H H') : NumAt K H' p arcs st where
  obj := s _ _ N.obj
  hh := s _ _ N.hh
  hb := s _ _ N.hb
  har := by
    obtain ⟨vs, h, r⟩ := N.har
    exact ⟨vs, s _ _ h, r.mono fun a vs e => s _ _ e⟩
  n1 := N.n1
  n2 := N.n2
  n3 := N.n3
abbrev N_Numbers_ring_behind : List Str := ["self", "plane", "turn", "found", "here"]
abbrev P_Numbers_ring_behind : List Str := ["self"]
theorem sc_Numbers_ring_behind : FnScope N_Numbers_ring_behind P_Numbers_ring_behind d_Numbers_ring_behind.scope := ⟨rfl, rfl, rfl, by decide +kernel, rfl, by decide +kernel, by decide +kernel⟩
theorem b_Numbers_ring_behind (kV doc pm : Value) (an : Option Addr) (cdv ct : Value) (us : List Value) (hl : us.length = P_Numbers_ring_behind.length) : bindArgs (PySem.W.fnOf d_Numbers_ring_behind.name d_Numbers_ring_behind.qual d_Numbers_ring_behind.params d_Numbers_ring_behind.body d_Numbers_ring_behind.scope .none kV doc pm an cdv ct) ⟨us, []⟩ = pure (P_Numbers_ring_behind.zip us) := match us, hl with
  | [_], _ => rfl
theorem c_Numbers_ring_behind (W : Wf w K mg) : Dok P w K mg base 1 (He.ma K (cN K) "ring_behind") P_Numbers_ring_behind (spRing K) := by
  have cl := W.cls (x := "Numbers") 98 rfl
  have nd := sc_Numbers_ring_behind.nd
  refine W.fnOk (d := d_Numbers_ring_behind) (N := N_Numbers_ring_behind) (ps := P_Numbers_ring_behind) 50 rfl sc_Numbers_ring_behind b_Numbers_ring_behind ?_ ?_
  rotate_left
  · intro f cdv A outer s H vs Q E hr hs
    refine ⟨_, (pss_cons (ps_set (i := 1) nd rfl (Or.inl rfl) (pe_fld (pv 0) rfl)) (pss_cons (ps_for PassesOwn.never rfl (pi_range1 rfl (W.free 77 rfl) (pa_cons (pe_callB (k_len (K := K) rfl) rfl (W.free 73 rfl) (by decide +kernel) (pa_cons (pe_fld (pv 0) rfl) pa_nil)) pa_nil)) (pg_name (i := 2) nd rfl (Or.inl rfl)) (pss_one (ps_set (i := 1) nd rfl (Or.inl rfl) (pe_ix (k_ixT (K := K) rfl) (pe_ix (k_ixL (K := K) rfl) (pe_fld (pv 0) rfl) (pe_ix (k_ixL (K := K) rfl) (pe_fld (pv 0) rfl) (pv 1) (fun _ _ => rfl)) (fun _ _ => rfl)) pe_int (fun _ _ => rfl))))) (pss_cons (ps_par (i := 3) (j := 4) rfl nd rfl rfl (by decide) rfl rfl (pa_cons (pe_lst pa_nil) (pa_cons (pv 1) pa_nil)) rfl) (pss_cons (ps_while PassesOwn.never (PW.pt (pw_or (pt_cmpR (k_eqD (K := K) rfl (hu64 hr)) (pv 3) (pe_lst pa_nil) (nomark _)) (pw_or1 (pt_cmpR op_ne (pv 4) (pv 1) (nomark _))))) (pss_cons (ps_expr (pe_bm PySem.F.plainAttrs_list PySem.F.slot_list_append PySem.F.type_list_append mt_append (pv 3) (pa_cons (pe_ix (k_ixL (K := K) rfl) (pe_fld (pv 0) rfl) (pv 4) (fun _ _ => rfl)) pa_nil))) (pss_one (ps_set (i := 4) nd rfl (Or.inl rfl) (pe_ix (k_ixT (K := K) rfl) (pe_ix (k_ixL (K := K) rfl) (pe_fld (pv 0) rfl) (pe_ix (k_ixL (K := K) rfl) (pe_fld (pv 0) rfl) (pv 4) (fun _ _ => rfl)) (fun _ _ => rfl)) pe_int (fun _ _ => rfl)))))) (pss_one (ps_ret (pe_revL (pv 3)))))))), ?_⟩
    obtain ⟨p, arcs, st, n, c, j, L, rfl, N, ok, hn, R, hq⟩ := hs
    have nH := W.noat (x := "Numbers") (f := "heights") 104 rfl
    have nA := W.noat (x := "Numbers") (f := "arcs") 105 rfl
    have nB := W.noat (x := "Numbers") (f := "by") 106 rfl
    have nG := W.noat (x := "Numbers") (f := "grown") 107 rfl
    obtain ⟨vs, hvs, rvs⟩ := N.har
    have arcAt : ∀ k, k < n + L → ∃ a y z, atI vs ((j k : Nat) : Int) = some (.ref a) ∧ H a = some (.tup [.int (c (k + 1) : Nat), y, z]) := fun k hk => by
      obtain ⟨A, hA, e⟩ := R.arc k hk
      obtain ⟨v, hv, rv⟩ := rvs.get (show (arcs.map arcD)[j k]? = some (arcD A) by rw [List.getElem?_map, hA]; rfl)
      unfold arcD at rv
      cases rv with
      | @tup a us _ ha hr =>
        have e3 : us = [V.int A.1, V.int A.2.1, V.int A.2.2] := RepL.ints (ns := [(A.1 : Int), (A.2.1 : Int), A.2.2]) hr
        subst e3
        rw [e] at ha
        exact ⟨a, _, _, atI_nat hv, ha⟩
    have e1 : ((st.hs.map V.int).length : Int) = (n : Int) := by rw [List.length_map, ok.hs]
    have eg : optV st.gr = .int (c 0 : Nat) := by rw [R.gr]; rfl
    refine ⟨_, rfl, p.a, cN K, p.dx, _, _, rfl, N.obj, cl, nG, rfl, ?_⟩
    rw [eg]
    refine ⟨_, rfl, p.a, cN K, p.dx, _, _, rfl, N.obj, cl, nH, rfl, p.h, _, rfl, .inl (SqL.of N.hh), ((st.hs.map V.int).length : Int), rfl, by rw [e1]; omega, by rw [e1]; omega, ?_⟩
    rw [e1, Int.toNat_natCast]
    refine for_range (fun i σ H' => H' = H ∧ ∃ o o2 o3, σ = [some (.ref p.a), some (.int (c i : Nat)), o, o2, o3]) ⟨rfl, _, _, _, rfl⟩ ?_ ?_
    · rintro i σ H1 hi ⟨rfl, o, o2, o3, rfl⟩
      obtain ⟨a, y, z, h1, h2⟩ := arcAt i (by omega)
      exact ⟨_, rfl, p.a, cN K, p.dx, _, _, rfl, N.obj, cl, nA, rfl, _, rfl, p.a, cN K, p.dx, _, _, rfl, N.obj, cl, nB, rfl, _, rfl, p.b, _, (c i : Int), _, rfl, rfl, SqL.of N.hb, at_b (R.by_ i (by omega)), p.ar, vs, (j i : Int), _, rfl, rfl, SqL.of hvs, h1, a, _, 0, _, rfl, rfl, SqT.of h2, rfl, rfl, _, _, _, rfl⟩
    · rintro σ H1 ⟨rfl, o, o2, o3, rfl⟩
      refine ⟨by show 0 ≤ sizeLine; omega, fun q hq0 => ⟨_, rfl, _, _, rfl, ?_⟩⟩
      refine ⟨fun m σ H' => ∃ i, m = L - i ∧ i ≤ L ∧ Same H1 H' ∧ H' q = some (.lst ((List.range i).map fun t => V.int (j (n + t) : Nat))) ∧ σ = [some (.ref p.a), some (.int (c n : Nat)), o, some (.ref q), some (.int (c (n + i) : Nat))], ⟨_, 0, rfl, Nat.zero_le _, fun x u h => by rw [upd_ne (ne_of_none h hq0)]; exact h, upd_same, rfl⟩, ?_⟩
      rintro m σ H2 ⟨i, rfl, hi, sm, hf, rfl⟩
      have M := N.same sm
      have en : (List.range i).map (fun t => V.int (j (n + t) : Nat)) = ((List.range i).map fun t => ((j (n + t) : Nat) : Int)).map V.int := by
        rw [List.map_map]
        rfl
      refine ⟨_, rfl, by show 0 ≤ sizeLine; omega, fun q2 hq2 => ?_⟩
      have hf2 : (upd H2 q2 (.lst [])) q = some (.lst (((List.range i).map fun t => ((j (n + t) : Nat) : Int)).map V.int)) := by
        rw [upd_ne (ne_of_none hf hq2), hf, en]
      refine ro_eqNil (F := Fm.pure) (K := K) (x := .bor (((List.range i).map fun t => ((j (n + t) : Nat) : Int)).map D.int)) (.inr rfl) (plainDs_map fun x _ => by unfold plainD; rfl) (Nat.lt_of_le_of_lt (depDs_map (n := 0) fun x _ => by unfold depD; exact Nat.le_refl _) (by decide)) H2 _ _ _ _ trivial trivial (Kp.new hq2) ⟨q, _, rfl, (fun h => h), hf2, RepL.of_ints _⟩ ⟨q2, _, rfl, hq2, upd_same, .nil⟩ fun v H3 z k3 _ rz ez => ?_
      subst ez
      have sm3 : Same H2 H3 := fun x u h => k3 x u (fun h => h) (by rw [upd_ne (ne_of_none h hq2)]; exact h)
      cases rz
      refine ⟨_, rfl, ?_⟩
      have hf3 := sm3 _ _ hf
      have M3 := M.same sm3
      have sm13 : Same H1 H3 := fun x u h => sm3 x u (sm x u h)
      have again : i < L → (∃ N0 : L2.St → Hp → Prop, (∀ σ' H', N0 σ' H' → ∃ m', m' < L - i ∧ ∃ i', m' = L - i' ∧ i' ≤ L ∧ Same H1 H' ∧ H' q = some (.lst ((List.range i').map fun t => V.int (j (n + t) : Nat))) ∧ σ' = [some (.ref p.a), some (.int (c n : Nat)), o, some (.ref q), some (.int (c (n + i') : Nat))]) ∧ N0 [some (.ref p.a), some (.int (c n : Nat)), o, some (.ref q), some (.int (c (n + (i + 1)) : Nat))] (upd H3 q (.lst ((List.range i).map (fun t => V.int (j (n + t) : Nat)) ++ [V.int (j (n + i) : Nat)])))) := fun hlt => by
        refine ⟨_, fun σ' H' h => h, L - (i + 1), by omega, i + 1, rfl, hlt, fun x u h => ?_, ?_, rfl⟩
        · rw [upd_ne (ne_of_none h hq0)]
          exact sm13 x u h
        · rw [List.range_succ, List.map_append]
          exact upd_same
      have neq : ∀ x u, H1 x = some u → x ≠ q := fun x u h e => by
        subst e
        rw [hq0] at h
        cases h
      have body : ∀ {D : Ends} {N0 : L2.St → Hp → Prop}, i < L → N0 [some (.ref p.a), some (.int (c n : Nat)), o, some (.ref q), some (.int (c (n + (i + 1)) : Nat))] (upd H3 q (.lst ((List.range i).map (fun t => V.int (j (n + t) : Nat)) ++ [V.int (j (n + i) : Nat)]))) → D.nx = N0 →
          tSeq (tDrop (tBM K "list" rAppend (tVar 3) (tCons (tOp (rIxL K) (tFld K (tVar 0) "by") (tVar 4)) tNil))) (tAsg (tOp (rIxT K) (tOp (rIxL K) (tFld K (tVar 0) "arcs") (tOp (rIxL K) (tFld K (tVar 0) "by") (tVar 4))) (tC (.int 0))) (gName 4)) D [some (.ref p.a), some (.int (c n : Nat)), o, some (.ref q), some (.int (c (n + i) : Nat))] H3 := by
        intro D N0 hlt hN eD
        refine ⟨_, rfl, .inl ⟨rfl, _, SqL.of hf3⟩, _, rfl, p.a, cN K, p.dx, _, _, rfl, M3.obj, cl, nB, rfl, _, rfl, p.b, _, (c (n + i) : Int), _, rfl, rfl, SqL.of M3.hb, at_b (R.by_ (n + i) (by omega)), q, _, _, rfl, rfl, hf3, ?_, ?_⟩
        · rw [List.length_map, List.length_range]
          have := R.few
          exact lt_line (by omega)
        have up : ∀ x u, H1 x = some u → (upd H3 q (.lst ((List.range i).map (fun t => V.int (j (n + t) : Nat)) ++ [V.int (j (n + i) : Nat)]))) x = some u := fun x u h => by
          rw [upd_ne (neq x u h)]
          exact sm13 x u h
        obtain ⟨a, y, z, h1, h2⟩ := arcAt (n + i) (by omega)
        refine ⟨_, rfl, p.a, cN K, p.dx, _, _, rfl, up _ _ N.obj, cl, nA, rfl, _, rfl, p.a, cN K, p.dx, _, _, rfl, up _ _ N.obj, cl, nB, rfl, _, rfl, p.b, _, (c (n + i) : Int), _, rfl, rfl, SqL.of (up _ _ N.hb), at_b (R.by_ (n + i) (by omega)), p.ar, vs, (j (n + i) : Int), _, rfl, rfl, SqL.of (up _ _ hvs), h1, a, _, 0, _, rfl, rfl, SqT.of (up _ _ h2), rfl, ?_⟩
        rw [eD]
        exact hN
      by_cases hlt : i < L
      · obtain ⟨N0, hN0, hN1⟩ := again hlt
        by_cases h0 : i = 0
        · have e0 : (((List.range i).map fun t => ((j (n + t) : Nat) : Int)).map D.int).isEmpty = true := by
            rw [h0]
            rfl
          rw [e0]
          exact iteT (iteT ⟨N0, hN0, body hlt hN1 rfl⟩)
        · have e0 : (((List.range i).map fun t => ((j (n + t) : Nat) : Int)).map D.int).isEmpty = false := by
            cases i with
            | zero => exact absurd rfl h0
            | succ i =>
              rw [List.range_succ_eq_map]
              rfl
          rw [e0]
          refine iteF ⟨_, rfl, _, rfl, rfl, _, rfl, ?_⟩
          have hne := R.first i (by omega) hlt
          refine (if_pos ?_).mpr ⟨N0, hN0, body hlt hN1 rfl⟩
          show (!decide (V.int (c (n + i) : Nat) = V.int (c n : Nat))) = true
          rw [decide_eq_false fun e => hne (by have h := V.int.inj e; omega)]
          rfl
      · have eL : i = L := by omega
        subst eL
        have e0 : (((List.range i).map fun t => ((j (n + t) : Nat) : Int)).map D.int).isEmpty = false := by
          have := R.pos
          cases i with
          | zero => omega
          | succ i =>
            rw [List.range_succ_eq_map]
            rfl
        rw [e0]
        refine iteF ⟨_, rfl, _, rfl, rfl, _, rfl, ?_⟩
        rw [R.back]
        refine (if_neg ?_).mpr ?_
        · show ¬ ((!decide (V.int (c n : Nat) = V.int (c n : Nat))) = true)
          rw [decide_eq_true rfl]
          exact Bool.false_ne_true
        refine ⟨_, rfl, q, _, rfl, SqL.of hf3, fun r hr => ?_⟩
        refine hq _ r (fun x u h => ?_) ?_ ?_
        · rw [upd_ne (ne_of_none (sm13 x u h) hr)]
          exact sm13 x u h
        · cases e : H1 r with
          | none => rfl
          | some u =>
            rw [sm13 r u e] at hr
            cases hr
        · unfold ringJ
          rw [upd_same, ← List.map_reverse, ← List.map_reverse, List.map_map]
          rfl
  · rintro vs H Q E ⟨p, arcs, st, n, c, j, L, rfl, _⟩
    rfl
end
end Wb
/-! WbM1 -/
set_option maxHeartbeats 4000000
namespace Wb
open PySem PySem.Spec PyProof.Rows L2
theorem pigeon : ∀ (n : Nat) (f : Nat → Nat), (∀ k, k ≤ n → f k < n) → ∃ i j, i < j ∧ j ≤ n ∧ f i = f j
  | 0, f, h => absurd (h 0 (Nat.le_refl 0)) (Nat.not_lt_zero _)
  | n + 1, f, h => by
    by_cases hx : ∃ i, i ≤ n ∧ f i = f (n + 1)
    · obtain ⟨i, hi, e⟩ := hx
      exact ⟨i, n + 1, by omega, by omega, e⟩
    · have hl := h (n + 1) (Nat.le_refl _)
      obtain ⟨i, j, hij, hj, e⟩ := pigeon n (fun i => if f i = n then f (n + 1) else f i) fun k hk => by
        have hk1 := h k (by omega)
        have hk2 : f k ≠ f (n + 1) := fun e => hx ⟨k, hk, e⟩
        show (if f k = n then f (n + 1) else f k) < n
        split <;> omega
      have hi2 : f i ≠ f (n + 1) := fun e => hx ⟨i, by omega, e⟩
      have hj2 : f j ≠ f (n + 1) := fun e => hx ⟨j, by omega, e⟩
      refine ⟨i, j, hij, by omega, ?_⟩
      split at e <;> split at e <;> omega
theorem count_lt {p q : Int → Bool} : ∀ {l : List Int}, (∀ x, p x = true → q x = true) → (∃ x ∈ l, q x = true ∧ p x = false) → l.countP p + 1 ≤ l.countP q
  | [], _, h => by
    obtain ⟨x, hx, _⟩ := h
    exact absurd hx List.not_mem_nil
  | a :: l, hpq, h => by
    have mono : ∀ l : List Int, l.countP p ≤ l.countP q := fun l => by
      induction l with
      | nil => exact Nat.le_refl _
      | cons b l ih =>
        rw [List.countP_cons, List.countP_cons]
        have := hpq b
        split <;> split <;> first | omega | (rename_i h1 h2; exact absurd (hpq b h1) h2)
    obtain ⟨x, hx, hq, hp⟩ := h
    rw [List.countP_cons, List.countP_cons]
    rcases List.mem_cons.mp hx with rfl | hx
    · rw [hq, hp, if_pos rfl, if_neg Bool.false_ne_true]
      have := mono l
      omega
    · have ih := count_lt (l := l) hpq ⟨x, hx, hq, hp⟩
      have := hpq a
      split <;> split <;> first | omega | (rename_i h1 h2; exact absurd (hpq a h1) h2)
theorem count_all {p : Int → Bool} : ∀ {l : List Int}, l.length ≤ l.countP p → ∀ x ∈ l, p x = true
  | [], _, x, h => absurd h List.not_mem_nil
  | a :: l, h, x, hx => by
    rw [List.length_cons, List.countP_cons] at h
    have hle : l.countP p ≤ l.length := List.countP_le_length
    have ha : p a = true := by
      cases e : p a with
      | true => rfl
      | false =>
        rw [e, if_neg Bool.false_ne_true] at h
        omega
    rw [ha, if_pos rfl] at h
    rcases List.mem_cons.mp hx with rfl | hx
    · exact ha
    · exact count_all (by omega) x hx
/-! ### what relaxing keeps -/
theorem getD_set {xs : List Int} {i k : Nat} {v : Int} (h : i < xs.length) : (xs.set i v).getD k 0 = if k = i then v else xs.getD k 0 := by
  rw [List.getD_eq_getElem?_getD, List.getElem?_set, List.getD_eq_getElem?_getD]
  by_cases e : i = k
  · subst e
    rw [if_pos rfl, if_pos rfl, if_pos h]
    rfl
  · rw [if_neg e, if_neg (fun h => e h.symm)]
/-- hs below each solution -/
def Under (n : Nat) (arcs : List Arc) (hs : List Int) : Prop := ∀ z : Nat → Int, (∀ i, 0 ≤ z i) → (∀ a ∈ arcs, z a.1 + a.2.2 ≤ z a.2.1) → ∀ i, hs.getD i 0 ≤ z i
structure SI0 (n : Nat) (arcs : List Arc) (hs : List Int) : Prop where
  len : hs.length = n
  nn : ∀ i, 0 ≤ hs.getD i 0
  un : Under n arcs hs
theorem relax_si0 {n : Nat} {arcs : List Arc} {st : NSt} {p : Arc × Nat} (h : ArcsIn n arcs) (hp : p.1 ∈ arcs) (s : SI0 n arcs st.hs) : SI0 n arcs (relax st p).hs := by
  unfold relax
  split
  · rename_i hv
    have hin := (h _ hp).2
    have hl : p.1.2.1 < st.hs.length := by rw [s.len]; exact hin
    refine ⟨by rw [List.length_set]; exact s.len, fun i => ?_, fun z z0 hz i => ?_⟩
    · rw [getD_set hl]
      have := s.nn i
      have := s.nn p.1.2.1
      split <;> omega
    · rw [getD_set hl]
      have h1 := s.un z z0 hz i
      have h2 := s.un z z0 hz p.1.1
      have h3 := hz _ hp
      split
      · rename_i e
        subst e
        omega
      · exact h1
  · exact s
theorem fold_si0 {n : Nat} {arcs : List Arc} (h : ArcsIn n arcs) : ∀ (l : List (Arc × Nat)) (st : NSt), (∀ p ∈ l, p.1 ∈ arcs) → SI0 n arcs st.hs → SI0 n arcs (l.foldl relax st).hs
  | [], _, _, s => s
  | p :: l, st, hl, s => fold_si0 h l (relax st p) (fun q hq => hl q (List.mem_cons_of_mem _ hq)) (relax_si0 h (hl p List.mem_cons_self) s)
theorem zi_mem {arcs : List Arc} : ∀ p ∈ arcs.zipIdx, p.1 ∈ arcs := fun p hp => by
  obtain ⟨a, i⟩ := p
  exact List.mem_of_getElem? (mem_zi1 hp)
theorem grow_si0 {n : Nat} {arcs : List Arc} {st : NSt} (h : ArcsIn n arcs) (s : SI0 n arcs st.hs) : SI0 n arcs (growM arcs st).hs := fold_si0 h _ _ zi_mem s
theorem fold_gr : ∀ (l : List (Arc × Nat)) (st : NSt), (l.foldl relax st).gr.isSome = false → st.gr.isSome = false ∧ (l.foldl relax st) = st ∧ ∀ p ∈ l, st.hs.getD p.1.1 0 + p.1.2.2 ≤ st.hs.getD p.1.2.1 0
  | [], st, h => ⟨h, rfl, fun p hp => absurd hp List.not_mem_nil⟩
  | p :: l, st, h => by
    obtain ⟨h1, h2, h3⟩ := fold_gr l (relax st p) h
    by_cases hv : st.hs.getD p.1.1 0 + p.1.2.2 > st.hs.getD p.1.2.1 0
    · unfold relax at h1
      rw [if_pos hv] at h1
      cases h1
    · have e : relax st p = st := by
        unfold relax
        rw [if_neg hv]
      rw [e] at h1 h2 h3
      refine ⟨h1, by rw [List.foldl_cons, e]; exact h2, fun q hq => ?_⟩
      rcases List.mem_cons.mp hq with rfl | hq
      · omega
      · exact h3 q hq
theorem settle_si0 {n : Nat} {arcs : List Arc} (h : ArcsIn n arcs) : ∀ (k : Nat) (st : NSt), SI0 n arcs st.hs → (settleM arcs k st).1 = true → SI0 n arcs (settleM arcs k st).2.hs ∧ ∀ a ∈ arcs, (settleM arcs k st).2.hs.getD a.1 0 + a.2.2 ≤ (settleM arcs k st).2.hs.getD a.2.1 0
  | 0, st, _, e => by cases e
  | k + 1, st, s, e => by
    unfold settleM at e ⊢
    have g := grow_si0 h s
    cases hg : (growM arcs st).gr.isSome with
    | true =>
      rw [hg, if_pos rfl] at e
      rw [if_pos rfl]
      exact settle_si0 h k _ g e
    | false =>
      rw [if_neg Bool.false_ne_true]
      refine ⟨g, fun a ha => ?_⟩
      obtain ⟨h1, h2, h3⟩ := fold_gr _ _ hg
      obtain ⟨i, hi⟩ := List.mem_iff_getElem?.mp ha
      have hz : (a, i) ∈ arcs.zipIdx := List.mem_of_getElem? (show arcs.zipIdx[i]? = some (a, i) by rw [List.getElem?_zipIdx, hi]; simp)
      have h4 := h3 _ hz
      have e2 : growM arcs st = ⟨st.hs, st.bs, none⟩ := h2
      rw [e2]
      exact h4
def st0 (n : Nat) : NSt := ⟨List.replicate n 0, List.replicate n none, none⟩
theorem getD_rep0 (n i : Nat) : (List.replicate n (0 : Int)).getD i 0 = 0 := by
  rw [List.getD_eq_getElem?_getD, List.getElem?_replicate]
  split <;> rfl
theorem si0_start {n : Nat} {arcs : List Arc} : SI0 n arcs (st0 n).hs := by
  refine ⟨List.length_replicate .., fun i => ?_, fun z z0 _ i => ?_⟩
  · show 0 ≤ (List.replicate n (0 : Int)).getD i 0
    rw [getD_rep0]
    exact Int.le_refl 0
  · show (List.replicate n (0 : Int)).getD i 0 ≤ z i
    rw [getD_rep0]
    exact z0 i
theorem getD_mem {xs : List Int} {i : Nat} (h : i < xs.length) : xs.getD i 0 ∈ xs := by
  rw [List.getD_eq_getElem?_getD, List.getElem?_eq_getElem h]
  exact List.getElem_mem h
/-- no gap in the least heights -/
theorem no_gap {n : Nat} {arcs : List Arc} {hs : List Int} {G t : Int} (s : SI0 n arcs hs) (ha : ∀ a ∈ arcs, hs.getD a.1 0 + a.2.2 ≤ hs.getD a.2.1 0) (hG : ∀ a ∈ arcs, a.2.2 ≤ G) (h0 : 0 ≤ G) (ht : 0 ≤ t) (hx : ∃ x ∈ hs, t < x) : ∃ y ∈ hs, t < y ∧ y ≤ t + G := by
  refine Classical.byContradiction fun hn => ?_
  have gap : ∀ i, hs.getD i 0 ≤ t ∨ t + G < hs.getD i 0 := fun i => by
    by_cases hi : i < hs.length
    · have hm := getD_mem hi
      rcases Int.lt_or_le t (hs.getD i 0) with h1 | h1
      · rcases Int.lt_or_le (t + G) (hs.getD i 0) with h2 | h2
        · exact .inr h2
        · exact (hn ⟨_, hm, h1, h2⟩).elim
      · exact .inl h1
    · left
      rw [List.getD_eq_getElem?_getD, List.getElem?_eq_none (by omega)]
      exact ht
  obtain ⟨x, hm, hx⟩ := hx
  obtain ⟨i, hi⟩ := List.mem_iff_getElem?.mp hm
  have hxi : hs.getD i 0 = x := by
    rw [List.getD_eq_getElem?_getD, hi]
    rfl
  have := s.un (fun i => if hs.getD i 0 ≤ t then hs.getD i 0 else hs.getD i 0 - 1) (fun i => by
    have := s.nn i
    split <;> omega) (fun a hA => by
    have h1 := ha a hA
    have h2 := hG a hA
    have g1 := gap a.1
    have g2 := gap a.2.1
    split <;> split <;> omega) i
  rw [if_neg (by omega)] at this
  omega
theorem count_up {n : Nat} {arcs : List Arc} {hs : List Int} {G : Int} (s : SI0 n arcs hs) (ha : ∀ a ∈ arcs, hs.getD a.1 0 + a.2.2 ≤ hs.getD a.2.1 0) (hG : ∀ a ∈ arcs, a.2.2 ≤ G) (h0 : 0 ≤ G) : ∀ k : Nat, (∀ x ∈ hs, x ≤ k * G) ∨ k ≤ hs.countP (fun x => decide (x ≤ k * G))
  | 0 => .inr (Nat.zero_le _)
  | k + 1 => by
    have ek : ((k + 1 : Nat) : Int) * G = k * G + G := by
      rw [Int.natCast_add, Int.add_mul]
      omega
    have hk0 : (0 : Int) ≤ k * G := Int.mul_nonneg (by omega) h0
    rw [ek]
    by_cases hx : ∃ x ∈ hs, (k : Int) * G < x
    · rcases count_up s ha hG h0 k with h | h
      · obtain ⟨x, hm, hl⟩ := hx
        have := h x hm
        omega
      · obtain ⟨y, hy, h1, h2⟩ := no_gap s ha hG h0 hk0 hx
        right
        have := count_lt (p := fun x => decide (x ≤ k * G)) (q := fun x => decide (x ≤ k * G + G)) (l := hs) (fun x e => by
          have := of_decide_eq_true e
          exact decide_eq_true (by omega)) ⟨y, hy, decide_eq_true (by omega), decide_eq_false (by omega)⟩
        omega
    · left
      intro x hm
      have : ¬ (k : Int) * G < x := fun e => hx ⟨x, hm, e⟩
      omega
theorem settle_true {n : Nat} {arcs : List Arc} (h : ArcsIn n arcs) (e : (settleM arcs n (st0 n)).1 = true) :
    (settleM arcs n (st0 n)).2.hs.length = n ∧ (∀ x ∈ (settleM arcs n (st0 n)).2.hs, 0 ≤ x) ∧ (∀ a ∈ arcs, (settleM arcs n (st0 n)).2.hs.getD a.1 0 + a.2.2 ≤ (settleM arcs n (st0 n)).2.hs.getD a.2.1 0) ∧
    ∀ G : Int, 0 ≤ G → (∀ a ∈ arcs, a.2.2 ≤ G) → ∀ x ∈ (settleM arcs n (st0 n)).2.hs, x ≤ n * G := by
  obtain ⟨s, ha⟩ := settle_si0 h n (st0 n) si0_start e
  refine ⟨s.len, fun x hx => ?_, ha, fun G h0 hG x hx => ?_⟩
  · obtain ⟨i, hi⟩ := List.mem_iff_getElem?.mp hx
    have := s.nn i
    rw [List.getD_eq_getElem?_getD, hi] at this
    exact this
  · rcases count_up s ha hG h0 n with h1 | h1
    · exact h1 x hx
    · exact of_decide_eq_true (count_all (by rw [s.len]; exact h1) x hx)
end Wb
/-! WbM2 -/
set_option maxHeartbeats 4000000
namespace Wb
open PySem PySem.Spec PyProof.Rows L2
/-- the stamps: in which round a plane was last raised -/
structure SI (n : Nat) (arcs : List Arc) (r m : Nat) (st : NSt) (τ : Nat → Nat) : Prop where
  lh : st.hs.length = n
  lb : st.bs.length = n
  le : ∀ v, τ v ≤ r + 1
  by_ : ∀ v, 1 ≤ τ v → ∃ i a, st.bs[v]? = some (some i) ∧ arcs[i]? = some a ∧ τ v ≤ τ a.1 + 1
  vio : ∀ (i : Nat) (a : Arc), arcs[i]? = some a → st.hs.getD a.1 0 + a.2.2 > st.hs.getD a.2.1 0 → r ≤ τ a.1 ∧ (i < m → r + 1 ≤ τ a.1)
  gr : ∀ v, st.gr = some v → v < n ∧ r + 1 ≤ τ v
theorem si_relax {n : Nat} {arcs : List Arc} {r m : Nat} {st : NSt} {τ : Nat → Nat} {a : Arc} (h : ArcsIn n arcs) (hm : arcs[m]? = some a) (s : SI n arcs r m st τ) : ∃ τ', SI n arcs r (m + 1) (relax st (a, m)) τ' := by
  have hin := h a (List.mem_of_getElem? hm)
  by_cases hv : st.hs.getD a.1 0 + a.2.2 > st.hs.getD a.2.1 0
  · have e : relax st (a, m) = ⟨st.hs.set a.2.1 (st.hs.getD a.1 0 + a.2.2), st.bs.set a.2.1 (some m), some a.2.1⟩ := by
      unfold relax
      exact if_pos hv
    rw [e]
    have ho := (s.vio m a hm hv).1
    have hl : a.2.1 < st.hs.length := by rw [s.lh]; exact hin.2
    refine ⟨fun v => if v = a.2.1 then r + 1 else τ v, ⟨by rw [List.length_set]; exact s.lh, by rw [List.length_set]; exact s.lb, fun v => ?_, fun v hv1 => ?_, fun i b hb hw => ?_, fun v hv1 => ?_⟩⟩
    · have := s.le v
      split <;> omega
    · by_cases ev : v = a.2.1
      · subst ev
        refine ⟨m, a, ?_, hm, ?_⟩
        · show (st.bs.set a.2.1 (some m))[a.2.1]? = _
          rw [List.getElem?_set, if_pos rfl, if_pos (by rw [s.lb]; exact hin.2)]
        · rw [if_pos rfl]
          split <;> omega
      · rw [if_neg ev] at hv1 ⊢
        obtain ⟨i, b, h1, h2, h3⟩ := s.by_ v hv1
        refine ⟨i, b, ?_, h2, ?_⟩
        · show (st.bs.set a.2.1 (some m))[v]? = _
          rw [List.getElem?_set, if_neg (fun z => ev z.symm)]
          exact h1
        · have := s.le v
          split <;> omega
    · have hw3 : (st.hs.set a.2.1 (st.hs.getD a.1 0 + a.2.2)).getD b.1 0 + b.2.2 > (st.hs.set a.2.1 (st.hs.getD a.1 0 + a.2.2)).getD b.2.1 0 := hw
      rw [getD_set hl, getD_set hl] at hw3
      by_cases eb : b.1 = a.2.1
      · rw [if_pos eb]
        exact ⟨by omega, fun _ => by omega⟩
      · rw [if_neg eb] at hw3 ⊢
        have hw2 : st.hs.getD b.1 0 + b.2.2 > st.hs.getD b.2.1 0 := by
          split at hw3
          · rename_i e2
            rw [e2]
            omega
          · exact hw3
        obtain ⟨h1, h2⟩ := s.vio i b hb hw2
        refine ⟨h1, fun hi => ?_⟩
        by_cases him : i < m
        · exact h2 him
        · have e3 : i = m := by omega
          subst e3
          rw [hm] at hb
          have e4 : a = b := Option.some.inj hb
          subst e4
          rw [if_pos rfl] at hw3
          omega
    · have e5 : a.2.1 = v := Option.some.inj hv1
      subst e5
      rw [if_pos rfl]
      exact ⟨hin.2, Nat.le_refl _⟩
  · have e : relax st (a, m) = st := by
      unfold relax
      exact if_neg hv
    rw [e]
    refine ⟨τ, ⟨s.lh, s.lb, s.le, s.by_, fun i b hb hw => ?_, s.gr⟩⟩
    obtain ⟨h1, h2⟩ := s.vio i b hb hw
    refine ⟨h1, fun hi => ?_⟩
    by_cases him : i < m
    · exact h2 him
    · have e3 : i = m := by omega
      subst e3
      rw [hm] at hb
      have e4 : a = b := Option.some.inj hb
      subst e4
      exact (hv hw).elim
theorem si_fold {n : Nat} {arcs : List Arc} {r : Nat} {st : NSt} {τ : Nat → Nat} (h : ArcsIn n arcs) (s : SI n arcs r 0 st τ) : ∀ m, m ≤ arcs.length → ∃ τ', SI n arcs r m ((arcs.zipIdx.take m).foldl relax st) τ'
  | 0, _ => ⟨τ, s⟩
  | m + 1, hm => by
    obtain ⟨τ', s'⟩ := si_fold h s m (by omega)
    have hz : arcs[m]? = some arcs[m] := List.getElem?_eq_getElem (by omega)
    have hq : arcs.zipIdx[m]? = some (arcs[m], m) := by
      rw [List.getElem?_zipIdx, hz]
      simp
    rw [take_succ' hq, List.foldl_append]
    exact si_relax h hz s'
/-- a round -/
theorem si_grow {n : Nat} {arcs : List Arc} {r : Nat} {st : NSt} {τ : Nat → Nat} (h : ArcsIn n arcs) (s : SI n arcs r 0 st τ) : ∃ τ', SI n arcs r arcs.length (growM arcs st) τ' := by
  have s0 : SI n arcs r 0 ⟨st.hs, st.bs, none⟩ τ := ⟨s.lh, s.lb, s.le, s.by_, s.vio, fun v e => nomatch e⟩
  obtain ⟨τ', s'⟩ := si_fold h s0 arcs.length (Nat.le_refl _)
  have e : arcs.zipIdx.take arcs.length = arcs.zipIdx := by
    rw [List.take_of_length_le]
    rw [List.length_zipIdx]
    exact Nat.le_refl _
  rw [e] at s'
  exact ⟨τ', s'⟩
/-- to the next round -/
theorem si_next {n : Nat} {arcs : List Arc} {r : Nat} {st : NSt} {τ : Nat → Nat} (s : SI n arcs r arcs.length st τ) : SI n arcs (r + 1) 0 ⟨st.hs, st.bs, none⟩ τ :=
  ⟨s.lh, s.lb, fun v => Nat.le_succ_of_le (s.le v), s.by_, fun i a ha hw => ⟨(s.vio i a ha hw).2 (List.getElem?_eq_some_iff.mp ha).1, fun z => absurd z (Nat.not_lt_zero _)⟩, fun v e => nomatch e⟩
theorem settle_run {n : Nat} {arcs : List Arc} (h : ArcsIn n arcs) : ∀ (k r : Nat) (st : NSt) (τ : Nat → Nat), SI n arcs r 0 ⟨st.hs, st.bs, none⟩ τ → 1 ≤ k → (settleM arcs k st).1 = false → ∃ τ', SI n arcs (r + k - 1) arcs.length (settleM arcs k st).2 τ' ∧ (settleM arcs k st).2.gr.isSome = true
  | 0, _, _, _, _, z, _ => absurd z (by omega)
  | k + 1, r, st, τ, s, _, e => by
    obtain ⟨τ1, s1⟩ := si_grow h s
    have eg : growM arcs ⟨st.hs, st.bs, none⟩ = growM arcs st := rfl
    rw [eg] at s1
    unfold settleM at e ⊢
    cases hg : (growM arcs st).gr.isSome with
    | false =>
      rw [hg, if_neg Bool.false_ne_true] at e
      cases e
    | true =>
      rw [hg, if_pos rfl] at e
      rw [if_pos rfl]
      cases k with
      | zero => exact ⟨τ1, s1, hg⟩
      | succ k =>
        obtain ⟨τ2, s2, g2⟩ := settle_run h (k + 1) (r + 1) _ τ1 (si_next s1) (by omega) e
        refine ⟨τ2, ?_, g2⟩
        have e3 : r + (k + 1 + 1) - 1 = r + 1 + (k + 1) - 1 := by omega
        rw [e3]
        exact s2
def nxt (arcs : List Arc) (bs : List (Option Nat)) (v : Nat) : Nat := match bs[v]? with
  | some (some i) => (match arcs[i]? with
    | some a => a.1
    | none => 0)
  | _ => 0
def jat (bs : List (Option Nat)) (v : Nat) : Nat := match bs[v]? with
  | some (some i) => i
  | _ => 0
def walkc (arcs : List Arc) (bs : List (Option Nat)) (v : Nat) : Nat → Nat
  | 0 => v
  | k + 1 => nxt arcs bs (walkc arcs bs v k)
theorem settle_false {n : Nat} {arcs : List Arc} (hn : 1 ≤ n) (h6 : n ≤ 1000) (h : ArcsIn n arcs) (e : (settleM arcs n (st0 n)).1 = false) : ∃ c j L, RingOk n arcs (settleM arcs n (st0 n)).2 c j L := by
  have s0 : SI n arcs 0 0 ⟨(st0 n).hs, (st0 n).bs, none⟩ fun _ => 0 := ⟨List.length_replicate .., List.length_replicate .., fun _ => Nat.zero_le _, fun v hv => absurd hv (by omega), fun i a _ _ => ⟨Nat.zero_le _, fun z => absurd z (Nat.not_lt_zero _)⟩, fun v e => nomatch e⟩
  obtain ⟨τ, s, g⟩ := settle_run h n 0 (st0 n) _ s0 hn e
  generalize (settleM arcs n (st0 n)).2 = st at s g
  obtain ⟨v, hv⟩ := Option.isSome_iff_exists.mp g
  obtain ⟨hvn, hτ⟩ := s.gr v hv
  have e0 : 0 + n - 1 + 1 = n := by omega
  rw [e0] at hτ
  let c := walkc arcs st.bs v
  have c0 : c 0 = v := rfl
  have cs : ∀ k, c (k + 1) = nxt arcs st.bs (c k) := fun _ => rfl
  have by_next : ∀ u, 1 ≤ τ u → ∃ a, st.bs[u]? = some (some (jat st.bs u)) ∧ arcs[jat st.bs u]? = some a ∧ a.1 = nxt arcs st.bs u ∧ nxt arcs st.bs u < n ∧ τ u ≤ τ (nxt arcs st.bs u) + 1 := fun u hu => by
    obtain ⟨i, a, h1, h2, h3⟩ := s.by_ u hu
    have ej : jat st.bs u = i := by
      unfold jat
      rw [h1]
    have en : nxt arcs st.bs u = a.1 := by
      unfold nxt
      rw [h1]
      dsimp only
      rw [h2]
    rw [ej, en]
    exact ⟨a, h1, h2, rfl, (h a (List.mem_of_getElem? h2)).1, h3⟩
  have st1 : ∀ k, k ≤ n → c k < n ∧ n ≤ τ (c k) + k := fun k => by
    induction k with
    | zero => exact fun _ => ⟨hvn, hτ⟩
    | succ k ih =>
      intro hk
      obtain ⟨h1, h2⟩ := ih (by omega)
      obtain ⟨a, _, _, _, h3, h4⟩ := by_next (c k) (by omega)
      rw [cs]
      exact ⟨h3, by omega⟩
  obtain ⟨i, j, hij, hjn, ec⟩ := pigeon n c fun k hk => (st1 k hk).1
  have per : ∀ t, c (i + t + (j - i)) = c (i + t) := fun t => by
    induction t with
    | zero =>
      have : i + 0 + (j - i) = j := by omega
      rw [this]
      exact ec.symm
    | succ t ih =>
      have e1 : i + (t + 1) + (j - i) = i + t + (j - i) + 1 := by omega
      rw [e1, cs, ih]
      rfl
  have back : ∀ k, ∃ k', k' < n ∧ c k = c k' := fun k => by
    induction k using Nat.strongRecOn with
    | ind k ih =>
      by_cases hk : k < n
      · exact ⟨k, hk, rfl⟩
      · obtain ⟨k', h1, h2⟩ := ih (k - (j - i)) (by omega)
        refine ⟨k', h1, ?_⟩
        have := per (k - j)
        have e1 : i + (k - j) + (j - i) = k := by omega
        have e2 : i + (k - j) = k - (j - i) := by omega
        rw [e1, e2] at this
        rw [this]
        exact h2
  have all : ∀ k, ∃ a, st.bs[c k]? = some (some (jat st.bs (c k))) ∧ arcs[jat st.bs (c k)]? = some a ∧ a.1 = c (k + 1) := fun k => by
    obtain ⟨k', h1, h2⟩ := back k
    have h3 := (st1 k' (by omega)).2
    obtain ⟨a, q1, q2, q3, _, _⟩ := by_next (c k) (by rw [h2]; omega)
    exact ⟨a, q1, q2, q3⟩
  have pn : 0 < j - i ∧ c (n + (j - i)) = c n := by
    refine ⟨by omega, ?_⟩
    have := per (n - i)
    have e1 : i + (n - i) = n := by omega
    rw [e1] at this
    exact this
  obtain ⟨L, ⟨L0, Lc⟩, Lm⟩ := first_at (p := fun l => 0 < l ∧ c (n + l) = c n) (j - i) pn
  have Ln : L ≤ j - i := by
    rcases Nat.lt_or_ge (j - i) L with h1 | h1
    · exact (Lm _ h1 pn).elim
    · exact h1
  refine ⟨c, fun k => jat st.bs (c k), L, ⟨hv, fun k _ => ?_, fun k _ => ?_, L0, Lc, fun i' h1 h2 h3 => Lm i' h2 ⟨h1, h3⟩, by omega⟩⟩
  · obtain ⟨a, q1, _, _⟩ := all k
    exact q1
  · obtain ⟨a, _, q2, q3⟩ := all k
    exact ⟨a, q2, q3⟩
end Wb
/-! WbMa -/
set_option maxHeartbeats 4000000

/-! WbY3 -/
set_option maxHeartbeats 4000000
namespace Wb
open PySem PySem.Spec PyProof.Rows L2
section
variable {P : Program} {w : World} {K : PySem.W.Frag} {mg : Str → Option Value} {base : Heap}
def spNew (K : PySem.W.Frag) : Sp := fun vs H Q _ => ∃ x dx vl ar hs arcs avs, vs = [.ref x, .ref vl, .ref ar] ∧ H x = some (.ins (cN K) dx []) ∧ H vl = some (.lst (hs.map V.int)) ∧ H ar = some (.lst avs) ∧ RepL H avs (arcs.map arcD) ∧ hs.length ≤ 1000 ∧
  ∀ H' p, p.a = x → p.ar = ar → (∀ y u, H y = some u → y ≠ x → H' y = some u) → H p.h = none → H p.b = none → NumAt K H' p arcs ⟨hs, List.replicate hs.length none, none⟩ → Q .non H'
abbrev N_Numbers_init : List Str := ["self", "values", "arcs"]
abbrev P_Numbers_init : List Str := ["self", "values", "arcs"]
theorem sc_Numbers_init : FnScope N_Numbers_init P_Numbers_init d_Numbers_init.scope := ⟨rfl, rfl, rfl, by decide +kernel, rfl, by decide +kernel, by decide +kernel⟩
theorem b_Numbers_init (kV doc pm : Value) (an : Option Addr) (cdv ct : Value) (us : List Value) (hl : us.length = P_Numbers_init.length) : bindArgs (PySem.W.fnOf d_Numbers_init.name d_Numbers_init.qual d_Numbers_init.params d_Numbers_init.body d_Numbers_init.scope .none kV doc pm an cdv ct) ⟨us, []⟩ = pure (P_Numbers_init.zip us) := match us, hl with
  | [_, _, _], _ => rfl
theorem c_Numbers_init (W : Wf w K mg) : Dok P w K mg base 1 (He.ma K (cN K) "__init__") P_Numbers_init (spNew K) := by
  have cl := W.cls (x := "Numbers") 98 rfl
  have nd := sc_Numbers_init.nd
  refine W.fnOk (d := d_Numbers_init) (N := N_Numbers_init) (ps := P_Numbers_init) 47 rfl sc_Numbers_init b_Numbers_init ?_ ?_
  rotate_left
  · intro f cdv A outer s H vs Q E hr hs
    refine ⟨_, (pss_cons (ps_fld (pv 0) (pe_callTy (k_list (K := K) rfl) rfl (W.free 74 rfl) (by decide +kernel) (pa_cons (pv 1) pa_nil)) rfl) (pss_cons (ps_fld (pv 0) (pv 2) rfl) (pss_cons (ps_fld (pv 0) (pe_op op_rep (pe_lst (pa_cons pe_non pa_nil)) (pe_callB (k_len (K := K) rfl) rfl (W.free 73 rfl) (by decide +kernel) (pa_cons (pv 1) pa_nil))) rfl) (pss_one (ps_fld (pv 0) pe_non rfl))))), ?_⟩
    obtain ⟨x, dx, vl, ar, ns, arcs, avs, rfl, hx, hv, ha, hr2, hl, hq⟩ := hs
    have nH := W.noat (x := "Numbers") (f := "heights") 104 rfl
    have nA := W.noat (x := "Numbers") (f := "arcs") 105 rfl
    have nB := W.noat (x := "Numbers") (f := "by") 106 rfl
    have nG := W.noat (x := "Numbers") (f := "grown") 107 rfl
    refine ⟨_, rfl, vl, _, rfl, .inl (SqL.of hv), fun h hh => ⟨_, rfl, x, cN K, dx, [], rfl, by rw [upd_ne (ne_of_none hx hh)]; exact hx, cl, nH, by decide, ?_⟩⟩
    have xh : x ≠ h := ne_of_none hx hh
    have k1 : ∀ y u, H y = some u → y ≠ x → (upd (upd H h (.lst (ns.map V.int))) x (.ins (cN K) dx (putF "heights" (.ref h) []))) y = some u := fun y u e ne => by
      rw [upd_ne ne, upd_ne (ne_of_none e hh)]
      exact e
    have kx : (upd (upd H h (.lst (ns.map V.int))) x (.ins (cN K) dx (putF "heights" (.ref h) []))) x = some (.ins (cN K) dx [("heights", .ref h)]) := upd_same
    have kh : (upd (upd H h (.lst (ns.map V.int))) x (.ins (cN K) dx (putF "heights" (.ref h) []))) h = some (.lst (ns.map V.int)) := by rw [upd_ne (Ne.symm xh)]; exact upd_same
    generalize (upd (upd H h (.lst (ns.map V.int))) x (.ins (cN K) dx (putF "heights" (.ref h) []))) = H1 at k1 kx kh
    have nvx : vl ≠ x := ne_of hv hx (by intro z; cases z)
    have nax : ar ≠ x := ne_of ha hx (by intro z; cases z)
    refine ⟨_, rfl, _, rfl, x, cN K, dx, _, rfl, kx, cl, nA, (by show 1 < 1000; decide), ?_⟩
    have k2 : ∀ y u, H y = some u → y ≠ x → (upd H1 x (.ins (cN K) dx (putF "arcs" (.ref ar) [("heights", .ref h)]))) y = some u := fun y u e ne => by
      rw [upd_ne ne]
      exact k1 y u e ne
    have kx2 : (upd H1 x (.ins (cN K) dx (putF "arcs" (.ref ar) [("heights", .ref h)]))) x = some (.ins (cN K) dx [("heights", .ref h), ("arcs", .ref ar)]) := upd_same
    have kh2 : (upd H1 x (.ins (cN K) dx (putF "arcs" (.ref ar) [("heights", .ref h)]))) h = some (.lst (ns.map V.int)) := by rw [upd_ne (Ne.symm xh)]; exact kh
    generalize (upd H1 x (.ins (cN K) dx (putF "arcs" (.ref ar) [("heights", .ref h)]))) = H2 at k2 kx2 kh2
    refine ⟨by show 1 ≤ sizeLine; decide, fun l1 hl1 => ⟨_, rfl, vl, _, rfl, .inl (SqL.of (by rw [upd_ne (ne_of_none (k2 _ _ hv nvx) hl1)]; exact k2 _ _ hv nvx)), l1, ((ns.map V.int).length : Int), _, rfl, rfl, upd_same, by omega, by rw [List.length_map]; omega, by rw [List.length_map, Int.toNat_natCast]; exact le_line (by show 1 * ns.length ≤ 100000; omega), fun b hb => ?_⟩⟩
    have hb2 : H2 b = none := by
      cases e : H2 b with
      | none => rfl
      | some u =>
        rw [upd_ne (ne_of_none e hl1), e] at hb
        cases hb
    have lb : l1 ≠ b := ne_of_none upd_same hb
    have k3 : ∀ y u, H2 y = some u → (upd (upd H2 l1 (.lst [.non])) b (.lst (List.replicate ((ns.map V.int).length : Int).toNat [V.non]).flatten)) y = some u := fun y u e => by
      rw [upd_ne (ne_of_none e hb2), upd_ne (ne_of_none e hl1)]
      exact e
    have kb : (upd (upd H2 l1 (.lst [.non])) b (.lst (List.replicate ((ns.map V.int).length : Int).toNat [V.non]).flatten)) b = some (.lst ((List.replicate ns.length (none : Option Nat)).map optV)) := by
      rw [upd_same, List.length_map, Int.toNat_natCast]
      congr 2
      rw [List.map_replicate]
      generalize ns.length = m
      induction m with
      | zero => rfl
      | succ m ih =>
        rw [List.replicate_succ, List.replicate_succ, List.flatten_cons, ih]
        rfl
    generalize (upd (upd H2 l1 (.lst [.non])) b (.lst (List.replicate ((ns.map V.int).length : Int).toNat [V.non]).flatten)) = H3 at k3 kb
    have xb : x ≠ b := ne_of_none kx2 hb2
    have hbn : h ≠ b := ne_of_none kh2 hb2
    refine ⟨_, rfl, x, cN K, dx, _, rfl, k3 _ _ kx2, cl, nB, (by show 2 < 1000; decide), ?_⟩
    refine ⟨_, rfl, x, cN K, dx, _, rfl, upd_same, cl, nG, (by show 3 < 1000; decide), ?_⟩
    rw [upd_upd]
    have old : ∀ y u, H y = some u → y ≠ x → H3 y = some u := fun y u e ne => k3 _ _ (k2 y u e ne)
    have hb0 : H b = none := by
      cases e : H b with
      | none => rfl
      | some u =>
        have := k2 b u e (Ne.symm xb)
        rw [this] at hb2
        cases hb2
    refine hq _ ⟨x, dx, h, ar, b⟩ rfl rfl (fun y u e ne => by rw [upd_ne ne]; exact old y u e ne) hh hb0 ⟨upd_same, by rw [upd_ne (Ne.symm xh)]; exact k3 _ _ kh2, by rw [upd_ne (Ne.symm xb)]; exact kb, ⟨avs, by rw [upd_ne nax]; exact old _ _ ha nax, hr2.mono fun y us e => ?_⟩, Ne.symm (ne_of_none ha hh), hbn, Ne.symm (ne_of_none ha hb0)⟩
    have ne : y ≠ x := ne_of e hx (by intro z; cases z)
    rw [upd_ne ne]
    exact old y _ e ne
  · rintro vs H Q E ⟨x, dx, vl, ar, ns, arcs, avs, rfl, _⟩
    rfl
/-! ### arcs -/
def arcsF (f : Flw) (ws : List Int) : List Arc := (rowsF f).map fun r => (r.2.2.1.toNat, r.1.toNat, 1 - dotI ws r.2.2.2)
def readsF (f : Flw) : List (Int × Int) := (rowsF f).map fun r => (r.1, r.2.1)
theorem readsF_eq (f : Flw) : (f.2.zipIdx.flatMap fun p => (rngI 0 p.1.2.length).map fun o => pairD ((p.2 : Int), o)) = (readsF f).map pairD := by
  unfold readsF rowsF
  rw [List.map_map, List.map_flatMap]
  congr 1
  funext p
  rw [List.map_map]
  unfold rngI
  rw [List.map_map]
  apply List.ext_getElem?
  intro i
  rw [List.getElem?_map, List.getElem?_map, List.getElem?_zipIdx]
  by_cases hi : i < p.1.2.length
  · rw [List.getElem?_range hi, List.getElem?_eq_getElem hi]
    show some (pairD ((p.2 : Int), 0 + (i : Int))) = some (pairD ((p.2 : Int), ((0 + i : Nat) : Int)))
    rw [Int.zero_add, Nat.zero_add]
  · rw [List.getElem?_eq_none (by rw [List.length_range]; omega), List.getElem?_eq_none (by omega)]
    rfl
theorem rows_len {f : Flw} (v : VFlow f) : (rowsF f).length ≤ 18 := by
  unfold rowsF
  rw [List.length_flatMap]
  refine Nat.le_trans (sum_le (n := 3) fun p hp => ?_) ?_
  · rw [List.length_map, List.length_zipIdx]
    exact ((v.rules p.1 (List.mem_of_getElem? (mem_zi1 hp))).few).2
  · rw [List.length_zipIdx]
    have := v.n6
    omega
theorem rows_uniq {f : Flw} {a b : Row} (ha : a ∈ rowsF f) (hb : b ∈ rowsF f) (h : pairD (a.1, a.2.1) = pairD (b.1, b.2.1)) : a = b := by
  obtain ⟨r1, q1, h1, h2, h3, h4, h5, h6⟩ := rows_mem ha
  obtain ⟨r2, q2, g1, g2, g3, g4, g5, g6⟩ := rows_mem hb
  have e := D.tup.inj h
  injection e with e1 e2
  injection e2 with e2 _
  have e1 : a.1 = b.1 := D.int.inj e1
  have e2 : a.2.1 = b.2.1 := D.int.inj e2
  rw [e1, g1] at h1
  cases h1
  rw [e2, g4] at h4
  cases h4
  exact Prod.ext e1 (Prod.ext e2 (h6.trans g6.symm))
def spArcs (K : PySem.W.Frag) : Sp := fun vs H Q _ => ∃ vf vw f ws, vs = [vf, vw] ∧ Rep H vf (flowD f) ∧ Rep H vw (tI ws) ∧ VFlow f ∧ ws.length ≤ 100000 ∧ (∀ x ∈ ws, small x) ∧
  ∀ H' p ar rd avs rvs, Same H H' → H' p = some (.tup [.ref ar, .ref rd]) → H' ar = some (.lst avs) → RepL H' avs ((arcsF f ws).map arcD) → H' rd = some (.lst rvs) → RepL H' rvs ((readsF f).map pairD) → Q (.ref p) H'
abbrev N_arcs_of : List Str := ["flow", "weights", "reads", "plane", "rule", "operand", "arcs", "read"]
abbrev P_arcs_of : List Str := ["flow", "weights"]
theorem sc_arcs_of : FnScope N_arcs_of P_arcs_of d_arcs_of.scope := ⟨rfl, rfl, rfl, by decide +kernel, rfl, by decide +kernel, by decide +kernel⟩
theorem b_arcs_of (kV doc pm : Value) (an : Option Addr) (cdv ct : Value) (us : List Value) (hl : us.length = P_arcs_of.length) : bindArgs (PySem.W.fnOf d_arcs_of.name d_arcs_of.qual d_arcs_of.params d_arcs_of.body d_arcs_of.scope .none kV doc pm an cdv ct) ⟨us, []⟩ = pure (P_arcs_of.zip us) := match us, hl with
  | [_, _], _ => rfl
theorem d_arcs (W : Wf w K mg) : Dok P w K mg base 3 (He.fAd K d_arcs_of.at_) P_arcs_of (spArcs K) := by
  have nd := sc_arcs_of.nd
  refine W.fnOk (d := d_arcs_of) (N := N_arcs_of) (ps := P_arcs_of) 46 rfl sc_arcs_of b_arcs_of ?_ ?_
  rotate_left
  · intro f cdv A outer s H vs Q E hr hs
    refine ⟨_, (pss_cons (ps_setLc2 (i := 2) (own := [("plane", 3), ("rule", 4), ("operand", 5)]) (vs1 := [5]) (tt := tYes) (tt1 := tYes) rfl nd rfl rfl (sw_true rfl rfl rfl (by decide +kernel)) (k_enum (K := K) rfl rfl (W.free 70 rfl) (pa_cons (pe_ix (k_ixT (K := K) rfl) (pv 0) pe_int (fun _ _ => rfl)) pa_nil)) (blkOk_by (N := N_arcs_of) (sc := d_arcs_of.scope) (by decide +kernel)) (by decide) (fun _ _ _ _ _ => (k_pg (K := K) (n := 2) rfl rfl (pgs_cons (pg_name (i := 3) nd rfl (Or.inl rfl)) (pgs_cons (pg_name (i := 4) nd rfl (Or.inl rfl)) pgs_nil)))) (fun _ _ _ _ _ => pts_nil) (fun _ _ _ _ _ => (pi_range1 rfl (W.free 77 rfl) (pa_cons (pe_op op_sub (pe_callB (k_len (K := K) rfl) rfl (W.free 73 rfl) (by decide +kernel) (pa_cons (pv 4) pa_nil)) pe_int) pa_nil))) (fun _ _ _ _ _ => (pg_name (i := 5) nd rfl (Or.inl rfl))) (fun _ _ _ _ _ => pts_nil) (fun _ _ _ _ _ => (pe_tup (pa_cons (pv 3) (pa_cons (pv 5) pa_nil))))) (pss_cons (ps_setLc (i := 6) (own := [("read", 7)]) (tt := tYes) rfl nd rfl rfl (sw_true rfl rfl rfl (by decide +kernel)) (k_piL (K := K) rfl (pv 2)) (blkOk_by (N := N_arcs_of) (sc := d_arcs_of.scope) (by decide +kernel)) (fun _ _ _ _ _ => (pg_name (i := 7) nd rfl (Or.inl rfl))) (fun _ _ _ _ _ => pts_nil) (fun _ _ _ _ _ => (pe_tup (pa_cons (pe_cal (c_source_of W) (hr.mono (by decide)) rfl (pa_cons (pv 0) (pa_cons (pv 7) pa_nil))) (pa_cons (pe_ix (k_ixT (K := K) rfl) (pv 7) pe_int (fun _ _ => rfl)) (pa_cons (pe_op op_sub pe_int (pe_cal (c_gain_of W) (hr.mono (by decide)) rfl (pa_cons (pv 0) (pa_cons (pv 1) (pa_cons (pv 7) pa_nil))))) pa_nil)))))) (pss_one (ps_ret (pe_tup (pa_cons (pv 6) (pa_cons (pv 2) pa_nil))))))), ?_⟩
    obtain ⟨vf, vw, fl, ws, rfl, rf, rw2, v, hl, hsm, hq⟩ := hs
    obtain ⟨P0, s0⟩ := ste_start (F := Fm.pure) (N := N_arcs_of) (as := [.d (flowD fl), .d (tI ws)]) (H := H) (.cons rf (.cons rw2 .nil)) trivial
    have h6 := v.n6
    refine (sd_setE (N := (· = [some (.d (flowD fl)), some (.d (tI ws)), some (.own ((readsF fl).map pairD)), none, none, none, none, none])) (R := fun _ => False) (ev_is (ev_lc2M (zs := fl.2.zipIdx) (fun p => .tup [.int p.2, ruleD p.1]) (fun p => rngI 0 p.1.2.length) .int (fun p o => pairD ((p.2 : Int), o)) (pair_inj ruleD_inj) int_inj (EvI.cast (src_enum (ea_cons (ev_op ev_var ev_ci (ro_ixT rfl)) ea_nil)) (numd_map _ _ _)) (lt_line ?_) fun p hp => ⟨_, _, tg_tup (tgs_cons tg_nm (tgs_cons tg_nm tgs_nil)), by decide, rfl, EvI.cast (src_rng1 (n := p.1.2.length) (ea_cons (ev_is (ev_op (ev_call_b (ea_cons ev_var ea_nil) (rcl_len (.tup _))) ev_ci ro_i0) ?_) ea_nil) ?_) ?_, fun o ho => ⟨_, _, tg_nm, by decide, ev_tup _ (ea_cons ev_var (ea_cons ev_var ea_nil))⟩⟩) ?_) rfl) H P0 _ H _ s0 (fun P1 σ1 H1 ds1 hP1 s1 e1 => ?_) fun v' H' r _ _ _ h => h.elim
    · rw [List.length_flatMap]
      refine Nat.le_trans (sum_le (n := 3) fun p hp => ?_) ?_
      · rw [List.length_map, rngI_len]
        exact ((v.rules p.1 (List.mem_of_getElem? (mem_zi1 hp))).few).2
      · rw [List.length_zipIdx]
        omega
    · rw [List.length_cons, List.length_map]
      congr 2
      omega
    · have := ((v.rules p.1 (List.mem_of_getElem? (mem_zi1 hp))).few).2
      omega
    · rw [Int.toNat_natCast, intsD_eq]
    · exact congrArg SV.own (readsF_eq fl)
    subst e1
    have hrows := rows_len v
    refine (sd_frz (i := 2) (xs := (readsF fl).map pairD) rfl (sd_setE (N := (· = [some (.d (flowD fl)), some (.d (tI ws)), some (.bor ((readsF fl).map pairD)), none, none, none, some (.own ((arcsF fl ws).map arcD)), none])) (R := fun _ => False) (ev_is (ev_lcMm (zs := rowsF fl) (fun r => pairD (r.1, r.2.1)) (fun r => arcD (r.2.2.1.toNat, r.1.toNat, 1 - dotI ws r.2.2.2)) (fun a ha b hb h => rows_uniq ha hb h) (EvI.cast src_slot ?_) (lt_line (by omega)) fun r hr2 => ⟨_, _, tg_nm, by decide, ?_⟩) ?_) rfl)) H P1 σ1 H1 _ s1 (fun P2 σ2 H2 ds2 hP2 s2 e2 => ?_) fun v' H' r _ _ _ h => h.elim
    · unfold readsF
      rw [List.map_map]
      rfl
    · obtain ⟨_, _, _, g2, _, _, _, _⟩ := rows_mem hr2
      have g3 := (v.row hr2).lo
      refine ev_is (ev_tup [.int r.2.2.1, .int r.1, .int (1 - dotI ws r.2.2.2)] (ea_cons (ev_fnA (fl, r) (ea_cons ev_var (ea_cons ev_var ea_nil)) hr2 fun r e => e) (ea_cons (ev_op ev_var ev_ci (ro_ixT rfl)) (ea_cons (ev_op ev_ci (ev_fnA (fl, ws, r) (ea_cons ev_var (ea_cons ev_var (ea_cons ev_var ea_nil))) ⟨hr2, hl, hsm⟩ fun r e => e) ro_i0) ea_nil)))) ?_
      unfold arcD
      have a1 : ((r.2.2.1.toNat : Nat) : Int) = r.2.2.1 := Int.toNat_of_nonneg g3
      have a2 : ((r.1.toNat : Nat) : Int) = r.1 := Int.toNat_of_nonneg g2
      show SV.d (.tup [.int r.2.2.1, .int r.1, .int (1 - dotI ws r.2.2.2)]) = SV.d (.tup [.int ((r.2.2.1.toNat : Nat) : Int), .int ((r.1.toNat : Nat) : Int), .int (1 - dotI ws r.2.2.2)])
      rw [a1, a2]
    · unfold arcsF
      rw [List.map_map]
      rfl
    subst e2
    obtain ⟨v6, z6, p6, vs6, rfl, hn6, hp6, hr6, _⟩ := s2.env 6 _ rfl
    obtain ⟨v2, z2, p2, vs2, rfl, hm2⟩ := s2.env 2 _ rfl
    obtain ⟨_, hp2, hr2⟩ := s2.pin _ hm2
    refine ⟨_, z6, _, z2, (by show 2 ≤ sizeLine; decide), fun q hq0 => ?_⟩
    have ts : TSm H2 (upd H2 q (.tup [.ref p6, .ref p2])) := fun a us e => by
      rw [upd_ne (ne_of_none e hq0)]
      exact e
    exact hq _ q p6 p2 vs6 vs2 (fun x u h => by rw [upd_ne (ne_of_none (s2.kp x u (fun h => h) h) hq0)]; exact s2.kp x u (fun h => h) h) upd_same (by rw [upd_ne (ne_of_none hp6 hq0)]; exact hp6) (hr6.mono ts) (by rw [upd_ne (ne_of_none hp2 hq0)]; exact hp2) (hr2.mono ts)
  · rintro vs H Q E ⟨vf, vw, f, ws, rfl, _⟩
    rfl
end
end Wb
/-! WbY4 -/
set_option maxHeartbeats 4000000
namespace Wb
open PySem PySem.Spec PyProof.Rows L2
section
variable {P : Program} {w : World} {K : PySem.W.Frag} {mg : Str → Option Value} {base : Heap}
theorem c_arcs_of (W : Wf w K mg) : Cal P w K mg base 3 "arcs_of" P_arcs_of (spArcs K) := (d_arcs W).cal (W.glo 43 rfl)
/-- starts that serve -/
structure Good (f : Flw) (ws : List Int) (hs : List Int) : Prop where
  len : hs.length = f.2.length
  pos : ∀ x ∈ hs, 0 ≤ x
  arc : ∀ r ∈ rowsF f, hs.getD r.2.2.1.toNat 0 + (1 - dotI ws r.2.2.2) ≤ hs.getD r.1.toNat 0
  top : ∀ G : Int, 0 ≤ G → (∀ r ∈ rowsF f, 1 - dotI ws r.2.2.2 ≤ G) → ∀ x ∈ hs, x ≤ f.2.length * G
def PStarts (a : Flw × List Int) (r : SV) : Prop := (∃ hs, r = .d (.tup [.str "starts", tI hs]) ∧ Good a.1 a.2 hs) ∨ ∃ xs, r = .d (.tup [.str "ring", .tup xs])
theorem arcs_in {f : Flw} (v : VFlow f) (ws : List Int) : ArcsIn f.2.length (arcsF f ws) := by
  intro a ha
  unfold arcsF at ha
  obtain ⟨r, hr, rfl⟩ := List.mem_map.mp ha
  obtain ⟨_, _, _, g2, g3, _⟩ := rows_mem hr
  have h := v.row hr
  have h1 := h.lo
  have h2 := h.hi
  constructor
  · show r.2.2.1.toNat < _
    omega
  · show r.1.toNat < _
    omega
theorem good_of {f : Flw} (v : VFlow f) {ws : List Int} (e : (settleM (arcsF f ws) f.2.length (st0 f.2.length)).1 = true) : Good f ws (settleM (arcsF f ws) f.2.length (st0 f.2.length)).2.hs := by
  obtain ⟨h1, h2, h3, h4⟩ := settle_true (arcs_in v ws) e
  refine ⟨h1, h2, fun r hr => h3 _ (List.mem_map.mpr ⟨r, hr, rfl⟩), fun G h0 hG x hx => h4 G h0 (fun a ha => ?_) x hx⟩
  obtain ⟨r, hr, rfl⟩ := List.mem_map.mp ha
  exact hG r hr
abbrev N_starts_or_ring : List Str := ["flow", "weights", "arcs", "reads", "numbers", "number"]
abbrev P_starts_or_ring : List Str := ["flow", "weights"]
theorem sc_starts_or_ring : FnScope N_starts_or_ring P_starts_or_ring d_starts_or_ring.scope := ⟨rfl, rfl, rfl, by decide +kernel, rfl, by decide +kernel, by decide +kernel⟩
theorem b_starts_or_ring (kV doc pm : Value) (an : Option Addr) (cdv ct : Value) (us : List Value) (hl : us.length = P_starts_or_ring.length) : bindArgs (PySem.W.fnOf d_starts_or_ring.name d_starts_or_ring.qual d_starts_or_ring.params d_starts_or_ring.body d_starts_or_ring.scope .none kV doc pm an cdv ct) ⟨us, []⟩ = pure (P_starts_or_ring.zip us) := match us, hl with
  | [_, _], _ => rfl
theorem d_starts (W : Wf w K mg) : Dok P w K mg base 4 (He.fAd K d_starts_or_ring.at_) P_starts_or_ring (spA Fm.pure (fun a : Flw × List Int => [.d (flowD a.1), .d (tI a.2)]) (fun a => VFlow a.1 ∧ a.2.length ≤ 100000 ∧ ∀ x ∈ a.2, small x) PStarts) := by
  have cl := W.cls (x := "Numbers") 98 rfl
  have mS := W.meth (x := "Numbers") (f := "settle") 111 rfl
  have mR := W.meth (x := "Numbers") (f := "ring_behind") 112 rfl
  obtain ⟨fdI, gI, _, bI⟩ := c_Numbers_init (P := P) (w := w) (base := base) W
  obtain ⟨fdS, gS, _, bS⟩ := c_Numbers_settle (P := P) (w := w) (base := base) W
  obtain ⟨fdR, gR, _, bR⟩ := c_Numbers_ring_behind (P := P) (w := w) (base := base) W
  have nd := sc_starts_or_ring.nd
  refine W.fnOk (d := d_starts_or_ring) (N := N_starts_or_ring) (ps := P_starts_or_ring) 51 rfl sc_starts_or_ring b_starts_or_ring ?_ ?_
  rotate_left
  · intro f cdv A outer s H vs Q E hr hs
    refine ⟨_, (pss_cons (ps_asg (pe_cal (c_arcs_of W) (hr.mono (by decide)) rfl (pa_cons (pv 0) (pa_cons (pv 1) pa_nil))) (k_pg (K := K) (n := 2) rfl rfl (pgs_cons (pg_name (i := 2) nd rfl (Or.inl rfl)) (pgs_cons (pg_name (i := 3) nd rfl (Or.inr rfl)) pgs_nil)))) (pss_cons (ps_set (i := 4) nd rfl (Or.inl rfl) (pe_make (W.mkr 99 rfl) gI (hr.mono (by decide)) rfl (W.glo 97 rfl) bI .nil pass0 (pa_cons (pe_op op_rep (pe_lst (pa_cons pe_int pa_nil)) (pe_callB (k_len (K := K) rfl) rfl (W.free 73 rfl) (by decide +kernel) (pa_cons (pe_ix (k_ixT (K := K) rfl) (pv 0) pe_int (fun _ _ => rfl)) pa_nil))) (pa_cons (pv 2) pa_nil)))) (pss_cons (ps_if (pt_val (pe_meth0 (pv 4) cl mS gS (hr.mono (by decide)) bS .nil pass0)) (pss_one (ps_ret (pe_tup (pa_cons pe_str (pa_cons (pe_callTy (k_tuple (K := K) rfl) rfl (W.free 82 rfl) (by decide +kernel) (pa_cons (pe_fld (pv 4) rfl) pa_nil)) pa_nil))))) pss_nil) (pss_one (ps_ret (pe_tup (pa_cons pe_str (pa_cons (pe_cal (c_plain_from W) (hr.mono (by decide)) rfl (pa_cons (pe_lc (own := [("number", 5)]) (tt := tYes) rfl nd (k_piL (K := K) rfl (pe_meth0 (pv 4) cl mR gR (hr.mono (by decide)) bR .nil pass0)) (blkOk_by (N := N_starts_or_ring) (sc := d_starts_or_ring.scope) (by decide +kernel)) (fun _ _ _ _ _ => (pg_name (i := 5) nd rfl (Or.inl rfl))) (fun _ _ _ _ _ => pts_nil) (fun _ _ _ _ _ => (pe_ix (k_ixL (K := K) rfl) (pv 3) (pv 5) (fun _ _ => rfl)))) pa_nil)) pa_nil)))))))), ?_⟩
    obtain ⟨⟨fl, ws⟩, rr, _, ⟨v, hl, hsm⟩, hq⟩ := hs
    have nH := W.noat (x := "Numbers") (f := "heights") 104 rfl
    obtain ⟨P0, s0⟩ := ste_start (N := N_starts_or_ring) rr trivial
    cases rr with
    | cons r1 rr =>
      cases rr with
      | cons r2 rr =>
        cases rr
        rename_i v0 v1
        refine ⟨v0, rfl, v1, rfl, v0, v1, fl, ws, rfl, r1, r2, v, hl, hsm, fun H1 p ar rd avs rvs sm hp har hra hrd hrr => ?_⟩
        refine ⟨p, _, rfl, SqT.of hp, rfl, .ref ar, _, rfl, .ref rd, _, rfl, rfl, ?_⟩
        have s1 := ((s0.mono (Kp.same sm) trivial).setD 2 (Rep.obj ar)).setD 3 (Rep.obj rd)
        have n6 : fl.2.length ≤ 6 := v.n6
        have n1 : 1 ≤ fl.2.length := v.n1
        refine (ev_is (y := .own ((List.replicate fl.2.length (0 : Int)).map .int)) (ev_op (ev_lst [.int 0] (ea_cons ev_ci ea_nil)) (ev_call_b (ea_cons (ev_op ev_var ev_ci (ro_ixT rfl)) ea_nil) (rcl_len (.tup _))) (ro_repL (.inl rfl) ?_ ?_)) ?_) H P0 _ H1 s1 _ fun vl H2 r2' k2 _ rr2 e2 => ?_
        · rw [List.length_map]
          exact ⟨by show -(2 ^ 63) ≤ ((fl.2.length : Nat) : Int); omega, by show ((fl.2.length : Nat) : Int) < 2 ^ 63; omega⟩
        · rw [List.length_map, Int.toNat_natCast]
          exact le_line (by show 1 * fl.2.length ≤ 100000; omega)
        · rw [List.length_map, Int.toNat_natCast, List.map_replicate]
          congr 1
          generalize fl.2.length = m
          induction m with
          | zero => rfl
          | succ m ih =>
            rw [List.replicate_succ, List.replicate_succ, List.flatten_cons, ih]
            rfl
        subst e2
        obtain ⟨vla, vlv, rfl, hvn, hvl, hvr⟩ := rr2
        rw [hvr.ints] at hvl
        have sm2 : Same H1 H2 := Kp.pure_same k2
        refine ⟨_, rfl, fun x dx hx hdx hne => ?_⟩
        have hxn : H2 x = none := hx
        have k3 : ∀ y u, H2 y = some u → (upd (upd H2 dx (.own x)) x (.ins (cN K) dx [])) y = some u := fun y u e => by
          rw [upd_ne (ne_of_none e hx), upd_ne (ne_of_none e hdx)]
          exact e
        have hoX : (upd (upd H2 dx (.own x)) x (.ins (cN K) dx [])) x = some (.ins (cN K) dx []) := upd_same
        generalize (upd (upd H2 dx (.own x)) x (.ins (cN K) dx [])) = H3 at k3 hoX
        refine ⟨x, dx, vla, ar, List.replicate fl.2.length 0, arcsF fl ws, avs, rfl, hoX, k3 _ _ hvl, k3 _ _ (sm2 _ _ har), hra.mono fun a us e => k3 _ _ (sm2 _ _ e), by rw [List.length_replicate]; omega, fun H4 np ea ear keep hhn hbn N => ⟨rfl, ?_⟩⟩
        rw [List.length_replicate] at N
        have N : NumAt K H4 np (arcsF fl ws) (st0 fl.2.length) := N
        have ok : NOk fl.2.length (arcsF fl ws) (st0 fl.2.length) := ⟨arcs_in v ws, List.length_replicate .., List.length_replicate ..⟩
        -- what stood at the call stands
        have s13 : Same H H3 := fun y u e => k3 y u (sm2 y u (sm y u e))
        have fresh : ∀ {q : Addr}, H3 q = none → ∀ y u, H y = some u → y ≠ q := fun {q} hn y u e z => by
          subst z
          rw [s13 y u e] at hn
          cases hn
        have neX : ∀ y u, H y = some u → y ≠ x := fun y u e z => by
          subst z
          rw [sm2 y u (sm y u e)] at hxn
          cases hxn
        have s14 : Same H H4 := fun y u e => keep y u (s13 y u e) (neX y u e)
        have nea : ∀ y u, H y = some u → y ≠ np.a ∧ y ≠ np.h ∧ y ≠ np.b := fun y u e => ⟨by rw [ea]; exact neX y u e, fresh hhn y u e, fresh hbn y u e⟩
        have neR : rd ≠ np.a ∧ rd ≠ np.h ∧ rd ≠ np.b := by
          have e3 : H3 rd = some (.lst rvs) := k3 _ _ (sm2 _ _ hrd)
          refine ⟨?_, fun z => ?_, fun z => ?_⟩
          · rw [ea]
            exact ne_of_none (sm2 _ _ hrd) hxn
          · rw [z, hhn] at e3
            cases e3
          · rw [z, hbn] at e3
            cases e3
        have hrd4 : H4 rd = some (.lst rvs) := keep _ _ (k3 _ _ (sm2 _ _ hrd)) (ne_of_none (sm2 _ _ hrd) hxn)
        have hrr4 : RepL H4 rvs ((readsF fl).map pairD) := hrr.mono fun a us e => keep _ _ (k3 _ _ (sm2 _ _ e)) (ne_of_none (sm2 _ _ e) hxn)
        rw [← ea]
        refine ⟨_, rfl, np.a, np.dx, _, rfl, N.obj, rfl, np, arcsF fl ws, st0 fl.2.length, fl.2.length, rfl, N, ok, by omega, fun H5 N5 c5 => ⟨_, rfl, ?_⟩⟩
        have s15 : Same H H5 := fun y u e => c5 y u (s14 y u e) (nea y u e).1 (nea y u e).2.1 (nea y u e).2.2
        have hrd5 : H5 rd = some (.lst rvs) := c5 _ _ hrd4 neR.1 neR.2.1 neR.2.2
        have hrr5 : RepL H5 rvs ((readsF fl).map pairD) := hrr4.mono (N.ts c5)
        cases hset : (settleM (arcsF fl ws) fl.2.length (st0 fl.2.length)).1 with
        | true =>
          refine iteT ?_
          refine ⟨_, rfl, np.a, cN K, np.dx, _, _, rfl, N5.obj, cl, nH, rfl, np.h, _, rfl, .inl ⟨SqL.of N5.hh, fun l hl5 => ⟨by show 2 ≤ sizeLine; decide, fun q hq5 => ?_⟩⟩⟩
          have hl0 : H5 l = none := hl5
          refine hq (.ref q) _ (.d (.tup [.str "starts", tI (settleM (arcsF fl ws) fl.2.length (st0 fl.2.length)).2.hs])) (fun y u _ e => ?_) trivial (.tup upd_same (.cons (.str _) (.one (.tup (a := l) (vs := (settleM (arcsF fl ws) fl.2.length (st0 fl.2.length)).2.hs.map V.int) ?_ (RepL.of_ints _))))) (.inl ⟨_, rfl, good_of v hset⟩)
          · rw [upd_ne (ne_of_none (by rw [upd_ne (ne_of_none (s15 y u e) hl0)]; exact s15 y u e) hq5), upd_ne (ne_of_none (s15 y u e) hl0)]
            exact s15 y u e
          · rw [upd_ne (ne_of_none upd_same hq5)]
            exact upd_same
        | false =>
          refine iteF ?_
          obtain ⟨c, j, L, R⟩ := settle_false n1 (by omega) (arcs_in v ws) hset
          refine ⟨_, rfl, np.a, np.dx, _, rfl, N5.obj, rfl, np, arcsF fl ws, _, fl.2.length, c, j, L, rfl, N5, settle_ok _ ok, by omega, R, fun H6 q sm6 hq5 hq6 => ⟨q, rfl, ⟨_, SqL.of hq6⟩, fun D hD => ?_⟩⟩
          have hjs : ∀ t ∈ ringJ fl.2.length L j, t < (readsF fl).length := by
            intro t ht
            unfold ringJ at ht
            obtain ⟨i, hi, rfl⟩ := List.mem_map.mp (List.mem_reverse.mp ht)
            have hi := List.mem_range.mp hi
            obtain ⟨A, hA, _⟩ := R.arc (fl.2.length + i) (by omega)
            have h1 := (List.getElem?_eq_some_iff.mp hA).1
            unfold arcsF at h1
            unfold readsF
            rw [List.length_map] at h1 ⊢
            exact h1
          have hjl : (ringJ fl.2.length L j).length = L := by
            unfold ringJ
            rw [List.length_reverse, List.length_map, List.length_range]
          have hfew := R.few
          have hLpos := R.pos
          generalize ringJ fl.2.length L j = js at hq6 hjs hjl
          have hrd6 : H6 rd = some (.lst rvs) := sm6 _ _ hrd5
          have hrr6 : RepL H6 rvs ((readsF fl).map pairD) := hrr5.mono fun a us e => sm6 _ _ e
          have s16 : Same H H6 := fun y u e => sm6 y u (s15 y u e)
          refine lc_it (walk_list (K := K) (a := q) (xs := js.map fun i => V.int (i : Nat))) (fun i H' => (∀ y u, H6 y = some u → H' y = some u) ∧ ∃ acc, H' D = some (.lst acc) ∧ RepL H' acc ((js.take i).map fun t => pairD ((readsF fl).getD t (0, 0)))) ⟨fun y u e => by rw [upd_ne (ne_of_none e hD)]; exact e, [], upd_same, .nil⟩ (fun i H' _ h => SqL.of (h.1 _ _ hq6)) ?_ ?_
          · rintro i x Ha Hb hi ⟨kp, acc, hacc, hra2⟩ ⟨rfl, hx⟩
            obtain ⟨t, ht, rfl⟩ := get_map hx
            have htl := hjs t (List.mem_of_getElem? ht)
            have hit : (readsF fl)[t]? = some ((readsF fl).getD t (0, 0)) := by
              rw [List.getD_eq_getElem?_getD, List.getElem?_eq_getElem htl]
              rfl
            obtain ⟨u, hu, ru⟩ := hrr6.get (show ((readsF fl).map pairD)[t]? = some (pairD ((readsF fl).getD t (0, 0))) by rw [List.getElem?_map, hit]; rfl)
            refine ⟨rfl, ?_⟩
            unfold tYes; dsimp only
            rw [if_pos rfl]
            refine ⟨_, rfl, _, rfl, rd, rvs, (t : Int), u, rfl, rfl, SqL.of (kp _ _ hrd6), atI_nat hu, acc, hacc, ?_, ?_⟩
            · rw [hra2.length, List.length_map, List.length_take]
              exact lt_line (by omega)
            · have ts : TSm Hb (upd Hb D (.lst (acc ++ [u]))) := TSm.upd fun vs' z => by rw [hacc] at z; cases z
              refine ⟨fun y z e => by rw [upd_ne (ne_of_none e hD)]; exact kp y z e, acc ++ [u], upd_same, ?_⟩
              rw [take_succ' ht, List.map_append]
              exact (hra2.mono ts).append (.one (Rep.mono ts (ru.mono fun a us e => kp _ _ e)))
          · rintro Ha ⟨kp, acc, hacc, hra2⟩
            rw [List.length_map, take_all] at hra2
            refine ⟨js.map fun t => (readsF fl).getD t (0, 0), .cons ⟨D, acc, rfl, (fun h => h), hacc, by rw [List.map_map]; exact hra2⟩ .nil, trivial, ⟨fun e => ?_, by rw [List.length_map]; omega⟩, fun v' H7 r k7 _ rr ⟨xs, e⟩ => ?_⟩
            · rw [List.map_eq_nil_iff] at e
              rw [e] at hjl
              simp at hjl
              omega
            · subst e
              refine ⟨by show 2 ≤ sizeLine; decide, fun q7 hq7 => ?_⟩
              have s17 : Same H H7 := fun y u e => k7 y u (fun h => h) (kp y u (s16 y u e))
              refine hq (.ref q7) _ (.d (.tup [.str "ring", .tup xs])) (fun y u _ e => by rw [upd_ne (ne_of_none (s17 y u e) hq7)]; exact s17 y u e) trivial (.tup upd_same (.cons (.str _) (.one (Rep.mono (fun a us e => by rw [upd_ne (ne_of_none e hq7)]; exact e) rr)))) (.inr ⟨xs, rfl⟩)
  · rintro vs H Q E ⟨a, rr, _⟩
    exact rr.length
end
end Wb
/-! WbY5 -/
set_option maxHeartbeats 4000000
namespace Wb
open PySem PySem.Spec PyProof.Rows L2
section
variable {P : Program} {w : World} {K : PySem.W.Frag} {mg : Str → Option Value} {base : Heap}
theorem c_starts_or_ring (W : Wf w K mg) : Cal P w K mg base 4 "starts_or_ring" P_starts_or_ring (spA Fm.pure (fun a : Flw × List Int => [.d (flowD a.1), .d (tI a.2)]) (fun a => VFlow a.1 ∧ a.2.length ≤ 100000 ∧ ∀ x ∈ a.2, small x) PStarts) := (d_starts W).cal (W.glo 44 rfl)
theorem VWts.fit {f : Flw} {ws : List Int} (v : VFlow f) (h : VWts f.1 ws) : ws.length ≤ 100000 ∧ ∀ x ∈ ws, small x :=
  ⟨h.len3 v, fun x hx => by
    have := h.2 x hx
    unfold small
    omega⟩
abbrev N_find_starts : List Str := ["flow", "weights"]
abbrev P_find_starts : List Str := ["flow", "weights"]
theorem sc_find_starts : FnScope N_find_starts P_find_starts d_find_starts.scope := ⟨rfl, rfl, rfl, by decide +kernel, rfl, by decide +kernel, by decide +kernel⟩
theorem b_find_starts (kV doc pm : Value) (an : Option Addr) (cdv ct : Value) (us : List Value) (hl : us.length = P_find_starts.length) : bindArgs (PySem.W.fnOf d_find_starts.name d_find_starts.qual d_find_starts.params d_find_starts.body d_find_starts.scope .none kV doc pm an cdv ct) ⟨us, []⟩ = pure (P_find_starts.zip us) := match us, hl with
  | [_, _], _ => rfl
theorem c_find_starts (W : Wf w K mg) : Cal P w K mg base 5 "find_starts" P_find_starts (spA Fm.pure (fun a : Flw × List Int => [.d (flowD a.1), .d (tI a.2)]) (fun a => VFlow a.1 ∧ VWts a.1.1 a.2) PStarts) := by
  have nd := sc_find_starts.nd
  refine W.calA (d := d_find_starts) (N := N_find_starts) 52 45 rfl rfl sc_find_starts b_find_starts ?_ ?_
  rotate_left
  · intro f cdv A outer s H E hr
    refine ⟨_, (pss_cons (ps_expr (pe_cal (c_require_weights W) (hr.mono (by decide)) rfl (pa_cons (pv 0) (pa_cons (pv 1) pa_nil)))) (pss_one (ps_ret (pe_cal (c_starts_or_ring W) (hr.mono (by decide)) rfl (pa_cons (pv 0) (pa_cons (pv 1) pa_nil)))))), ?_⟩
    rintro ⟨f, ws⟩ ⟨v, h⟩
    refine sd_seqE (ds1 := _) (sd_drop (ev_fnA (f, ws) (ea_cons ev_var (ea_cons ev_var ea_nil)) ⟨v, h⟩ fun r e => e) rfl) ?_
    exact sd_ret (φ := PStarts (f, ws)) (ev_fnAG (f, ws) (ea_cons ev_var (ea_cons ev_var ea_nil)) ⟨v, h.fit v⟩ fun z p => ⟨p, by rcases p with ⟨_, e, _⟩ | ⟨_, e⟩ <;> rw [e] <;> trivial⟩) fun r e => e
  · intro a
    rfl
def PFactor (a : Flw × List Int) (r : SV) : Prop := (∃ (k : Int) (hs : List Int) (rg : D), r = .d (.tup [.int k, tI hs, rg]) ∧ 1 ≤ k ∧ k ≤ 6 ∧ Good a.1 (a.2.map (· * k)) hs) ∨ ∃ rg, r = .d (.tup [.non, .non, rg])
abbrev N_factor_for : List Str := ["flow", "weights", "ring", "factor", "word", "found"]
abbrev P_factor_for : List Str := ["flow", "weights"]
theorem sc_factor_for : FnScope N_factor_for P_factor_for d_factor_for.scope := ⟨rfl, rfl, rfl, by decide +kernel, rfl, by decide +kernel, by decide +kernel⟩
theorem b_factor_for (kV doc pm : Value) (an : Option Addr) (cdv ct : Value) (us : List Value) (hl : us.length = P_factor_for.length) : bindArgs (PySem.W.fnOf d_factor_for.name d_factor_for.qual d_factor_for.params d_factor_for.body d_factor_for.scope .none kV doc pm an cdv ct) ⟨us, []⟩ = pure (P_factor_for.zip us) := match us, hl with
  | [_, _], _ => rfl
theorem c_factor_for (W : Wf w K mg) : Cal P w K mg base 5 "factor_for" P_factor_for (spA Fm.pure (fun a : Flw × List Int => [.d (flowD a.1), .d (tI a.2)]) (fun a => VFlow a.1 ∧ VWts a.1.1 a.2) PFactor) := by
  have nd := sc_factor_for.nd
  refine W.calA (d := d_factor_for) (N := N_factor_for) 54 47 rfl rfl sc_factor_for b_factor_for ?_ ?_
  rotate_left
  · intro f cdv A outer s H E hr
    refine ⟨_, (pss_cons (ps_set (i := 2) nd rfl (Or.inl rfl) pe_non) (pss_cons (ps_for PassesOwn.never rfl (pi_range2 rfl (W.free 77 rfl) (pa_cons pe_int (pa_cons (pe_op op_add (pe_gint (W.int 86 rfl) rfl) pe_int) pa_nil))) (pg_name (i := 3) nd rfl (Or.inl rfl)) (pss_cons (ps_asg (pe_cal (c_starts_or_ring W) (hr.mono (by decide)) rfl (pa_cons (pv 0) (pa_cons (pe_cal (c_slowed W) (hr.mono (by decide)) rfl (pa_cons (pv 1) (pa_cons (pv 3) pa_nil))) pa_nil))) (k_pg (K := K) (n := 2) rfl rfl (pgs_cons (pg_name (i := 4) nd rfl (Or.inl rfl)) (pgs_cons (pg_name (i := 5) nd rfl (Or.inl rfl)) pgs_nil)))) (pss_cons (ps_if (pt_cmpR op_eq (pv 4) pe_str (nomark _)) (pss_one (ps_ret (pe_tup (pa_cons (pv 3) (pa_cons (pv 5) (pa_cons (pv 2) pa_nil)))))) pss_nil) (pss_one (ps_set (i := 2) nd rfl (Or.inl rfl) (pv 5)))))) (pss_one (ps_ret (pe_tup (pa_cons pe_non (pa_cons pe_non (pa_cons (pv 2) pa_nil)))))))), ?_⟩
    rintro ⟨f, ws⟩ ⟨v, h⟩
    refine sd_seqE (ds1 := _) (sd_setE ev_cn rfl) ?_
    refine sd_seq (M := fun d => ∃ rg o3 o4 o5, d = [some (.d (flowD f)), some (.d (tI ws)), some (.d rg), o3, o4, o5]) (sd_for (fun _ _ d => ∃ rg o3 o4 o5, d = [some (.d (flowD f)), some (.d (tI ws)), some (.d rg), o3, o4, o5]) (src_rng2 (m := 1) (n := 7) (ea_cons ev_ci (ea_cons (ev_is (ev_op ev_ci ev_ci ro_i0) rfl) ea_nil)) (by omega)) (fun xs e => ⟨_, _, _, _, rfl⟩) ?_ fun _ _ _ e => e) ?_
    · rintro xs i x ds1 rfl hx ⟨rg, o3, o4, o5, rfl⟩
      have hi : i < 6 := by
        have := (List.getElem?_eq_some_iff.mp hx).1
        rwa [ints_len] at this
      rw [show (7 - 1 : Int).toNat = 6 from rfl, ints_at hi] at hx
      cases hx
      refine ⟨_, _, tg_nm, ?_⟩
      have hs := h.fit v
      have hk : small (1 + (i : Int)) := by
        unfold small
        omega
      have hm : (ws.map (· * (1 + (i : Int)))).length ≤ 100000 ∧ ∀ x ∈ ws.map (· * (1 + (i : Int))), small x := by
        refine ⟨by rw [List.length_map]; exact hs.1, fun x hx => ?_⟩
        obtain ⟨y, hy, rfl⟩ := List.mem_map.mp hx
        have h2 := h.2 y hy
        have : i = 0 ∨ i = 1 ∨ i = 2 ∨ i = 3 ∨ i = 4 ∨ i = 5 := by omega
        unfold small
        rcases this with rfl | rfl | rfl | rfl | rfl | rfl <;> omega
      refine sd_seq (M := fun d => (∃ hs, d = [some (.d (flowD f)), some (.d (tI ws)), some (.d rg), some (.d (.int (1 + (i : Int)))), some (.d (.str "starts")), some (.d (tI hs))] ∧ Good f (ws.map (· * (1 + (i : Int)))) hs) ∨ ∃ xs, d = [some (.d (flowD f)), some (.d (tI ws)), some (.d rg), some (.d (.int (1 + (i : Int)))), some (.d (.str "ring")), some (.d (.tup xs))]) (sd_asgG (φ := PStarts (f, ws.map (· * (1 + (i : Int))))) (ev_fnAG (f, ws.map (· * (1 + (i : Int)))) (ea_cons ev_var (ea_cons (ev_fnA (ws, 1 + (i : Int)) (ea_cons ev_var (ea_cons ev_var ea_nil)) ⟨hs.1, hk⟩ fun r e => e) ea_nil)) ⟨v, hm⟩ fun z p => ⟨p, by rcases p with ⟨_, e, _⟩ | ⟨_, e⟩ <;> rw [e] <;> trivial⟩) fun r p => ?_) ?_
      · rcases p with ⟨hs, e, g⟩ | ⟨xs, e⟩
        · exact ⟨_, _, _, e, tg_tup (tgs_cons tg_nm (tgs_cons tg_nm tgs_nil)), .inl ⟨hs, rfl, g⟩⟩
        · exact ⟨_, _, _, e, tg_tup (tgs_cons tg_nm (tgs_cons tg_nm tgs_nil)), .inr ⟨xs, rfl⟩⟩
      · rintro d (⟨hs, rfl, g⟩ | ⟨xs, rfl⟩)
        · refine sd_seq (M := fun _ => False) (sd_ifT (et_testD (ev_is (ev_op ev_var ev_cs (ro_eq rfl rfl rfl)) rfl)) (sd_ret (φ := fun r => r = .d (.tup [.int (1 + (i : Int)), tI hs, rg])) (ev_tup [.int (1 + (i : Int)), tI hs, rg] (ea_cons ev_var (ea_cons ev_var (ea_cons ev_var ea_nil)))) fun r e => .inl ⟨_, hs, rg, e, by omega, by omega, g⟩)) fun d e => e.elim
        · refine sd_seqE (ds1 := _) (sd_ifF (et_is (et_testD (ev_op ev_var ev_cs (ro_eq rfl rfl rfl))) (by decide +kernel)) (sd_next rfl)) (sd_setE ev_var ⟨_, _, _, _, rfl⟩)
    · rintro d ⟨rg, o3, o4, o5, rfl⟩
      exact sd_ret (φ := fun r => r = .d (.tup [.non, .non, rg])) (ev_tup [.non, .non, rg] (ea_cons ev_cn (ea_cons ev_cn (ea_cons ev_var ea_nil)))) fun r e => .inr ⟨rg, e⟩
  · intro a
    rfl
end
end Wb
/-! WbY6 -/
set_option maxHeartbeats 4000000
namespace Wb
open PySem PySem.Spec PyProof.Rows L2
section
variable {P : Program} {w : World} {K : PySem.W.Frag} {mg : Str → Option Value} {base : Heap}
/-! ### defs that may raise TooLarge -/
def DokX (P : Program) (w : World) (K : PySem.W.Frag) (mg : Str → Option Value) (base : Heap) (k : Nat) (f : Addr) (ps : List Str) (sp : Sp) : Prop := ∃ fd : FuncData, FnOk P w K mg base (L2.CX P w) k f fd ps sp ∧ PySem.W.keepIn K (.ref f) = true ∧ Binds K fd ps []
theorem Wf.fnOkX (W : Wf w K mg) {d : He.DefD} {k : Nat} {N ps : List Str} {sp : Sp} (i : Nat) (h : fn[i]? = some d) (S : FnScope N ps d.scope)
    (hb : ∀ (kV doc pm : Value) (an : Option Addr) (cdv ct : Value) (us : List Value), us.length = ps.length → bindArgs (PySem.W.fnOf d.name d.qual d.params d.body d.scope .none kV doc pm an cdv ct) ⟨us, []⟩ = pure (ps.zip us))
    (hl : ∀ vs H Q E, sp vs H Q E → vs.length = ps.length)
    (hbody : ∀ (f : Addr) (cdv : Value) (A : Around) (outer : List Env) (s : Shared) (H : Hp) (vs : List V) (Q : VK) (E : XK), Room k (A.deeper (envOfC d.qual d.scope s.heap.objs.size f cdv)) → sp vs H Q E →
      ∃ t, PSs (cxOf (L2.CX P w) P w K mg base N d.qual d.scope f cdv A outer s H E) d.body t ∧ t { nx := fun _ H' => Q .non H', rt := Q } (start N vs) H)
    (h0 : d.dfl = [] := by rfl) (h1 : d.kwd = [] := by rfl) : DokX P w K mg base (k + 1) (He.fAd K d.at_) ps sp := by
  obtain ⟨fd, FD⟩ := W.def_ i h
  have e0 : d.dvs K = [] := by
    unfold He.DefD.dvs
    rw [h0]
    rfl
  have e1 : d.kws K = [] := by
    unfold He.DefD.kws
    rw [h1]
    rfl
  rw [e0, e1] at FD
  exact ⟨fd, FD.ok S hl fun cdv A outer s H vs Q E hr hs => hbody (He.fAd K d.at_) cdv A outer s H vs Q E hr hs, FD.kp, FD.bindsN hb⟩
abbrev cT (K : PySem.W.Frag) : Addr := He.ga K "TooLarge"
structure LowT (K : PySem.W.Frag) : Prop where
  T : OexC K (cT K)
  iC : PySem.W.findIn K (.ref (cT K)) "__init__" = some (some (.ref (He.ma K (cT K) "__init__")))
  tI : PySem.W.typeIn K (.ref (He.ma K (cT K) "__init__")) = some (.type "function")
  no : PySem.W.findIn K (.ref (cT K)) "limit" = some none
  te : PySem.W.exmOne K (.ref (cT K)) (.ref (cT K)) = some true
theorem Wf.low (W : Wf w K mg) : LowT K := by
  obtain ⟨h, _⟩ := He.ba W.exs.1
  unfold oexAll at h
  obtain ⟨h1, h⟩ := He.ba h
  obtain ⟨h2, h⟩ := He.ba h
  obtain ⟨h3, h⟩ := He.ba h
  obtain ⟨h4, h⟩ := He.ba h
  obtain ⟨h5, h⟩ := He.ba h
  obtain ⟨h6, h⟩ := He.ba h
  obtain ⟨h7, h⟩ := He.ba h
  obtain ⟨h8, h9⟩ := He.ba h
  exact ⟨⟨oexB_ok h1, He.eqO_ok h2, of_decide_eq_true h3, of_decide_eq_true h4, h5⟩, He.eqO_ok h6, of_decide_eq_true h7, He.eqO_ok h8, of_decide_eq_true h9⟩
def spTL (K : PySem.W.Frag) : Sp := fun vs H Q _ => ∃ a x, vs = [.ref a, x] ∧ H a = some (exo a (cT K) none) ∧ ∀ dx, H dx = none → dx ≠ a → Q .non (upd (upd H dx (exd dx [("limit", x)])) a (exo a (cT K) (some dx)))
abbrev N_TooLarge_init : List Str := ["self", "limit"]
abbrev P_TooLarge_init : List Str := ["self", "limit"]
theorem sc_TooLarge_init : FnScope N_TooLarge_init P_TooLarge_init d_TooLarge_init.scope := ⟨rfl, rfl, rfl, by decide +kernel, rfl, by decide +kernel, by decide +kernel⟩
theorem b_TooLarge_init (kV doc pm : Value) (an : Option Addr) (cdv ct : Value) (us : List Value) (hl : us.length = P_TooLarge_init.length) : bindArgs (PySem.W.fnOf d_TooLarge_init.name d_TooLarge_init.qual d_TooLarge_init.params d_TooLarge_init.body d_TooLarge_init.scope .none kV doc pm an cdv ct) ⟨us, []⟩ = pure (P_TooLarge_init.zip us) := match us, hl with
  | [_, _], _ => rfl
theorem c_TooLarge_init (W : Wf w K mg) : Dok P w K mg base 1 (He.ma K (cT K) "__init__") P_TooLarge_init (spTL K) := by
  have nd := sc_TooLarge_init.nd
  refine W.fnOk (d := d_TooLarge_init) (N := N_TooLarge_init) (ps := P_TooLarge_init) 0 rfl sc_TooLarge_init b_TooLarge_init ?_ ?_
  rotate_left
  · intro f cdv A outer s H vs Q E hr hs
    refine ⟨_, (pss_one (ps_ost (pv 0) (pv 1))), ?_⟩
    obtain ⟨a, x, rfl, ha, hq⟩ := hs
    exact ⟨_, rfl, _, rfl, a, cT K, rfl, W.low.T, W.low.no, .inl ⟨ha, hq⟩⟩
  · rintro vs H Q E ⟨a, x, rfl, _⟩
    rfl
def absI (x : Int) : Int := if x < 0 then -x else x
theorem fold_max (l : List Int) : ∀ a : Int, a ≤ l.foldl max a ∧ (∀ y ∈ l, y ≤ l.foldl max a) ∧ (l.foldl max a = a ∨ l.foldl max a ∈ l) := by
  induction l with
  | nil => exact fun a => ⟨Int.le_refl a, fun y h => (List.not_mem_nil h).elim, .inl rfl⟩
  | cons b l ih =>
    intro a
    obtain ⟨h1, h2, h3⟩ := ih (max a b)
    rw [List.foldl_cons]
    refine ⟨by omega, fun y hy => ?_, ?_⟩
    · rcases List.mem_cons.mp hy with rfl | hy
      · omega
      · exact h2 y hy
    · rcases h3 with h3 | h3
      · rw [h3]
        rcases Int.le_total a b with h | h
        · exact .inr (by rw [Int.max_eq_right h]; exact List.mem_cons_self)
        · exact .inl (Int.max_eq_left h)
      · exact .inr (List.mem_cons_of_mem _ h3)
def maxA (ws : List Int) : Int := (ws.map absI).foldl max 0
theorem absI_nn (x : Int) : 0 ≤ absI x := by
  unfold absI
  split <;> omega
theorem maxA_eq {ws : List Int} {m : Int} (hm : m ∈ ws.map absI) (h : ∀ y ∈ ws.map absI, y ≤ m) : m = maxA ws := by
  obtain ⟨h1, h2, h3⟩ := fold_max (ws.map absI) 0
  have e1 := h2 m hm
  have e0 : 0 ≤ m := by
    obtain ⟨x, _, rfl⟩ := List.mem_map.mp hm
    exact absI_nn x
  unfold maxA
  rcases h3 with h3 | h3
  · omega
  · have := h _ h3
    omega
def spX {α : Type} (K : PySem.W.Frag) (args : α → List SV) (pre : α → Prop) (post : α → SV → Prop) : Sp := fun vs H Q E => ∃ a, RRL Fm.pure H H vs (args a) ∧ pre a ∧ (∀ v H' r, Kp Fm.pure H H' → RRep Fm.pure H H' v r → post a r → Q v H') ∧ ∀ d H', Kp Fm.pure H H' → E (.ref (cT K)) (some d) H'
def PReq (a : Flw × List Int) (r : SV) : Prop := (∃ (k : Int) (hs : List Int) (rg : D), r = .d (.tup [.int k, tI hs, rg]) ∧ 1 ≤ k ∧ k ≤ 6 ∧ Good a.1 (a.2.map (· * k)) hs ∧ ∀ x ∈ a.2, -60 ≤ x * k ∧ x * k ≤ 60) ∨ ∃ rg, r = .d (.tup [.non, .non, rg])
def spRF (K : PySem.W.Frag) : Sp := spX K (fun a : Flw × List Int => [.d (flowD a.1), .d (tI a.2)]) (fun a => VFlow a.1 ∧ VWts a.1.1 a.2) PReq
abbrev N_require_factor : List Str := ["flow", "weights", "found", "item"]
abbrev P_require_factor : List Str := ["flow", "weights"]
theorem sc_require_factor : FnScope N_require_factor P_require_factor d_require_factor.scope := ⟨rfl, rfl, rfl, by decide +kernel, rfl, by decide +kernel, by decide +kernel⟩
theorem b_require_factor (kV doc pm : Value) (an : Option Addr) (cdv ct : Value) (us : List Value) (hl : us.length = P_require_factor.length) : bindArgs (PySem.W.fnOf d_require_factor.name d_require_factor.qual d_require_factor.params d_require_factor.body d_require_factor.scope .none kV doc pm an cdv ct) ⟨us, []⟩ = pure (P_require_factor.zip us) := match us, hl with
  | [_, _], _ => rfl
theorem d_require (W : Wf w K mg) : DokX P w K mg base 6 (He.fAd K d_require_factor.at_) P_require_factor (spRF K) := by
  obtain ⟨fdT, gT, _, bT⟩ := c_TooLarge_init (P := P) (w := w) (base := base) W
  have nd := sc_require_factor.nd
  refine W.fnOkX (d := d_require_factor) (N := N_require_factor) (ps := P_require_factor) 55 rfl sc_require_factor b_require_factor ?_ ?_
  rotate_left
  · intro f cdv A outer s H vs Q E hr hs
    refine ⟨_, (pss_cons (ps_expr (pe_cal (c_require_weights W) (hr.mono (by decide)) rfl (pa_cons (pv 0) (pa_cons (pv 1) pa_nil)))) (pss_cons (ps_set (i := 2) nd rfl (Or.inl rfl) (pe_cal (c_factor_for W) (hr.mono (by decide)) rfl (pa_cons (pv 0) (pa_cons (pv 1) pa_nil)))) (pss_cons (ps_if (PW.pt (pw_and (pt_cmpR k_notN (pe_ix (k_ixT (K := K) rfl) (pv 2) pe_int (fun _ _ => rfl)) pe_non (nomark _)) (pw_and1 (pt_cmpR op_gt (pe_op op_mul (pe_callB (k_maxL (K := K) rfl rfl) rfl (W.free 75 rfl) (by decide +kernel) (pa_cons (pe_lc (own := [("item", 3)]) (tt := tYes) rfl nd (k_piT (K := K) rfl (pv 1)) (blkOk_by (N := N_require_factor) (sc := d_require_factor.scope) (by decide +kernel)) (fun _ _ _ _ _ => (pg_name (i := 3) nd rfl (Or.inl rfl))) (fun _ _ _ _ _ => pts_nil) (fun _ _ _ _ _ => (pe_callB k_abs rfl (W.free 67 rfl) (by decide +kernel) (pa_cons (pv 3) pa_nil)))) pa_nil)) (pe_ix (k_ixT (K := K) rfl) (pv 2) pe_int (fun _ _ => rfl))) (pe_gint (W.int 90 rfl) rfl) (nomark _))))) (pss_one (ps_raise rfl (takes_of rfl rfl rfl rfl) (pmk_oex W.low.T W.low.iC W.low.tI gT (hr.mono (by decide)) bT .nil pass0 rfl (W.glo 113 rfl) (pa_cons (pe_gint (W.int 90 rfl) rfl) pa_nil)))) pss_nil) (pss_one (ps_ret (pv 2)))))), ?_⟩
    obtain ⟨⟨f, ws⟩, rr, ⟨v, h⟩, hq, he⟩ := hs
    obtain ⟨P0, s0⟩ := ste_start (N := N_require_factor) rr trivial
    refine sd_drop (N := (· = sta N_require_factor.length [.d (flowD f), .d (tI ws)])) (R := fun _ => False) (ev_fnA (f, ws) (ea_cons ev_var (ea_cons ev_var ea_nil)) ⟨v, h⟩ fun r e => e) rfl H P0 _ H _ s0 (fun P1 σ1 H1 ds1 hP1 s1 e1 => ?_) fun v' H' r _ _ _ h => h.elim
    subst e1
    refine sd_set (N := fun d => ∃ r, d = [some (.d (flowD f)), some (.d (tI ws)), some r, none] ∧ PFactor (f, ws) r) (R := fun _ => False) (ev_fnAG (φ := PFactor (f, ws)) (f, ws) (ea_cons ev_var (ea_cons ev_var ea_nil)) ⟨v, h⟩ fun z p => ⟨p, by rcases p with ⟨_, _, _, e, _⟩ | ⟨_, e⟩ <;> rw [e] <;> trivial⟩) (fun r p => ⟨by rcases p with ⟨_, _, _, e, _⟩ | ⟨_, e⟩ <;> rw [e] <;> trivial, r, rfl, p⟩) H P1 σ1 H1 _ s1 (fun P2 σ2 H2 ds2 hP2 s2 e2 => ?_) fun v' H' r _ _ _ h => h.elim
    obtain ⟨r, rfl, p⟩ := e2
    rcases p with ⟨k, hs, rg, rfl, k1, k6, g⟩ | ⟨rg, rfl⟩
    · refine et_testD (ev_op (ev_op ev_var ev_ci (ro_ixT rfl)) ev_cn ro_notN) H P2 σ2 H2 s2 _ fun b H3 k3 _ e3 => ?_
      subst e3
      refine iteT ?_
      have s3 := s2.mono k3 trivial
      refine et_testD (b := decide (maxA ws * k > 60)) (ev_op (ev_op ((ev_call_b (ea_cons (ev_lcM (zs := ws) .int (fun x => .int (absI x)) int_inj (src_tup ev_var) (lt_line (h.fit v).1) fun z hz => ⟨_, _, tg_nm, by decide, ev_call_b (ea_cons ev_var ea_nil) rcl_abs⟩) ea_nil) (rcl_maxL (ns := ws.map absI) (.inl (by rw [List.map_map]; rfl)) ?_)).imp fun z hz => ?_) (ev_op ev_var ev_ci (ro_ixT rfl)) (ro_i (.inr ?_))) ev_ci ro_b0) H P2 σ2 H3 s3 _ fun b H4 k4 _ e4 => ?_
      · rw [List.length_map]
        have h1 : (ws.length : Int) = f.1 := h.1
        have h2 : f.1 = 2 ∨ f.1 = 3 := v.dims
        rcases h2 with e | e <;> omega
      · obtain ⟨m, e, hm, ha⟩ := hz
        rw [e, maxA_eq hm ha]
      · subst e4
        have s4 := s3.mono k4 trivial
        by_cases hb : maxA ws * k > 60
        · rw [decide_eq_true hb]
          refine iteT ?_
          refine ⟨(by show 1 ≤ 1000; decide), fun a ha => ?_⟩
          refine ⟨a, .int 60, rfl, upd_same, fun dx hdx hne => ⟨rfl, dx, [("limit", .int 60)], upd_same, ?_, ?_, ?_⟩⟩
          · rw [upd_ne hne]
            exact upd_same
          · rw [upd_ne hne] at hdx
            exact hdx
          · refine he _ _ fun b o _ hbo => ?_
            have hb4 := s4.kp b o (fun h => h) hbo
            have n1 : b ≠ a := ne_of_none hb4 ha
            rw [upd_ne hne] at hdx
            have n2 : b ≠ dx := ne_of_none hb4 hdx
            rw [upd_ne n2, del_ne n1, upd_ne n1, upd_ne n2, upd_ne n1]
            exact hb4
        · rw [decide_eq_false hb]
          refine iteF ?_
          refine sd_ret (N := fun _ => False) (φ := (· = .d (.tup [.int k, tI hs, rg]))) ev_var (fun r e => e) H P2 σ2 H4 _ s4 (fun _ _ _ _ _ _ h => h.elim) fun v' H' r kk _ rr e => hq v' H' r kk rr (.inl ⟨k, hs, rg, e, k1, k6, g, fun x hx => ?_⟩)
          have hx2 := (fold_max (ws.map absI) 0).2.1 _ (List.mem_map.mpr ⟨x, hx, rfl⟩)
          have hx3 : absI x ≤ maxA ws := hx2
          have hx4 : absI x * k ≤ 60 := Int.le_trans (Int.mul_le_mul_of_nonneg_right hx3 (by omega)) (by omega)
          unfold absI at hx4
          split at hx4
          · rw [Int.neg_mul] at hx4
            have : x * k ≤ 0 := Int.mul_nonpos_of_nonpos_of_nonneg (by omega) (by omega)
            omega
          · have : 0 ≤ x * k := Int.mul_nonneg (by omega) (by omega)
            omega
      · exact ⟨by omega, by omega⟩
    · refine et_testD (ev_op (ev_op ev_var ev_ci (ro_ixT rfl)) ev_cn ro_notN) H P2 σ2 H2 s2 _ fun b H3 k3 _ e3 => ?_
      subst e3
      refine iteF ?_
      refine iteF ?_
      exact sd_ret (N := fun _ => False) (φ := (· = .d (.tup [.non, .non, rg]))) ev_var (fun r e => e) H P2 σ2 H3 _ (s2.mono k3 trivial) (fun _ _ _ _ _ _ h => h.elim) fun v' H' r k _ rr e => hq v' H' r k rr (.inr ⟨rg, e⟩)
  · rintro vs H Q E ⟨a, rr, _⟩
    exact rr.length
end
end Wb
/-! WbY7 -/
set_option maxHeartbeats 4000000
namespace Wb
open PySem PySem.Spec PyProof.Rows L2
section
variable {P : Program} {w : World} {K : PySem.W.Frag} {mg : Str → Option Value} {base : Heap}
def PFind (a : Flw × List Int) (r : SV) : Prop := (∃ (k : Int) (hs : List Int) (rg : D), r = .d (.tup [.str "factor", .int k, tI hs, rg]) ∧ 1 ≤ k ∧ k ≤ 6 ∧ Good a.1 (a.2.map (· * k)) hs ∧ ∀ x ∈ a.2, -60 ≤ x * k ∧ x * k ≤ 60) ∨ ∃ rg, r = .d (.tup [.str "never", rg])
theorem ev_ifT {F : Fm} {ds : Ds} {φ : SV → Prop} {ta tb : TE} {t : TT} (ht : EvT F t ds (· = true)) (ha : Ev F ta ds φ) : Ev F (tIf t ta tb) ds φ := ev_if ht (fun _ => ha) fun e => nomatch e
theorem ev_ifF {F : Fm} {ds : Ds} {φ : SV → Prop} {ta tb : TE} {t : TT} (ht : EvT F t ds (· = false)) (hb : Ev F tb ds φ) : Ev F (tIf t ta tb) ds φ := ev_if ht (fun e => nomatch e) fun _ => hb
abbrev N_find_factor : List Str := ["flow", "weights", "factor", "starts", "ring"]
abbrev P_find_factor : List Str := ["flow", "weights"]
theorem sc_find_factor : FnScope N_find_factor P_find_factor d_find_factor.scope := ⟨rfl, rfl, rfl, by decide +kernel, rfl, by decide +kernel, by decide +kernel⟩
theorem b_find_factor (kV doc pm : Value) (an : Option Addr) (cdv ct : Value) (us : List Value) (hl : us.length = P_find_factor.length) : bindArgs (PySem.W.fnOf d_find_factor.name d_find_factor.qual d_find_factor.params d_find_factor.body d_find_factor.scope .none kV doc pm an cdv ct) ⟨us, []⟩ = pure (P_find_factor.zip us) := match us, hl with
  | [_, _], _ => rfl
theorem d_find (W : Wf w K mg) : DokX P w K mg base 7 (He.fAd K d_find_factor.at_) P_find_factor (spX K (fun a : Flw × List Int => [.d (flowD a.1), .d (tI a.2)]) (fun a => VFlow a.1 ∧ VWts a.1.1 a.2) PFind) := by
  obtain ⟨fdR, gR, kR, bR⟩ := d_require (P := P) (w := w) (base := base) W
  have nd := sc_find_factor.nd
  refine W.fnOkX (d := d_find_factor) (N := N_find_factor) (ps := P_find_factor) 56 rfl sc_find_factor b_find_factor ?_ ?_
  rotate_left
  · intro f cdv A outer s H vs Q E hr hs
    refine ⟨_, (pss_cons (ps_asg (pe_callS gR (hr.mono (by decide)) rfl (W.glo 48 rfl) kR bR (fun σ => passAt (takes_of rfl rfl rfl rfl) σ) (pa_cons (pv 0) (pa_cons (pv 1) pa_nil))) (k_pg (K := K) (n := 3) rfl rfl (pgs_cons (pg_name (i := 2) nd rfl (Or.inl rfl)) (pgs_cons (pg_name (i := 3) nd rfl (Or.inl rfl)) (pgs_cons (pg_name (i := 4) nd rfl (Or.inl rfl)) pgs_nil))))) (pss_one (ps_ret (pe_ifExp (pt_cmpR k_isN (pv 2) pe_non (nomark _)) (pe_tup (pa_cons pe_str (pa_cons (pv 4) pa_nil))) (pe_tup (pa_cons pe_str (pa_cons (pv 2) (pa_cons (pv 3) (pa_cons (pv 4) pa_nil))))))))), ?_⟩
    obtain ⟨⟨f, ws⟩, rr, ⟨v, h⟩, hq, he⟩ := hs
    obtain ⟨P0, s0⟩ := ste_start (N := N_find_factor) rr trivial
    unfold tSeq tAsg tCallS
    refine (show EvA Fm.pure (tCons (tVar 0) (tCons (tVar 1) tNil)) (sta N_find_factor.length [.d (flowD f), .d (tI ws)]) (· = [.d (flowD f), .d (tI ws)]) from ea_cons ev_var (ea_cons ev_var ea_nil)) H P0 _ H s0 _ fun vs1 H1 as k1 _ r1 e1 => ?_
    subst e1
    refine ⟨(f, ws), (r1.args trivial).toPure, ⟨v, h⟩, fun u H2 r k2 r2 p2 => ?_, fun d H2 k2 => he d H2 (k1.trans k2)⟩
    rcases p2 with ⟨k, hs, rg, rfl, k1', k6, g, hx⟩ | ⟨rg, rfl⟩
    · refine tg_tup (ds := sta N_find_factor.length [.d (flowD f), .d (tI ws)]) (tgs_cons tg_nm (tgs_cons tg_nm (tgs_cons tg_nm tgs_nil))) rfl Fm.pure H P0 _ H2 u _ (s0.mono (k1.trans k2) trivial) r2 fun σ3 s3 _ _ => ?_
      refine sd_ret (N := fun _ => False) (φ := (· = .d (.tup [.str "factor", .int k, tI hs, rg]))) (ev_ifF (et_is (et_testD (ev_op ev_var ev_cn ro_isN)) rfl) (ev_tup [.str "factor", .int k, tI hs, rg] (ea_cons ev_cs (ea_cons ev_var (ea_cons ev_var (ea_cons ev_var ea_nil)))))) (fun r e => e) H P0 σ3 H2 _ s3 (fun _ _ _ _ _ _ h => h.elim) fun v' H' r k' _ rr e => ?_
      exact hq v' H' r k' rr (.inl ⟨k, hs, rg, e, k1', k6, g, hx⟩)
    · refine tg_tup (ds := sta N_find_factor.length [.d (flowD f), .d (tI ws)]) (tgs_cons tg_nm (tgs_cons tg_nm (tgs_cons tg_nm tgs_nil))) rfl Fm.pure H P0 _ H2 u _ (s0.mono (k1.trans k2) trivial) r2 fun σ3 s3 _ _ => ?_
      refine sd_ret (N := fun _ => False) (φ := (· = .d (.tup [.str "never", rg]))) (ev_ifT (et_is (et_testD (ev_op ev_var ev_cn ro_isN)) rfl) (ev_tup [.str "never", rg] (ea_cons ev_cs (ea_cons ev_var ea_nil)))) (fun r e => e) H P0 σ3 H2 _ s3 (fun _ _ _ _ _ _ h => h.elim) fun v' H' r k' _ rr e => ?_
      exact hq v' H' r k' rr (.inr ⟨rg, e⟩)
  · rintro vs H Q E ⟨a, rr, _⟩
    exact rr.length
def PSlow (a : Flw × List Int) (r : SV) : Prop := r = .d .non ∨ ∃ ws hs, r = .d (.tup [tI ws, tI hs]) ∧ VWts a.1.1 ws ∧ Good a.1 ws hs
abbrev N__law_slowed : List Str := ["_law_flow", "_law_weights_here", "_law_found", "_law_item"]
abbrev P__law_slowed : List Str := ["_law_flow", "_law_weights_here"]
theorem sc__law_slowed : FnScope N__law_slowed P__law_slowed d__law_slowed.scope := ⟨rfl, rfl, rfl, by decide +kernel, rfl, by decide +kernel, by decide +kernel⟩
theorem b__law_slowed (kV doc pm : Value) (an : Option Addr) (cdv ct : Value) (us : List Value) (hl : us.length = P__law_slowed.length) : bindArgs (PySem.W.fnOf d__law_slowed.name d__law_slowed.qual d__law_slowed.params d__law_slowed.body d__law_slowed.scope .none kV doc pm an cdv ct) ⟨us, []⟩ = pure (P__law_slowed.zip us) := match us, hl with
  | [_, _], _ => rfl
theorem w_law_slowed (W : Wf w K mg) : Dok P w K mg base 8 (He.fAd K d__law_slowed.at_) P__law_slowed (spA Fm.pure (fun a : Flw × List Int => [.d (flowD a.1), .d (tI a.2)]) (fun a => VFlow a.1 ∧ VWts a.1.1 a.2) PSlow) := by
  obtain ⟨fdF, gF, kF, bF⟩ := d_find (P := P) (w := w) (base := base) W
  have nd := sc__law_slowed.nd
  refine W.fnOk (d := d__law_slowed) (N := N__law_slowed) (ps := P__law_slowed) 73 rfl sc__law_slowed b__law_slowed ?_ ?_
  rotate_left
  · intro f cdv A outer s H vs Q E hr hs
    refine ⟨_, (pss_cons (ps_try_only (Wout := fun _ _ _ _ => False) (tb := fun W => tAsg (tCallS (spX K (fun a : Flw × List Int => [.d (flowD a.1), .d (tI a.2)]) (fun a => VFlow a.1 ∧ VWts a.1.1 a.2) PFind) (WE W) (tCons (tVar 0) (tCons (tVar 1) tNil))) (gName 2)) (ts := fun _ _ _ => tRet (tC .non)) rfl rfl ⟨rfl, by decide, .inl (W.glo 113 rfl)⟩ takes0 (fun W1 pn xe tk _ => pss_one (ps_set (i := 2) nd rfl (Or.inr rfl) (pe_callS gF (hr.mono (by decide)) rfl (W.glo 49 rfl) kF bF (fun σ => passAt tk σ) (pa_cons (pv 0) (pa_cons (pv 1) pa_nil))))) (fun a oe cls d pn _ _ => pss_one (ps_ret pe_non))) (pss_cons (ps_if (pt_cmpR op_eq (pe_ix (k_ixT (K := K) rfl) (pv 2) pe_int (fun _ _ => rfl)) pe_str (nomark _)) (pss_one (ps_ret pe_non)) pss_nil) (pss_one (ps_ret (pe_tup (pa_cons (pe_callTy (k_tuple (K := K) rfl) rfl (W.free 82 rfl) (by decide +kernel) (pa_cons (pe_lc (own := [("_law_item", 3)]) (tt := tYes) rfl nd (k_piT (K := K) rfl (pv 1)) (blkOk_by (N := N__law_slowed) (sc := d__law_slowed.scope) (by decide +kernel)) (fun _ _ _ _ _ => (pg_name (i := 3) nd rfl (Or.inl rfl))) (fun _ _ _ _ _ => pts_nil) (fun _ _ _ _ _ => (pe_op op_mul (pe_ix (k_ixT (K := K) rfl) (pv 2) pe_int (fun _ _ => rfl)) (pv 3)))) pa_nil)) (pa_cons (pe_ix (k_ixT (K := K) rfl) (pv 2) pe_int (fun _ _ => rfl)) pa_nil))))))), ?_⟩
    obtain ⟨⟨f, ws⟩, rr, _, ⟨v, h⟩, hq⟩ := hs
    obtain ⟨P0, s0⟩ := ste_start (N := N__law_slowed) rr trivial
    unfold tSeq tAsg tCallS
    refine (show EvA Fm.pure (tCons (tVar 0) (tCons (tVar 1) tNil)) (sta N__law_slowed.length [.d (flowD f), .d (tI ws)]) (· = [.d (flowD f), .d (tI ws)]) from ea_cons ev_var (ea_cons ev_var ea_nil)) H P0 _ H s0 _ fun vs1 H1 as k1 _ r1 e1 => ?_
    subst e1
    refine ⟨(f, ws), (r1.args trivial).toPure, ⟨v, h⟩, fun u H2 r k2 r2 p2 => ?_, fun d H2 k2 => ⟨true, W.low.te, fun _ a ha => hq .non H2 (.d .non) (k1.trans k2) trivial .non (.inl rfl), fun q => Bool.noConfusion q⟩⟩
    rcases p2 with ⟨k, hs, rg, rfl, k1', k6, g, hx⟩ | ⟨rg, rfl⟩
    · refine tg_nm (ds := sta N__law_slowed.length [.d (flowD f), .d (tI ws)]) Fm.pure H P0 _ H2 u _ (s0.mono (k1.trans k2) trivial) r2 fun σ3 s3 _ _ => ?_
      refine sd_seqE (N := fun _ => False) (R := (· = .d (.tup [tI (ws.map (· * k)), tI hs]))) (ds1 := _) (sd_ifF (et_is (et_testD (ev_op (ev_op ev_var ev_ci (ro_ixT rfl)) ev_cs (ro_eq rfl rfl rfl))) (by decide +kernel)) (sd_next rfl)) (sd_ret (ev_tup [tI (ws.map (· * k)), tI hs] (ea_cons (ev_is (ev_call_b (ea_cons (ev_lcM (zs := ws) .int (fun x => .int (k * x)) int_inj (src_tup ev_var) (lt_line (h.fit v).1) fun z hz => ⟨_, _, tg_nm, by decide, ev_op (ev_op ev_var ev_ci (ro_ixT rfl)) ev_var (ro_i (.inl ?_))⟩) ea_nil) (rcl_tuple (.own _))) ?_) (ea_cons (ev_op ev_var ev_ci (ro_ixT rfl)) ea_nil))) fun r e => e) H P0 σ3 H2 _ s3 (fun _ _ _ _ _ _ h => h.elim) fun v' H' r k' _ rr e => ?_
      · unfold tI
        rw [List.map_map]
        congr 3
        funext x
        exact congrArg D.int (Int.mul_comm k x)
      · refine hq v' H' r k' trivial rr (.inr ⟨_, _, e, ⟨?_, fun x hm => ?_⟩, g⟩)
        · rw [List.length_map]
          exact h.1
        · obtain ⟨y, hy, rfl⟩ := List.mem_map.mp hm
          exact hx y hy
      · exact ⟨by omega, by omega⟩
    · refine tg_nm (ds := sta N__law_slowed.length [.d (flowD f), .d (tI ws)]) Fm.pure H P0 _ H2 u _ (s0.mono (k1.trans k2) trivial) r2 fun σ3 s3 _ _ => ?_
      refine sd_seq (M := fun _ => False) (N := fun _ => False) (R := (· = .d .non)) (sd_ifT (et_is (et_testD (ev_op (ev_op ev_var ev_ci (ro_ixT rfl)) ev_cs (ro_eq rfl rfl rfl))) (by decide +kernel)) (sd_ret ev_cn fun r e => e)) (fun _ h => h.elim) H P0 σ3 H2 _ s3 (fun _ _ _ _ _ _ h => h.elim) fun v' H' r k' _ rr e => ?_
      exact hq v' H' r k' trivial rr (.inl e)
  · rintro vs H Q E ⟨a, rr, _⟩
    exact rr.length
end
end Wb
/-! WbY8 -/
set_option maxHeartbeats 4000000
namespace Wb
open PySem PySem.Spec PyProof.Rows L2
section
variable {P : Program} {w : World} {K : PySem.W.Frag} {mg : Str → Option Value} {base : Heap}
theorem dot_low : ∀ {ws ds : List Int}, (∀ x ∈ ws, -60 ≤ x ∧ x ≤ 60) → (∀ d ∈ ds, -4 ≤ d ∧ d ≤ 4) → -(240 * (ws.length : Int)) ≤ dotI ws ds
  | [], ds, _, _ => by
    show -(240 * ((0 : Nat) : Int)) ≤ (0 : Int)
    omega
  | a :: ws, [], _, _ => by
    show -(240 * (((a :: ws).length : Nat) : Int)) ≤ (0 : Int)
    omega
  | a :: ws, b :: ds, h1, h2 => by
    have ih := dot_low (ws := ws) (ds := ds) (fun x hx => h1 x (List.mem_cons_of_mem _ hx)) fun x hx => h2 x (List.mem_cons_of_mem _ hx)
    have ha := h1 a List.mem_cons_self
    have hb := h2 b List.mem_cons_self
    have e : dotI (a :: ws) (b :: ds) = a * b + dotI ws ds := by
      unfold dotI
      rw [List.zip_cons_cons, List.map_cons, List.sum_cons]
    rw [e, List.length_cons]
    have hab : -240 ≤ a * b := by
      have : b = -4 ∨ b = -3 ∨ b = -2 ∨ b = -1 ∨ b = 0 ∨ b = 1 ∨ b = 2 ∨ b = 3 ∨ b = 4 := by omega
      rcases this with rfl | rfl | rfl | rfl | rfl | rfl | rfl | rfl | rfl <;> omega
    omega
/-- starts that serve are beats -/
theorem good_beats {f : Flw} {ws hs : List Int} (v : VFlow f) (h : VWts f.1 ws) (g : Good f ws hs) : VBeats f (ws, hs) where
  wts := h
  many := g.len
  near := fun x hx => by
    have h0 := g.pos x hx
    have ht := g.top 721 (by omega) (fun r hr => by
      have hd := dot_low h.2 (v.row hr).near
      have h3 := h.1
      have h4 := v.dims3
      omega) x hx
    have h6 := v.n6
    have : (f.2.length : Int) * 721 ≤ 6 * 721 := by omega
    constructor <;> omega
  delays := fun r hr => by
    have := g.arc r hr
    unfold delayI stI
    dsimp only
    omega
end
end Wb
/-! WbY9 -/
set_option maxHeartbeats 4000000
namespace Wb
open PySem PySem.Spec PyProof.Rows L2
section
variable {P : Program} {w : World} {K : PySem.W.Frag} {mg : Str → Option Value} {base : Heap}
abbrev cB (K : PySem.W.Frag) : Addr := He.ga K "Beats"
abbrev cF (K : PySem.W.Frag) : Addr := He.ga K "Flow"
def spBN (K : PySem.W.Frag) : Sp := fun vs H Q _ => ∃ x dx v1 v2 f t, vs = [.ref x, v1, v2] ∧ H x = some (.ins (cB K) dx []) ∧ Rep H v1 (flowD f) ∧ Rep H v2 (timD t) ∧ VFlow f ∧ VBeats f t ∧
  ∀ H', (∀ y u, H y = some u → y ≠ x → H' y = some u) → H' x = some (.ins (cB K) dx [("own_flow", v1), ("own_value", v2)]) → Q .non H'
abbrev N_Beats_init : List Str := ["self", "flow", "value", "error"]
abbrev P_Beats_init : List Str := ["self", "flow", "value"]
theorem sc_Beats_init : FnScope N_Beats_init P_Beats_init d_Beats_init.scope := ⟨rfl, rfl, rfl, by decide +kernel, rfl, by decide +kernel, by decide +kernel⟩
theorem b_Beats_init (kV doc pm : Value) (an : Option Addr) (cdv ct : Value) (us : List Value) (hl : us.length = P_Beats_init.length) : bindArgs (PySem.W.fnOf d_Beats_init.name d_Beats_init.qual d_Beats_init.params d_Beats_init.body d_Beats_init.scope .none kV doc pm an cdv ct) ⟨us, []⟩ = pure (P_Beats_init.zip us) := match us, hl with
  | [_, _, _], _ => rfl
theorem c_Beats_init (W : Wf w K mg) : Dok P w K mg base 7 (He.ma K (cB K) "__init__") P_Beats_init (spBN K) := by
  have cl := W.cls (x := "Beats") 101 rfl
  have nd := sc_Beats_init.nd
  refine W.fnOk (d := d_Beats_init) (N := N_Beats_init) (ps := P_Beats_init) 58 rfl sc_Beats_init b_Beats_init ?_ ?_
  rotate_left
  · intro f cdv A outer s H vs Q E hr hs
    refine ⟨_, (pss_cons (ps_expr (pe_cal (c_require_flow W) (hr.mono (by decide)) rfl (pa_cons (pv 1) pa_nil))) (pss_cons (ps_set (i := 3) nd rfl (Or.inl rfl) (pe_cal (c_beats_error W) (hr.mono (by decide)) rfl (pa_cons (pv 1) (pa_cons (pv 2) pa_nil)))) (pss_cons (ps_if (pt_cmpR k_notN (pv 3) pe_non (nomark _)) (pss_never) pss_nil) (pss_cons (ps_fld (pv 0) (pv 1) rfl) (pss_one (ps_fld (pv 0) (pv 2) rfl)))))), ?_⟩
    obtain ⟨x, dx, v1, v2, f, t, rfl, hx, r1, r2, v, b, hq⟩ := hs
    have n1 := W.noat (x := "Beats") (f := "own_flow") 108 rfl
    have n2 := W.noat (x := "Beats") (f := "own_value") 109 rfl
    refine ⟨v1, rfl, f, .cons r1 .nil, trivial, v, fun u1 H1 z1 k1 _ _ _ => ?_⟩
    have s1 := Kp.pure_same k1
    have m1 : TSm H H1 := fun a us e => s1 _ _ e
    refine ⟨v1, rfl, v2, rfl, (f, t), .cons (r1.mono m1) (.cons (r2.mono m1) .nil), trivial, ⟨v, b⟩, fun u2 H2 z2 k2 _ rr2 e2 => ?_⟩
    subst e2
    cases rr2
    have s2 := Kp.pure_same k2
    refine ⟨_, rfl, rfl, ?_⟩
    refine ⟨_, rfl, ?_⟩
    refine iteF ?_
    have sh : ∀ y u, H y = some u → H2 y = some u := fun y u e => s2 _ _ (s1 _ _ e)
    refine ⟨_, rfl, _, rfl, x, cB K, dx, [], rfl, sh _ _ hx, cl, n1, by decide, ?_⟩
    refine ⟨_, rfl, _, rfl, x, cB K, dx, _, rfl, upd_same, cl, n2, (by show 1 < 1000; decide), ?_⟩
    refine hq _ (fun y u e ne => ?_) upd_same
    rw [upd_ne ne, upd_ne ne]
    exact sh _ _ e
  · rintro vs H Q E ⟨x, dx, v1, v2, f, t, rfl, _⟩
    rfl
def spFN (K : PySem.W.Frag) : Sp := fun vs H Q _ => ∃ x dx v1 f, vs = [.ref x, v1] ∧ H x = some (.ins (cF K) dx []) ∧ Rep H v1 (flowD f) ∧ VFlow f ∧
  ∀ H', (∀ y u, H y = some u → y ≠ x → H' y = some u) → H' x = some (.ins (cF K) dx [("held", v1)]) → Q .non H'
abbrev N_Flow_init : List Str := ["self", "value", "error"]
abbrev P_Flow_init : List Str := ["self", "value"]
theorem sc_Flow_init : FnScope N_Flow_init P_Flow_init d_Flow_init.scope := ⟨rfl, rfl, rfl, by decide +kernel, rfl, by decide +kernel, by decide +kernel⟩
theorem b_Flow_init (kV doc pm : Value) (an : Option Addr) (cdv ct : Value) (us : List Value) (hl : us.length = P_Flow_init.length) : bindArgs (PySem.W.fnOf d_Flow_init.name d_Flow_init.qual d_Flow_init.params d_Flow_init.body d_Flow_init.scope .none kV doc pm an cdv ct) ⟨us, []⟩ = pure (P_Flow_init.zip us) := match us, hl with
  | [_, _], _ => rfl
theorem c_Flow_init (W : Wf w K mg) : Dok P w K mg base 6 (He.ma K (cF K) "__init__") P_Flow_init (spFN K) := by
  have cl := W.cls (x := "Flow") 95 rfl
  have nd := sc_Flow_init.nd
  refine W.fnOk (d := d_Flow_init) (N := N_Flow_init) (ps := P_Flow_init) 41 rfl sc_Flow_init b_Flow_init ?_ ?_
  rotate_left
  · intro f cdv A outer s H vs Q E hr hs
    refine ⟨_, (pss_cons (ps_set (i := 2) nd rfl (Or.inl rfl) (pe_cal (c_flow_error W) (hr.mono (by decide)) rfl (pa_cons (pv 1) pa_nil))) (pss_cons (ps_if (pt_cmpR k_notN (pv 2) pe_non (nomark _)) (pss_never) pss_nil) (pss_one (ps_fld (pv 0) (pv 1) rfl)))), ?_⟩
    obtain ⟨x, dx, v1, f, rfl, hx, r1, v, hq⟩ := hs
    have n1 := W.noat (x := "Flow") (f := "held") 103 rfl
    refine ⟨v1, rfl, f, .cons r1 .nil, trivial, v, fun u2 H2 z2 k2 _ rr2 e2 => ?_⟩
    subst e2
    cases rr2
    have s2 := Kp.pure_same k2
    refine ⟨_, rfl, rfl, _, rfl, ?_⟩
    refine iteF ?_
    refine ⟨_, rfl, _, rfl, x, cF K, dx, [], rfl, s2 _ _ hx, cl, n1, by decide, ?_⟩
    refine hq _ (fun y u e ne => ?_) upd_same
    rw [upd_ne ne]
    exact s2 _ _ e
  · rintro vs H Q E ⟨x, dx, v1, f, rfl, _⟩
    rfl
/-! ### the properties of Beats -/
theorem g_fn (W : Wf w K mg) (i : Nat) {d : DefA} (h : (i = 0 ∧ d = g_weights) ∨ (i = 1 ∧ d = g_starts)) : ∃ fd, FunD K d.name d.qual d.params d.body d.scope [] [] (d.at_ K) fd := by
  have e : ga2 K = [g_weights.val, g_starts.val] := congrArg (fun z => z.2.2) W.says.2
  have e1 : fnA K (g_weights.at_ K) = g_weights.val := (List.cons.inj e).1
  have e2 : fnA K (g_starts.at_ K) = g_starts.val := (List.cons.inj (List.cons.inj e).2).1
  obtain ⟨_, q⟩ := He.ba W.exs.1
  obtain ⟨_, q⟩ := He.ba q
  obtain ⟨_, q⟩ := He.ba q
  obtain ⟨o1, q⟩ := He.ba q
  obtain ⟨o2, _⟩ := He.ba q
  rcases h with ⟨_, rfl⟩ | ⟨_, rfl⟩
  · exact DefA.funD e1 o1
  · exact DefA.funD e2 o2
theorem p_weights (W : Wf w K mg) : PropOf K (cB K) "weights" (prA "Beats" "weights" K) (prG "Beats" "weights" K) := by
  obtain ⟨_, q⟩ := He.ba W.exs.1
  obtain ⟨q1, _⟩ := He.ba q
  exact propB_ok q1
theorem p_starts (W : Wf w K mg) : PropOf K (cB K) "starts" (prA "Beats" "starts" K) (prG "Beats" "starts" K) := by
  obtain ⟨_, q⟩ := He.ba W.exs.1
  obtain ⟨_, q⟩ := He.ba q
  obtain ⟨q1, _⟩ := He.ba q
  exact propB_ok q1
def spGet (K : PySem.W.Frag) (sel : Tim → List Int) : Sp := fun vs H Q _ => ∃ a dx v1 v2 t, vs = [.ref a] ∧ H a = some (.ins (cB K) dx [("own_flow", v1), ("own_value", v2)]) ∧ Rep H v2 (timD t) ∧ ∀ u, Rep H u (tI (sel t)) → Q u H
theorem sc_gweights : FnScope ["self"] ["self"] g_weights.scope := ⟨rfl, rfl, rfl, by decide +kernel, rfl, by decide +kernel, by decide +kernel⟩
theorem b_gweights (kV doc pm : Value) (an : Option Addr) (cdv ct : Value) (us : List Value) (hl : us.length = (["self"] : List Str).length) : bindArgs (PySem.W.fnOf g_weights.name g_weights.qual g_weights.params g_weights.body g_weights.scope .none kV doc pm an cdv ct) ⟨us, []⟩ = pure ((["self"] : List Str).zip us) := match us, hl with
  | [_], _ => rfl
theorem fn_weights (W : Wf w K mg) : ∃ fd, FnOk P w K mg base CX0 1 (prG "Beats" "weights" K) fd ["self"] (spGet K Prod.fst) ∧ Binds K fd ["self"] [] := by
  obtain ⟨fd, FD⟩ := g_fn W 0 (d := g_weights) (by simp)
  have cl := W.cls (x := "Beats") 101 rfl
  have n2 := W.noat (x := "Beats") (f := "own_value") 109 rfl
  have S := sc_gweights
  have nd := S.nd
  refine ⟨fd, FD.ok S (fun vs H Q E h => ?_) fun cdv A outer s H vs Q E hr hs => ⟨_, pss_one (ps_ret (pe_ix (k_ixT (K := K) rfl) (pe_fld (pv 0) rfl) pe_int (fun _ _ => rfl))), ?_⟩, FD.bindsN b_gweights⟩
  · obtain ⟨a, dx, v1, v2, t, rfl, _⟩ := h
    rfl
  · obtain ⟨a, dx, v1, v2, t, rfl, ha, r, hq⟩ := hs
    cases r with
    | tup h1 rs =>
      cases rs with
      | cons q1 rs =>
        cases rs with
        | cons q2 rs =>
          cases rs
          exact ⟨_, rfl, a, cB K, dx, _, _, rfl, ha, cl, n2, rfl, _, _, 0, _, rfl, rfl, SqT.of h1, rfl, hq _ q1⟩
theorem sc_gstarts : FnScope ["self"] ["self"] g_starts.scope := ⟨rfl, rfl, rfl, by decide +kernel, rfl, by decide +kernel, by decide +kernel⟩
theorem b_gstarts (kV doc pm : Value) (an : Option Addr) (cdv ct : Value) (us : List Value) (hl : us.length = (["self"] : List Str).length) : bindArgs (PySem.W.fnOf g_starts.name g_starts.qual g_starts.params g_starts.body g_starts.scope .none kV doc pm an cdv ct) ⟨us, []⟩ = pure ((["self"] : List Str).zip us) := match us, hl with
  | [_], _ => rfl
theorem fn_starts (W : Wf w K mg) : ∃ fd, FnOk P w K mg base CX0 1 (prG "Beats" "starts" K) fd ["self"] (spGet K Prod.snd) ∧ Binds K fd ["self"] [] := by
  obtain ⟨fd, FD⟩ := g_fn W 1 (d := g_starts) (by simp)
  have cl := W.cls (x := "Beats") 101 rfl
  have n2 := W.noat (x := "Beats") (f := "own_value") 109 rfl
  have S := sc_gstarts
  have nd := S.nd
  refine ⟨fd, FD.ok S (fun vs H Q E h => ?_) fun cdv A outer s H vs Q E hr hs => ⟨_, pss_one (ps_ret (pe_ix (k_ixT (K := K) rfl) (pe_fld (pv 0) rfl) pe_int (fun _ _ => rfl))), ?_⟩, FD.bindsN b_gstarts⟩
  · obtain ⟨a, dx, v1, v2, t, rfl, _⟩ := h
    rfl
  · obtain ⟨a, dx, v1, v2, t, rfl, ha, r, hq⟩ := hs
    cases r with
    | tup h1 rs =>
      cases rs with
      | cons q1 rs =>
        cases rs with
        | cons q2 rs =>
          cases rs
          exact ⟨_, rfl, a, cB K, dx, _, _, rfl, ha, cl, n2, rfl, _, _, 1, _, rfl, rfl, SqT.of h1, rfl, hq _ q2⟩
/-- Beats(flow, beats).weights, .starts -/
theorem ev_bGet {F : Fm} {ds : Ds} {ta : TA} {f : Flw} {t : Tim} {sel : Tim → List Int} (h : EvA F ta ds (· = [.d (flowD f), .d (timD t)])) (v : VFlow f) (b : VBeats f t) : Ev F (tProp (cB K) (spGet K sel) [] E0 (tMake (cB K) (spBN K) [] E0 ta)) ds (· = .d (tI (sel t))) := fun H0 P σ H s Q q =>
  h H0 P σ H s _ fun vs H1 as k1 j1 r1 e1 => by
    subst e1
    cases r1 with
    | cons ra rs =>
      cases rs with
      | cons rb rs =>
        cases rs
        intro x dx hx hdx hne
        have kp1 : Same H1 (upd (upd H1 dx (.own x)) x (.ins (cB K) dx [])) := fun y u e => by
          rw [upd_ne (ne_of_none e hx), upd_ne (ne_of_none e hdx)]
          exact e
        have ra : Rep H1 _ (flowD f) := ra
        have rb : Rep H1 _ (timD t) := rb
        refine ⟨x, dx, _, _, f, t, rfl, upd_same, ra.mono fun a us e => kp1 _ _ e, rb.mono fun a us e => kp1 _ _ e, v, b, fun H' kp ho => ⟨rfl, x, dx, _, rfl, ho, x, dx, _, _, t, rfl, ho, ?_, fun u ru => ?_⟩⟩
        · exact rb.mono fun a us e => kp _ _ (kp1 _ _ e) (ne_of_none e hx)
        · have s1 : Same H1 H' := fun y u e => kp _ _ (kp1 _ _ e) (ne_of_none e hx)
          exact q u H' (.d (tI (sel t))) (k1.trans (Kp.same s1)) (F.same j1 s1) ru rfl
end
end Wb
/-! WbZ1 -/
set_option maxHeartbeats 4000000
namespace Wb
open PySem PySem.Spec PyProof.Rows L2
section
variable {P : Program} {w : World} {K : PySem.W.Frag} {mg : Str → Option Value} {base : Heap}
theorem sub_rng {xs ys : List Int} (h : xs.length = ys.length) : (rngI 0 xs.length).map (fun k => xs.getD k.toNat 0 - ys.getD k.toNat 0) = subI xs ys := by
  unfold rngI subI
  rw [List.map_map]
  refine List.ext_getElem (by simp [h]) fun i h1 h2 => ?_
  have hx : i < xs.length := by simpa using h1
  have hy : i < ys.length := by omega
  rw [List.getElem_map, List.getElem_map, List.getElem_zip, List.getElem_range]
  show xs.getD ((0 : Int) + (i : Int)).toNat 0 - ys.getD ((0 : Int) + (i : Int)).toNat 0 = xs[i] - ys[i]
  have e : ((0 : Int) + (i : Int)).toNat = i := by omega
  rw [e, List.getD_eq_getElem?_getD, List.getD_eq_getElem?_getD, List.getElem?_eq_getElem hx, List.getElem?_eq_getElem hy]
  rfl
theorem at_tI {xs : List Int} {k : Int} (h0 : 0 ≤ k) (h : k < xs.length) : atI (xs.map D.int) k = some (.int (xs.getD k.toNat 0)) := by
  refine at_map h0 ?_
  have hl : k.toNat < xs.length := by omega
  rw [List.getD_eq_getElem?_getD, List.getElem?_eq_getElem hl]
  rfl
theorem at_rng {xs : List Int} {k : Int} {n : Nat} (hk : k ∈ rngI 0 n) (e : n = xs.length) : atI (xs.map D.int) k = some (.int (xs.getD k.toNat 0)) := by
  obtain ⟨h1, h2⟩ := mem_rngI.mp hk
  exact at_tI h1 (by omega)
abbrev N__law_less : List Str := ["_law_one_here", "_law_other", "_law_k"]
abbrev P__law_less : List Str := ["_law_one_here", "_law_other"]
theorem sc__law_less : FnScope N__law_less P__law_less d__law_less.scope := ⟨rfl, rfl, rfl, by decide +kernel, rfl, by decide +kernel, by decide +kernel⟩
theorem b__law_less (kV doc pm : Value) (an : Option Addr) (cdv ct : Value) (us : List Value) (hl : us.length = P__law_less.length) : bindArgs (PySem.W.fnOf d__law_less.name d__law_less.qual d__law_less.params d__law_less.body d__law_less.scope .none kV doc pm an cdv ct) ⟨us, []⟩ = pure (P__law_less.zip us) := match us, hl with
  | [_, _], _ => rfl
theorem c__law_less (W : Wf w K mg) : Cal P w K mg base 1 "_law_less" P__law_less (spA Fm.pure (fun a : List Int × List Int => [.d (tI a.1), .d (tI a.2)]) (fun a => a.1.length = a.2.length ∧ a.1.length ≤ 1000) fun a r => r = .d (tI (subI a.1 a.2))) := by
  have nd := sc__law_less.nd
  refine W.calA (d := d__law_less) (N := N__law_less) 71 63 rfl rfl sc__law_less b__law_less ?_ ?_
  rotate_left
  · intro f cdv A outer s H E hr
    refine ⟨_, (pss_one (ps_ret (pe_callTy (k_tuple (K := K) rfl) rfl (W.free 82 rfl) (by decide +kernel) (pa_cons (pe_lc (own := [("_law_k", 2)]) (tt := tYes) rfl nd (pi_range1 rfl (W.free 77 rfl) (pa_cons (pe_callB (k_len (K := K) rfl) rfl (W.free 73 rfl) (by decide +kernel) (pa_cons (pv 0) pa_nil)) pa_nil)) (blkOk_by (N := N__law_less) (sc := d__law_less.scope) (by decide +kernel)) (fun _ _ _ _ _ => (pg_name (i := 2) nd rfl (Or.inl rfl))) (fun _ _ _ _ _ => pts_nil) (fun _ _ _ _ _ => (pe_op op_sub (pe_ix (k_ixT (K := K) rfl) (pv 0) (pv 2) (fun _ _ => rfl)) (pe_ix (k_ixT (K := K) rfl) (pv 1) (pv 2) (fun _ _ => rfl))))) pa_nil)))), ?_⟩
    rintro ⟨xs, ys⟩ ⟨e, hl⟩
    have e : xs.length = ys.length := e
    have hl : xs.length ≤ 1000 := hl
    refine sd_retE (ev_call_b (ea_cons (ev_lcM (zs := rngI 0 xs.length) .int (fun k => .int (xs.getD k.toNat 0 - ys.getD k.toNat 0)) int_inj (EvI.cast (ys := (rngI 0 xs.length).map .int) (src_rng1 (n := xs.length) (ea_cons (ev_is (ev_call_b (ea_cons ev_var ea_nil) (rcl_len (.tup _))) ?_) ea_nil) ?_) ?_) (lt_line (by rw [rngI_len]; exact Nat.le_trans hl (by decide))) fun k hk => ⟨_, _, tg_nm, by decide, ev_op (ev_op ev_var ev_var (ro_ixT (at_rng hk rfl))) (ev_op ev_var ev_var (ro_ixT (at_rng hk e))) ro_i0⟩) ea_nil) (rcl_tuple (.own _))) ?_
    · rw [List.length_map]
    · omega
    · rw [intsD_eq]
      rfl
    · show SV.d (.tup _) = SV.d (tI (subI xs ys))
      rw [← sub_rng e]
      unfold tI
      rw [List.map_map]
      rfl
  · intro a
    rfl
theorem getD_at {xs : List Int} {i : Nat} (h : i < xs.length) : xs.getD i 0 = xs[i] := by
  rw [List.getD_eq_getElem?_getD, List.getElem?_eq_getElem h]
  rfl
def outAt (sz v : List Int) (k : Int) : Bool := !(decide (0 ≤ v.getD k.toNat 0) && decide (v.getD k.toNat 0 < sz.getD k.toNat 0))
theorem inside_rng {sz v : List Int} (h : v.length = sz.length) : (((rngI 0 sz.length).filter (outAt sz v)).map D.int).isEmpty = inBox sz v := by
  rw [Bool.eq_iff_iff, List.isEmpty_iff, List.map_eq_nil_iff, List.filter_eq_nil_iff]
  unfold inBox
  rw [List.all_eq_true]
  constructor
  · intro hk p hp
    obtain ⟨i, hi, rfl⟩ := List.getElem_of_mem hp
    rw [List.length_zip] at hi
    have h1 : i < v.length := by omega
    have h2 : i < sz.length := by omega
    have := hk (i : Int) (mem_rngI.mpr ⟨by omega, by omega⟩)
    unfold outAt at this
    rw [Int.toNat_natCast, getD_at h1, getD_at h2] at this
    rw [List.getElem_zip]
    simpa using this
  · intro hp k hk
    obtain ⟨a, b⟩ := mem_rngI.mp hk
    have h1 : k.toNat < v.length := by omega
    have h2 : k.toNat < sz.length := by omega
    have hz : (v[k.toNat], sz[k.toNat]) ∈ List.zip v sz := by
      refine List.mem_of_getElem? (i := k.toNat) ?_
      rw [List.getElem?_eq_getElem (by rw [List.length_zip]; omega), List.getElem_zip]
    have := hp _ hz
    unfold outAt
    rw [getD_at h1, getD_at h2]
    simpa using this
abbrev N__law_inside : List Str := ["_law_sizes", "_law_vector_here", "_law_k"]
abbrev P__law_inside : List Str := ["_law_sizes", "_law_vector_here"]
theorem sc__law_inside : FnScope N__law_inside P__law_inside d__law_inside.scope := ⟨rfl, rfl, rfl, by decide +kernel, rfl, by decide +kernel, by decide +kernel⟩
theorem b__law_inside (kV doc pm : Value) (an : Option Addr) (cdv ct : Value) (us : List Value) (hl : us.length = P__law_inside.length) : bindArgs (PySem.W.fnOf d__law_inside.name d__law_inside.qual d__law_inside.params d__law_inside.body d__law_inside.scope .none kV doc pm an cdv ct) ⟨us, []⟩ = pure (P__law_inside.zip us) := match us, hl with
  | [_, _], _ => rfl
theorem c__law_inside (W : Wf w K mg) : Cal P w K mg base 1 "_law_inside" P__law_inside (spA Fm.pure (fun a : List Int × List Int => [.d (tI a.1), .d (tI a.2)]) (fun a => a.2.length = a.1.length ∧ a.1.length ≤ 1000) fun a r => r = .d (.bl (inBox a.1 a.2))) := by
  have nd := sc__law_inside.nd
  refine W.calA (d := d__law_inside) (N := N__law_inside) 70 62 rfl rfl sc__law_inside b__law_inside ?_ ?_
  rotate_left
  · intro f cdv A outer s H E hr
    refine ⟨_, (pss_one (ps_ret (pe_cmpR (k_eqD (K := K) rfl (hu64 hr)) (pe_lc (own := [("_law_k", 2)]) rfl nd (pi_range1 rfl (W.free 77 rfl) (pa_cons (pe_callB (k_len (K := K) rfl) rfl (W.free 73 rfl) (by decide +kernel) (pa_cons (pv 0) pa_nil)) pa_nil)) (blkOk_by (N := N__law_inside) (sc := d__law_inside.scope) (by decide +kernel)) (fun _ _ _ _ _ => (pg_name (i := 2) nd rfl (Or.inl rfl))) (fun _ _ _ _ _ => (pts_one (pt_not (pt_chain op_le op_lt pe_int (pe_ix (k_ixT (K := K) rfl) (pv 1) (pv 2) (fun _ _ => rfl)) (pe_ix (k_ixT (K := K) rfl) (pv 0) (pv 2) (fun _ _ => rfl)))))) (fun _ _ _ _ _ => (pv 2))) (pe_lst pa_nil) (nomark _)))), ?_⟩
    rintro ⟨sz, v⟩ ⟨e, hl⟩
    have e : v.length = sz.length := e
    have hl : sz.length ≤ 1000 := hl
    obtain ⟨inv, hinv⟩ := inv_of int_inj
    refine sd_retE (ev_op (ev_lcMIf (zs := rngI 0 sz.length) .int .int (outAt sz v) int_inj inv hinv (EvI.cast (ys := (rngI 0 sz.length).map .int) (src_rng1 (n := sz.length) (ea_cons (ev_is (ev_call_b (ea_cons ev_var ea_nil) (rcl_len (.tup _))) ?_) ea_nil) ?_) ?_) (lt_line (by rw [rngI_len]; exact Nat.le_trans hl (by decide))) fun k hk => ⟨_, _, tg_nm, by decide, et_is (et_not (et_testD (ev_chain ev_ci (ev_op ev_var ev_var (ro_ixT (at_rng hk e.symm))) (ev_op ev_var ev_var (ro_ixT (at_rng hk rfl)))))) rfl, fun _ => ev_var⟩) (ev_lst [] ea_nil) (ro_eqNil (.inl rfl) (plainDs_map fun _ _ => rfl) (Nat.lt_of_le_of_lt (depDs_map (n := 0) fun _ _ => Nat.le_refl 0) (by decide)))) ?_
    · rw [List.length_map]
    · omega
    · rw [intsD_eq]
      rfl
    · show SV.d (.bl _) = SV.d (.bl (inBox sz v))
      rw [inside_rng e]
  · intro a
    rfl
end
end Wb
/-! WbZ2 -/
set_option maxHeartbeats 4000000
namespace Wb
open PySem PySem.Spec PyProof.Rows L2
section
variable {F : Fm} {H0 H : Hp} {P : List Pn} {σ : L2.St} {ds : Ds} {N : Ds → Prop} {R : SV → Prop}
/-- an own list goes from slot j to slot i -/
theorem Ste.slide (s : Ste F H0 P σ H ds) {i j : Nat} {xs : List D} {p : Addr} (e : ds[j]? = some (some (.own xs))) (hp : σ[j]? = some (some (.ref p))) (hij : i ≠ j) : Ste F H0 P (σ.set i (some (.ref p))) H ((ds.set j none).set i (some (.own xs))) := by
  obtain ⟨v, h1, q, vs, rfl, h3, h4, h5, h6⟩ := s.env j _ e
  rw [hp] at h1
  cases h1
  have keyA : ∀ (a : Nat) (sv : SV), a ≠ i → ((ds.set j none).set i (some (.own xs)))[a]? = some (some sv) → a ≠ j ∧ ds[a]? = some (some sv) := fun a sv ha ea => by
    rw [List.getElem?_set_ne (Ne.symm ha)] at ea
    by_cases hj : a = j
    · subst hj
      by_cases hl : a < ds.length
      · rw [List.getElem?_set_self hl] at ea
        cases ea
      · rw [List.getElem?_eq_none (by rw [List.length_set]; omega)] at ea
        cases ea
    · rw [List.getElem?_set_ne (Ne.symm hj)] at ea
      exact ⟨hj, ea⟩
  refine ⟨s.j0, s.kp, s.j, by simp [s.len], s.pin, fun a sv ea => ?_, fun a b ys zs p' e1 e2 e3 e4 => ?_⟩
  · by_cases ha : a = i
    · subst ha
      have hl : a < ds.length := by
        have := (List.getElem?_eq_some_iff.mp ea).1
        rw [List.length_set, List.length_set] at this
        exact this
      rw [List.getElem?_set_self (by rw [List.length_set]; exact hl)] at ea
      cases ea
      exact ⟨_, List.getElem?_set_self (by rw [s.len]; exact hl), p, vs, rfl, h3, h4, h5, h6⟩
    · obtain ⟨_, eb⟩ := keyA a sv ha ea
      obtain ⟨w, w1, w2⟩ := s.env a sv eb
      exact ⟨w, by rw [List.getElem?_set_ne (Ne.symm ha)]; exact w1, w2⟩
  · have at_i : ∀ {c : Nat} {ws : List D}, c = i → ((ds.set j none).set i (some (.own xs)))[c]? = some (some (.own ws)) → (σ.set i (some (.ref p)))[c]? = some (some (.ref p')) → p' = p := fun {c ws} hc ec sc => by
      subst hc
      have hl : c < σ.length := by
        have := (List.getElem?_eq_some_iff.mp sc).1
        rw [List.length_set] at this
        exact this
      rw [List.getElem?_set_self hl] at sc
      cases sc
      rfl
    by_cases ha : a = i
    · by_cases hb : b = i
      · rw [ha, hb]
      · obtain ⟨hj, eb⟩ := keyA b _ hb e2
        have z := at_i ha e1 e3
        subst z
        rw [List.getElem?_set_ne (Ne.symm hb)] at e4
        exact absurd (s.dist j b xs zs p' e eb hp e4) (Ne.symm hj)
    · obtain ⟨hj, ea⟩ := keyA a _ ha e1
      by_cases hb : b = i
      · have z := at_i hb e2 e4
        subst z
        rw [List.getElem?_set_ne (Ne.symm ha)] at e3
        exact absurd (s.dist j a xs ys p' e ea hp e3) (Ne.symm hj)
      · obtain ⟨_, eb⟩ := keyA b _ hb e2
        rw [List.getElem?_set_ne (Ne.symm ha)] at e3
        rw [List.getElem?_set_ne (Ne.symm hb)] at e4
        exact s.dist a b ys zs p' ea eb e3 e4
theorem sd_move {i j : Nat} {xs : List D} (e : ds[j]? = some (some (.own xs))) (hij : i ≠ j) (k : N ((ds.set j none).set i (some (.own xs)))) : Sd F (tAsg (tVar j) (gName i)) ds N R := fun H0 P σ H D s n _ => by
  obtain ⟨v, h1, p, vs, rfl, h3⟩ := s.env j _ e
  exact ⟨_, h1, n P _ H _ (fun _ h => h) (s.slide e h1 hij) k⟩
theorem sd_retO {i : Nat} {xs : List D} (e : ds[i]? = some (some (.own xs))) (k : R (.own xs)) : Sd F (tRet (tVar i)) ds N R := fun H0 P σ H D s _ q => by
  obtain ⟨v, h1, p, vs, rfl, h3, h4, h5, _⟩ := s.env i _ e
  exact ⟨_, h1, q _ H (.own xs) s.kp s.j ⟨p, vs, rfl, h3, h4, h5⟩ k⟩
end
section
variable {P : Program} {w : World} {K : PySem.W.Frag} {mg : Str → Option Value} {base : Heap}
theorem ptsF_take {ps : List (List Int)} {i : Nat} {row : List Int} {n : Int} (h : ps[i]? = some row) : ptsF (ps.take (i + 1)) n = ptsF (ps.take i) n ++ (rngI 0 n.toNat).map fun item => row ++ [item] := by
  unfold ptsF
  rw [take_succ' h, List.flatMap_append, List.flatMap_cons, List.flatMap_nil, List.append_nil]
abbrev N__law_points : List Str := ["_law_sizes", "_law_found", "_law_size", "_law_longer", "_law_point", "_law_item"]
abbrev P__law_points : List Str := ["_law_sizes"]
theorem sc__law_points : FnScope N__law_points P__law_points d__law_points.scope := ⟨rfl, rfl, rfl, by decide +kernel, rfl, by decide +kernel, by decide +kernel⟩
theorem b__law_points (kV doc pm : Value) (an : Option Addr) (cdv ct : Value) (us : List Value) (hl : us.length = P__law_points.length) : bindArgs (PySem.W.fnOf d__law_points.name d__law_points.qual d__law_points.params d__law_points.body d__law_points.scope .none kV doc pm an cdv ct) ⟨us, []⟩ = pure (P__law_points.zip us) := match us, hl with
  | [_], _ => rfl
theorem c__law_points (W : Wf w K mg) : Cal P w K mg base 1 "_law_points" P__law_points (spA Fm.pure (fun a : List Int => [.d (tI a)]) (fun a => VBox a ∧ a.length ≤ 3) fun a r => r = .own ((ptsOf a).map tI)) := by
  have nd := sc__law_points.nd
  refine W.calA (d := d__law_points) (N := N__law_points) 69 61 rfl rfl sc__law_points b__law_points ?_ ?_
  rotate_left
  · intro f cdv A outer s H E hr
    refine ⟨_, (pss_cons (ps_set (i := 1) nd rfl (Or.inl rfl) (pe_lst (pa_cons (pe_tup pa_nil) pa_nil))) (pss_cons (ps_for PassesOwn.never rfl (k_piT (K := K) rfl (pv 0)) (pg_name (i := 2) nd rfl (Or.inl rfl)) (pss_cons (ps_set (i := 3) nd rfl (Or.inl rfl) (pe_lst pa_nil)) (pss_cons (ps_for PassesOwn.never rfl (k_piL (K := K) rfl (pv 1)) (pg_name (i := 4) nd rfl (Or.inr rfl)) (pss_one (ps_expr (pe_bm PySem.F.plainAttrs_list PySem.F.slot_list_extend PySem.F.type_list_extend mt_extend (pv 3) (pa_cons (pe_lc (own := [("_law_item", 5)]) (tt := tYes) rfl nd (pi_range1 rfl (W.free 77 rfl) (pa_cons (pv 2) pa_nil)) (blkOk_by (N := N__law_points) (sc := d__law_points.scope) (by decide +kernel)) (fun _ _ _ _ _ => (pg_name (i := 5) nd rfl (Or.inl rfl))) (fun _ _ _ _ _ => pts_nil) (fun _ _ _ _ _ => (pe_op (k_catT (K := K) rfl) (pv 4) (pe_tup (pa_cons (pv 5) pa_nil))))) pa_nil))))) (pss_one (ps_set (i := 1) nd rfl (Or.inl rfl) (pv 3)))))) (pss_one (ps_ret (pv 1))))), ?_⟩
    rintro box ⟨v, h3⟩
    refine sd_seqE (sd_setE (ev_lst [.tup []] (ea_cons (ev_tup [] ea_nil) ea_nil)) rfl) ?_
    refine sd_seq (M := fun d => ∃ o o2 o3 o4, d = [some (.d (tI box)), some (.own ((ptsOf box).map tI)), o, o2, o3, o4]) (sd_for (fun _ i d => ∃ o o2 o3 o4, d = [some (.d (tI box)), some (.own ((ptsOf (box.take i)).map tI)), o, o2, o3, o4]) (src_tup ev_var) (fun xs e => ⟨_, _, _, _, rfl⟩) ?_ ?_) ?_
    · rintro zs i x ds1 rfl hx ⟨o, o2, o3, o4, rfl⟩
      obtain ⟨n, hn, rfl⟩ := get_map hx
      have hlen : (ptsF (ptsOf (box.take i)) n).length ≤ 240 := by
        rw [← ptsOf_take hn]
        exact pts_few v (i + 1)
      refine ⟨_, _, tg_nm, sd_seqE (sd_setE (ev_lst [] ea_nil) rfl) (sd_frz (i := 1) rfl ?_)⟩
      refine sd_seq (M := fun d => ∃ o3 o4, d = [some (.d (tI box)), some (.bor ((ptsOf (box.take i)).map tI)), some (.d (.int n)), some (.own ((ptsF (ptsOf (box.take i)) n).map tI)), o3, o4]) (sd_for (fun _ j d => ∃ o3 o4, d = [some (.d (tI box)), some (.bor ((ptsOf (box.take i)).map tI)), some (.d (.int n)), some (.own ((ptsF ((ptsOf (box.take i)).take j) n).map tI)), o3, o4]) src_slot (fun xs e => ⟨_, _, rfl⟩) ?_ ?_) ?_
      · rintro zs j y ds1 rfl hy ⟨o3, o4, rfl⟩
        obtain ⟨row, hrow, rfl⟩ := get_map hy
        refine ⟨_, _, tg_nm, sd_extend (i := 3) rfl (ev_lcM (zs := rngI 0 n.toNat) .int (fun item => tI (row ++ [item])) int_inj ((src_rng1 (ea_cons ev_var ea_nil) ?_).cast (intsD_eq _ _)) (lt_line ?_) fun item hitem => ⟨_, _, tg_nm, by decide, ?_⟩) fun r e => ⟨_, e, ?_, ?_⟩⟩
        · have h1 := v.pos n (List.mem_of_getElem? hn)
          have h2 := prod_mem v.pos n (List.mem_of_getElem? hn)
          have h3 := v.few
          omega
        · rw [rngI_len]
          have h2 := prod_mem v.pos n (List.mem_of_getElem? hn)
          have h3 := v.few
          omega
        · refine ev_is (ev_op ev_var (ev_tup [.int item] (ea_cons ev_var ea_nil)) (ro_catT ?_)) ?_
          · have := box_le3 h3 i row (List.mem_of_getElem? hrow)
            rw [List.length_map]
            exact le_line (by show row.length + 1 ≤ 100000; omega)
          · unfold tI
            rw [List.map_append]
            rfl
        · have e2 := ptsF_take (n := n) hrow
          have l2 : (ptsF ((ptsOf (box.take i)).take (j + 1)) n).length ≤ (ptsF (ptsOf (box.take i)) n).length := by
            have : ptsF (ptsOf (box.take i)) n = ptsF ((ptsOf (box.take i)).take (j + 1)) n ++ ptsF ((ptsOf (box.take i)).drop (j + 1)) n := by
              unfold ptsF
              rw [← List.flatMap_append, List.take_append_drop]
            rw [this, List.length_append]
            omega
          rw [e2, List.length_append] at l2
          rw [List.length_map, List.length_map]
          rw [List.length_map] at l2
          exact le_line (by omega)
        · rw [ptsF_take (n := n) hrow, List.map_append, List.map_map]
          exact ⟨_, _, rfl⟩
      · rintro zs d rfl ⟨o3, o4, rfl⟩
        rw [List.length_map, take_all]
        exact ⟨_, _, rfl⟩
      · rintro d ⟨o3, o4, rfl⟩
        refine sd_move (i := 1) (j := 3) rfl (by decide) ?_
        rw [ptsOf_take hn]
        exact ⟨_, _, _, _, rfl⟩
    · rintro zs d rfl ⟨o, o2, o3, o4, rfl⟩
      rw [List.length_map, take_all]
      exact ⟨_, _, _, _, rfl⟩
    · rintro d ⟨o, o2, o3, o4, rfl⟩
      exact sd_retO rfl rfl
  · intro a
    rfl
end
end Wb
/-! WbZ3 -/
set_option maxHeartbeats 4000000
namespace Wb
open PySem PySem.Spec PyProof.Rows L2
section
variable {P : Program} {w : World} {K : PySem.W.Frag} {mg : Str → Option Value} {base : Heap}
def rowsT (f : Flw) (i : Nat) : List Row := (f.2.zipIdx.take i).flatMap fun p => p.1.2.zipIdx.map fun q => ((p.2 : Int), (q.2 : Int), q.1.1, q.1.2)
theorem rowsT_all (f : Flw) : rowsT f f.2.length = rowsF f := by
  unfold rowsT rowsF
  rw [List.take_of_length_le]
  rw [List.length_zipIdx]
  exact Nat.le_refl _
theorem rowsT_succ {f : Flw} {i : Nat} {r : Rul} (h : f.2[i]? = some r) : rowsT f (i + 1) = rowsT f i ++ r.2.zipIdx.map fun q => ((i : Int), (q.2 : Int), q.1.1, q.1.2) := by
  unfold rowsT
  have hq : f.2.zipIdx[i]? = some (r, i) := by
    rw [List.getElem?_zipIdx, h]
    simp
  rw [take_succ' hq, List.flatMap_append, List.flatMap_cons, List.flatMap_nil, List.append_nil]
theorem rng_rows (i : Nat) (rs : List Rdt) : (rngI 1 rs.length).map (fun k => rowD ((i : Int), k - 1, (rs.getD (k - 1).toNat (0, [])).1, (rs.getD (k - 1).toNat (0, [])).2)) = (rs.zipIdx.map fun q => ((i : Int), (q.2 : Int), q.1.1, q.1.2)).map rowD := by
  unfold rngI
  rw [List.map_map, List.map_map]
  refine List.ext_getElem (by simp) fun j h1 h2 => ?_
  have hj : j < rs.length := by simpa using h1
  rw [List.getElem_map, List.getElem_map, List.getElem_range, List.getElem_zipIdx]
  show rowD ((i : Int), (1 + (j : Int)) - 1, (rs.getD ((1 + (j : Int)) - 1).toNat (0, [])).1, (rs.getD ((1 + (j : Int)) - 1).toNat (0, [])).2) = rowD ((i : Int), ((0 + j : Nat) : Int), rs[j].1, rs[j].2)
  have e1 : (1 + (j : Int)) - 1 = (j : Int) := by omega
  rw [e1, Int.toNat_natCast, Nat.zero_add, List.getD_eq_getElem?_getD, List.getElem?_eq_getElem hj]
  rfl
abbrev N__law_reads : List Str := ["_law_flow", "_law_found", "_law_plane", "_law_rule", "_law_k"]
abbrev P__law_reads : List Str := ["_law_flow"]
theorem sc__law_reads : FnScope N__law_reads P__law_reads d__law_reads.scope := ⟨rfl, rfl, rfl, by decide +kernel, rfl, by decide +kernel, by decide +kernel⟩
theorem b__law_reads (kV doc pm : Value) (an : Option Addr) (cdv ct : Value) (us : List Value) (hl : us.length = P__law_reads.length) : bindArgs (PySem.W.fnOf d__law_reads.name d__law_reads.qual d__law_reads.params d__law_reads.body d__law_reads.scope .none kV doc pm an cdv ct) ⟨us, []⟩ = pure (P__law_reads.zip us) := match us, hl with
  | [_], _ => rfl
theorem c__law_reads (W : Wf w K mg) : Cal P w K mg base 1 "_law_reads" P__law_reads (spA Fm.pure (fun a : Flw => [.d (flowD a)]) VFlow fun a r => r = .own ((rowsF a).map rowD)) := by
  have nd := sc__law_reads.nd
  refine W.calA (d := d__law_reads) (N := N__law_reads) 67 59 rfl rfl sc__law_reads b__law_reads ?_ ?_
  rotate_left
  · intro f cdv A outer s H E hr
    refine ⟨_, (pss_cons (ps_set (i := 1) nd rfl (Or.inl rfl) (pe_lst pa_nil)) (pss_cons (ps_for PassesOwn.never rfl (pi_range1 rfl (W.free 77 rfl) (pa_cons (pe_callB (k_len (K := K) rfl) rfl (W.free 73 rfl) (by decide +kernel) (pa_cons (pe_ix (k_ixT (K := K) rfl) (pv 0) pe_int (fun _ _ => rfl)) pa_nil)) pa_nil)) (pg_name (i := 2) nd rfl (Or.inr rfl)) (pss_cons (ps_set (i := 3) nd rfl (Or.inr rfl) (pe_ix (k_ixT (K := K) rfl) (pe_ix (k_ixT (K := K) rfl) (pv 0) pe_int (fun _ _ => rfl)) (pv 2) (fun _ _ => rfl))) (pss_one (ps_expr (pe_bm PySem.F.plainAttrs_list PySem.F.slot_list_extend PySem.F.type_list_extend mt_extend (pv 1) (pa_cons (pe_lc (own := [("_law_k", 4)]) (tt := tYes) rfl nd (pi_range2 rfl (W.free 77 rfl) (pa_cons pe_int (pa_cons (pe_callB (k_len (K := K) rfl) rfl (W.free 73 rfl) (by decide +kernel) (pa_cons (pv 3) pa_nil)) pa_nil))) (blkOk_by (N := N__law_reads) (sc := d__law_reads.scope) (by decide +kernel)) (fun _ _ _ _ _ => (pg_name (i := 4) nd rfl (Or.inl rfl))) (fun _ _ _ _ _ => pts_nil) (fun _ _ _ _ _ => (pe_tup (pa_cons (pv 2) (pa_cons (pe_op op_sub (pv 4) pe_int) (pa_cons (pe_ix (k_ixT (K := K) rfl) (pe_ix (k_ixT (K := K) rfl) (pv 3) (pv 4) (fun _ _ => rfl)) pe_int (fun _ _ => rfl)) (pa_cons (pe_ix (k_ixT (K := K) rfl) (pe_ix (k_ixT (K := K) rfl) (pv 3) (pv 4) (fun _ _ => rfl)) pe_int (fun _ _ => rfl)) pa_nil))))))) pa_nil)))))) (pss_one (ps_ret (pv 1))))), ?_⟩
    rintro f v
    have h6 : f.2.length ≤ 6 := v.n6
    refine sd_seqE (sd_setE (ev_lst [] ea_nil) rfl) ?_
    refine sd_seq (M := fun d => ∃ o o2 o3, d = [some (.d (flowD f)), some (.own ((rowsF f).map rowD)), o, o2, o3]) (sd_for (fun _ i d => ∃ o o2 o3, d = [some (.d (flowD f)), some (.own ((rowsT f i).map rowD)), o, o2, o3]) (EvI.cast (ys := (rngI 0 f.2.length).map .int) (src_rng1 (n := f.2.length) (ea_cons (ev_is (ev_call_b (ea_cons (ev_op ev_var ev_ci (ro_ixT rfl)) ea_nil) (rcl_len (.tup _))) ?_) ea_nil) ?_) ?_) (fun xs e => ⟨_, _, _, rfl⟩) ?_ ?_) ?_
    · rw [List.length_map]
    · omega
    · rw [intsD_eq]
      rfl
    · rintro zs i x ds1 rfl hx ⟨o, o2, o3, rfl⟩
      obtain ⟨k, hk, rfl⟩ := get_map hx
      have hi : i < f.2.length := by
        have := (List.getElem?_eq_some_iff.mp hk).1
        rwa [rngI_len] at this
      have ek : k = (i : Int) := by
        unfold rngI at hk
        obtain ⟨j, hj, rfl⟩ := get_map hk
        have := (List.getElem?_eq_some_iff.mp hj).2
        rw [List.getElem_range] at this
        omega
      subst ek
      have hr : f.2[i]? = some f.2[i] := List.getElem?_eq_getElem hi
      have few := (v.rules _ (List.getElem_mem hi)).few
      have hl : ∀ i, (rowsT f i).length ≤ (rowsF f).length := fun i => by
        unfold rowsT rowsF
        conv => rhs; rw [← List.take_append_drop i f.2.zipIdx, List.flatMap_append, List.length_append]
        exact Nat.le_add_right _ _
      have hl2 := rows_len v
      generalize f.2[i] = rule at hr few
      refine ⟨_, _, tg_nm, sd_seqE (sd_setE (ev_op (ev_op ev_var ev_ci (ro_ixT rfl)) ev_var (ro_ixT (at_map (Int.natCast_nonneg i) (by rw [Int.toNat_natCast]; exact hr)))) rfl) ?_⟩
      refine sd_extend (i := 1) rfl (ev_lcM (zs := rngI 1 rule.2.length) .int (fun k => rowD ((i : Int), k - 1, (rule.2.getD (k - 1).toNat (0, [])).1, (rule.2.getD (k - 1).toNat (0, [])).2)) int_inj (EvI.cast (src_rng2 (m := 1) (n := 1 + rule.2.length) (ea_cons ev_ci (ea_cons (ev_is (ev_call_b (ea_cons ev_var ea_nil) (rcl_len (.tup _))) ?_) ea_nil)) ?_) ?_) (lt_line ?_) fun k hk => ⟨_, _, tg_nm, by decide, ?_⟩) fun r e => ⟨_, e, ?_, ?_⟩
      · show SV.d (.int (((.str rule.1 :: rule.2.map readD : List D).length : Nat) : Int)) = _
        rw [List.length_cons, List.length_map]
        congr 2
        omega
      · omega
      · rw [intsD_eq]
        congr 2
        omega
      · rw [rngI_len]
        omega
      · obtain ⟨k1, k2⟩ := mem_rngI.mp hk
        have hj : (k - 1).toNat < rule.2.length := by omega
        have hq : rule.2[(k - 1).toNat]? = some rule.2[(k - 1).toNat] := List.getElem?_eq_getElem hj
        have hat : atI (.str rule.1 :: rule.2.map readD) k = some (readD rule.2[(k - 1).toNat]) := by
          have := at_cons (f := readD) (d := .str rule.1) (show 0 ≤ k - 1 by omega) hq
          rwa [show k - 1 + 1 = k by omega] at this
        have eg : rule.2.getD (k - 1).toNat (0, []) = rule.2[(k - 1).toNat] := by
          rw [List.getD_eq_getElem?_getD, hq]
          rfl
        rw [eg]
        exact ev_tup [.int (i : Int), .int (k - 1), .int rule.2[(k - 1).toNat].1, tI rule.2[(k - 1).toNat].2] (ea_cons ev_var (ea_cons (ev_op ev_var ev_ci ro_i0) (ea_cons (ev_op (ev_op ev_var ev_var (ro_ixT hat)) ev_ci (ro_ixT rfl)) (ea_cons (ev_op (ev_op ev_var ev_var (ro_ixT hat)) ev_ci (ro_ixT rfl)) ea_nil))))
      · rw [List.length_map, List.length_map, rngI_len]
        have := hl i
        exact le_line (by omega)
      · rw [rng_rows, ← List.map_append, ← rowsT_succ hr]
        exact ⟨_, _, _, rfl⟩
    · rintro zs d rfl ⟨o, o2, o3, rfl⟩
      rw [List.length_map, rngI_len, rowsT_all]
      exact ⟨_, _, _, rfl⟩
    · rintro d ⟨o, o2, o3, rfl⟩
      exact sd_retO rfl rfl
  · intro a
    rfl
end
end Wb
/-! WbZ4 -/
set_option maxHeartbeats 4000000
namespace Wb
open PySem PySem.Spec PyProof.Rows L2
section
variable {P : Program} {w : World} {K : PySem.W.Frag} {mg : Str → Option Value} {base : Heap}
def kindsK : List (Key × V) := kindsT.map fun p => (.inr p.1, .int p.2)
def spKinds : Sp := fun vs H Q _ => vs = [] ∧ ∀ H' p, Same H H' → H p = none → H' p = some (.dK kindsK) → Q (.ref p) H'
theorem same_new {H : Hp} {p : Addr} {o : HO} (n : H p = none) : Same H (upd H p o) := fun b u e => by
  rw [upd_ne (ne_of_none e n)]
  exact e
abbrev N__law_kinds : List Str := []
abbrev P__law_kinds : List Str := []
theorem sc__law_kinds : FnScope N__law_kinds P__law_kinds d__law_kinds.scope := ⟨rfl, rfl, rfl, by decide +kernel, rfl, by decide +kernel, by decide +kernel⟩
theorem b__law_kinds (kV doc pm : Value) (an : Option Addr) (cdv ct : Value) (us : List Value) (hl : us.length = P__law_kinds.length) : bindArgs (PySem.W.fnOf d__law_kinds.name d__law_kinds.qual d__law_kinds.params d__law_kinds.body d__law_kinds.scope .none kV doc pm an cdv ct) ⟨us, []⟩ = pure (P__law_kinds.zip us) := match us, hl with
  | [], _ => rfl
theorem d_kinds (W : Wf w K mg) : Dok P w K mg base 1 (He.fAd K d__law_kinds.at_) P__law_kinds spKinds := by
  have nd := sc__law_kinds.nd
  refine W.fnOk (d := d__law_kinds) (N := N__law_kinds) (ps := P__law_kinds) 62 rfl sc__law_kinds b__law_kinds ?_ ?_
  rotate_left
  · intro f cdv A outer s H vs Q E hr hs
    refine ⟨_, (pss_one (ps_ret (pe_disp (pps_cons pe_str pe_int (pps_cons pe_str pe_int (pps_cons pe_str pe_int (pps_cons pe_str pe_int (pps_cons pe_str pe_int (pps_cons pe_str pe_int (pps_cons pe_str pe_int (pps_cons pe_str pe_int pps_nil)))))))) rfl rfl (by simp) (by decide)))), ?_⟩
    obtain ⟨rfl, hq⟩ := hs
    intro p hp
    refine ⟨upd_same, [(.inr "copy", .int 1), (.inr "neg", .int 1), (.inr "add", .int 2), (.inr "sub", .int 2), (.inr "mul", .int 2), (.inr "least", .int 2), (.inr "most", .int 2), (.inr "madd", .int 3)], rfl, by decide, ?_⟩
    refine hq _ p (fun b u e => ?_) hp (by rw [upd_same]; congr 1)
    rw [upd_ne (ne_of_none e hp), upd_ne (ne_of_none e hp)]
    exact e
  · rintro vs H Q E ⟨rfl, _⟩
    rfl
theorem c__law_kinds (W : Wf w K mg) : Cal P w K mg base 1 "_law_kinds" P__law_kinds spKinds := (d_kinds W).cal (W.glo 54 rfl)
theorem val_kinds {k : Str} {n : Int} (h : (k, n) ∈ kindsT) : valV kindsK (.inr k) = some (.int n) := by
  have h : (k, n) ∈ ([("copy", 1), ("neg", 1), ("add", 2), ("sub", 2), ("mul", 2), ("least", 2), ("most", 2), ("madd", 3)] : List (Str × Int)) := h
  simp only [List.mem_cons, List.not_mem_nil, or_false, Prod.mk.injEq] at h
  rcases h with ⟨rfl, rfl⟩ | ⟨rfl, rfl⟩ | ⟨rfl, rfl⟩ | ⟨rfl, rfl⟩ | ⟨rfl, rfl⟩ | ⟨rfl, rfl⟩ | ⟨rfl, rfl⟩ | ⟨rfl, rfl⟩ <;> rfl
/-- _law_kinds()[k] -/
theorem ev_kinds {F : Fm} {ds : Ds} {tk : TE} {k : Str} {n : Int} (hk : Ev F tk ds (· = .d (.str k))) (h : (k, n) ∈ kindsT) : Ev F (tDGet (tCall spKinds [] E0 tNil) tk) ds (· = .d (.int n)) := fun H0 P σ H s Q q => by
  refine ⟨rfl, fun H1 p s1 hp hd => ?_⟩
  refine hk H0 P σ H1 (s.mono (Kp.same s1) (F.same s.j s1)) _ fun v H2 r k2 j2 r2 e2 => ?_
  subst e2
  have r2 : Rep H2 v (.str k) := r2
  cases r2
  have hd2 : H2 p = some (.dK kindsK) := k2 p _ (F.newS s.j hp) hd
  exact ⟨p, .int n, rfl, .inl ⟨kindsK, .inr k, .inl hd2, rfl, (val_kinds h).symm⟩, q _ H2 (.d (.int n)) ((Kp.same s1).trans k2) j2 (.int _) rfl⟩
end
end Wb
/-! WbGa -/
set_option maxHeartbeats 4000000
/-! While a generator sleeps: what others do leaves it as it is. -/
namespace Wb
open PySem PySem.Spec PyProof.Rows L2

/-- a sleeper that can't be woken -/
def dead : GenState → GenState
  | .suspended _ l c p fs cl => .suspended (fun _ => .unsupported "") l c p fs cl
  | x => x
theorem no_uns {M : Model} {Γ : PySem.Ctx} {p : Pos} {t : Sem PySem.Fin} {fs : List Frame} {s s' : Shared} {e : End} (h : Runs M Γ p t fs s e s') : ∀ wt, t ≠ .unsupported wt := by
  induction h <;> intro wt he <;> first | (cases he; done) | (rename_i ih _; exact ih wt he) | (rename_i ih; exact ih wt he) | skip
  all_goals first | (rename_i ih _ _; exact ih wt he) | (rename_i ih _ _ _; exact ih wt he)
/-- G: the table in which the sleepers of G0 at Z are dead; G': as it is -/
structure Dt (Z : Nat → Prop) (G0 G G' : Array GenState) : Prop where
  size : G.size = G'.size
  dead : ∀ i, Z i → ∃ k l c p fs cl, G0[i]? = some (.suspended k l c p fs cl) ∧ G'[i]? = some (.suspended k l c p fs cl) ∧ G[i]? = some (.suspended (fun _ => .unsupported "") l c p fs cl)
  live : ∀ i, ¬ Z i → G[i]? = G'[i]? ∧ ∀ k l c p fs cl, G[i]? = some (.suspended k l c p fs cl) → splitAtGen fs = none
def endFr : End → Prop
  | .susp _ _ _ _ _ _ fs => splitAtGen fs = none
  | .ret _ => True
theorem split_app : ∀ {a b : List Frame}, splitAtGen a = none → splitAtGen b = none → splitAtGen (a ++ b) = none
  | [], _, _, h => h
  | .gen .. :: _, _, h, _ => nomatch h
  | .ret .. :: a, b, h, h2 => by
    have h1 : splitAtGen a = none := by
      cases e : splitAtGen a with
      | none => rfl
      | some y =>
        have : (splitAtGen a).map _ = none := h
        rw [e] at this
        cases this
    show (splitAtGen (a ++ b)).map _ = none
    rw [split_app h1 h2]
    rfl
theorem split_tl {k h g l c p kp} {fs : List Frame} (hs : splitAtGen (.ret k h g l c p kp :: fs) = none) : splitAtGen fs = none := by
  cases e : splitAtGen fs with
  | none => rfl
  | some y =>
    have : (splitAtGen fs).map _ = none := hs
    rw [e] at this
    cases this
section
variable {Z : Nat → Prop} {G0 G G' : Array GenState}
theorem Dt.set {g : Nat} {x : GenState} (d : Dt Z G0 G G') (hz : ¬ Z g) (hx : ∀ k l c p fs cl, x = .suspended k l c p fs cl → splitAtGen fs = none) : Dt Z G0 (G.setIfInBounds g x) (G'.setIfInBounds g x) := by
  refine ⟨by rw [Array.size_setIfInBounds, Array.size_setIfInBounds, d.size], fun i hi => ?_, fun i hi => ?_⟩
  · have ne : g ≠ i := fun e => hz (e ▸ hi)
    rw [Array.getElem?_setIfInBounds_ne ne, Array.getElem?_setIfInBounds_ne ne]
    exact d.dead i hi
  · by_cases ne : g = i
    · subst ne
      by_cases hl : g < G.size
      · have hl' : g < G'.size := d.size ▸ hl
        refine ⟨by simp [hl, hl'], fun k l c p fs cl e => ?_⟩
        rw [Array.getElem?_setIfInBounds_self_of_lt hl] at e
        exact hx _ _ _ _ _ _ (Option.some.inj e)
      · have hl' : ¬ g < G'.size := d.size ▸ hl
        refine ⟨by simp [hl, hl'], fun k l c p fs cl e => ?_⟩
        have := (Array.getElem?_eq_some_iff.mp e).1
        rw [Array.size_setIfInBounds] at this
        exact absurd this hl
    · rw [Array.getElem?_setIfInBounds_ne ne, Array.getElem?_setIfInBounds_ne ne]
      exact d.live i hi
theorem Dt.push {c : Code} (d : Dt Z G0 G G') : Dt Z G0 (G.push (.fresh c)) (G'.push (.fresh c)) := by
  refine ⟨by rw [Array.size_push, Array.size_push, d.size], fun i hi => ?_, fun i hi => ?_⟩
  · obtain ⟨k, l, c1, p, fs, cl, h0, h1, h2⟩ := d.dead i hi
    have l1 := (Array.getElem?_eq_some_iff.mp h1).1
    have l2 := (Array.getElem?_eq_some_iff.mp h2).1
    refine ⟨k, l, c1, p, fs, cl, h0, ?_, ?_⟩
    · rw [Array.getElem?_push, if_neg (by omega)]; exact h1
    · rw [Array.getElem?_push, if_neg (by omega)]; exact h2
  · obtain ⟨h1, h2⟩ := d.live i hi
    rw [Array.getElem?_push, Array.getElem?_push, d.size]
    by_cases e : i = G'.size
    · rw [if_pos e, if_pos e]
      exact ⟨rfl, fun k l c p fs cl z => by cases z⟩
    · rw [if_neg e, if_neg e]
      exact ⟨h1, h2⟩
theorem endFr_st {e : End} (h : endFr e) : ∀ k l c p fs cl, e.genState = .suspended k l c p fs cl → splitAtGen fs = none := fun k l c p fs cl z => by
  cases e with
  | ret r => cases z
  | susp v g l k c p fs => cases z; exact h
theorem Dt.nz {g : Nat} {st : GenState} (d : Dt Z G0 G G') (hg : G[g]? = some st) (hn : ∀ k l c p fs cl, st ≠ .suspended k l c p fs cl) : ¬ Z g ∧ G'[g]? = some st := by
  have hz : ¬ Z g := fun z => by
    obtain ⟨_, _, _, _, _, _, _, _, h2⟩ := d.dead g z
    rw [hg] at h2
    exact hn _ _ _ _ _ _ (Option.some.inj h2)
  exact ⟨hz, (d.live g hz).1 ▸ hg⟩
theorem Dt.gs {g : Nat} {st : GenState} (d : Dt Z G0 G G') (hg : G[g]? = some st) : ∃ st', G'[g]? = some st' ∧ st'.seen = st.seen := by
  by_cases hz : Z g
  · obtain ⟨k1, l, c, p, fs, cl, _, h1, h2⟩ := d.dead g hz
    rw [hg] at h2
    cases h2
    exact ⟨_, h1, rfl⟩
  · exact ⟨st, (d.live g hz).1 ▸ hg, rfl⟩
theorem Dt.sus {M : Model} {Γ : PySem.Ctx} {g : Nat} {k l c p fs cl} {p1 : Pos} {r : Resume} {fs1 : List Frame} {s s' : Shared} {e : End} (d : Dt Z G0 G G') (hg : G[g]? = some (.suspended k l c p fs cl)) (h : Runs M Γ p1 (k r) fs1 s e s') :
    ¬ Z g ∧ G'[g]? = some (.suspended k l c p fs cl) ∧ splitAtGen fs = none := by
  by_cases hz : Z g
  · obtain ⟨_, _, _, _, _, _, _, _, h2⟩ := d.dead g hz
    rw [hg] at h2
    cases h2
    exact absurd rfl (no_uns h "")
  · obtain ⟨y1, y2⟩ := d.live g hz
    exact ⟨hz, y1 ▸ hg, y2 _ _ _ _ _ _ hg⟩
theorem Dt.runs {M : Model} {Γ : PySem.Ctx} {p : Pos} {t : Sem PySem.Fin} {fs : List Frame} {s s' : Shared} {e : End} (h : Runs M Γ p t fs s e s') :
    ∀ G', splitAtGen fs = none → Dt Z G0 s.gens G' → endFr e ∧ ∃ G2, Runs M Γ p t fs { s with gens := G' } e { s' with gens := G2 } ∧ Dt Z G0 s'.gens G2 := by
  induction h with
  | done => intro G' _ d; exact ⟨trivial, G', .done, d⟩
  | raise => intro G' _ d; exact ⟨trivial, G', .raise, d⟩
  | again q _ ih => intro G' hs d; obtain ⟨a, G2, r, d2⟩ := ih G' hs d; exact ⟨a, G2, .again q r, d2⟩
  | rule _ ih => intro G' hs d; obtain ⟨a, G2, r, d2⟩ := ih G' hs d; exact ⟨a, G2, .rule r, d2⟩
  | «at» _ ih => intro G' hs d; obtain ⟨a, G2, r, d2⟩ := ih G' hs d; exact ⟨a, G2, .at r, d2⟩
  | load q _ ih => intro G' hs d; obtain ⟨a, G2, r, d2⟩ := ih G' hs d; exact ⟨a, G2, .load q r, d2⟩
  | update q _ ih => intro G' hs d; obtain ⟨a, G2, r, d2⟩ := ih G' hs d; exact ⟨a, G2, .update q r, d2⟩
  | loadIfAlive _ ih => intro G' hs d; obtain ⟨a, G2, r, d2⟩ := ih G' hs d; exact ⟨a, G2, .loadIfAlive r, d2⟩
  | point _ ih => intro G' hs d; obtain ⟨a, G2, r, d2⟩ := ih G' hs d; exact ⟨a, G2, .point r, d2⟩
  | alloc _ ih => intro G' hs d; obtain ⟨a, G2, r, d2⟩ := ih G' hs d; exact ⟨a, G2, .alloc r, d2⟩
  | fresh _ ih => intro G' hs d; obtain ⟨a, G2, r, d2⟩ := ih G' hs d; exact ⟨a, G2, .fresh r, d2⟩
  | ask _ ih => intro G' hs d; obtain ⟨a, G2, r, d2⟩ := ih G' hs d; exact ⟨a, G2, .ask r, d2⟩
  | choose q _ ih => intro G' hs d; obtain ⟨a, G2, r, d2⟩ := ih G' hs d; exact ⟨a, G2, .choose q r, d2⟩
  | os _ ih => intro G' hs d; obtain ⟨a, G2, r, d2⟩ := ih G' hs d; exact ⟨a, G2, .os r, d2⟩
  | handled _ ih => intro G' hs d; obtain ⟨a, G2, r, d2⟩ := ih G' hs d; exact ⟨a, G2, .handled r, d2⟩
  | genState hg _ ih =>
    intro G' hs d
    obtain ⟨a, G2, r, d2⟩ := ih G' hs d
    obtain ⟨st', h1, h2⟩ := d.gs hg
    exact ⟨a, G2, .genState h1 (by rw [h2]; exact r), d2⟩
  | stack _ ih => intro G' hs d; obtain ⟨a, G2, r, d2⟩ := ih G' hs d; exact ⟨a, G2, .stack r, d2⟩
  | thread _ ih => intro G' hs d; obtain ⟨a, G2, r, d2⟩ := ih G' hs d; exact ⟨a, G2, .thread r, d2⟩
  | newGen _ ih =>
    intro G' hs d
    obtain ⟨a, G2, r, d2⟩ := ih _ hs d.push
    refine ⟨a, G2, .newGen ?_, d2⟩
    rw [d.size] at r
    exact r
  | call _ _ ih1 ih2 =>
    intro G' hs d
    obtain ⟨_, G2, r1, d2⟩ := ih1 G' rfl d
    obtain ⟨a, G3, r2, d3⟩ := ih2 G2 rfl d2
    exact ⟨a, G3, .call r1 r2, d3⟩
  | callSusp _ ih =>
    intro G' hs d
    obtain ⟨a, G2, r, d2⟩ := ih G' rfl d
    exact ⟨split_app a rfl, G2, .callSusp r, d2⟩
  | yield => intro G' hs d; exact ⟨rfl, G', .yield, d⟩
  | resumeFresh hg _ hq _ ih1 ih2 =>
    intro G' hs d
    obtain ⟨hz, hg'⟩ := d.nz hg fun _ _ _ _ _ _ z => by cases z
    obtain ⟨a1, G2, r1, d2⟩ := ih1 (G'.setIfInBounds _ .running) rfl (d.set hz fun _ _ _ _ _ _ z => by cases z)
    obtain ⟨a, G3, r2, d3⟩ := ih2 (G2.setIfInBounds _ _) rfl (d2.set hz (endFr_st a1))
    exact ⟨a, G3, .resumeFresh hg' r1 hq r2, d3⟩
  | resumeSuspended hg h1 hq _ ih1 ih2 =>
    intro G' hs d
    obtain ⟨hz, hg', hf⟩ := d.sus hg h1
    obtain ⟨a1, G2, r1, d2⟩ := ih1 (G'.setIfInBounds _ .running) hf (d.set hz fun _ _ _ _ _ _ z => by cases z)
    obtain ⟨a, G3, r2, d3⟩ := ih2 (G2.setIfInBounds _ _) rfl (d2.set hz (endFr_st a1))
    exact ⟨a, G3, .resumeSuspended hg' r1 hq r2, d3⟩
  | resumeJustStarted hg hv _ ih =>
    intro G' hs d
    obtain ⟨a, G2, r, d2⟩ := ih G' hs d
    obtain ⟨hz, hg'⟩ := d.nz hg fun _ _ _ _ _ _ z => by cases z
    exact ⟨a, G2, .resumeJustStarted hg' hv r, d2⟩
  | resumeThrowFresh hg _ ih =>
    intro G' hs d
    obtain ⟨hz, hg'⟩ := d.nz hg fun _ _ _ _ _ _ z => by cases z
    obtain ⟨a, G2, r, d2⟩ := ih (G'.setIfInBounds _ .finished) hs (d.set hz fun _ _ _ _ _ _ z => by cases z)
    exact ⟨a, G2, .resumeThrowFresh hg' r, d2⟩
  | resumeRunning hg _ ih =>
    intro G' hs d
    obtain ⟨a, G2, r, d2⟩ := ih G' hs d
    obtain ⟨hz, hg'⟩ := d.nz hg fun _ _ _ _ _ _ z => by cases z
    exact ⟨a, G2, .resumeRunning hg' r, d2⟩
  | resumeFinished hg _ ih =>
    intro G' hs d
    obtain ⟨a, G2, r, d2⟩ := ih G' hs d
    obtain ⟨hz, hg'⟩ := d.nz hg fun _ _ _ _ _ _ z => by cases z
    exact ⟨a, G2, .resumeFinished hg' r, d2⟩
  | segRet _ _ ih1 ih2 =>
    intro G' hs d
    obtain ⟨_, G2, r1, d2⟩ := ih1 G' rfl d
    obtain ⟨a, G3, r2, d3⟩ := ih2 G2 (split_tl hs) d2
    exact ⟨a, G3, .segRet r1 r2, d3⟩
  | segGen _ _ ih1 ih2 => intro G' hs d; cases hs
  | segSuspOut hsp _ ih =>
    intro G' hs d
    obtain ⟨a, G2, r, d2⟩ := ih G' rfl d
    exact ⟨split_app a hsp, G2, .segSuspOut hsp r, d2⟩
  | segSuspGen hsp _ _ _ _ _ => intro G' hs d; rw [hs] at hsp; cases hsp
theorem Dt.wakes {M : Model} {Γ : PySem.Ctx} {p : Pos} {g : Nat} {r : Resume} {s s' : Shared} {res : GenResult} (h : Wakes M Γ p g r s res s') (d : Dt Z G0 s.gens G') :
    ∃ G2, Wakes M Γ p g r { s with gens := G' } res { s' with gens := G2 } ∧ Dt Z G0 s'.gens G2 := by
  have h1 : Runs M Γ p (.resume g r [] fun res' => .pure (.done .next)) [] s (.ret (.ok .next)) s' := (Sem.runs_resume_iff M _).mpr ⟨res, s', h, .done⟩
  unfold Wakes at h ⊢
  cases hg : s.gens[g]? with
  | none => rw [hg] at h; exact h.elim
  | some st =>
    rw [hg] at h
    cases st with
    | fresh c =>
      obtain ⟨hz, hg'⟩ := d.nz hg fun _ _ _ _ _ _ z => by cases z
      cases r with
      | send v =>
        by_cases hv : v = .none
        · subst hv
          obtain ⟨e1, s1, hr, hq, rfl, rfl⟩ := h
          obtain ⟨a1, G2, r1, d2⟩ := Dt.runs hr (G'.setIfInBounds g .running) rfl (d.set hz fun _ _ _ _ _ _ z => by cases z)
          refine ⟨G2.setIfInBounds g e1.genState, ?_, d2.set hz (endFr_st a1)⟩
          show (match G'[g]? with | _ => _)
          rw [hg']
          exact ⟨e1, _, r1, hq, rfl, rfl⟩
        · have h' : res = .justStarted ∧ s' = s := by
            cases v <;> first | exact absurd rfl hv | exact h
          obtain ⟨rfl, rfl⟩ := h'
          refine ⟨G', ?_, d⟩
          show (match G'[g]? with | _ => _)
          rw [hg']
          cases v <;> first | exact absurd rfl hv | exact ⟨rfl, rfl⟩
      | throw x =>
        obtain ⟨rfl, rfl⟩ := h
        refine ⟨G'.setIfInBounds g .finished, ?_, d.set hz fun _ _ _ _ _ _ z => by cases z⟩
        show (match G'[g]? with | _ => _)
        rw [hg']
        exact ⟨rfl, rfl⟩
    | suspended k l c p0 fs cl =>
      obtain ⟨e1, s1, hr, hq, rfl, rfl⟩ := h
      obtain ⟨hz, hg', hf⟩ := d.sus hg hr
      obtain ⟨a1, G2, r1, d2⟩ := Dt.runs hr (G'.setIfInBounds g .running) hf (d.set hz fun _ _ _ _ _ _ z => by cases z)
      refine ⟨G2.setIfInBounds g e1.genState, ?_, d2.set hz (endFr_st a1)⟩
      show (match G'[g]? with | _ => _)
      rw [hg']
      exact ⟨e1, _, r1, hq, rfl, rfl⟩
    | running =>
      obtain ⟨hz, hg'⟩ := d.nz hg fun _ _ _ _ _ _ z => by cases z
      obtain ⟨rfl, rfl⟩ := h
      refine ⟨G', ?_, d⟩
      show (match G'[g]? with | _ => _)
      rw [hg']
      exact ⟨rfl, rfl⟩
    | finished =>
      obtain ⟨hz, hg'⟩ := d.nz hg fun _ _ _ _ _ _ z => by cases z
      obtain ⟨rfl, rfl⟩ := h
      refine ⟨G', ?_, d⟩
      show (match G'[g]? with | _ => _)
      rw [hg']
      exact ⟨rfl, rfl⟩
open PySem.Sem (wp) in
theorem Dt.wp {α : Type} {M : Model} {Γ : PySem.Ctx} {Q : α → Pos → Shared → Prop} {E : Value → Pos → Shared → Prop} (t : Sem α) : ∀ (p : Pos) (s : Shared) (G' : Array GenState), Dt Z G0 s.gens G' → Sem.wp M Γ t Q E p s →
    Sem.wp M Γ t (fun a p' s' => ∃ G, Dt Z G0 G s'.gens ∧ Q a p' { s' with gens := G }) (fun e p' s' => ∃ G, Dt Z G0 G s'.gens ∧ E e p' { s' with gens := G }) p { s with gens := G' } := by
  induction t with
  | pure a => intro p s G' d h; exact ⟨s.gens, d, h⟩
  | raise e => intro p s G' d h; exact ⟨s.gens, d, h⟩
  | unsupported w => intro p s G' d h; exact h.elim
  | finish e => intro p s G' d h; exact h.elim
  | rule tag k ih => intro p s G' d h; exact ih () p s G' d h
  | «at» p' k ih => intro p s G' d h; exact ih () p' s G' d h
  | load a part k ih => intro p s G' d ⟨o, ho, h⟩; exact ⟨o, ho, ih o p s G' d h⟩
  | update a part f k ih => intro p s G' d ⟨ho, h⟩; exact ⟨ho, ih () p { s with heap := s.heap.update a f } G' d h⟩
  | alloc o k ih => intro p s G' d h; exact ih _ p { s with heap := s.heap.push o } G' d h
  | loadIfAlive a k ih => intro p s G' d h; exact ih _ p s G' d h
  | point l k ih => intro p s G' d h; exact ih () p s G' d h
  | register a k ih => intro p s G' d h; exact h.elim
  | fresh k ih => intro p s G' d h; exact ih _ p { s with toks := s.toks + 1 } G' d h
  | ask k ih => intro p s G' d h; exact ih _ p s G' d h
  | choose src n k ih => intro p s G' d ⟨hn, h⟩; exact ⟨hn, ih _ p { s with drawn := s.drawn.bump src } G' d h⟩
  | os q l k ih => intro p s G' d h; exact ih _ p { s with os := (Os.step s.os q).1 } G' d h
  | call c hd g l k ih =>
    intro p s G' d ⟨r, s1, hr, h⟩
    obtain ⟨_, G2, r2, d2⟩ := Dt.runs hr G' rfl d
    exact ⟨r, _, r2, ih r p s1 G2 d2 h⟩
  | handled own k ih => intro p s G' d h; exact ih _ p s G' d h
  | newGen c k ih =>
    intro p s G' d h
    have := ih _ p { s with gens := s.gens.push (.fresh c) } (G'.push (.fresh c)) d.push h
    rw [d.size] at this
    exact this
  | genState g k ih =>
    intro p s G' d ⟨st, hg, h⟩
    obtain ⟨st', h1, h2⟩ := d.gs hg
    exact ⟨st', h1, by rw [h2]; exact ih _ p s G' d h⟩
  | resume g r l k ih =>
    intro p s G' d ⟨res, s1, hw, h⟩
    obtain ⟨G2, w2, d2⟩ := Dt.wakes hw d
    exact ⟨res, _, w2, ih res p s1 G2 d2 h⟩
  | yield v g l k ih => intro p s G' d h; exact h.elim
  | stack k ih => intro p s G' d h; exact ih _ p s G' d h
  | fork c k ih => intro p s G' d h; exact h.elim
  | thread k ih => intro p s G' d h; exact ih _ p s G' d h
  | await a tk tm l k ih => intro p s G' d h; exact h.elim
/-- all that sleep in a table -/
def asleep (G : Array GenState) (i : Nat) : Prop := ∃ k l c p fs cl, G[i]? = some (.suspended k l c p fs cl)
theorem dt_start (G : Array GenState) : Dt (asleep G) G (G.map dead) G := by
  refine ⟨by simp, fun i ⟨k, l, c, p, fs, cl, e⟩ => ⟨k, l, c, p, fs, cl, e, e, by rw [Array.getElem?_map, e]; rfl⟩, fun i hi => ?_⟩
  rw [Array.getElem?_map]
  cases e : G[i]? with
  | none => exact ⟨rfl, fun _ _ _ _ _ _ z => by cases z⟩
  | some st =>
    cases st with
    | suspended k l c p fs cl => exact absurd ⟨k, l, c, p, fs, cl, e⟩ hi
    | fresh c => exact ⟨rfl, fun _ _ _ _ _ _ z => by cases z⟩
    | running => exact ⟨rfl, fun _ _ _ _ _ _ z => by cases z⟩
    | finished => exact ⟨rfl, fun _ _ _ _ _ _ z => by cases z⟩
theorem bare_dead {G : Array GenState} (h : AllBare G) : AllBare (G.map dead) := fun y hy => by
  obtain ⟨x, hx, rfl⟩ := Array.mem_map.mp hy
  have := h x hx
  cases x <;> exact this
theorem Dt.bare (d : Dt Z G0 G G') (h : AllBare G) : AllBare G' := fun y hy => by
  obtain ⟨i, hi, e⟩ := Array.mem_iff_getElem.mp hy
  have e' : G'[i]? = some y := by rw [Array.getElem?_eq_getElem hi, e]
  by_cases hz : Z i
  · obtain ⟨k, l, c, p, fs, cl, _, h1, h2⟩ := d.dead i hz
    rw [e'] at h1
    cases h1
    exact (show (GenState.suspended (fun _ => Sem.unsupported "") l c p fs cl).bare = true from h _ (Array.mem_of_getElem? h2))
  · have := (d.live i hz).1
    rw [e'] at this
    exact h _ (Array.mem_of_getElem? this)
/-- what is done while sleepers sleep: shown with the sleepers dead -/
theorem wpAny_asleep {α : Type} {M : Model} {A : Around} {Q : α → Shared → Prop} {E : Value → Shared → Prop} {t : Sem α} {s : Shared} (h : wpAny M A t Q E { s with gens := s.gens.map dead }) :
    wpAny M A t (fun a s' => ∃ G, Dt (asleep s.gens) s.gens G s'.gens ∧ Q a { s' with gens := G }) (fun e s' => ∃ G, Dt (asleep s.gens) s.gens G s'.gens ∧ E e { s' with gens := G }) s := fun Γ p hΓ =>
  Dt.wp t p { s with gens := s.gens.map dead } s.gens (dt_start s.gens) (h Γ p hΓ)
end
end Wb
/-! WbGb -/
set_option maxHeartbeats 4000000
/-! A context that begins anew while its frame stands. -/
namespace Wb
open PySem PySem.Spec PyProof.Rows L2

def cutH (n : Nat) (h : Heap) : Heap := ⟨h.objs.extract 0 n, h.life⟩
theorem cutH_lt {n : Nat} {h : Heap} {b : Addr} (hb : b < n) : (cutH n h).get? b = h.get? b := by
  have hb' : @LT.lt Nat _ b n := hb
  have e : (h.objs.extract 0 n)[b]? = h.objs[b]? := by
    by_cases hl : @LT.lt Nat _ b h.objs.size
    · rw [Array.getElem?_extract, if_pos (by omega)]
      simp
    · rw [Array.getElem?_eq_none (by simp only [Array.size_extract]; omega), Array.getElem?_eq_none (by omega)]
  unfold Heap.get? cutH
  show (match (h.objs.extract 0 n)[b]? with | _ => _) = _
  rw [e]
theorem cutH_size {n : Nat} {h : Heap} (hn : n ≤ h.objs.size) : (cutH n h).objs.size = n := by
  unfold cutH
  simp
  omega
theorem cutH_some {n : Nat} {h : Heap} {b : Addr} {o : Obj} (e : (cutH n h).get? b = some o) : b < n ∧ h.get? b = some o := by
  have hs : (cutH n h).objs.size ≤ n := by
    unfold cutH
    simp
    omega
  have hb : b < n := Nat.lt_of_lt_of_le (Heap.lt_size e) hs
  exact ⟨hb, by rw [← cutH_lt hb]; exact e⟩
/-- the context X that begins at s, H; what stood at n ahead of it -/
def rex (n : Nat) (X : Cx) (s : Shared) (H : Hp) : Cx := { X with s_0 := { s with heap := cutH n s.heap }, H_0 := H }
theorem rex_rex {n : Nat} {X : Cx} {s s' : Shared} {H H' : Hp} : rex n (rex n X s H) s' H' = rex n X s' H' := rfl
theorem _root_.L2.Un.cut {fs ex : List Addr} {H : Hp} {n : Nat} {h : Heap} : Un fs ex H H (cutH n h) h :=
  ⟨fun b o e _ _ _ => (cutH_some e).2, fun b o e _ _ _ => ⟨o.slots, (cutH_some e).2⟩, fun _ _ _ h _ => h, fun b o e _ => ⟨o, (cutH_some e).2⟩, fun _ _ h => h, fun _ _ _ h => h, fun b ps h => ⟨#[], by rw [h]; simp⟩⟩
theorem funs_cut {n : Nat} {h base : Heap} : ∀ {l : List Env}, h.FunFrames base l → (∀ b ∈ frs l, b < n) → (cutH n h).FunFrames base l
  | [], _, _ => trivial
  | env :: l, ⟨hk, ⟨L, o, hf, hn, ho, hd⟩, hr⟩, hb => by
    have hm : ∀ b ∈ frs l, b ∈ frs (env :: l) := fun b z => by
      unfold frs at z ⊢
      rw [List.filterMap_cons, hf]
      exact List.mem_cons_of_mem _ z
    have hL : L < n := hb L (by unfold frs; rw [List.filterMap_cons, hf]; exact List.mem_cons_self)
    exact ⟨hk, ⟨L, o, hf, hn, by rw [cutH_lt hL]; exact ho, hd⟩, funs_cut hr fun b z => hb b (hm b z)⟩
/-- the sizes that a context keeps -/
structure Low (n : Nat) (X : Cx) : Prop where
  loc : n ≤ X.env.locals
  base : X.base.objs.size ≤ n
  fn : ∀ x c, X.fn x = true → X.env.cells.lookup x = some c → n ≤ c
  fs : ∀ b ∈ X.fs, b < n
theorem Low.rex {n : Nat} {X : Cx} {s : Shared} {H : Hp} (l : Low n X) : Low n (rex n X s H) := ⟨l.loc, l.base, l.fn, l.fs⟩
section
variable {n : Nat} {X : Cx} {pins : List (Addr × Obj)} {σ : L2.St} {H H' : Hp} {s s' : Shared}
theorem _root_.L2.Inv.low (I : Inv X pins σ H s) : Low X.s_0.heap.objs.size X :=
  ⟨I.ok.above, I.ok.bsz, I.ok.cab, fun b hb => by
    obtain ⟨_, o, ho, _⟩ := I.ok.funs.mem hb
    exact Heap.lt_size ho⟩
/-- others did something; this frame's things stand as they stood -/
theorem _root_.L2.Inv.anew (I : Inv X pins σ H s) (l : Low n X) (keep : ∀ b o, b ∉ X.fs → (∀ v, o.data ≠ .cell v) → s.heap.get? b = some o → H b = none → s'.heap.get? b = some o ∧ H' b = none)
    (cel : ∀ x c o, X.env.cells.lookup x = some c → s.heap.get? c = some o → s'.heap.get? c = some o ∧ H' c = none) (bs : ∀ b o, X.base.get? b = some o → s'.heap.get? b = some o ∧ H' b = none)
    (frf : ∀ b ∈ X.fs, H' b = none) (funs : s'.heap.FunFrames X.base X.outer) (bare : AllBare s'.gens) (hok : HOk X.prog X.w H' s'.heap) : Inv (rex n X s' H') pins σ H' s' := by
  have locf : X.env.locals ∉ X.fs := fun z => absurd (l.fs _ z) (Nat.not_lt.mpr l.loc)
  obtain ⟨m, hn, hl⟩ := id I.loc
  obtain ⟨ol, es, ep, hol, hdl, rl⟩ := id hn
  obtain ⟨kl, kf⟩ := keep _ ol locf (fun v z => by rw [hdl] at z; cases z) hol I.free
  have lt' : X.env.locals < s'.heap.objs.size := Heap.lt_size kl
  have sz : n ≤ s'.heap.objs.size := Nat.le_trans l.loc (Nat.le_of_lt lt')
  have noc : ∀ {x c v}, X.env.cells.lookup x = some c → s.heap.IsCell c v → s'.heap.IsCell c v ∧ H' c = none := fun {x c v} e ⟨o, ho, hd⟩ =>
    ⟨⟨o, (cel x c o e ho).1, hd⟩, (cel x c o e ho).2⟩
  refine ⟨⟨I.ok.mod, I.ok.kind, I.ok.glob, I.ok.blt, ?_, I.ok.inj, I.ok.has, fun x c h1 h2 => ?_, I.ok.hd, I.ok.frames, I.ok.stk, I.ok.exf, fun b o e => ?_, ?_, I.ok.noex, I.ok.exfs, funs_cut funs l.fs, frf⟩,
    rfl, bare, Un.cut, ⟨m, ⟨ol, es, ep, kl, hdl, rl⟩, fun i x v e1 e2 e3 => ?_⟩, fun x c e => ?_, kf, fun x c e => ?_, fun p hp => ?_, hok, I.len⟩
  · show (cutH n s'.heap).objs.size ≤ X.env.locals
    rw [cutH_size sz]; exact l.loc
  · show (cutH n s'.heap).objs.size ≤ c
    rw [cutH_size sz]; exact l.fn x c h1 h2
  · obtain ⟨e1, e2⟩ := bs b o e
    exact ⟨by show (cutH n s'.heap).get? b = _; rw [cutH_lt (Nat.lt_of_lt_of_le (Heap.lt_size e) l.base)]; exact e1, e2⟩
  · show X.base.objs.size ≤ (cutH n s'.heap).objs.size
    rw [cutH_size sz]; exact l.base
  · obtain ⟨u, r, lk⟩ := hl i x v e1 e2 e3
    refine ⟨u, r, ?_⟩
    rcases lk with lk | ⟨k, c, e, z⟩
    · exact .inl lk
    · exact .inr ⟨k, c, e, (noc e z).1⟩
  · obtain ⟨v, q⟩ := I.cell x c e
    exact ⟨v, (noc e q).1⟩
  · obtain ⟨v, q⟩ := I.cell x c e
    exact (noc e q).2
  · obtain ⟨e, n1, ne, nf, d⟩ := I.pin p hp
    obtain ⟨k1, k2⟩ := keep p.1 p.2 nf d e n1
    exact ⟨k1, k2, ne, nf, d⟩
/-- a context is begun anew where it stands -/
theorem _root_.L2.Inv.again (I : Inv X pins σ H s) (l : Low n X) : Inv (rex n X s H) pins σ H s :=
  I.anew l (fun _ _ _ _ e n => ⟨e, n⟩) (fun x c o e z => ⟨z, I.freeC x c e⟩) I.bs (fun b hb => by
    by_cases hx : b ∈ X.ex
    · exact absurd hb (I.ok.exfs b hx)
    · obtain ⟨_, o, ho, _⟩ := I.ok.funs.mem hb
      exact I.base.free b o ho (I.ok.frf b hb) hx) I.funs I.bare I.hok
/-- all that is not tracked is pinned -/
theorem _root_.L2.Inv.all (I : Inv X pins σ H s) : ∃ pl, Inv X (pins ++ pl) σ H s ∧ ∀ b o, s.heap.get? b = some o → H b = none → b ≠ X.env.locals → b ∉ X.fs → (∀ v, o.data ≠ .cell v) → (b, o) ∈ pl := by
  classical
  refine ⟨pinsAt ((List.range s.heap.objs.size).filter fun b => decide (H b = none ∧ b ≠ X.env.locals ∧ b ∉ X.fs ∧ ∀ o, s.heap.get? b = some o → ∀ v, o.data ≠ .cell v)) s.heap, I.pins_of fun p hp => ?_, fun b o e h1 h2 h3 h4 => ?_⟩
  · rcases List.mem_append.mp hp with hp | hp
    · exact I.pin p (List.mem_append_right _ hp)
    · obtain ⟨hb, e⟩ := of_pinsAt hp
      obtain ⟨h1, h2, h3, h4⟩ := of_decide_eq_true (List.mem_filter.mp hb).2
      exact ⟨e, h1, h2, h3, h4 _ e⟩
  · refine mem_pinsAt (List.mem_filter.mpr ⟨List.mem_range.mpr (Heap.lt_size e), decide_eq_true ⟨h1, h2, h3, fun o' e' => ?_⟩⟩) e
    rw [e] at e'
    cases e'
    exact h4
end
/-- the sleeper's callers: older than n -/
structure CLow (n : Nat) (X : Cx) (pins : List (Addr × Obj)) : Prop where
  sz : X.s_0.heap.objs.size ≤ n
  loc : X.env.locals < n
  cell : ∀ x c, X.env.cells.lookup x = some c → c < n
  pin : ∀ p ∈ X.pn ++ pins, p.1 < n
section
variable {n : Nat} {X Y : Cx} {pins ip : List (Addr × Obj)} {σ σ' τ : L2.St} {H H' : Hp} {s s' : Shared}
theorem _root_.L2.Inv.clow (I : Inv X pins σ H s) : CLow s.heap.objs.size X pins :=
  ⟨I.sz, I.lt, fun x c e => by obtain ⟨v, q⟩ := I.cell x c e; exact q.lt, fun p hp => Heap.lt_size (I.pin p hp).1⟩
/-- behind a run of the generator: its caller's frame stands -/
theorem _root_.L2.Inv.passed (I : Inv X pins σ H s) (c : CLow n X pins) (os : s'.os = s.os) (bare : AllBare s'.gens) (un : Un (frs X.stack) [] H H' (cutH n s.heap) s'.heap) (hok : HOk X.prog X.w H' s'.heap) : Inv X pins σ H' s' := by
  have hch : ∀ b o, s.heap.get? b = some o → b ∉ (List.range s.heap.objs.size).filter (fun b => decide (n ≤ b)) → (cutH n s.heap).get? b = some o := fun b o e hb => by
    have : ¬ n ≤ b := fun z => hb (List.mem_filter.mpr ⟨List.mem_range.mpr (Heap.lt_size e), decide_eq_true z⟩)
    rw [cutH_lt (Nat.lt_of_not_le this)]
    exact e
  have no : ∀ b, b ∉ ([] : List Addr) := fun b z => nomatch z
  refine I.call' (ch := (List.range s.heap.objs.size).filter (fun b => decide (n ≤ b))) os ⟨fun b o e h1 h2 h3 => un.keep b o (hch b o e h3) h1 h2 (no b), fun b o e h1 h2 h3 => un.slot b o (hch b o e h3) h1 h2 (no b),
    fun b o e h1 h3 => un.free b o (hch b o e h3) h1 (no b), fun b o e h3 => un.there b o (hch b o e h3) (no b), un.tups, un.frzs, un.tbls⟩ hok bare fun b hb => ?_
  have hn : n ≤ b := of_decide_eq_true (List.mem_filter.mp hb).2
  exact ⟨.inr (Nat.le_trans c.sz hn), Nat.ne_of_gt (Nat.lt_of_lt_of_le c.loc hn), fun x d e => Nat.ne_of_lt (Nat.lt_of_lt_of_le (c.cell x d e) hn), fun p hp => Nat.ne_of_lt (Nat.lt_of_lt_of_le (c.pin p hp) hn)⟩
/-- behind a turn of the caller: the sleeper's frame stands; its cells are looked after -/
theorem _root_.L2.Inv.slept {Hx Hy : Hp} (J : Inv Y ip τ H s) (l : Low n Y) (hb : Y.base = X.base) (hp : Y.prog = X.prog) (hw : Y.w = X.w) (ho : Y.outer = X.stack) (hs : X.stack = X.env :: X.outer) (hf : X.env.frame = some X.env.locals) {pl : List (Addr × Obj)}
    (cel : ∀ x c o, Y.env.cells.lookup x = some c → s.heap.get? c = some o → s'.heap.get? c = some o ∧ H' c = none) (hx : ∀ b o, s.heap.get? b = some o → H b = none → (∀ v, o.data ≠ .cell v) → Hx b = none) (hy : ∀ b, Hy b = none → H' b = none)
    (hpl : ∀ b o, s.heap.get? b = some o → Hx b = none → b ≠ X.env.locals → b ∉ X.fs → (∀ v, o.data ≠ .cell v) → (b, o) ∈ pl) (I : Inv X (pins ++ pl) σ' Hy s') (hok : HOk X.prog X.w H' s'.heap) : Inv (rex n Y s' H') ip τ H' s' := by
  have e0 := I.env0
  refine J.anew l (fun b o h1 h2 h3 h4 => ?_) cel (fun b o e => let z := I.bs b o (hb ▸ e); ⟨z.1, hy b z.2⟩) (fun b z => hy b (e0.frf b (by rw [← ho]; exact z))) (by rw [hb, ho]; exact e0.funs) I.bare (by rw [hp, hw]; exact hok)
  have hn : b ∉ frs X.stack := fun z => h1 (by show b ∈ frs Y.outer; rw [ho]; exact z)
  have hm : frs X.stack = X.env.locals :: X.fs := by
    rw [hs]
    unfold frs
    rw [List.filterMap_cons, hf]
    rfl
  rw [hm] at hn
  have hq := hpl b o h3 (hx b o h3 h4 h2) (fun z => hn (by rw [z]; exact List.mem_cons_self)) (fun z => hn (List.mem_cons_of_mem _ z)) h2
  have q := I.pin (b, o) (List.mem_append_right _ (List.mem_append_right _ hq))
  exact ⟨q.1, hy b q.2.1⟩
/-! ### cells that are looked after -/
def trk (cs : List Addr) (s : Shared) (H : Hp) : Hp := fun b => if b ∈ cs then some (.ext fun h => h.get? b = s.heap.get? b) else H b
def untrk (cs : List Addr) (H : Hp) : Hp := fun b => if b ∈ cs then none else H b
theorem trk_at {cs : List Addr} {b : Addr} (hb : b ∈ cs) : trk cs s H b = some (.ext fun h => h.get? b = s.heap.get? b) := if_pos hb
theorem trk_ne {cs : List Addr} {b : Addr} (hb : b ∉ cs) : trk cs s H b = H b := if_neg hb
theorem untrk_at {cs : List Addr} {b : Addr} (hb : b ∈ cs) : untrk cs H b = none := if_pos hb
theorem untrk_ne {cs : List Addr} {b : Addr} (hb : b ∉ cs) : untrk cs H b = H b := if_neg hb
theorem trk_ok {P : Program} {w : World} {cs : List Addr} (ok : HOk P w H s.heap) (hc : ∀ b ∈ cs, H b = none ∧ ∃ o, s.heap.get? b = some o) : HOk P w (trk cs s H) s.heap := fun b u e => by
  by_cases hb : b ∈ cs
  · rw [trk_at hb] at e
    cases e
    exact ⟨rfl, (hc b hb).2, fun h1 h2 e1 k => by
      obtain ⟨o, ho⟩ := (hc b hb).2
      rw [ho] at e1 ⊢
      exact k o e1⟩
  · rw [trk_ne hb] at e
    refine (ok b u e).stay (fun _ _ _ q => q) (fun c q => ?_) fun c xs q => ?_
    · rw [trk_ne fun z => by rw [(hc c z).1] at q; cases q]; exact q
    · rw [trk_ne fun z => by rw [(hc c z).1] at q; cases q]; exact q
theorem untrk_ok {P : Program} {w : World} {cs : List Addr} {h : Heap} (ok : HOk P w H h) (hc : ∀ b ∈ cs, ∃ φ, H b = some (.ext φ)) : HOk P w (untrk cs H) h := fun b u e => by
  by_cases hb : b ∈ cs
  · rw [untrk_at hb] at e
    cases e
  · rw [untrk_ne hb] at e
    refine (ok b u e).stay (fun _ _ _ q => q) (fun c q => ?_) fun c xs q => ?_
    · rw [untrk_ne fun z => by obtain ⟨φ, y⟩ := hc c z; rw [y] at q; cases q]; exact q
    · rw [untrk_ne fun z => by obtain ⟨φ, y⟩ := hc c z; rw [y] at q; cases q]; exact q
/-- only what is told of young addresses changes -/
theorem _root_.L2.Inv.retold (I : Inv X pins σ H s) (hd : ∀ b, H' b = H b ∨ (X.s_0.heap.objs.size ≤ b ∧ b ≠ X.env.locals ∧ (∀ x c, X.env.cells.lookup x = some c → c ≠ b) ∧ (∀ p ∈ X.pn ++ pins, p.1 ≠ b)))
    (ht : ∀ b xs, H b = some (.tup xs) → H' b = some (.tup xs)) (hf : ∀ b o u, H b = some (.frz o u) → H' b = some (.frz o u)) (hb : ∀ b ps, H b = some (.tbl ps) → H' b = some (.tbl ps)) (hok : HOk X.prog X.w H' s.heap) : Inv X pins σ H' s := by
  refine ⟨I.ok, I.os, I.bare, ⟨fun b o e n h1 h2 => I.base.keep b o e n h1 h2, fun b o e n h1 h2 => I.base.slot b o e n h1 h2, fun b o e n h2 => ?_, I.base.there, fun b xs e => ht b xs (I.base.tups b xs e), fun b o u e => hf b o u (I.base.frzs b o u e), fun b ps e => ?_⟩, I.loc, I.cell, ?_, fun x c e => ?_, fun p hp => ?_, hok, I.len⟩
  · rcases hd b with z | z
    · rw [z]; exact I.base.free b o e n h2
    · exact absurd (Nat.lt_of_lt_of_le (Heap.lt_size e) z.1) (Nat.lt_irrefl _)
  · obtain ⟨more, q⟩ := I.base.tbls b ps e
    exact ⟨more, hb b _ q⟩
  · rcases hd X.env.locals with z | z
    · rw [z]; exact I.free
    · exact absurd rfl z.2.1
  · rcases hd c with z | z
    · rw [z]; exact I.freeC x c e
    · exact absurd rfl (z.2.2.1 x c e)
  · obtain ⟨e, n1, r⟩ := I.pin p hp
    refine ⟨e, ?_, r⟩
    rcases hd p.1 with z | z
    · rw [z]; exact n1
    · exact absurd rfl (z.2.2.2 p hp)
end
end Wb
/-! WbGc -/
set_option maxHeartbeats 4000000
/-! A generator that walks a list and hands out an item at each turn. -/
namespace Wb
open PySem PySem.Spec PyProof.Rows L2 GenW

section
variable {prog : Program} {w : World} {A : Around} {R : GenEnd} {Y : Protocol} {n : Nat} {s₀ : Shared} {fs : List Frame} {s : Shared} {env : Env} {c : Code} {K : Flow → Sem PySem.Fin} {H : Value → Sem PySem.Fin} {gd : Bool → Bool} {lv : List Value → List Value}
/-- what follows a turn's body -/
def afterTurn (tg : Expr) (it : Value) (body : List Stmt) (env : Env) (f : Flow) : Sem PySem.Fin := match f with
  | .next | .cont => .pure (.again (.forLoop tg it body [] env))
  | .brk => .pure (.done .next)
  | .ret v => .pure (.done (.ret v))
def onExc (env : Env) (x : Value) : Sem PySem.Fin := (do noteFrame x env; theTreesLotGoes x : Sem Unit).wrap (fun _ => .raise x) .raise id id
theorem seg_forLoop {tg : Expr} {it : Value} {body : List Stmt}
    (h : wpAny (model prog w) (A.over (.forLoop tg it body [] env) fs) (pyNext it) (fun r s1 => match r with
      | none => Seg (model prog w) A R Y n s₀ (.forLoop tg it body [] env) (.pure (.again (.block [] env))) fs s1
      | some v => wpAny (model prog w) (A.over (.forLoop tg it body [] env) fs) (letOwnedTupleGo tg it v) (fun _ s2 => wpAny (model prog w) (A.over (.forLoop tg it body [] env) fs) (assign tg env v) (fun _ s3 =>
          Seg (model prog w) A R Y n s₀ (.forLoop tg it body [] env) ((execs body env).wrap (afterTurn tg it body env) (onExc env) id id) fs s3) (fun _ _ => False) s2) (fun _ _ => False) s1) (fun _ _ => False) s) :
    Seg (model prog w) A R Y n s₀ (.forLoop tg it body [] env) ((model prog w).den (.forLoop tg it body [] env)) fs s := by
  show Seg _ A R Y n s₀ _ ((forTurn tg it body [] env).onRaise (fun x => do noteFrame x env; theTreesLotGoes x)) fs s
  unfold forTurn
  rw [Sem.onRaise_eq_wrap, Sem.bind_eq_wrap', Sem.wrap_wrap]
  refine seg_wrap (wpAny_standAt ?_)
  try dsimp only
  rw [Sem.bind_eq_wrap', Sem.wrap_wrap]
  refine seg_wrap (wpAny_onRaise (wpAny_mono h (fun r s1 h1 => ?_) fun _ _ z => z.elim))
  cases r with
  | none => exact h1
  | some v =>
    try dsimp only
    rw [Sem.bind_eq_wrap', Sem.wrap_wrap]
    refine seg_wrap (wpAny_mono h1 (fun _ s2 h2 => ?_) fun _ _ z => z.elim)
    try dsimp only
    rw [Sem.bind_eq_wrap', Sem.wrap_wrap]
    refine seg_wrap (wpAny_mono h2 (fun _ s3 h3 => ?_) fun _ _ z => z.elim)
    try dsimp only
    rw [Sem.bind_eq_wrap', Sem.wrap_wrap]
    rw [Sem.wrap_congr (execs body env) _ _ (K' := afterTurn tg it body env) (H' := onExc env) (fun f => by cases f <;> rfl) (fun e => by
      unfold onExc
      first | exact Sem.bind_eq_wrap _ _ | (show (do noteFrame e env; theTreesLotGoes e : Sem Unit).bind (fun _ => .raise e) = _; rw [Sem.bind_eq_wrap]))]
    exact h3
theorem seg_block0 (h : Seg (model prog w) A R Y n s₀ (.block [] env) (.pure (.done .next)) fs s) : Seg (model prog w) A R Y n s₀ (.block [] env) ((model prog w).den (.block [] env)) fs s := by
  show Seg _ A R Y n s₀ _ (((execs [] env).onRaise (fun x => do noteFrame x env; theTreesLotGoes x)) >>= _) fs s
  rw [Sem.onRaise_eq_wrap, Sem.bind_eq_wrap', Sem.wrap_wrap]
  exact seg_execs_nil h
theorem seg_For {tg iter : Expr} {body : List Stmt} {pos : Pos} (hs : ∀ x, foldedSetIterable iter env x = pure x)
    (h : wpAny (model prog w) (A.over c fs) (eval iter env) (fun x s1 => wpAny (model prog w) (A.over c fs) (pyIter x) (fun it s2 => ∀ p k, (∀ n' s₀' s', Seg (model prog w) A R Y n' s₀' c (K .next) fs s' → Seg (model prog w) A R Y n' s₀' c (k (.ok .next)) fs s') →
      Seg (model prog w) A R Y n s₀ (.forLoop tg it body [] env) ((model prog w).den (.forLoop tg it body [] env)) (.ret k none (gd false) (lv []) c p [] :: fs) s2) (fun _ _ => False) s1) (fun _ _ => False) s) :
    Seg (model prog w) A R Y n s₀ c ((exec (.For tg iter body [] pos) env).wrap K H gd lv) fs s := by
  rw [exec_For]
  rw [Sem.bind_eq_wrap', Sem.wrap_wrap]
  refine seg_wrap (wpAny_standAt ?_)
  try dsimp only
  rw [Sem.bind_eq_wrap', Sem.wrap_wrap]
  refine seg_wrap (wpAny_mono h (fun x s1 h1 => ?_) fun _ _ z => z.elim)
  rw [hs x]
  show Seg _ A R Y n s₀ c (Sem.wrap K H gd lv (standAt iter.pos >>= fun _ => holding [x] (pyIter x) >>= fun it => runOwn (.forLoop tg it body [] env) env)) fs s1
  rw [Sem.bind_eq_wrap', Sem.wrap_wrap]
  refine seg_wrap (wpAny_standAt ?_)
  rw [Sem.bind_eq_wrap', Sem.wrap_wrap]
  refine seg_wrap (wpAny_holding (wpAny_mono h1 (fun it s2 h2 => ?_) fun _ _ z => z.elim))
  exact seg_call fun p => h2 p _ fun n' s' s3 z => z
end

/-! ### a generator and its caller -/
structure Sess where
  X : Cx
  C : Cx
  pc : List (Addr × Obj)
  n : Nat
  F : Fm
  a : Addr
  g : Nat
  go : Obj
  G : Nat → L2.St → Hp → Prop
  out : Nat → V → Hp → Prop
  N : Nat
  Hc : Hp
/-- what a generator may do to what is told: it changes raw things that were not told of at its birth -/
def Grow (Hc H H' : Hp) : Prop := ∀ b o, (Hc b ≠ none ∨ ∀ φ, o ≠ .ext φ) → H b = some o → H' b = some o
theorem Grow.refl {Hc H : Hp} : Grow Hc H H := fun _ _ _ h => h
theorem Grow.trans {Hc H H1 H2 : Hp} (a : Grow Hc H H1) (b : Grow Hc H1 H2) : Grow Hc H H2 := fun x o h e => b x o h (a x o h e)
structure Sess.Ok (S : Sess) : Prop where
  low : Low S.n S.X
  clow : CLow S.n S.C S.pc
  prog : S.X.prog = S.C.prog
  w : S.X.w = S.C.w
  outer : S.X.outer = S.C.stack
  ex : S.X.ex = []
  pn : S.X.pn = [(S.a, S.go)]
  gen : ∀ h : Heap, h.get? S.a = some S.go → h.IsGen S.a S.g
  calm : S.X.calm = true
  xe : S.X.xe = fun _ _ => False
  keep : ∀ j σ H H', S.G j σ H → S.F.J H → Grow S.Hc H H' → S.F.J H' ∧ S.G j σ H'
  lim : S.N < sizeLine
  j0 : S.F.J S.Hc
/-- the generator runs; its caller stands ahead of turn j -/
def Sess.At (S : Sess) (ip : List (Addr × Obj)) (j : Nat) (τ : L2.St) (H : Hp) (s : Shared) : Prop :=
  ∃ s1 H1 σ, S.n ≤ s1.heap.objs.size ∧ L2.Inv (rex S.n S.X s1 H1) ip τ H s ∧ L2.Inv S.C S.pc σ H1 s1 ∧ S.G j σ H1 ∧ S.F.J H1 ∧ Grow S.Hc H1 H
def Sess.Caller (S : Sess) (j : Nat) (H : Hp) (s : Shared) : Prop := ∃ σ, L2.Inv S.C S.pc σ H s ∧ S.G j σ H ∧ S.F.J H
def Sess.Y (S : Sess) : Protocol := fun m s₀ v s kap => ∃ j s1 H1 ip τ H u, m + 1 + j = sizeLine ∧ j < S.N ∧ S.out j u H ∧ RelV u v ∧ L2.Inv (rex S.n S.X s1 H1) ip τ H s ∧ S.Caller j H s ∧ s.heap.IsGen S.a S.g ∧
  ∀ s' H', L2.Inv (rex S.n S.X s' H') ip τ H' s' → S.Caller (j + 1) H' s' → Kp S.F H H' → kap (.send .none) s'
def Sess.R (S : Sess) : GenEnd := fun m s₀ r s => (r = .ok (.ret .none) ∨ r = .ok .next) ∧ ∃ H, S.Caller S.N H s ∧ s.heap.IsGen S.a S.g
section
variable {S : Sess} {ip : List (Addr × Obj)} {j : Nat} {τ : L2.St} {H : Hp} {s : Shared}
theorem Sess.At.caller (ok : S.Ok) (h : S.At ip j τ H s) : S.Caller j H s ∧ s.heap.IsGen S.a S.g := by
  obtain ⟨s1, H1, σ, _, I, C, G, jh, gr⟩ := h
  obtain ⟨j2, g2⟩ := ok.keep j σ H1 H G jh gr
  have un : Un (frs S.C.stack) [] H1 H (cutH S.n s1.heap) s.heap := by
    have b := I.base
    have e1 : (rex S.n S.X s1 H1).fs = frs S.C.stack := by
      show frs S.X.outer = _
      rw [ok.outer]
    have e2 : (rex S.n S.X s1 H1).ex = [] := ok.ex
    rw [e1, e2] at b
    exact b
  refine ⟨⟨σ, C.passed ok.clow I.os I.bare un ?_, g2, j2⟩, ?_⟩
  · have := I.hok
    rw [← ok.prog, ← ok.w]
    exact this
  · have := (I.pin (S.a, S.go) (List.mem_append_left _ (by show _ ∈ S.X.pn; rw [ok.pn]; exact List.mem_singleton.mpr rfl))).1
    exact ok.gen _ this
theorem execs_app {env : Env} {rest : List Stmt} {K : Flow → Sem PySem.Fin} {J : Value → Sem PySem.Fin} {gd : Bool → Bool} {lv : List Value → List Value} : ∀ pre : List Stmt,
    (execs (pre ++ rest) env).wrap K J gd lv = (execs pre env).wrap (fun f => match f with | .next => (execs rest env).wrap K J gd lv | f => K f) J gd lv
  | [] => rfl
  | st :: pre => by
    rw [List.cons_append, execs_cons_wrap, execs_cons_wrap]
    refine Sem.wrap_congr _ _ _ (fun f => ?_) (fun _ => rfl)
    cases f with
    | next => exact execs_app pre
    | _ => rfl
/-- what a turn's body is to reach -/
def Sess.ends (S : Sess) (te : TE) (Li : Nat → L2.St → Hp → Prop) (i : Nat) (H : Hp) : Ends where
  nx := fun τ3 H3 => te τ3 H3 fun u H4 => S.out i u H4 ∧ Grow S.Hc H H4 ∧ ∀ H5, S.F.J H4 → S.F.J H5 → Kp S.F H4 H5 → Li (i + 1) τ3 H5
  rt := fun _ _ => False
/-- the loop -/
theorem seg_genFor (ok : S.Ok) {tg iter e : Expr} {pre : List Stmt} {yp pos pos2 : Pos} {wi : TI} {g : TG} {tb : TS} {te : TE} {A : Around} {c : Code} {fs : List Frame} {K : Flow → Sem PySem.Fin} {J : Value → Sem PySem.Fin} {gd : Bool → Bool} {lv : List Value → List Value} {s₀ : Shared}
    (hI : ∀ s H, PI (rex S.n S.X s H) tg iter wi) (hT : ∀ s H, PG (rex S.n S.X s H) tg g) (hB : ∀ s H, PSs (rex S.n S.X s H) pre tb) (hE : ∀ s H, PE (rex S.n S.X s H) e te)
    (ho : A.over c fs = S.X.A) (hsp : splitAtGen fs = none) (hgd : gd false = false) (hfg : fs.any Frame.guarded = false) (hco : S.X.env.scope.isCoroutine = false) (hin : interactive S.X.env = false)
    (hs : ∀ x, foldedSetIterable iter S.X.env x = pure x) (h0 : S.At ip 0 τ H s)
    (turn : wi τ H fun It H1 => Grow S.Hc H H1 ∧ ∃ Li : Nat → L2.St → Hp → Prop, Li 0 τ H1 ∧ ∀ i τ H, Li i τ H → (i < S.N ∧ It.go i H ∧ ∀ x H', It.yld i H x H' → g x τ H' fun τ2 H2 => tb (S.ends te Li i H) τ2 H2) ∨ (i = S.N ∧ It.stop i H))
    (hK : ∀ m s₀ s' H', S.Caller S.N H' s' → s'.heap.IsGen S.a S.g → Seg (model S.X.prog S.X.w) A S.R S.Y m s₀ c (K .next) fs s') :
    Seg (model S.X.prog S.X.w) A S.R S.Y sizeLine s₀ c ((exec (.For tg iter (pre ++ [.Expr (.Yield (some e) yp) pos2]) [] pos) S.X.env).wrap K J gd lv) fs s := by
  obtain ⟨s1, H1, σ, sz1, I, C, G, jh, gr⟩ := h0
  refine seg_For hs ?_
  rw [ho]
  have r0 := (hI s1 H1).run ip s τ H _ I turn
  refine wpAny_mono r0 (fun x s2 h2 => wpAny_mono h2 (fun itv s3 h3 => ?_) fun e s' z => ?_) fun e s' z => ?_
  rotate_left
  · have z : S.X.xe e s' := z
    rw [ok.xe] at z
    exact z.elim
  · have z : S.X.xe e s' := z
    rw [ok.xe] at z
    exact z.elim
  obtain ⟨it, fp, tn, It, H3, rfl, I3, T, st3, f3, gr3, Li, l0, step⟩ := h3
  intro p k hk
  have ov : A.over (.forLoop tg (.ref it) (pre ++ [.Expr (.Yield (some e) yp) pos2]) [] S.X.env) (.ret k none (gd false) (lv []) c p [] :: fs) = S.X.A := (over_loop rfl rfl).trans ho
  have sp2 : splitAtGen (.ret k none (gd false) (lv []) c p [] :: fs) = none := by
    show (splitAtGen fs).map _ = none
    rw [hsp]
    rfl
  have fg2 : (Frame.ret k none (gd false) (lv []) c p [] :: fs).any Frame.guarded = false := by
    show (gd false || fs.any Frame.guarded) = false
    rw [hgd, hfg]
    rfl
  have fpA : ∀ (s' : Shared) (Hx H' : Hp), S.n ≤ s'.heap.objs.size → (∀ b ∈ fp, H' b = none) → ∀ b ∈ fp, FpOk (rex S.n S.X s' Hx) ip H' b := fun s' Hx H' sz hn b hb => by
    obtain ⟨f0, f1, f2, f4, f5, f6⟩ := f3 b hb
    refine ⟨hn b hb, f1, f2, ?_, f5, f6⟩
    rcases f4 with z | z
    · exact .inl z
    · refine .inr ?_
      have q : (cutH S.n s1.heap).objs.size ≤ b := z
      rw [cutH_size sz1] at q
      show (cutH S.n s'.heap).objs.size ≤ b
      rw [cutH_size sz]
      exact q
  generalize hfs : Frame.ret k none (gd false) (lv []) c p [] :: fs = fs2 at ov sp2 fg2 ⊢
  have loop : ∀ (d i m : Nat) (s₀ s' : Shared) (τ' : L2.St) (H' : Hp), i + d = S.N → m + i = sizeLine → S.At ip i τ' H' s' → tn i s'.heap → (∀ b ∈ fp, H' b = none) → Li i τ' H' →
      Seg (model S.X.prog S.X.w) A S.R S.Y m s₀ (.forLoop tg (.ref it) (pre ++ [.Expr (.Yield (some e) yp) pos2]) [] S.X.env) ((model S.X.prog S.X.w).den (.forLoop tg (.ref it) (pre ++ [.Expr (.Yield (some e) yp) pos2]) [] S.X.env)) fs2 s' := by
    intro d
    induction d with
    | zero =>
      intro i m s₀ s' τ' H' hi hm hA st fr l
      rcases step i τ' H' l with ⟨hlt, _⟩ | ⟨_, hst⟩
      · omega
      have hC := hA.caller ok
      obtain ⟨s1', H1', σ', sz', I', C', G', jh', gr'⟩ := hA
      refine seg_forLoop ?_
      rw [ov]
      refine wpAny_mono (T.done (rex S.n S.X s1' H1') rfl rfl rfl ok.calm i ip s' τ' H' (fun _ _ => False) I' (fpA s1' H1' H' sz' fr) st hst) (fun r s2 hr => ?_) (fun _ _ z => z)
      obtain ⟨rfl, I2⟩ := hr
      have hA2 : S.At ip i τ' H' s2 := ⟨s1', H1', σ', sz', I2, C', G', jh', gr'⟩
      have hC2 := hA2.caller ok
      have e : i = S.N := by omega
      subst e
      refine seg_again rfl (seg_block0 ?_)
      rw [← hfs]
      exact seg_leaf (.ok .next) (hk _ _ _ (hK _ _ _ H' hC2.1 hC2.2))
    | succ d ih =>
      intro i m s₀ s' τ' H' hi hm hA st fr l
      rcases step i τ' H' l with ⟨hlt, hgo, stp⟩ | ⟨hh, _⟩
      rotate_left
      · omega
      obtain ⟨s1', H1', σ', sz', I', C', G', jh', gr'⟩ := hA
      refine seg_forLoop ?_
      rw [ov]
      have no : ∀ (e : Value) (s : Shared), S.X.xe e s → False := fun e s z => by
        rw [ok.xe] at z
        exact z
      refine wpAny_mono (T.item (rex S.n S.X s1' H1') rfl rfl rfl ok.calm i ip s' τ' H' (fun _ _ => False) I' (fpA s1' H1' H' sz' fr) st hgo) (fun r s2 h2 => ?_) (fun _ _ z => z)
      obtain ⟨u, rfl, h2⟩ := h2
      refine wpAny_mono h2 (fun _ s3 h3 => ?_) (fun _ _ z => z)
      obtain ⟨x, H3', I3', rx, y3, st3', fr3⟩ := h3
      have I3p := I3'.pinned (fpA s1' H1' H3' sz' fr3) (T.obj _ _ st3')
      refine wpAny_mono ((hT s1' H1').run _ s3 τ' H3' x u _ I3p rx (stp x H3' y3)) (fun _ s4 h4 => ?_) no
      obtain ⟨τ4, H4, I4, q4⟩ := h4
      rw [execs_app]
      refine seg_wrap ?_
      rw [ov]
      refine wpAny_mono ((hB s1' H1').run _ s4 τ4 H4 _ I4 q4) (fun f s5 h5 => ?_) fun e s5 z => (no e s5 z).elim
      cases f with
      | brk => obtain ⟨_, _, _, z⟩ := h5; exact z.elim
      | cont => obtain ⟨_, _, _, z⟩ := h5; exact z.elim
      | ret v => obtain ⟨_, _, _, _, _, z⟩ := h5; exact z.elim
      | next =>
        obtain ⟨τ5, H5, I5, q5⟩ := h5
        obtain ⟨m', rfl⟩ : ∃ m', m = m' + 1 := ⟨m - 1, by have := ok.lim; omega⟩
        refine seg_execs_cons ?_
        refine seg_Expr_Yield sp2 rfl fg2 ?_ hco hin
        rw [ov]
        refine wpAny_mono ((hE s1' H1').run _ s5 τ5 H5 _ I5 q5) (fun v s6 h6 => ?_) fun e s5 z => (no e s5 z).elim
        obtain ⟨u6, H6, I6, r6, out6, gr6, k6⟩ := h6
        have hA6 : S.At (ip ++ pinsAt fp s3.heap) i τ5 H6 s6 := ⟨s1', H1', σ', sz', I6, C', G', jh', gr'.trans gr6⟩
        obtain ⟨hC6, hg6⟩ := hA6.caller ok
        obtain ⟨_, _, _, j6⟩ := id hC6
        intro kap hkap
        refine ⟨i, s1', H1', ip ++ pinsAt fp s3.heap, τ5, H6, u6, by omega, hlt, out6, r6, I6, hC6, hg6, fun s7 H7 J7 C7 K7 => hkap .none s7 ?_⟩
        obtain ⟨σ7, C7, G7, j7⟩ := C7
        show Seg _ _ _ _ m' s7 _ ((execs [] S.X.env).wrap (afterTurn tg (.ref it) (pre ++ [.Expr (.Yield (some e) yp) pos2]) S.X.env) (onExc S.X.env) id id) fs2 s7
        refine seg_execs_nil (seg_again rfl (ih (i + 1) m' s7 s7 τ5 H7 (by omega) (by omega) ⟨s7, H7, σ7, Nat.le_trans ok.low.loc (Nat.le_of_lt J7.lt), J7.unpinned, C7, G7, j7, Grow.refl⟩ ?_ ?_ (k6 H7 j6 j7 K7)))
        · exact T.keep _ _ _ st3' fun b hb o e => (J7.pin (b, o) (List.mem_append_right _ (List.mem_append_right _ (mem_pinsAt hb e)))).1
        · intro b hb
          obtain ⟨o, e, _⟩ := T.obj _ _ st3' b hb
          exact (J7.pin (b, o) (List.mem_append_right _ (List.mem_append_right _ (mem_pinsAt hb e)))).2.1
  exact loop S.N 0 sizeLine s₀ s3 τ H3 (by omega) rfl ⟨s1, H1, σ, sz1, I3, C, G, jh, gr.trans gr3⟩ st3 (fun b hb => (f3 b hb).1) l0
end
end Wb
/-! WbGd -/
set_option maxHeartbeats 4000000
/-! next of a generator; for over a generator. -/
namespace Wb
open PySem PySem.Spec PyProof.Rows L2 GenW

section
variable {M : Model} {A : Around} {R : GenEnd} {Y : Protocol} {m g : Nat} {s : Shared} {gs : GenState}
/-- a sleeper is woken: it ends, or it sleeps again -/
theorem wpAny_wake {α : Type} {E : Value → Shared → Prop} {r : Resume} {l : List Value} {k : GenResult → Sem α} {Q : α → Shared → Prop} (hg : s.gens[g]? = some gs) (hgo : gs.Goes M A R Y m r (s.setGen g .running))
    (hR : ∀ x z, R m (s.setGen g .running) x z → wpAny M A (k (End.ret x).result) Q E (z.setGen g .finished))
    (hY : ∀ v z k1 l1 c1 p1 fr, Y (m - 1) (s.setGen g .running) v z (fun r1 z1 => Seg.next M A R Y m c1 (k1 r1) fr z1) → wpAny M A (k (.yielded v)) Q E (z.setGen g (.suspended k1 l1 c1 p1 fr false))) : wpAny M A (.resume g r l k) Q E s := by
  intro Γ p hΓ
  rw [Sem.wp_resume]
  have wk : ∀ c, (Γ.wake c p).Woken A := fun c => hΓ.wake c p
  have both : ∀ e z, SegEnd R Y m (Seg.next M A R Y m) (s.setGen g .running) e z → e.quiet = true ∧ Sem.wp M Γ (k e.result) (fun a _ s' => Q a s') (fun x _ s' => E x s') p (z.setGen g e.genState) := fun e z he => by
    cases e with
    | ret x => exact ⟨rfl, hR x z he Γ p hΓ⟩
    | susp v gd lv k1 c1 p1 fr =>
      obtain ⟨hq, hy⟩ := he
      have hq' : (gd || fr.any Frame.guarded) = false := by
        have : (!(gd || fr.any Frame.guarded)) = true := hq
        cases h : (gd || fr.any Frame.guarded) with
        | false => rfl
        | true => rw [h] at this; cases this
      refine ⟨hq, ?_⟩
      show Sem.wp M Γ (k (.yielded v)) _ _ p (z.setGen g (.suspended k1 lv c1 p1 fr (gd || fr.any Frame.guarded)))
      rw [hq']
      exact hY v z k1 lv c1 p1 fr hy Γ p hΓ
  cases gs with
  | fresh c =>
    obtain ⟨rfl, sg⟩ := hgo
    obtain ⟨e, z, hr, he⟩ := seg_iff.mp sg (Γ.wake c p) p rfl (wk c)
    obtain ⟨b1, b2⟩ := both e z he
    refine ⟨_, _, ?_, b2⟩
    unfold Wakes
    rw [hg]
    exact ⟨e, z, hr, b1, rfl, rfl⟩
  | suspended k0 l0 c0 p0 fr cl =>
    obtain ⟨e, z, hr, he⟩ := seg_iff.mp hgo (Γ.wake c0 p) p0 rfl (wk c0)
    obtain ⟨b1, b2⟩ := both e z he
    refine ⟨_, _, ?_, b2⟩
    unfold Wakes
    rw [hg]
    exact ⟨e, z, hr, b1, rfl, rfl⟩
  | running => exact hgo.elim
  | finished => exact hgo.elim
end
section
variable {P : Program} {w : World} {A : Around} {E : Value → Shared → Prop} {Y : Protocol} {s : Shared} {a : Addr} {g m : Nat} {gs : GenState}
/-- next(g) -/
theorem next_wake {Fin : Shared → Prop} {Q : Option Value → Shared → Prop} (hh : A.handled = none) (hl : s.heap.NoLimit) (hroom : A.depth < recursionLimit) (hg : s.heap.IsGen a g) (hgs : s.gens[g]? = some gs)
    (hgo : gs.Goes (model P w) A.in1 (fun _ _ r z => (r = .ok (.ret .none) ∨ r = .ok .next) ∧ Fin z) Y m (.send .none) (s.setGen g .running))
    (hY : ∀ v z k1 l1 c1 p1 fr, Y (m - 1) (s.setGen g .running) v z (fun r1 z1 => Seg.next (model P w) A.in1 (fun _ _ r z => (r = .ok (.ret .none) ∨ r = .ok .next) ∧ Fin z) Y m c1 (k1 r1) fr z1) → Q (some v) (z.setGen g (.suspended k1 l1 c1 p1 fr false)))
    (hF : ∀ z, Fin z → ∀ h', (∀ b o, z.heap.get? b = some o → h'.get? b = some o) → Q none { z.setGen g .finished with heap := h' }) : wpAny (model P w) A (pyNext (.ref a)) Q E s := by
  unfold pyNext
  have gt := hg.typeIs
  refine wpAny_bind (wpAny_attempt (wpAny_callSpecial?_slot (name := "__next__") gt slot_gen_next (wpAny_call_entry slot_gen_next gt entry_gen_next ?_ (args_gen_next _))))
  show wpAny _ A.in1 (Builtin.Generator.genWake (.ref a) (.send .none)) _ _ s
  unfold Builtin.Generator.genWake
  refine wpAny_bind (wpAny_holding (wpAny_genNumber hg (wpAny_bind (wpAny_genState hgs ?_))))
  have hgo' := hgo
  cases gs with
  | running => exact hgo'.elim
  | finished => exact hgo'.elim
  | _ =>
    refine wpAny_bind (wpAny_roomToWake hl hroom ?_)
    show wpAny _ A.in1 (.resume g (.send .none) [] _) _ _ s
    refine wpAny_wake hgs hgo (fun x z hx => ?_) fun v z k1 l1 c1 p1 fr hy => ?_
    · obtain ⟨hr, hf⟩ := hx
      have er : (End.ret x).result = .returned .none := by
        rcases hr with rfl | rfl <;> rfl
      first | rw [er] | simp only [er]
      show wpAny _ A.in1 (newExc (.type "StopIteration") [] >>= _) _ _ _
      refine wpAny_bind ?_
      simp only [newExc, newTuple]
      refine wpAny_bind (wpAny_newObj_type ?_ (by size_fits))
      refine wpAny_bind (m := firstArgMember _ _) (wpAny_of_eq (a := Value.none) (by first | rfl | (simp only [firstArgMember]; rfl)) (wpAny_newObj_type ?_ (by size_fits)))
      simp only [raiseNew]
      refine wpAny_bind (wpAny_bind (wpAny_handled ?_))
      have hh1 : A.in1.handled = none := hh
      rw [hh1]
      refine wpAny_throw (wpAny_bind (wpAny_isInstance (T := "StopIteration") (b := true) ⟨_, Heap.get?_push_size _ rfl, rfl⟩ isSubtype_stop (wpAny_pure ?_)))
      exact hF z hf _ fun b o q => Heap.get?_push_of_some _ (Heap.get?_push_of_some _ q)
    · exact wpAny_pure ⟨v, rfl, wpAny_pure (hY v z k1 l1 c1 p1 fr hy)⟩
end
end Wb
/-! WbGe -/
set_option maxHeartbeats 4000000
namespace Wb
open PySem PySem.Spec PyProof.Rows L2 GenW

theorem _root_.L2.Inv.gens {X : Cx} {pins : List (Addr × Obj)} {σ : L2.St} {H : Hp} {s : Shared} {T : Array GenState} (I : L2.Inv X pins σ H s) (h : AllBare T) : L2.Inv X pins σ H { s with gens := T } :=
  ⟨I.ok, I.os, h, I.base, I.loc, I.cell, I.free, I.freeC, I.pin, I.hok, I.len⟩
def Keep (Hc : Hp) (F : Fm) (G : Nat → L2.St → Hp → Prop) : Prop := ∀ j σ H H', G j σ H → F.J H → Grow Hc H H' → F.J H' ∧ G j σ H'
/-- the generator that u is: it will hand out these -/
def Made (C : Cx) (pc : List (Addr × Obj)) (n N : Nat) (items : Nat → D) (H : Hp) (u : Value) (s : Shared) : Prop :=
  ∃ (X : Cx) (a : Addr) (g : Nat) (go : Obj) (c : Code), u = .ref a ∧ s.gens[g]? = some (.fresh c) ∧ s.heap.IsGen a g ∧ X.base = C.base ∧ (∀ x c, X.env.cells.lookup x = some c → n ≤ c) ∧
    ∀ (F : Fm) (G : Nat → L2.St → Hp → Prop), Keep H F G → F.J H → Sess.Ok ⟨X, C, pc, n, F, a, g, go, G, fun j v H => Rep H v (items j), N, H⟩ ∧
      ∀ σ s2, s2.heap = s.heap → L2.Inv C pc σ H s2 → G 0 σ H → F.J H → Seg (model X.prog X.w) C.A.in1 (Sess.R ⟨X, C, pc, n, F, a, g, go, G, fun j v H => Rep H v (items j), N, H⟩) (Sess.Y ⟨X, C, pc, n, F, a, g, go, G, fun j v H => Rep H v (items j), N, H⟩) sizeLine s2 c ((model X.prog X.w).den c) [] s2
abbrev TGm := L2.St → Hp → (Nat → Nat → (Nat → D) → Hp → Prop) → Prop
structure PGm (C : Cx) (e : Expr) (tg : TGm) : Prop where
  run : ∀ (pins : List (Addr × Obj)) (s : Shared) (σ : L2.St) (H : Hp) (Q : Nat → Nat → (Nat → D) → Hp → Prop), L2.Inv C pins σ H s → tg σ H Q →
    wpAny (model C.prog C.w) C.A (eval e C.env) (fun u s' => ∃ n N items H', L2.Inv C pins σ H' s' ∧ Made C pins n N items H' u s' ∧ (∀ b, H' b ≠ none → b < n) ∧ Q n N items H') C.xe s
def genEnds (F : Fm) (G : Nat → L2.St → Hp → Prop) (j : Nat) (H : Hp) : Ends where
  nx := fun σ' H' => F.J H' ∧ Kp F H H' ∧ G (j + 1) σ' H'
  rt := fun _ _ => False
  ct := fun σ' H' => F.J H' ∧ Kp F H H' ∧ G (j + 1) σ' H'
def tForG (tg : TGm) (g : TG) (tb : TS) : TS := fun D σ H => tg σ H fun n N items H1 => ∃ (F : Fm) (G : Nat → L2.St → Hp → Prop), F.J H1 ∧ G 0 σ H1 ∧ Keep H1 F G ∧
  (∀ j σ H, G j σ H → F.J H → j < N → ∀ u, Rep H u (items j) → g u σ H fun σ2 H2 => tb (genEnds F G j H) σ2 H2) ∧ ∀ σ H, G N σ H → F.J H → D.nx σ H
def cellsOf (X : Cx) : List Addr := (X.env.cells.map (·.1)).filterMap fun x => X.env.cells.lookup x
theorem mem_cellsOf {X : Cx} {b : Addr} : b ∈ cellsOf X ↔ ∃ x, X.env.cells.lookup x = some b := by
  unfold cellsOf
  rw [List.mem_filterMap]
  constructor
  · rintro ⟨x, _, e⟩
    exact ⟨x, e⟩
  · rintro ⟨x, e⟩
    exact ⟨x, List.mem_map.mpr ⟨(x, b), PySem.mem_of_lookup e, rfl⟩, e⟩
/-- a turn of the caller, while the generator sleeps -/
theorem turn_asleep {S : Sess} (ok : S.Ok) (hb : S.X.base = S.C.base) (hs : S.C.stack = S.C.env :: S.C.outer) (hf : S.C.env.frame = some S.C.env.locals) (hcl : ∀ x c, S.X.env.cells.lookup x = some c → S.n ≤ c) (j1 : S.F.J S.Hc) (h1 : ∀ b, S.Hc b ≠ none → b < S.n)
    {ip : List (Addr × Obj)} {τ : L2.St} {Hy : Hp} {z sx : Shared} {j : Nat} (J : L2.Inv (rex S.n S.X sx Hx0) ip τ Hy z) (hC : S.Caller j Hy z) :
    ∃ Hx pl σ, L2.Inv S.C (S.pc ++ pl) σ Hx z ∧ S.G j σ Hx ∧ S.F.J Hx ∧ TSm Hy Hx ∧ ∀ s' σ' Hz, L2.Inv S.C (S.pc ++ pl) σ' Hz s' → S.F.J Hz → Kp S.F Hx Hz → S.G (j + 1) σ' Hz →
      ∃ H', L2.Inv (rex S.n S.X s' H') ip τ H' s' ∧ S.Caller (j + 1) H' s' ∧ Kp S.F Hy H' ∧ s'.heap.IsGen S.a S.g := by
  obtain ⟨σ, I, G, jy⟩ := hC
  have cs0 : ∀ b ∈ cellsOf S.X, Hy b = none ∧ (∃ o, z.heap.get? b = some o) ∧ S.n ≤ b ∧ ∃ o v, z.heap.get? b = some o ∧ o.data = .cell v := fun b hb => by
    obtain ⟨x, e⟩ := mem_cellsOf.mp hb
    obtain ⟨v, o, ho, hd⟩ := J.cell x b e
    exact ⟨J.freeC x b e, ⟨o, ho⟩, hcl x b e, o, v, ho, hd⟩
  have nS : ∀ b, S.n ≤ b → ¬ S.F.S b := fun b hn z => absurd (h1 b (S.F.pres S.Hc b j1 (S.F.sub b z))) (Nat.not_lt.mpr hn)
  have gr0 : ∀ b o, Hy b = some o → trk (cellsOf S.X) z Hy b = some o := fun b o e => by
    rw [trk_ne fun hb => by rw [(cs0 b hb).1] at e; cases e]
    exact e
  have gr : Grow S.Hc Hy (trk (cellsOf S.X) z Hy) := fun b o _ e => gr0 b o e
  have I2 : L2.Inv S.C S.pc σ (trk (cellsOf S.X) z Hy) z := by
    refine I.retold (fun b => ?_) (fun b xs e => ?_) (fun b o u e => ?_) (fun b ps e => ?_) (trk_ok I.hok fun b hb => ⟨(cs0 b hb).1, (cs0 b hb).2.1⟩)
    · by_cases hb : b ∈ cellsOf S.X
      · have hn := (cs0 b hb).2.2.1
        exact .inr ⟨Nat.le_trans ok.clow.sz hn, Nat.ne_of_gt (Nat.lt_of_lt_of_le ok.clow.loc hn), fun x c e => Nat.ne_of_lt (Nat.lt_of_lt_of_le (ok.clow.cell x c e) hn), fun p hp => Nat.ne_of_lt (Nat.lt_of_lt_of_le (ok.clow.pin p hp) hn)⟩
      · exact .inl (trk_ne hb)
    · rw [trk_ne fun hb => by rw [(cs0 b hb).1] at e; cases e]; exact e
    · rw [trk_ne fun hb => by rw [(cs0 b hb).1] at e; cases e]; exact e
    · rw [trk_ne fun hb => by rw [(cs0 b hb).1] at e; cases e]; exact e
  obtain ⟨jx, Gx⟩ := ok.keep j σ Hy _ G jy gr
  obtain ⟨pl, I3, hpl⟩ := I2.all
  refine ⟨_, pl, σ, I3, Gx, jx, fun a vs e => gr a _ (.inr fun φ z => by cases z) e, fun s' σ' Hz I' jz kz Gz => ?_⟩
  have ext : ∀ b ∈ cellsOf S.X, Hz b = some (.ext fun h => h.get? b = z.heap.get? b) := fun b hb => kz b _ (nS b (cs0 b hb).2.2.1) (trk_at hb)
  have gr2 : Grow S.Hc Hz (untrk (cellsOf S.X) Hz) := fun b o ho e => by
    rw [untrk_ne fun hb => ?_]
    · exact e
    · rcases ho with ho | ho
      · exact absurd (h1 b ho) (Nat.not_lt.mpr (cs0 b hb).2.2.1)
      · rw [ext b hb] at e
        exact ho _ (Option.some.inj e).symm
  have hok2 := untrk_ok I'.hok fun b hb => ⟨_, ext b hb⟩
  have nx : ∀ b o, z.heap.get? b = some o → Hy b = none → (∀ v, o.data ≠ .cell v) → trk (cellsOf S.X) z Hy b = none := fun b o e n d => by
    rw [trk_ne fun hb => ?_]
    · exact n
    · obtain ⟨_, _, _, o', v, e', d'⟩ := cs0 b hb
      rw [e] at e'
      cases e'
      exact d v d'
  refine ⟨untrk (cellsOf S.X) Hz, ?_, ?_, ?_, ?_⟩
  · refine L2.Inv.slept (Y := rex S.n S.X sx Hx0) (n := S.n) J (X := S.C) (Hx := trk (cellsOf S.X) z Hy) (Hy := Hz) ok.low.rex hb ok.prog ok.w ok.outer hs hf (fun x c o e ho => ?_) nx (fun b e => ?_) hpl I' hok2
    · have hc := mem_cellsOf.mpr ⟨x, e⟩
      have := (I'.hok c _ (ext c hc)).1
      exact ⟨by rw [this]; exact ho, untrk_at hc⟩
    · unfold untrk
      split
      · rfl
      · exact e
  · obtain ⟨j', G'⟩ := ok.keep (j + 1) σ' Hz _ Gz jz gr2
    refine ⟨σ', ?_, G', j'⟩
    refine I'.unpinned.retold (fun b => ?_) (fun b xs e => ?_) (fun b o u e => ?_) (fun b ps e => ?_) hok2
    · by_cases hb : b ∈ cellsOf S.X
      · have hn := (cs0 b hb).2.2.1
        exact .inr ⟨Nat.le_trans ok.clow.sz hn, Nat.ne_of_gt (Nat.lt_of_lt_of_le ok.clow.loc hn), fun x c e => Nat.ne_of_lt (Nat.lt_of_lt_of_le (ok.clow.cell x c e) hn), fun p hp => Nat.ne_of_lt (Nat.lt_of_lt_of_le (ok.clow.pin p hp) hn)⟩
      · exact .inl (untrk_ne hb)
    · rw [untrk_ne fun hb => by rw [ext b hb] at e; cases e]; exact e
    · rw [untrk_ne fun hb => by rw [ext b hb] at e; cases e]; exact e
    · rw [untrk_ne fun hb => by rw [ext b hb] at e; cases e]; exact e
  · intro b o ns e
    have e2 := kz b o ns (gr0 b o e)
    rw [untrk_ne fun hb => by rw [(cs0 b hb).1] at e; cases e]
    exact e2
  · obtain ⟨e, n, nl, nf, d⟩ := J.pin (S.a, S.go) (List.mem_append_left _ (by show _ ∈ S.X.pn; rw [ok.pn]; exact List.mem_singleton.mpr rfl))
    have nf' : S.a ∉ frs S.C.stack := fun q => nf (by show _ ∈ frs S.X.outer; rw [ok.outer]; exact q)
    have hm : frs S.C.stack = S.C.env.locals :: S.C.fs := by
      rw [hs]
      unfold frs
      rw [List.filterMap_cons, hf]
      rfl
    rw [hm] at nf'
    have hq := hpl S.a S.go e (nx S.a S.go e n d) (fun q => nf' (by rw [q]; exact List.mem_cons_self)) (fun q => nf' (List.mem_cons_of_mem _ q)) d
    exact ok.gen _ (I'.pin (S.a, S.go) (List.mem_append_right _ (List.mem_append_right _ hq))).1
theorem rex_gens {n : Nat} {X : Cx} {ip : List (Addr × Obj)} {τ : L2.St} {H : Hp} {s : Shared} {T : Array GenState} (I : L2.Inv (rex n X s H) ip τ H s) (h : AllBare T) : L2.Inv (rex n X { s with gens := T } H) ip τ H { s with gens := T } :=
  ⟨⟨I.ok.mod, I.ok.kind, I.ok.glob, I.ok.blt, I.ok.above, I.ok.inj, I.ok.has, I.ok.cab, I.ok.hd, I.ok.frames, I.ok.stk, I.ok.exf, I.ok.bs, I.ok.bsz, I.ok.noex, I.ok.exfs, I.ok.funs, I.ok.frf⟩, I.os, h, I.base, I.loc, I.cell, I.free, I.freeC, I.pin, I.hok, I.len⟩
/-- for over a generator -/
theorem ps_forGen {C : Cx} {iter tg : Expr} {body : List Stmt} {wg : TGm} {g : TG} {tb : TS} {pos : Pos} {k : Nat} (hxe : C.xe = fun _ _ => False) (hcm : C.calm = true) (hr : Room k C.A) (hst : C.stack = C.env :: C.outer) (hf : C.env.frame = some C.env.locals)
    (hi : PGm C iter wg) (hg : PG C tg g) (hb : PSs C body tb) (hs : ∀ x, foldedSetIterable iter C.env x = pure x := by intro _; rfl) : PS C (.For tg iter body [] pos) (tForG wg g tb) := by
  refine ⟨fun pins s0 σ0 H0 D I0 hq => ?_⟩
  have no : ∀ (e : Value) (s : Shared), C.xe e s → False := fun e s z => by
    rw [hxe] at z
    exact z
  refine wpAny_For (thn (hi.run pins s0 σ0 H0 _ I0 hq) fun u s1 hu => ?_) hs
  obtain ⟨n, N, items, H1, I1, ⟨X, a, gi, go, c, rfl, hfr, hgen, hbase, hcl, mk⟩, h1, F, G, j1, g0, keep, turn, fin⟩ := hu
  obtain ⟨ok, seg⟩ := mk F G keep j1
  generalize hS : (⟨X, C, pins, n, F, a, gi, go, G, fun j v H => Rep H v (items j), N, H1⟩ : Sess) = S at ok seg
  have eX : S.X = X := by rw [← hS]
  have eC : S.C = C := by rw [← hS]
  have ep : S.pc = pins := by rw [← hS]
  have en : S.n = n := by rw [← hS]
  have eF : S.F = F := by rw [← hS]
  have ea : S.a = a := by rw [← hS]
  have eg : S.g = gi := by rw [← hS]
  have eG : S.G = G := by rw [← hS]
  have eN : S.N = N := by rw [← hS]
  have eH : S.Hc = H1 := by rw [← hS]
  have eo : S.out = fun j v H => Rep H v (items j) := by rw [← hS]
  have epr : X.prog = C.prog := by have := ok.prog; rw [eX, eC] at this; exact this
  have ew : X.w = C.w := by have := ok.w; rw [eX, eC] at this; exact this
  refine wpAny_pyIter_gen hgen ?_
  refine codeAny_forLoop_any (fun m s' => ∃ j H, j + m = N ∧ S.Caller j H s' ∧ s'.heap.IsGen a gi ∧ ∃ gs mm, mm + j = sizeLine ∧ s'.gens[gi]? = some gs ∧ gs.Goes (model C.prog C.w) C.A.in1 S.R S.Y mm (.send .none) (s'.setGen gi .running)) ?_ N ?_
  rotate_left
  · refine ⟨0, H1, by omega, ⟨σ0, by rw [eC, ep]; exact I1, by rw [eG]; exact g0, by rw [eF]; exact j1⟩, hgen, .fresh c, sizeLine, rfl, hfr, rfl, ?_⟩
    have := seg σ0 (s1.setGen gi .running) rfl (by exact I1.gens (allBare_setGen I1.bare rfl)) g0 j1
    rw [epr, ew] at this
    exact this
  rintro m s2 ⟨j, H2, hj, hC, hg2, gs, mm, hmm, hgs, hgo⟩
  have hCs := hC
  obtain ⟨σ2, I2, G2, j2⟩ := hCs
  rw [eC, ep] at I2
  have hNl : N < sizeLine := by rw [← eN]; exact ok.lim
  have hgl : gi + 1 ≤ s2.gens.size := (Array.getElem?_eq_some_iff.mp hgs).1
  refine wpAny_gsz hgl (next_wake (Fin := fun z => ∃ H, S.Caller S.N H z ∧ z.heap.IsGen S.a S.g) (Y := S.Y) hr.hd I2.nolimit (by have := hr.dp; omega) hg2 hgs hgo (fun v z k1 l1 c1 p1 fr hy gsz => ?_) (fun z hz h' hk _ => ?_))
  rotate_left
  · obtain ⟨H', ⟨σ', I', G', j'⟩, _⟩ := hz
    rw [eC, ep] at I'
    rw [eG, eN] at G'
    rw [eF] at j'
    refine wpAny_execs_nil ⟨σ', H', ?_, fin σ' H' G' j'⟩
    have I3 := (I'.kept (t' := z.toks) hk).gens (allBare_setGen (s := z) (g := gi) (x := .finished) I'.bare rfl)
    exact I3
  obtain ⟨j', sx, Hx0, ip, τ, Hy, u, e1, hjN, ru, rv, J, hCy, hgy, kap⟩ := hy
  have ej : j' = j := by omega
  subst ej
  obtain ⟨m1, rfl⟩ : ∃ m1, mm = m1 + 1 := ⟨mm - 1, by omega⟩
  rw [eo] at ru
  obtain ⟨Hx, pl, σx, Ix, Gx, jx, ts, back⟩ := turn_asleep (Hx0 := Hx0) ok (by rw [eX, eC]; exact hbase) (by rw [eC]; exact hst) (by rw [eC]; exact hf) (by rw [eX, en]; exact hcl) (by rw [eF, eH]; exact j1) (by rw [en, eH]; exact h1) J hCy
  rw [eC, ep] at Ix
  rw [eG] at Gx
  rw [eF] at jx
  rw [setGen_size] at gsz
  have hat : (z.setGen gi (.suspended k1 l1 c1 p1 fr false)).gens[gi]? = some (.suspended k1 l1 c1 p1 fr false) := setGen_at gsz
  have bz : AllBare (z.setGen gi (.suspended k1 l1 c1 p1 fr false)).gens := allBare_setGen Ix.bare rfl
  generalize hzz : z.setGen gi (.suspended k1 l1 c1 p1 fr false) = zz at hat bz
  have hzh : zz.heap = z.heap := by rw [← hzz]; rfl
  have Iz : L2.Inv C (pins ++ pl) σx Hx zz := by
    rw [← hzz]
    exact Ix.gens (T := (z.setGen gi (.suspended k1 l1 c1 p1 fr false)).gens) (by rw [hzz]; exact bz)
  obtain ⟨og, nm, qn, hog, hcg, hdg, _⟩ := hgy
  rw [ea] at hog
  rw [eg] at hdg
  refine go_of (s := zz) (by rw [hzh]; exact hog) hcg hdg (by decide) ?_
  have Iz2 : L2.Inv C (pins ++ pl) σx Hx { zz with gens := zz.gens.map dead } := Iz.gens (bare_dead bz)
  have t1 := wpAny_asleep (s := zz) ((hg.run _ _ σx Hx u v _ Iz2 rv (turn j' σx Hx Gx jx (by rw [← eN]; exact hjN) u (ru.mono ts))))
  refine wpAny_mono t1 (fun _ s4 h4 => ?_) fun e s4 z => by obtain ⟨T, _, z⟩ := z; exact (no _ _ z).elim
  obtain ⟨T4, d4, σ4, H4, I4, q4⟩ := h4
  have b4 : AllBare s4.gens := d4.bare I4.bare
  have I4' : L2.Inv C (pins ++ pl) σ4 H4 s4 := I4.gens b4
  have at4 : s4.gens[gi]? = some (.suspended k1 l1 c1 p1 fr false) := by
    obtain ⟨_, _, _, _, _, _, y0, y1, _⟩ := d4.dead gi ⟨_, _, _, _, _, _, hat⟩
    rw [hat] at y0
    rw [y1]
    exact y0.symm
  have I4d : L2.Inv C (pins ++ pl) σ4 H4 { s4 with gens := s4.gens.map dead } := I4'.gens (bare_dead b4)
  have t2 := wpAny_asleep (s := s4) (hb.run _ _ σ4 H4 _ I4d q4)
  refine wpAny_mono t2 (fun f s5 h5 => ?_) fun e s5 z => by obtain ⟨T, _, z⟩ := z; exact (no _ _ z).elim
  obtain ⟨T5, d5, h5⟩ := h5
  have at5 : s5.gens[gi]? = some (.suspended k1 l1 c1 p1 fr false) := by
    obtain ⟨_, _, _, _, _, _, y0, y1, _⟩ := d5.dead gi ⟨_, _, _, _, _, _, at4⟩
    rw [at4] at y0
    rw [y1]
    exact y0.symm
  have again : ∀ σ5 H5, L2.Inv C (pins ++ pl) σ5 H5 { s5 with gens := T5 } → F.J H5 ∧ Kp F Hx H5 ∧ G (j' + 1) σ5 H5 → ∃ m', m' < m ∧ ∃ j H, j + m' = N ∧ S.Caller j H s5 ∧ s5.heap.IsGen a gi ∧ ∃ gs mm, mm + j = sizeLine ∧ s5.gens[gi]? = some gs ∧ gs.Goes (model C.prog C.w) C.A.in1 S.R S.Y mm (.send .none) (s5.setGen gi .running) := fun σ5 H5 I5 q5 => by
    have b5 : AllBare s5.gens := d5.bare I5.bare
    have I5' : L2.Inv C (pins ++ pl) σ5 H5 s5 := I5.gens b5
    obtain ⟨H', K1, K2, K3, K4⟩ := back s5 σ5 H5 (by rw [eC, ep]; exact I5') (by rw [eF]; exact q5.1) (by rw [eF]; exact q5.2.1) (by rw [eG]; exact q5.2.2)
    rw [eN] at hjN
    have K4' : s5.heap.IsGen a gi := by rw [ea, eg] at K4; exact K4
    refine ⟨m - 1, by omega, j' + 1, H', by omega, K2, K4', _, m1, by omega, at5, ?_⟩
    refine kap (s5.setGen gi .running) H' ?_ ?_ K3
    · exact rex_gens K1 (allBare_setGen (s := s5) (g := gi) (x := .running) b5 rfl)
    · obtain ⟨σ', y1, y2, y3⟩ := K2
      exact ⟨σ', y1.gens (allBare_setGen (s := s5) (g := gi) (x := .running) b5 rfl), y2, y3⟩
  cases f with
  | next => obtain ⟨σ5, H5, I5, q5⟩ := h5; exact again σ5 H5 I5 q5
  | cont => obtain ⟨σ5, H5, I5, q5⟩ := h5; exact again σ5 H5 I5 q5
  | brk => obtain ⟨_, _, _, z⟩ := h5; exact z.elim
  | ret v => obtain ⟨_, _, _, _, _, z⟩ := h5; exact z.elim
end Wb
/-! WbGf -/
set_option maxHeartbeats 4000000
/-! A call of a generator def. -/
namespace Wb
open PySem PySem.Spec PyProof.Rows L2 GenW

/-- the context of a generator def's body that lets no exception out -/
def gX (P : Program) (w : World) (K : PySem.W.Frag) (mg : Str → Option Value) (base : Heap) (N : List Str) (qual : Str) (scope : Scope) (f : Addr) (cd : Value) (A : Around) (outer : List Env) (s : Shared) (H : Hp) (pn : List (Addr × Obj)) : Cx :=
  { (cxOf CX0 P w K mg base N qual scope f cd A outer s H E0).nox with pn := pn }
theorem gX_of {P : Program} {w : World} {K : PySem.W.Frag} {mg : Str → Option Value} {base : Heap} {N : List Str} {qual : Str} {scope : Scope} {f : Addr} {cd : Value} {A : Around} {outer : List Env} {s s1 : Shared} {H H1 : Hp} {E : XK} {σ : L2.St}
    (I : L2.Inv (gcxOf P w K mg base N qual scope f cd A outer s H E []) [] σ H1 s1) : L2.Inv (gX P w K mg base N qual scope f cd A outer s H []) [] σ H1 s1 :=
  ⟨⟨I.ok.mod, I.ok.kind, I.ok.glob, I.ok.blt, I.ok.above, I.ok.inj, I.ok.has, I.ok.cab, I.ok.hd, I.ok.frames, I.ok.stk, I.ok.exf, I.ok.bs, I.ok.bsz, I.ok.noex, I.ok.exfs, I.ok.funs, I.ok.frf⟩, I.os, I.bare, I.base, I.loc, I.cell, I.free, I.freeC, I.pin, I.hok, I.len⟩
theorem gX_pin {P : Program} {w : World} {K : PySem.W.Frag} {mg : Str → Option Value} {base : Heap} {N : List Str} {qual : Str} {scope : Scope} {f : Addr} {cd : Value} {A : Around} {outer : List Env} {s s1 : Shared} {H H1 : Hp} {σ : L2.St} {pn : List (Addr × Obj)}
    (I : L2.Inv (gX P w K mg base N qual scope f cd A outer s H []) [] σ H1 s1) (h : ∀ p ∈ pn, s1.heap.get? p.1 = some p.2 ∧ H1 p.1 = none ∧ p.1 ≠ s.heap.objs.size ∧ p.1 ∉ frs outer ∧ ∀ v, p.2.data ≠ .cell v) :
    L2.Inv (gX P w K mg base N qual scope f cd A outer s H pn) [] σ H1 s1 :=
  ⟨⟨I.ok.mod, I.ok.kind, I.ok.glob, I.ok.blt, I.ok.above, I.ok.inj, I.ok.has, I.ok.cab, I.ok.hd, I.ok.frames, I.ok.stk, I.ok.exf, I.ok.bs, I.ok.bsz, I.ok.noex, I.ok.exfs, I.ok.funs, I.ok.frf⟩, I.os, I.bare, I.base, I.loc, I.cell, I.free, I.freeC, fun p hp => h p (by
    rcases List.mem_append.mp hp with z | z
    · exact z
    · cases z), I.hok, I.len⟩
/-- what a generator def keeps: shown for any caller -/
def GBody (P : Program) (w : World) (K : PySem.W.Frag) (mg : Str → Option Value) (base : Heap) (k : Nat) (N : List Str) (qual : Str) (scope : Scope) (body : List Stmt) (f : Addr) (vs : List V) (H : Hp) (Nn : Nat) (items : Nat → D) : Prop :=
  ∀ (cdv : Value) (A : Around) (outer : List Env) (s : Shared) (pn : List (Addr × Obj)) (S : Sess), Room k (A.deeper (envOfC qual scope s.heap.objs.size f cdv)) → S.Ok → S.X = gX P w K mg base N qual scope f cdv A outer s H pn → (S.out = fun j v H => Rep H v (items j)) → S.N = Nn → S.Hc = H → ∀ s2 s₀, S.At [] 0 (start N vs) H s2 →
    Seg (model P w) A S.R S.Y sizeLine s₀ (.func body S.X.env) ((execs body S.X.env).wrap (fun f => .pure (.done (.ret (match f with | .ret v => v | _ => .none)))) (fun e => (leaving S.X.env e).wrap (fun _ => .raise e) .raise id id) id id) [] s2
def tCallGm (sp : List V → Hp → Nat → (Nat → D) → Prop) (ta : TA) : TGm := fun σ H Q => ta σ H fun vs H1 => ∃ Nn items, Nn < sizeLine ∧ sp vs H1 Nn items ∧ ∀ n, (∀ b, H1 b ≠ none → b < n) → Q n Nn items H1
theorem pgm_call {C : Cx} {x name qual : Str} {params : Arguments} {body : List Stmt} {scope : Scope} {N ps : List Str} {f : Addr} {fd : FuncData} {k : Nat} {ta : TA} {e : Expr} {es : List Expr} {p pos : Pos} {sp : List V → Hp → Nat → (Nat → D) → Prop}
    (FD : FunD C.K name qual params body scope [] [] f fd) (GS : GScope N ps scope) (hr : Room (k + 2) C.A) (hg : Gl C x) (hm : C.mg x = some (.ref f)) (hb : Binds C.K fd ps []) (ha : PA C (e :: es) ta)
    (hlen : ∀ vs H Nn items, sp vs H Nn items → vs.length = ps.length) (hbody : ∀ vs H Nn items, sp vs H Nn items → GBody C.prog C.w C.K C.mg C.base k N qual scope body f vs H Nn items)
    (hdb : (x == ("__debug__" : Str)) = false := by decide) (he : starEach (e :: es) C.env = (false, eval e C.env) :: starEach es C.env := by rfl) (hpl : (backTo pos (starEach es C.env)).any (·.1) = false := by rfl) :
    PGm C (.Call (.Name x p) (e :: es) [] pos) (tCallGm sp ta) := by
  refine ⟨fun pins s0 σ H0 Q I0 h0 => ?_⟩
  refine wpAny_Call_Name_kw (ld_glob I0 hg hm ?_ hdb)
  refine PySem.W.callWith_K (h₀ := C.base) I0.ok.mod.kin FD.kp (thn (ha.run pos pins s0 σ H0 _ I0 h0) fun us s1 h1 => ?_) he hpl
  obtain ⟨vs, H1, I1, r, Nn, items, hN, hsp, hQ⟩ := h1
  refine ⟨I1.kIn, ?_⟩
  have gb := hbody vs H1 Nn items hsp
  have hl := hlen vs H1 Nn items hsp
  obtain ⟨oc, od, dV, kV, doc, pm, an, cdv, ct, osl, rfl, lk, hcd, _, _⟩ := FD.ex
  have hul : (us ++ []).length = ps.length := by rw [List.append_nil, ← r.length]; exact hl
  have bt := hb s1 us I1.kIn hul
  rw [List.append_nil] at bt
  have hkind : ∀ y ∈ ps.zip us, scope.names.lookup y.1 = some .local ∨ (scope.names.lookup y.1 = some .cell ∧ ((cellsFrom (s1.heap.objs.size + 1) scope.names []).lookup y.1).isSome = true) := by
    rintro ⟨y, v⟩ hy
    rcases GS.par y (List.of_mem_zip hy).1 with q | q
    · exact .inl q
    · exact .inr ⟨q, PySem.W.cellsFrom_some _ _ _ (.inl q)⟩
  refine wpAny_call (codeAny_call_generator (by have := hr.dp; omega) (I1.kIn _ _ lk) rfl GS.co GS.gen rfl (PySem.W.codeRec_of I1.kIn hcd) (bt _ _ _ _ ?_))
  refine wpAny_newFunctionEnv_cells GS.kind hkind fun env henv s2 xx => ?_
  subst henv
  have kp2 : ∀ b o, s1.heap.get? b = some o → s2.heap.get? b = some o := xx.toInCall.keep
  refine ⟨I1.nolimit.keeps kp2, ?_⟩
  have e0 : Env0 C.prog C.w C.K C.mg C.base C.A.in1 C.stack s1 H1 := ⟨I1.ok.frames, I1.env0.mod, I1.env0.bs, I1.env0.bsz, I1.env0.funs, I1.env0.frf, I1.env0.hok, I1.env0.bare⟩
  have J0 := gX_of (inv_startG (E := E0) (N := N) GS (show C.A.in1.handled = none from hr.hd) e0 hl r xx)
  have lt2 : s1.heap.objs.size < s2.heap.objs.size := xx.toInCall.ns.lt
  have abv : ∀ y c, (cellsFrom (s1.heap.objs.size + 1) scope.names []).lookup y = some c → s1.heap.objs.size ≤ c := fun y c h => Nat.le_of_lt (xx.above y c (PySem.mem_of_lookup h))
  have bare2 : AllBare s2.gens := J0.bare
  have os2 : s2.os = s1.os := J0.os
  have main : ∀ (go : Obj) (nm qn : Value) (tk : Nat), go.cls = .type "generator" → go.data = .fields #[.int s2.gens.size 0, nm, qn] → go.slots = #[] → (∀ h : Heap, (h.push go).get? h.objs.size = some go) →
      ∀ s3 : Shared, s3 = { s2 with gens := s2.gens.push (.fresh (.func body (envOfC qual scope s1.heap.objs.size f cdv))), toks := tk, heap := s2.heap.push go } →
      ∃ n N items H', L2.Inv C pins σ H' s3 ∧ Made C pins n N items H' (.ref s2.heap.objs.size) s3 ∧ (∀ b, H' b ≠ none → b < n) ∧ Q n N items H' := by
    intro go nm qn tk hc hd hsl hget s3 hs3
    have hp3 : s3.heap = s2.heap.push go := by rw [hs3]
    have k3 : ∀ b o, s2.heap.get? b = some o → s3.heap.get? b = some o := fun b o q => by rw [hp3]; exact Heap.get?_push_of_some _ q
    have b3 : AllBare s3.gens := by rw [hs3]; exact AllBare.push bare2 rfl
    have o3 : s3.os = s1.os := by rw [hs3]; exact os2
    have hgo : s3.heap.get? s2.heap.objs.size = some go := by rw [hp3]; exact hget _
    have gen : ∀ h : Heap, h.get? s2.heap.objs.size = some go → h.IsGen s2.heap.objs.size s2.gens.size := fun h q => ⟨go, nm, qn, q, hc, hd, hsl⟩
    have no : ∀ b, b ∉ ([] : List Addr) := fun b q => nomatch q
    have I3 : L2.Inv C pins σ H1 s3 := I1.call' (ch := []) o3 (Un.kept fun b o q => k3 b o (kp2 b o q)) (I1.hok.kept fun b o q => k3 b o (kp2 b o q)) b3 fun b q => absurd q (no b)
    have hn1 : H1 s2.heap.objs.size = none := I1.hok.fresh (Nat.le_of_lt lt2)
    have dn : ∀ b, H1 b ≠ none → b < s1.heap.objs.size := fun b q => by
      cases e : H1 b with
      | none => exact absurd e q
      | some u => exact I1.hok.lt e
    refine ⟨s1.heap.objs.size, Nn, items, H1, I3, ?_, dn, hQ _ dn⟩
    refine ⟨gX C.prog C.w C.K C.mg C.base N qual scope f cdv C.A.in1 C.stack s1 H1 [(s2.heap.objs.size, go)], s2.heap.objs.size, s2.gens.size, go, .func body (envOfC qual scope s1.heap.objs.size f cdv), rfl, ?_, gen _ hgo, rfl, abv, fun F G hkp hj0 => ?_⟩
    · rw [hs3]
      exact Array.getElem?_push_size ..
    have fsl : ∀ b ∈ frs C.stack, b < s1.heap.objs.size := fun b q => by
      obtain ⟨_, o, ho, _⟩ := e0.funs.mem q
      exact Heap.lt_size ho
    have hok : Sess.Ok ⟨gX C.prog C.w C.K C.mg C.base N qual scope f cdv C.A.in1 C.stack s1 H1 [(s2.heap.objs.size, go)], C, pins, s1.heap.objs.size, F, s2.heap.objs.size, s2.gens.size, go, G, fun j v H => Rep H v (items j), Nn, H1⟩ :=
      ⟨⟨Nat.le_refl _, e0.bsz, fun y c _ q => abv y c q, fsl⟩, I1.clow, rfl, rfl, rfl, rfl, rfl, gen, rfl, rfl, hkp, hN, hj0⟩
    refine ⟨hok, fun σ' s4 h4 I4 g0 j0 => ?_⟩
    refine seg_func (gb cdv C.A.in1 C.stack s1 [(s2.heap.objs.size, go)] _ ?_ hok rfl rfl rfl rfl s4 s4 ?_)
    · exact (hr.in1).deeper _
    have J1 : L2.Inv (gX C.prog C.w C.K C.mg C.base N qual scope f cdv C.A.in1 C.stack s1 H1 []) [] (start N vs) H1 s4 := J0.call' (ch := []) (by rw [I4.os]; exact I3.os.symm.trans (o3.trans os2.symm)) (Un.kept fun b o q => by rw [h4]; exact k3 b o q) (J0.hok.kept fun b o q => by rw [h4]; exact k3 b o q) I4.bare fun b q => absurd q (no b)
    have nfs : s2.heap.objs.size ∉ frs C.stack := fun q => absurd (fsl _ q) (Nat.not_lt.mpr (Nat.le_of_lt lt2))
    have J2 : L2.Inv (gX C.prog C.w C.K C.mg C.base N qual scope f cdv C.A.in1 C.stack s1 H1 [(s2.heap.objs.size, go)]) [] (start N vs) H1 s4 := gX_pin J1 fun q hq => by
      rw [List.mem_singleton.mp hq]
      exact ⟨by rw [h4]; exact hgo, hn1, Nat.ne_of_gt lt2, nfs, fun v z => by rw [hd] at z; cases z⟩
    have sz4 : s1.heap.objs.size ≤ s4.heap.objs.size := Nat.le_of_lt (Nat.lt_trans lt2 (by rw [h4]; exact Heap.lt_size hgo))
    exact ⟨s4, H1, σ', sz4, J2.again hok.low, I4, g0, j0, Grow.refl⟩
  exact main _ _ _ _ rfl rfl rfl (fun h => Heap.get?_push_size _ rfl) _ rfl
end Wb
/-! WbKd -/
set_option maxHeartbeats 4000000
/-! Dicts by (plane, vector): words by their places. -/
namespace Wb
open PySem PySem.Spec PyProof.Rows L2

/-- an entry: the plane, the vector, the word; where the key's own tuples stand -/
structure KEn where
  p : Int
  ys : List Int
  v : Int
  b : Addr
  c : Addr
def kk (p : Int) (ys : List Int) : NestedKey := .tup [.num p, .tup (ys.map NestedKey.num)]
theorem num_inj : ∀ {xs ys : List Int}, xs.map NestedKey.num = ys.map NestedKey.num → xs = ys
  | [], [], _ => rfl
  | [], _ :: _, h => by simp at h
  | _ :: _, [], h => by simp at h
  | x :: xs, y :: ys, h => by
    rw [List.map_cons, List.map_cons] at h
    injection h with h1 h2
    injection h1 with h1
    rw [h1, num_inj h2]
theorem kk_inj {p q : Int} {xs ys : List Int} (h : kk p xs = kk q ys) : p = q ∧ xs = ys := by
  unfold kk at h
  injection h with h
  injection h with h1 h2
  injection h1 with h1
  injection h2 with h2 _
  injection h2 with h2
  exact ⟨h1, num_inj h2⟩
/-- what stands in the record -/
def EnR (e : KEn) (x : NestedKey × Addr × Value) : Prop := x.1 = kk e.p e.ys ∧ x.2.1 = e.b ∧ ∃ t, x.2.2 = .int e.v t
def atE : List KEn → Int → List Int → Option Int
  | [], _, _ => none
  | e :: es, p, ys => if e.p = p ∧ e.ys = ys then some e.v else atE es p ys
def putE (es : List KEn) (p : Int) (ys : List Int) (v : Int) (b c : Addr) : List KEn :=
  if (atE es p ys).isSome then es.map fun e => if e.p = p ∧ e.ys = ys then { e with v := v } else e else es ++ [⟨p, ys, v, b, c⟩]
theorem putE_len {es : List KEn} {p : Int} {ys : List Int} {v : Int} {b c : Addr} : (putE es p ys v b c).length ≤ es.length + 1 := by
  unfold putE
  split
  · rw [List.length_map]; omega
  · rw [List.length_append]; exact Nat.le_refl _
theorem atE_put {p q : Int} {ys zs : List Int} {v : Int} {b c : Addr} : ∀ es : List KEn, atE (putE es p ys v b c) q zs = if p = q ∧ ys = zs then some v else atE es q zs := by
  have old : ∀ es : List KEn, (atE es p ys).isSome → atE (es.map fun e => if e.p = p ∧ e.ys = ys then { e with v := v } else e) q zs = if p = q ∧ ys = zs then some v else atE es q zs := by
    intro es
    induction es with
    | nil => intro h; cases h
    | cons e es ih =>
      intro h
      by_cases he : e.p = p ∧ e.ys = ys
      · obtain ⟨rfl, rfl⟩ := he
        by_cases hq : e.p = q ∧ e.ys = zs
        · obtain ⟨rfl, rfl⟩ := hq
          simp [atE]
        · have rest : ∀ l : List KEn, atE (l.map fun e' => if e'.p = e.p ∧ e'.ys = e.ys then { e' with v := v } else e') q zs = atE l q zs := by
            intro l
            induction l with
            | nil => rfl
            | cons a l ihl =>
              rw [List.map_cons]
              by_cases ha : a.p = e.p ∧ a.ys = e.ys
              · rw [if_pos ha]
                have : ¬ (a.p = q ∧ a.ys = zs) := fun z => hq ⟨ha.1 ▸ z.1, ha.2 ▸ z.2⟩
                show (if a.p = q ∧ a.ys = zs then _ else _) = (if a.p = q ∧ a.ys = zs then _ else _)
                rw [if_neg this, if_neg this]
                exact ihl
              · rw [if_neg ha]
                show (if a.p = q ∧ a.ys = zs then _ else _) = (if a.p = q ∧ a.ys = zs then _ else _)
                rw [ihl]
          rw [List.map_cons, if_pos ⟨rfl, rfl⟩, if_neg hq]
          show (if e.p = q ∧ e.ys = zs then _ else _) = (if e.p = q ∧ e.ys = zs then _ else _)
          rw [if_neg hq, if_neg hq]
          exact rest es
      · have h' : (atE es p ys).isSome := by
          unfold atE at h
          rw [if_neg he] at h
          exact h
        rw [List.map_cons, if_neg he]
        show (if e.p = q ∧ e.ys = zs then _ else _) = (if p = q ∧ ys = zs then _ else (if e.p = q ∧ e.ys = zs then _ else _))
        rw [ih h']
        by_cases hq : e.p = q ∧ e.ys = zs
        · rw [if_pos hq, if_pos hq, if_neg]
          rintro ⟨rfl, rfl⟩
          exact he hq
        · rw [if_neg hq, if_neg hq]
  intro es
  unfold putE
  by_cases h : (atE es p ys).isSome
  · rw [if_pos h]
    exact old es h
  · rw [if_neg h]
    clear old
    induction es with
    | nil => rfl
    | cons e es ih =>
      have hn : ¬ (e.p = p ∧ e.ys = ys) := fun z => h (by unfold atE; rw [if_pos z]; rfl)
      have h' : ¬ (atE es p ys).isSome := fun z => h (by unfold atE; rw [if_neg hn]; exact z)
      rw [List.cons_append]
      show (if e.p = q ∧ e.ys = zs then _ else _) = (if p = q ∧ ys = zs then _ else (if e.p = q ∧ e.ys = zs then _ else _))
      rw [ih h']
      by_cases hq : e.p = q ∧ e.ys = zs
      · rw [if_pos hq, if_pos hq, if_neg]
        rintro ⟨rfl, rfl⟩
        exact hn hq
      · rw [if_neg hq, if_neg hq]
/-- the dict -/
def KdO (P : Program) (w : World) (a : Addr) (es : List KEn) : HO := .ext fun h => (a == sysModules) = false ∧ es.length ≤ sizeLine ∧ ∃ xs, Paired EnR es xs ∧
  ∃ o ds ep, h.get? a = some o ∧ o.ExactDict ∧ o.data = .dict ds ep ∧ ds.toList = xs.map (entryOfKey (nestedKind P w)) ∧ (xs.map (·.1)).Nodup
def KyJ (H : Hp) (p : Int) (ys : List Int) (b c : Addr) : Prop := H b = some (.tup [.int p, .ref c]) ∧ H c = some (.tup (ys.map V.int))
structure KdJ (P : Program) (w : World) (a : Addr) (es : List KEn) (H : Hp) : Prop where
  at_ : H a = some (KdO P w a es)
  keys : ∀ e ∈ es, KyJ H e.p e.ys e.b e.c
section
variable {P : Program} {w : World} {H H' : Hp} {h h' : Heap} {a b c : Addr} {es : List KEn} {p v : Int} {ys : List Int}
theorem nums_all : ∀ {ys : List Int} {its : List Value}, Vals (ys.map V.int) its → NestedAll h (ys.map NestedKey.num) its
  | [], _, r => by cases r; exact .nil
  | y :: ys, _, r => by
    cases r with
    | cons r1 r2 =>
      obtain ⟨t, rfl⟩ := r1
      exact .cons (.int y t) (nums_all r2)
theorem key_nested (ok : HOk P w H h) (k : KyJ H p ys b c) : (nestedKind P w).is h (kk p ys) b := by
  obtain ⟨_, i1, r1, o1, e1, c1, n1, d1⟩ := ok _ _ k.1
  obtain ⟨_, i2, r2, o2, e2, c2, n2, d2⟩ := ok _ _ k.2
  cases r1 with
  | cons q1 q2 =>
    cases q2 with
    | cons q2 q3 =>
      cases q3
      obtain ⟨t, rfl⟩ := q1
      obtain rfl : _ = Value.ref c := q2
      have hd : ∀ ys : List Int, NestedKey.depthAll (ys.map NestedKey.num) = 0 := fun ys => by
        induction ys with
        | nil => rfl
        | cons y ys ih =>
          rw [List.map_cons, NestedKey.depthAll, ih]
          rfl
      refine ⟨.tup e1 c1 d1 (.cons (.int p t) (.cons (.tup e2 c2 d2 (nums_all r2)) .nil)), ?_⟩
      show NestedKey.depth (kk p ys) ≤ 8
      unfold kk
      simp only [NestedKey.depth, NestedKey.depthAll, hd]
      decide
theorem kd_mem {xs : List (NestedKey × Addr × Value)} (r : Paired EnR es xs) : ∀ x ∈ xs, ∃ e ∈ es, EnR e x := by
  induction r with
  | nil => intro x hx; cases hx
  | cons q _ ih =>
    intro x hx
    rcases List.mem_cons.mp hx with rfl | hx
    · exact ⟨_, List.mem_cons_self, q⟩
    · obtain ⟨e, he, z⟩ := ih x hx
      exact ⟨e, List.mem_cons_of_mem _ he, z⟩
theorem kd_of (ok : HOk P w H h) (j : KdJ P w a es H) : (a == sysModules) = false ∧ es.length ≤ sizeLine ∧ ∃ xs, Paired EnR es xs ∧ h.DictOfH (nestedKind P w) a xs := by
  obtain ⟨⟨h1, h2, xs, r, o, ds, ep, e1, e2, e3, e4, e5⟩, _⟩ := ok _ _ j.at_
  refine ⟨h1, h2, xs, r, o, ds, ep, e1, e2, e3, e4, fun x hx => ?_, e5⟩
  obtain ⟨e, he, q1, q2, _⟩ := kd_mem r x hx
  rw [q1, q2]
  exact key_nested ok (j.keys e he)
theorem kdO_ok {xs : List (NestedKey × Addr × Value)} (h1 : (a == sysModules) = false) (h2 : es.length ≤ sizeLine) (r : Paired EnR es xs) (d : h.DictOfH (nestedKind P w) a xs) : ObjOk P w H h a (KdO P w a es) := by
  obtain ⟨o, ds, ep, e1, e2, e3, e4, _, e5⟩ := d
  refine ⟨⟨h1, h2, xs, r, o, ds, ep, e1, e2, e3, e4, e5⟩, ⟨o, e1⟩, ?_⟩
  rintro g g' ⟨y1, y2, zs, y3, oz, dz, ez, y4, y5⟩ k
  exact ⟨y1, y2, zs, y3, oz, dz, ez, k _ y4, y5⟩
theorem at_pair {xs : List (NestedKey × Addr × Value)} (r : Paired EnR es xs) : (∃ w t, atE es p ys = some w ∧ ∃ b', atKey xs (kk p ys) = some (b', .int w t)) ∨ (atE es p ys = none ∧ atKey xs (kk p ys) = none) := by
  induction r with
  | nil => exact .inr ⟨rfl, rfl⟩
  | @cons e x es' xs' q _ ih =>
    obtain ⟨q1, q2, t, q3⟩ := q
    unfold atE atKey
    rw [List.find?_cons]
    by_cases he : e.p = p ∧ e.ys = ys
    · obtain ⟨rfl, rfl⟩ := he
      rw [if_pos ⟨rfl, rfl⟩, q1]
      refine .inl ⟨e.v, t, rfl, x.2.1, ?_⟩
      simp [← q3]
    · rw [if_neg he]
      have : ¬ (x.1 = kk p ys) := fun z => he (kk_inj (q1 ▸ z))
      rw [decide_eq_false this]
      exact ih
theorem put_pair {xs : List (NestedKey × Addr × Value)} {t : Tok} (r : Paired EnR es xs) : Paired EnR (putE es p ys v b c) (storedH xs (kk p ys) b (.int v t)) := by
  have upd : ∀ {es : List KEn} {xs : List (NestedKey × Addr × Value)}, Paired EnR es xs → Paired EnR (es.map fun e => if e.p = p ∧ e.ys = ys then { e with v := v } else e) (xs.map (putAt (kk p ys) (.int v t))) := by
    intro es xs r
    induction r with
    | nil => exact .nil
    | @cons e x es' xs' q _ ih =>
      obtain ⟨q1, q2, t', q3⟩ := q
      refine .cons ?_ ih
      unfold putAt
      dsimp only
      by_cases he : e.p = p ∧ e.ys = ys
      · rw [if_pos he, if_pos (by rw [q1, he.1, he.2])]
        exact ⟨q1, q2, t, rfl⟩
      · rw [if_neg he, if_neg fun z => he (kk_inj (q1 ▸ z))]
        exact ⟨q1, q2, t', q3⟩
  unfold putE storedH
  rcases at_pair (p := p) (ys := ys) r with ⟨w', t', h1, b', h2⟩ | ⟨h1, h2⟩
  · rw [h1, h2]
    exact upd r
  · rw [h1, h2]
    have app : ∀ {es : List KEn} {xs : List (NestedKey × Addr × Value)}, Paired EnR es xs → Paired EnR (es ++ [⟨p, ys, v, b, c⟩]) (xs ++ [(kk p ys, b, .int v t)]) := by
      intro es xs r
      induction r with
      | nil => exact .cons ⟨rfl, rfl, t, rfl⟩ .nil
      | cons q _ ih => exact .cons q ih
    exact app r
theorem put_keys {H : Hp} (k : ∀ e ∈ es, KyJ H e.p e.ys e.b e.c) (n : KyJ H p ys b c) : ∀ e ∈ putE es p ys v b c, KyJ H e.p e.ys e.b e.c := by
  intro e he
  unfold putE at he
  split at he
  · obtain ⟨e', he', rfl⟩ := List.mem_map.mp he
    split
    · exact k e' he'
    · exact k e' he'
  · rcases List.mem_append.mp he with he | he
    · exact k e he
    · rw [List.mem_singleton.mp he]
      exact n
end
/-! ### the rules -/
section
variable {X : Cx} {pins : List (Addr × Obj)} {σ : L2.St} {H : Hp} {s : Shared} {a b c : Addr} {es : List KEn} {p v : Int} {ys : List Int} {A : Around} {E : Value → Shared → Prop}
theorem kd_write {h' : Heap} {t' : Nat} {es' : List KEn} {xs : List (NestedKey × Addr × Value)} (I : L2.Inv X pins σ H s) (j : KdJ X.prog X.w a es H) (hs : Heap.SameBut a s.heap h') (h1 : (a == sysModules) = false) (h2 : es'.length ≤ sizeLine) (r : Paired EnR es' xs) (d : h'.DictOfH (nestedKind X.prog X.w) a xs) :
    L2.Inv X pins σ (upd H a (KdO X.prog X.w a es')) { s with heap := h', toks := t' } :=
  I.write (x := a) (e := a) (by rw [j.at_]; exact True.intro) (.inl rfl) (fun b q hb z => (hs.2 b hb).trans z) (let ⟨o, _, _, e, _⟩ := d; ⟨o, e⟩) (kdO_ok h1 h2 r d)
theorem kd_set {r : Value} {Q : Unit → Shared → Prop} (hu : A.units + 9 < cLine) (I : L2.Inv X pins σ H s) (j : KdJ X.prog X.w a es H) (k : KyJ H p ys b c) (hl : es.length < sizeLine) (rv : RelV (.int v) r)
    (h : ∀ s', L2.Inv X pins σ (upd H a (KdO X.prog X.w a (putE es p ys v b c))) s' → Q () s') : wpAny (model X.prog X.w) A (setItem (.ref a) (.ref b) r) Q E s := by
  obtain ⟨t, rfl⟩ := rv
  obtain ⟨h1, h2, xs, rr, d⟩ := kd_of I.hok j
  have hx : xs.length ≤ sizeLine := by rw [← Paired.length rr]; exact h2
  refine wpAny_setItem_heap (hsz := hx) (show A.in1.units + 8 < cLine from hu) (key_nested I.hok k) d fun h' d' hs => h _ ?_
  exact kd_write I j hs h1 (Nat.le_trans putE_len hl) (put_pair rr) d'
theorem kd_get {r : Value} {z : V} {Q : Value → Shared → Prop} (hu : A.units + 9 < cLine) (I : L2.Inv X pins σ H s) (j : KdJ X.prog X.w a es H) (k : KyJ H p ys b c) (rz : RelV z r)
    (h : ∀ w' s', L2.Inv X pins σ H s' → RelV (((atE es p ys).map V.int).getD z) w' → Q w' s') : wpAny (model X.prog X.w) A (call (.builtin "dict.get") [.ref a, .ref b, r]) Q E s := by
  obtain ⟨h1, h2, xs, rr, d⟩ := kd_of I.hok j
  refine getOr_keyed (show A.in1.units + 8 < cLine from hu) (key_nested I.hok k) h1 ⟨xs, d, rfl⟩ (h _ _ (I.tok _) ?_)
  rw [valueAt_pairsH]
  rcases at_pair (p := p) (ys := ys) rr with ⟨w', t, e1, b', e2⟩ | ⟨e1, e2⟩
  · rw [e1, e2]
    exact ⟨t, rfl⟩
  · rw [e1, e2]
    exact rz
theorem kd_item {Q : Value → Shared → Prop} (hu : A.units + 9 < cLine) (I : L2.Inv X pins σ H s) (j : KdJ X.prog X.w a es H) (k : KyJ H p ys b c) (hv : atE es p ys = some v)
    (h : ∀ w' s', L2.Inv X pins σ H s' → RelV (.int v) w' → Q w' s') : wpAny (model X.prog X.w) A (getItem (.ref a) (.ref b)) Q E s := by
  obtain ⟨h1, h2, xs, rr, d⟩ := kd_of I.hok j
  rcases at_pair (p := p) (ys := ys) rr with ⟨w', t, e1, b', e2⟩ | ⟨e1, e2⟩
  · rw [hv] at e1
    cases e1
    refine getItem_keyed (v := .int v t) (show A.in1.units + 8 < cLine from hu) (key_nested I.hok k) ⟨xs, d, rfl⟩ ?_ (h _ _ (I.tok _) ⟨t, rfl⟩)
    rw [valueAt_pairsH, e2]
    rfl
  · rw [hv] at e1
    cases e1
end
theorem dict_at {X : Cx} {pins : List (Addr × Obj)} {σ : L2.St} {H : Hp} {s : Shared} {a : Addr} {es : List KEn} (I : L2.Inv X pins σ H s) (j : KdJ X.prog X.w a es H) : s.TypeIs (.ref a) "dict" ∧ ∀ b, Value.ref a = .ref b → ∃ o, s.heap.get? b = some o ∧ o.dict = none := by
  obtain ⟨_, _, _, _, o, _, _, e1, e2, _⟩ := kd_of I.hok j
  exact ⟨⟨o, e1, e2.1⟩, fun b q => by cases q; exact ⟨o, e1, e2.2.1⟩⟩
/-- d[k] = v; d.get(k, z); d[k]; {} -/
def sKPut (td ty tv : TE) (P : Program) (w : World) : TS := fun D σ H => tv σ H fun v H1 => td σ H1 fun x H2 => ty σ H2 fun y H3 => ∃ a es p ys n b c, x = .ref a ∧ y = .ref b ∧ v = .int n ∧ KdJ P w a es H3 ∧ KyJ H3 p ys b c ∧ es.length < sizeLine ∧
  D.nx σ (upd H3 a (KdO P w a (putE es p ys n b c)))
def tKGet (td ty tz : TE) (P : Program) (w : World) : TE := fun σ H Q => td σ H fun x H1 => ∃ a, x = .ref a ∧ (∃ es, KdJ P w a es H1) ∧ ty σ H1 fun y H2 => tz σ H2 fun z H3 => ∃ es p ys b c, y = .ref b ∧ KdJ P w a es H3 ∧ KyJ H3 p ys b c ∧ Q (((atE es p ys).map V.int).getD z) H3
def tKItem (td ty : TE) (P : Program) (w : World) : TE := fun σ H Q => td σ H fun x H1 => ty σ H1 fun y H2 => ∃ a es p ys b c n, x = .ref a ∧ y = .ref b ∧ KdJ P w a es H2 ∧ KyJ H2 p ys b c ∧ atE es p ys = some n ∧ Q (.int n) H2
def tKNew (P : Program) (w : World) : TE := fun _ H Q => ∀ p, H p = none → Q (.ref p) (upd H p (KdO P w p []))
theorem kd_empty {P : Program} {w : World} {H : Hp} (h : Heap) (hb : sysModules < h.objs.size) : ObjOk P w H (h.push { cls := .type "dict", data := .dict #[] }) h.objs.size (KdO P w h.objs.size []) :=
  kdO_ok (beq_eq_false_iff_ne.mpr (Ne.symm (Nat.ne_of_lt hb))) (Nat.zero_le _) .nil (Heap.DictOfH.new h)
section
variable {X : Cx} {o i e f value : Expr} {pos pos' apos cpos : Pos} {td ty tv tz : TE}
theorem pe_kget (hu : X.A.units + 9 < cLine) (ho : PE X o td) (he : PE X e ty) (hf : PE X f tz) (m : M2 X o "get" apos e f cpos) : PE X (.Call (.Attribute o "get" apos) [e, f] [] cpos) (tKGet td ty tz X.prog X.w) := by
  refine ⟨fun pn s0 σ H Q I0 h0 => wpAny_Call_method m.base m.few m.line PySem.F.plainAttrs_dict PySem.F.slot_dict_get PySem.F.type_dict_get (thn (ho.run pn s0 σ H _ I0 h0) fun u s1 hx => ?_)⟩
  obtain ⟨x, Ha, I1, rx, a, rfl, ⟨es0, j0⟩, h1⟩ := hx
  obtain rfl : u = Value.ref a := rx
  obtain ⟨y1, y2⟩ := dict_at I1 j0
  refine ⟨y1, y2, ?_⟩
  rw [m.trees]
  refine Calls.callWith_builtin rfl (Calls.evalArgs_plain (Calls.spliced_cons (thn (he.run pn s1 σ Ha _ I1 h1) fun u2 s2 hy => ?_)))
  obtain ⟨y, Hb, I2, ry, h2⟩ := hy
  refine Calls.spliced_cons (thn (hf.run pn s2 σ Hb _ I2 h2) fun u3 s3 hz => Calls.spliced_nil ?_)
  obtain ⟨z, Hc, I3, rz, es, p, ys, b, c, rfl, j, k, h3⟩ := hz
  obtain rfl : u2 = Value.ref b := ry
  exact kd_get hu I3 j k rz fun w' s4 I4 r4 => ⟨_, Hc, I4, r4, h3⟩
theorem pe_kitem (hu : X.A.units + 9 < cLine) (ho : PE X o td) (hi : PE X i ty) (hs : NoSl i) : PE X (.Subscript o i pos) (tKItem td ty X.prog X.w) := by
  refine ⟨fun pn s0 σ H Q I0 h0 => subD_of PySem.F.slot_dict_getitem.lookup hs (thn (ho.run pn s0 σ H _ I0 h0) fun u s1 hx => ?_)⟩
  obtain ⟨x, Ha, I1, rx, h1⟩ := hx
  refine thn (hi.run pn s1 σ Ha _ I1 h1) fun u2 s2 hy => ?_
  obtain ⟨y, Hb, I2, ry, a, es, p, ys, b, c, n, rfl, rfl, j, k, hv, h2⟩ := hy
  obtain rfl : u = Value.ref a := rx
  obtain rfl : u2 = Value.ref b := ry
  exact ⟨(dict_at I2 j).1, kd_item hu I2 j k hv fun w' s3 I3 r3 => ⟨.int n, Hb, I3, r3, h2⟩⟩
theorem ps_kput (hu : X.A.units + 9 < cLine) (ho : PE X o td) (hi : PE X i ty) (hv : PE X value tv) (hs : swapsWith value (some (.Subscript o i pos')) pos.line X.env = pure false) :
    PS X (.Assign [.Subscript o i pos'] value pos) (sKPut td ty tv X.prog X.w) := by
  refine ⟨fun pn s0 σ H D I0 h0 => wpAny_Assign_Subscript (thn (hv.run pn s0 σ H _ I0 h0) fun r s1 hw => ?_) hs⟩
  obtain ⟨v, Ha, I1, rv, h1⟩ := hw
  refine thn (ho.run pn s1 σ Ha _ I1 h1) fun u s2 hx => ?_
  obtain ⟨x, Hb, I2, rx, h2⟩ := hx
  refine thn (hi.run pn s2 σ Hb _ I2 h2) fun u2 s3 hy => ?_
  obtain ⟨y, Hc, I3, ry, a, es, p, ys, n, b, c, rfl, rfl, rfl, j, k, hl, h3⟩ := hy
  obtain rfl : u = Value.ref a := rx
  obtain rfl : u2 = Value.ref b := ry
  exact kd_set hu I3 j k hl rv fun s4 I4 => ⟨σ, _, I4, h3⟩
theorem pe_knew : PE X (.Dict [] [] pos) (tKNew X.prog X.w) := ⟨fun pn s0 σ H Q I0 h0 =>
  wpAny_Dict_empty ⟨.ref s0.heap.objs.size, _, I0.laid (t' := s0.toks) (fun _ _ z => Heap.get?_push_of_some _ z) (Nat.le_refl _) (kd_empty s0.heap I0.big), rfl, h0 _ (I0.hok.fresh (Nat.le_refl _))⟩⟩
end
end Wb
/-! WbKe -/
set_option maxHeartbeats 4000000
namespace Wb
open PySem PySem.Spec PyProof.Rows L2
section
variable {X : Cx}
/-- {k: v for target in iter}, keys (plane, vector) -/
def tKc (wi : TI) (g : TG) (tt : TT) (tk tv : TE) (vs : List Nat) (P : Program) (w : World) : TE := fun σ H Q => wi σ H fun J H1 => ∀ D, H1 D = none → ∃ W : Nat → Nat → Hp → Prop, (∃ m, W 0 m (upd H1 D (KdO P w D []))) ∧
  ∀ i m H, W i m H → (J.stop i H ∧ Q (.ref D) H) ∨ (J.go i H ∧ ∃ N : Hp → Prop, (∀ H', N H' → ∃ m', m' < m ∧ W (i + 1) m' H') ∧
    ∀ x H', J.yld i H x H' → g x (wipe σ vs) H' fun σ2 H2 => wipe σ2 vs = wipe σ vs ∧ tt σ2 H2 fun bb H3 => if bb = true then tk σ2 H3 fun y H4 => tv σ2 H4 fun z H5 =>
      ∃ es p ys n b c, y = .ref b ∧ z = .int n ∧ KdJ P w D es H5 ∧ KyJ H5 p ys b c ∧ es.length < sizeLine ∧ N (upd H5 D (KdO P w D (putE es p ys n b c))) else N H3)
theorem kc_core {pn : List (Addr × Obj)} {s : Shared} {σ : L2.St} {G0 : Hp} {Q : VK} {kx vx tg iter : Expr} {ifs : List Expr} {scope : Scope} {ow : List (Str × Nat)} {ps1 ps2 : Pos} {wi : TI} {g : TG} {tt : TT} {tk tv : TE} {use : Option (Value → Sem Unit)} {Qf : Value → Shared → Prop}
    (hu : X.A.units + 8 < cLine) (hcm : X.calm = true) (hnd : X.N.Nodup) (Ja : L2.Inv X pn σ G0 s) (hit : PI X tg iter wi) (blk : BlkOk X.N X.env.scope scope ow)
    (hga : ∀ (s : Shared) (G0 : Hp) (C : Addr) (cl : List (Str × Addr)) (fq : List Addr), PG (X.blk s G0 scope (compEnvC scope cl C X.env) fq) tg g) (hta : ∀ (s : Shared) (G0 : Hp) (C : Addr) (cl : List (Str × Addr)) (fq : List Addr), PTs (X.blk s G0 scope (compEnvC scope cl C X.env) fq) ifs tt)
    (hka : ∀ (s : Shared) (G0 : Hp) (C : Addr) (cl : List (Str × Addr)) (fq : List Addr), PE (X.blk s G0 scope (compEnvC scope cl C X.env) fq) kx tk)
    (hea : ∀ (s : Shared) (G0 : Hp) (C : Addr) (cl : List (Str × Addr)) (fq : List Addr), PE (X.blk s G0 scope (compEnvC scope cl C X.env) fq) vx tv) (hsa : ∀ xx, foldedSetIterable iter X.env xx = pure xx)
    (hy : tKc wi g tt tk tv (ow.map (·.2)) X.prog X.w σ G0 Q)
    (hend : ∀ dd C z' mm G', L2.Inv X pn σ G' z' → Q (.ref dd) G' → z'.heap.Ns C mm → FpOk X pn G' C → compPost (model X.prog X.w) X.A X.xe use Qf (.ref dd) C (.ok .next) z') :
    wpAny (model X.prog X.w) X.A (comprehension (.DictComp kx vx [⟨tg, iter, ifs, 0⟩] scope ps1) scope X.env ps2 newDict false (eval iter X.env) use) Qf X.xe s := by
  have hfr : ∀ yy ∈ scope.names, yy.2 = .free → ∃ cc, X.env.cells.lookup yy.1 = some cc := fun yy hy ee => by
    rcases blk.free yy hy ee with kq | kq
    · exact Ja.ok.has _ (.inl kq)
    · exact Ja.ok.has _ (.inr kq)
  refine wpAny_comprehension_free (use := use) rfl hsa (closure_ok hfr) blk.kind (fun yy hy ee => by rw [blk.uniq yy hy, ee])
    (thn (hit.run pn s σ G0 _ Ja hy) fun xw z1 hxx => thn hxx fun iv z2 hb2 => ?_)
  obtain ⟨it, fq, tnn, Jt, G2, ee, Jb, Tn, sb, fb, qv⟩ := hb2
  subst ee
  refine wpAny_newObj_type (newEnv_comp ?_)
  generalize hdd : z2.heap.objs.size = dd
  have hdn : G2 dd = none := Jb.hok.fresh (Nat.le_of_eq hdd)
  obtain ⟨Wv, ⟨mz, wz⟩, trn⟩ := qv dd hdn
  generalize hz3 : ({ z2 with heap := z2.heap.push { cls := .type "dict", data := .dict #[] } } : Shared) = z3
  have Jc : L2.Inv X pn σ (upd G2 dd (KdO X.prog X.w dd [])) z3 := by
    rw [← hz3]
    refine Jb.laid (t' := z2.toks) (fun bb oo ee => Heap.get?_push_of_some _ ee) (Nat.le_of_eq hdd) ?_
    rw [← hdd]
    exact kd_empty z2.heap Jb.big
  have hh3 : z3.heap = z2.heap.push { cls := .type "dict", data := .dict #[] } := by rw [← hz3]
  have szz : ∀ bb ∈ fq, bb < z2.heap.objs.size := fun bb hb => by
    obtain ⟨oo, ee, _⟩ := Tn.obj _ _ sb bb hb
    exact Heap.lt_size ee
  have fc : ∀ bb ∈ fq, FpOk X pn (upd G2 dd (KdO X.prog X.w dd [])) bb ∧ bb < z3.heap.objs.size := fun bb hb => by
    have hstop := szz bb hb
    refine ⟨⟨?_, (fb bb hb).2⟩, by rw [hh3, Heap.size_push]; exact Nat.lt_succ_of_lt hstop⟩
    rw [upd_ne (by rw [← hdd]; exact Nat.ne_of_lt hstop)]
    exact (fb bb hb).1
  have sc : tnn 0 z3.heap := Tn.keep _ _ _ sb fun bb _ oo ee => by rw [hh3]; exact Heap.get?_push_of_some _ ee
  have Jd := block_start Jc blk hnd fc
  have pga := hga z3 (upd G2 dd (KdO X.prog X.w dd [])) z3.heap.objs.size (cellsFrom (z3.heap.objs.size + 1) scope.names (cloFrom X.env.cells scope.names [])) fq
  have pta := hta z3 (upd G2 dd (KdO X.prog X.w dd [])) z3.heap.objs.size (cellsFrom (z3.heap.objs.size + 1) scope.names (cloFrom X.env.cells scope.names [])) fq
  have pka := hka z3 (upd G2 dd (KdO X.prog X.w dd [])) z3.heap.objs.size (cellsFrom (z3.heap.objs.size + 1) scope.names (cloFrom X.env.cells scope.names [])) fq
  have pea := hea z3 (upd G2 dd (KdO X.prog X.w dd [])) z3.heap.objs.size (cellsFrom (z3.heap.objs.size + 1) scope.names (cloFrom X.env.cells scope.names [])) fq
  show codeAny _ _ (.compStart (.DictComp kx vx [⟨tg, iter, ifs, 0⟩] scope ps1) 0 (.ref it) (.ref dd) (compEnvC scope (cellsFrom (z3.heap.objs.size + 1) scope.names (cloFrom X.env.cells scope.names [])) z3.heap.objs.size X.env)) (compPost (model X.prog X.w) X.A X.xe use Qf (.ref dd) z3.heap.objs.size) { z3 with heap := pushCells (z3.heap.push { cls := .type "dict", data := .dict #[] }) scope.names }
  have nfq : ∀ bb ∈ fq, (upd G2 dd (KdO X.prog X.w dd [])) bb = none := fun bb hb => (fc bb hb).1.1
  generalize hev : compEnvC scope (cellsFrom (z3.heap.objs.size + 1) scope.names (cloFrom X.env.cells scope.names [])) z3.heap.objs.size X.env = ev at Jd pga pta pka pea ⊢
  have evL : ev.locals = z3.heap.objs.size := by subst hev; rfl
  generalize hG3 : upd G2 dd (KdO X.prog X.w dd []) = G3 at Jc Jd pga pta pka pea wz nfq fc
  generalize hz4 : ({ z3 with heap := pushCells (z3.heap.push { cls := .type "dict", data := .dict #[] }) scope.names } : Shared) = z4 at Jd ⊢
  have sd : tnn 0 z4.heap := Tn.keep _ _ _ sc fun bb _ oo ee => by rw [← hz4]; exact pushCells_keeps _ _ _ _ (Heap.get?_push_of_some _ ee)
  have stay : ∀ {σ' : L2.St} {G' : Hp} {z' : Shared}, L2.Inv (X.blk z3 G3 scope ev fq) [] σ' G' z' → (∀ bb ∈ fq, G' bb = none) → ∀ bb ∈ fq, FpOk (X.blk z3 G3 scope ev fq) [] G' bb := fun {σ' G' z'} Jn hns bb hb =>
    ⟨hns bb hb, (Jn.ok.exf bb hb).1, Jn.ok.exfs bb hb, .inl hb, fun xx cc ee => (Jn.ok.exf bb hb).2 xx cc ee, fun p hp => absurd (show p ∈ ([] : List (Addr × Obj)) ++ [] from hp) (by simp)⟩
  have lp : codeAny (model X.prog X.w) X.A (.compLoop (.DictComp kx vx [⟨tg, iter, ifs, 0⟩] scope ps1) 0 (.ref it) (.ref dd) ev) (compPost (model X.prog X.w) X.A X.xe use Qf (.ref dd) z3.heap.objs.size) z4 := by
    refine compLoop_anyD (fun nn z' => ∃ ix G', L2.Inv (X.blk z3 G3 scope ev fq) [] (wipe σ (ow.map (·.2))) G' z' ∧ tnn ix z'.heap ∧ (∀ bb ∈ fq, G' bb = none) ∧ Wv ix nn G') ?_ mz ⟨0, G3, Jd, sd, nfq, wz⟩
    rintro nn z5 ⟨ix, G5, Je, se, ne, wf⟩
    rcases trn ix nn G5 wf with ⟨hlt, qq⟩ | ⟨gg, Nn, hNn, stp⟩
    · have tdn := Tn.done (X.blk z3 G3 scope ev fq) rfl rfl rfl hcm ix [] z5 _ G5 (fun _ _ => False) Je (stay Je ne) se hlt
      refine thnF tdn fun r z6 ⟨hr, Jf⟩ => ?_
      subst hr
      have Jg : L2.Inv X pn σ G5 z6 := Jc.call' (ch := fq) Jf.os Jf.base Jf.hok Jf.bare fun bb hb => ⟨(fc bb hb).1.2.2.2.1, (fc bb hb).1.2.1, (fc bb hb).1.2.2.2.2.1, (fc bb hb).1.2.2.2.2.2⟩
      have nL : G5 z3.heap.objs.size = none := by
        have zz : G5 ev.locals = none := Jf.free
        rw [evL] at zz
        exact zz
      obtain ⟨mm, hns, _⟩ := Jf.loc
      have hns : z6.heap.Ns ev.locals mm := hns
      rw [evL] at hns
      exact hend dd z3.heap.objs.size z6 mm G5 Jg qq hns (Jc.fpOk (Nat.le_refl _) nL)
    · have tit := Tn.item (X.blk z3 G3 scope ev fq) rfl rfl rfl hcm ix [] z5 _ G5 (fun _ _ => False) Je (stay Je ne) se gg
      refine thnF tit fun r z6 ⟨uu, hr, h6⟩ => ?_
      subst hr
      refine thnF h6 fun _ z7 ⟨xx, G7, Jg, rg, yg, sg, ng⟩ => ?_
      have Jg' := Jg.pinned (stay Jg ng) (Tn.obj _ _ sg)
      refine thnF (pga.run _ z7 _ G7 xx uu _ Jg' rg (stp xx G7 yg)) fun _ z8 ⟨τ, G8, Jh, hwt, qt⟩ => ?_
      refine thnF (pta.run _ z8 τ G8 _ Jh qt) fun bb z9 ⟨G9, Ji, qi⟩ => ?_
      have done : ∀ {z' : Shared} {G' : Hp}, L2.Inv (X.blk z3 G3 scope ev fq) ([] ++ pinsAt fq z7.heap) τ G' z' → Nn G' → ∃ mm, mm < nn ∧ ∃ ix G', L2.Inv (X.blk z3 G3 scope ev fq) [] (wipe σ (ow.map (·.2))) G' z' ∧ tnn ix z'.heap ∧ (∀ bb ∈ fq, G' bb = none) ∧ Wv ix mm G' := fun {z' G'} Jn nn2 => by
        obtain ⟨m', hmm, wn⟩ := hNn G' nn2
        have pn1 : ∀ bb ∈ fq, ∀ oo, z7.heap.get? bb = some oo → z'.heap.get? bb = some oo ∧ G' bb = none := fun bb hb oo ee =>
          let zz := Jn.pin (bb, oo) (List.mem_append_right _ (List.mem_append_right _ (mem_pinsAt hb ee)))
          ⟨zz.1, zz.2.1⟩
        have hl : (wipe σ (ow.map (·.2))).length = τ.length := by rw [← hwt, wipe_length]
        refine ⟨m', hmm, ix + 1, G', (Jn.unpinned (pins := [])).weak hl (fun j vv ee => ?_), Tn.keep _ _ _ sg fun bb hb oo ee => (pn1 bb hb oo ee).1, fun bb hb => ?_, wn⟩
        · rw [← hwt] at ee
          exact (wipe_some ee).1
        · obtain ⟨oo, ee, _⟩ := Tn.obj _ _ sg bb hb
          exact (pn1 bb hb oo ee).2
      cases bb with
      | false =>
        simp only [Bool.false_eq_true, if_false] at qi ⊢
        exact done Ji qi
      | true =>
        simp only [if_true] at qi ⊢
        refine thnF (pka.run _ z9 τ G9 _ Ji qi) fun zz z10 ⟨yk, G10, Jk, rk, qk⟩ => ?_
        refine thnF (pea.run _ z10 τ G10 _ Jk qk) fun uv z11 ⟨yv, G11, Jl, rl, es, p, ys, n, b, c, ey, ez, kj, ky, kl, nn2⟩ => ?_
        subst ey ez
        obtain rfl : zz = Value.ref b := rk
        obtain ⟨tok, rfl⟩ := rl
        obtain ⟨e1, e2, xs, rr, dx⟩ := kd_of (P := X.prog) (w := X.w) Jl.hok kj
        refine wpAny_dictSet_heap (hsz := by rw [← Paired.length rr]; exact e2) hu (key_nested (P := X.prog) (w := X.w) Jl.hok ky) dx fun h' dx' hs => ?_
        exact done (kd_write (X := X.blk z3 G3 scope ev fq) (t' := _) Jl kj hs e1 (Nat.le_trans putE_len kl) (put_pair rr) dx') nn2
  exact codeAny_compStart_dict lp (Tn.self X.A 0 _ _ _ sd lp)
theorem pe_kc {kx vx tg iter : Expr} {ifs : List Expr} {scope : Scope} {own : List (Str × Nat)} {pos : Pos} {wi : TI} {g : TG} {tt : TT} {tk tv : TE} (hu : X.A.units + 8 < cLine) (hcm : X.calm = true) (hnd : X.N.Nodup) (hit : PI X tg iter wi) (blk : BlkOk X.N X.env.scope scope own)
    (hga : ∀ (s : Shared) (H : Hp) (C : Addr) (cl : List (Str × Addr)) (fq : List Addr), PG (X.blk s H scope (compEnvC scope cl C X.env) fq) tg g)
    (hta : ∀ (s : Shared) (H : Hp) (C : Addr) (cl : List (Str × Addr)) (fq : List Addr), PTs (X.blk s H scope (compEnvC scope cl C X.env) fq) ifs tt)
    (hka : ∀ (s : Shared) (H : Hp) (C : Addr) (cl : List (Str × Addr)) (fq : List Addr), PE (X.blk s H scope (compEnvC scope cl C X.env) fq) kx tk)
    (hea : ∀ (s : Shared) (H : Hp) (C : Addr) (cl : List (Str × Addr)) (fq : List Addr), PE (X.blk s H scope (compEnvC scope cl C X.env) fq) vx tv) (hsa : ∀ xx, foldedSetIterable iter X.env xx = pure xx := by intro _; rfl) :
    PE X (.DictComp kx vx [⟨tg, iter, ifs, 0⟩] scope pos) (tKc wi g tt tk tv (own.map (·.2)) X.prog X.w) := by
  refine ⟨fun pn s0 σ H Q J0 hq => ?_⟩
  rw [arm_eval_DictComp]
  exact kc_core hu hcm hnd J0 hit blk hga hta hka hea hsa hq fun dd C z mm G Jz q hn fp => ⟨mm, hn, fun h2 sb => by
    obtain ⟨f0, f1, f2, f3, f4, f5⟩ := fp
    exact ⟨.ref dd, G, Jz.turned (t' := z.toks) (fun b o hb e => (sb.2 b hb).trans e) f0 f1 f3 f4 f5, rfl, q⟩⟩
end
end Wb
/-! WbKf -/
set_option maxHeartbeats 4000000
namespace Wb
open PySem PySem.Spec PyProof.Rows L2 GenW
theorem hu9 {A : Around} {k : Nat} (hr : Room k A) : A.units + 9 < cLine := by have := hr.units; omega
theorem hu8 {A : Around} {k : Nat} (hr : Room k A) : A.units + 8 < cLine := by have := hr.units; omega
abbrev Kn := Int → List Int → Option Int
def putF (K : Kn) (p : Int) (ys : List Int) (v : Int) : Kn := fun q zs => if p = q ∧ ys = zs then some v else K q zs
def outK (es : List Ent) : Kn := es.foldl (fun K e => putF K e.1 e.2.1 e.2.2) fun _ _ => none
theorem atE_putF {es : List KEn} {p : Int} {ys : List Int} {v : Int} {b c : Addr} : atE (putE es p ys v b c) = putF (atE es) p ys v := by
  funext q zs
  exact atE_put es
def kD (p : Int) (ys : List Int) : D := .tup [.int p, tI ys]
theorem key_rep {H : Hp} {v : V} {p : Int} {ys : List Int} (r : Rep H v (kD p ys)) : ∃ b c, v = .ref b ∧ KyJ H p ys b c := by
  unfold kD at r
  cases r with
  | tup h l =>
    cases l with
    | cons r1 l =>
      cases l with
      | cons r2 l =>
        cases l
        cases r1
        unfold tI at r2
        cases r2 with
        | tup h2 l2 =>
          rw [RepL.ints l2] at h2
          exact ⟨_, _, rfl, h, h2⟩
theorem KyJ.mono {H H' : Hp} {p : Int} {ys : List Int} {b c : Addr} (k : KyJ H p ys b c) (t : TSm H H') : KyJ H' p ys b c := ⟨t _ _ k.1, t _ _ k.2⟩
theorem KdJ.mono {P : Program} {w : World} {a : Addr} {es : List KEn} {H H' : Hp} (k : KdJ P w a es H) (e : H' a = H a) (t : TSm H H') : KdJ P w a es H' := ⟨e.trans k.at_, fun x hx => (k.keys x hx).mono t⟩
theorem KdJ.put {P : Program} {w : World} {a b c : Addr} {es : List KEn} {p v : Int} {ys : List Int} {H : Hp} (k : KdJ P w a es H) (y : KyJ H p ys b c) : KdJ P w a (putE es p ys v b c) (upd H a (KdO P w a (putE es p ys v b c))) := by
  have t : TSm H (upd H a (KdO P w a (putE es p ys v b c))) := TSm.upd fun vs z => by rw [k.at_] at z; cases z
  exact ⟨upd_same, fun x hx => (put_keys (v := v) k.keys y x hx).mono t⟩
/-- the dict at a, as it is: read only -/
def Fk (P : Program) (w : World) (a : Addr) (es : List KEn) : Fm where
  S := fun _ => False
  A := fun b => b = a ∨ ∃ e ∈ es, b = e.b ∨ b = e.c
  J := KdJ P w a es
  sub := fun _ h => h.elim
  loc := fun H H' j h => ⟨(h a (.inl rfl)).trans j.at_, fun e he => ⟨(h _ (.inr ⟨e, he, .inl rfl⟩)).trans (j.keys e he).1, (h _ (.inr ⟨e, he, .inr rfl⟩)).trans (j.keys e he).2⟩⟩
  pres := fun H b j h => by
    rcases h with rfl | ⟨e, he, rfl | rfl⟩
    · rw [j.at_]; exact fun z => by cases z
    · rw [(j.keys e he).1]; exact fun z => by cases z
    · rw [(j.keys e he).2]; exact fun z => by cases z
  nt := fun _ _ _ _ h => h.elim
section
variable {F : Fm} {ds : Ds} {td ty tz : TE} {P : Program} {w : World} {a : Addr} {es : List KEn} {p z : Int} {ys : List Int}
theorem ev_kget (hJ : ∀ H, F.J H → KdJ P w a es H) (hd : Ev F td ds (· = .d (.obj a))) (hy : Ev F ty ds (· = .d (kD p ys))) (hz : Ev F tz ds (· = .d (.int z))) : Ev F (tKGet td ty tz P w) ds (· = .d (.int ((atE es p ys).getD z))) := fun H0 Pn σ H s Q q =>
  hd H0 Pn σ H s _ fun v H1 r k1 j1 r1 e1 => by
    subst e1
    have r1 : Rep H1 v (.obj a) := r1
    cases r1
    refine ⟨a, rfl, ⟨es, hJ H1 j1⟩, hy H0 Pn σ H1 (s.mono k1 j1) _ fun y H2 r k2 j2 r2 e2 => ?_⟩
    subst e2
    refine hz H0 Pn σ H2 ((s.mono k1 j1).mono k2 j2) _ fun y3 H3 r k3 j3 r3 e3 => ?_
    subst e3
    have r3 : Rep H3 y3 (.int z) := r3
    cases r3
    obtain ⟨b, c, rfl, ky⟩ := key_rep (Rep.mono (k3.ts j2) (show Rep H2 y (kD p ys) from r2))
    refine ⟨es, p, ys, b, c, rfl, hJ H3 j3, ky, ?_⟩
    have e4 : ((atE es p ys).map V.int).getD (.int z) = .int ((atE es p ys).getD z) := by
      cases atE es p ys <;> rfl
    rw [e4]
    exact q _ H3 (.d (.int _)) ((k1.trans k2).trans k3) j3 (.int _) rfl
theorem ev_kitem {n : Int} (hJ : ∀ H, F.J H → KdJ P w a es H) (hd : Ev F td ds (· = .d (.obj a))) (hy : Ev F ty ds (· = .d (kD p ys))) (hn : atE es p ys = some n) : Ev F (tKItem td ty P w) ds (· = .d (.int n)) := fun H0 Pn σ H s Q q =>
  hd H0 Pn σ H s _ fun v H1 r k1 j1 r1 e1 => by
    subst e1
    have r1 : Rep H1 v (.obj a) := r1
    cases r1
    refine hy H0 Pn σ H1 (s.mono k1 j1) _ fun y H2 r k2 j2 r2 e2 => ?_
    subst e2
    obtain ⟨b, c, rfl, ky⟩ := key_rep (show Rep H2 y (kD p ys) from r2)
    exact ⟨a, es, p, ys, b, c, n, rfl, rfl, hJ H2 j2, ky, hn, q _ H2 (.d (.int _)) (k1.trans k2) j2 (.int _) rfl⟩
/-- {k: v for x in xs} -/
theorem kc_run {wi : TI} {g : TG} {tk tv : TE} {vs : List Nat} {ents : List Ent} {f : Ent → D} (hs : EvI F wi ds (· = ents.map f)) (hl : ents.length < sizeLine)
    (hb : ∀ x ∈ ents, ∃ is ds', TgOk g is (wipeD ds vs) (f x) ds' ∧ (∀ i ∈ is, i ∈ vs) ∧ Ev F tk ds' (· = .d (kD x.1 x.2.1)) ∧ Ev F tv ds' (· = .d (.int x.2.2)))
    {H0 : Hp} {Pn0 : List Pn} {σ : L2.St} {H : Hp} (s : Ste F H0 Pn0 σ H ds) {Q : VK} (q : ∀ D H' es, Kp F H H' → F.J H' → H D = none → KdJ P w D es H' → atE es = outK ents → es.length ≤ ents.length → Q (.ref D) H') : tKc wi g tYes tk tv vs P w σ H Q :=
  hs H0 Pn0 σ H s _ fun J H1 pn xs k1 j1 hp1 _ hsrc p1 => by
    subst p1
    obtain ⟨G, Y, wk, hG, hY⟩ := hsrc.at
    intro Dl hD
    have hlen : (ents.map f).length = ents.length := List.length_map ..
    have nA : ∀ {o : HO}, F.J (upd H1 Dl o) := fun {o} => F.upd j1 hD j1
    refine ⟨fun i m H' => m = ents.length - i ∧ i ≤ ents.length ∧ Kp F H1 H' ∧ F.J H' ∧ ∃ es, KdJ P w Dl es H' ∧ es.length ≤ i ∧ atE es = outK (ents.take i), ⟨ents.length, by simp, Nat.zero_le _, Kp.new hD, nA, [], ⟨upd_same, fun e he => nomatch he⟩, Nat.le_refl _, rfl⟩, ?_⟩
    rintro i m H2 ⟨rfl, hi, k2, j2, es, kd, hel, hat⟩
    have g2 := hG H2 j2 fun q hq => (hp1 q hq).mono k2 j1
    by_cases hlt : i < ents.length
    · refine .inr ⟨wk.goes i H2 (by rw [hlen]; exact hlt) g2, fun H' => i + 1 ≤ ents.length ∧ Kp F H1 H' ∧ F.J H' ∧ ∃ es, KdJ P w Dl es H' ∧ es.length ≤ i + 1 ∧ atE es = outK (ents.take (i + 1)), fun H' h => ⟨ents.length - (i + 1), by omega, rfl, h⟩, fun v H3 hy => ?_⟩
      obtain ⟨x, hx, rx, k3, j3, keepD⟩ := hY i H2 v H3 (by rw [hlen]; exact hlt) j2 (fun q hq => (hp1 q hq).mono k2 j1) (wk.yields i H2 v H3 (by rw [hlen]; exact hlt) g2 hy)
      rw [List.getElem?_map, List.getElem?_eq_getElem hlt] at hx
      obtain rfl : f ents[i] = x := Option.some.inj hx
      obtain ⟨is, ds', htg, his, htk, htv⟩ := hb ents[i] (List.getElem_mem hlt)
      have s3 : Ste F H0 Pn0 (wipe σ vs) H3 (wipeD ds vs) := (s.wipe vs).mono ((k1.trans k2).trans k3) j3
      have nS : ¬ F.S Dl := F.newS j1 hD
      refine htg F H0 Pn0 (wipe σ vs) H3 v _ s3 rx fun σ2 s4 l4 e4 => ⟨?_, ?_⟩
      · rw [wipe_eq l4 fun a ha => e4 a fun z => ha (his a z)]
        exact wipe_wipe σ vs
      · unfold tYes
        dsimp only
        rw [if_pos rfl]
        refine htk H0 Pn0 σ2 H3 s4 _ fun y H4 r k4 j4 r4 e4' => ?_
        subst e4'
        refine htv H0 Pn0 σ2 H4 (s4.mono k4 j4) _ fun y5 H5 r k5 j5 r5 e5' => ?_
        subst e5'
        have r5 : Rep H5 y5 (.int ents[i].2.2) := r5
        cases r5
        obtain ⟨b, c, rfl, ky⟩ := key_rep (Rep.mono (k5.ts j4) (show Rep H4 y (kD ents[i].1 ents[i].2.1) from r4))
        have kk : Kp F H2 H5 := (k3.trans k4).trans k5
        have kd5 : KdJ P w Dl es H5 := kd.mono ((kk Dl _ nS kd.at_).trans kd.at_.symm) (kk.ts j2)
        refine ⟨es, _, _, _, b, c, rfl, rfl, kd5, ky, by omega, hlt, (k2.trans kk).mut hD, F.upd j1 hD j5, _, kd5.put ky, Nat.le_trans putE_len (Nat.succ_le_succ hel), ?_⟩
        rw [atE_putF, hat, List.take_add_one, List.getElem?_eq_getElem hlt]
        unfold outK
        rw [Option.toList_some, List.foldl_append]
        rfl
    · have e : i = ents.length := by omega
      subst e
      refine .inl ⟨?_, ?_⟩
      · have := wk.stops H2 g2
        rw [hlen] at this
        exact this
      · rw [List.take_length] at hat
        exact q Dl H2 es (k1.trans k2) j2 (k1.free s.j j1 hD) kd hat hel
end
section
variable {X : Cx} {P : Program} {w : World} {o i e f value : Expr} {pos pos' apos cpos : Pos} {td ty tv tz : TE}
theorem k_kget (hP : X.prog = P) (hw : X.w = w) (hu : X.A.units + 9 < cLine) (ho : PE X o td) (he : PE X e ty) (hf : PE X f tz) (m : M2 X o "get" apos e f cpos) : PE X (.Call (.Attribute o "get" apos) [e, f] [] cpos) (tKGet td ty tz P w) := hP ▸ hw ▸ pe_kget hu ho he hf m
theorem k_kitem (hP : X.prog = P) (hw : X.w = w) (hu : X.A.units + 9 < cLine) (ho : PE X o td) (hi : PE X i ty) (hs : NoSl i) : PE X (.Subscript o i pos) (tKItem td ty P w) := hP ▸ hw ▸ pe_kitem hu ho hi hs
theorem k_kput (hP : X.prog = P) (hw : X.w = w) (hu : X.A.units + 9 < cLine) (ho : PE X o td) (hi : PE X i ty) (hv : PE X value tv) (hs : swapsWith value (some (.Subscript o i pos')) pos.line X.env = pure false) : PS X (.Assign [.Subscript o i pos'] value pos) (sKPut td ty tv P w) := hP ▸ hw ▸ ps_kput hu ho hi hv hs
theorem k_knew (hP : X.prog = P) (hw : X.w = w) : PE X (.Dict [] [] pos) (tKNew P w) := hP ▸ hw ▸ pe_knew
end
end Wb
/-! WbKg -/
set_option maxHeartbeats 4000000
namespace Wb
open PySem PySem.Spec PyProof.Rows L2 GenW
/-! ### the words one after another, in plain terms -/
def ruleOf (f : Flw) (o : Ord) : Rul := f.2.getD o.2.1.toNat ("", [])
def wordAt (f : Flw) (K : Kn) (o : Ord) : Int := madeI (ruleOf f o).1 ((ruleOf f o).2.map fun q => (K q.1 (subI o.2.2 q.2)).getD 0)
def stepK (f : Flw) (K : Kn) (o : Ord) : Kn := putF K o.2.1 o.2.2 (wordAt f K o)
def knAt (f : Flw) (out : List Ent) (os : List Ord) (i : Nat) : Kn := (os.take i).foldl (stepK f) (outK out)
def ordL (t : Tim) (box : List Int) : List Ord := (workOf t box).mergeSort leO
def wordD (o : Ord) (w : Int) : D := .tup [.int o.1, .int o.2.1, tI o.2.2, .int w]
def itemOf (f : Flw) (out : List Ent) (os : List Ord) (j : Nat) : D := wordD (os.getD j (0, 0, [])) (wordAt f (knAt f out os j) (os.getD j (0, 0, [])))
def KW (K : Kn) : Prop := ∀ p ys v, K p ys = some v → isW v
theorem KW.putF {K : Kn} (h : KW K) {p : Int} {ys : List Int} {v : Int} (hv : isW v) : KW (putF K p ys v) := fun q zs u e => by
  unfold Wb.putF at e
  split at e
  · cases e
    exact hv
  · exact h q zs u e
theorem KW.get {K : Kn} (h : KW K) (p : Int) (ys : List Int) : isW ((K p ys).getD 0) := by
  cases e : K p ys with
  | none => exact ⟨by decide, by decide⟩
  | some v => exact h p ys v e
theorem KW.word {f : Flw} {K : Kn} (h : KW K) (o : Ord) : isW (wordAt f K o) := isW_made fun a ha => by
  obtain ⟨q, _, rfl⟩ := List.mem_map.mp ha
  exact h.get _ _
theorem KW.step {f : Flw} {K : Kn} (h : KW K) (o : Ord) : KW (stepK f K o) := h.putF (h.word o)
theorem KW.fold {α : Type} {s : Kn → α → Kn} (hs : ∀ K x, KW K → KW (s K x)) : ∀ (xs : List α) (K : Kn), KW K → KW (xs.foldl s K)
  | [], _, h => h
  | x :: xs, K, h => KW.fold hs xs _ (hs K x h)
theorem kw_out {f : Flw} {box : List Int} {out : List Ent} (v : VOut f box out) : KW (outK out) := by
  have : ∀ (es : List Ent) (K : Kn), (∀ e ∈ es, isW e.2.2) → KW K → KW (es.foldl (fun K e => putF K e.1 e.2.1 e.2.2) K) := by
    intro es
    induction es with
    | nil => intro K _ h; exact h
    | cons e es ih => intro K he h; exact ih _ (fun x hx => he x (List.mem_cons_of_mem _ hx)) (h.putF (he e List.mem_cons_self))
  exact this out _ (fun e he => (v.ent e he).word) fun _ _ _ z => by cases z
theorem kw_at {f : Flw} {box : List Int} {out : List Ent} (v : VOut f box out) (os : List Ord) (i : Nat) : KW (knAt f out os i) := KW.fold (fun K x h => h.step x) _ _ (kw_out v)
theorem kn_succ {f : Flw} {out : List Ent} {os : List Ord} {i : Nat} {o : Ord} (h : os[i]? = some o) : knAt f out os (i + 1) = stepK f (knAt f out os i) o := by
  unfold knAt
  rw [List.take_add_one, h, Option.toList_some, List.foldl_append]
  rfl
theorem item_at {f : Flw} {out : List Ent} {os : List Ord} {i : Nat} {o : Ord} (h : os[i]? = some o) : itemOf f out os i = wordD o (wordAt f (knAt f out os i) o) := by
  unfold itemOf
  rw [List.getD_eq_getElem?_getD, h]
  rfl
theorem mem_ord {t : Tim} {box : List Int} {o : Ord} (h : o ∈ ordL t box) : ∃ (pl : Nat) (st : Int), t.2[pl]? = some st ∧ o.2.1 = (pl : Int) ∧ o.2.2 ∈ ptsOf box ∧ o.1 = dotI t.1 o.2.2 + st := by
  have h : o ∈ workOf t box := List.mem_mergeSort.mp h
  obtain ⟨pt, hp, h⟩ := List.mem_flatMap.mp h
  obtain ⟨q, hq, rfl⟩ := List.mem_map.mp h
  exact ⟨q.2, q.1, mem_zi1 hq, rfl, hp, rfl⟩
theorem ord_len {t : Tim} {box : List Int} : (ordL t box).length = (ptsOf box).length * t.2.length := by
  unfold ordL
  rw [List.length_mergeSort, work_len]
theorem pts240 {box : List Int} (vb : VBox box) : (ptsOf box).length ≤ 240 := by
  have := pts_few vb box.length
  rw [List.take_length] at this
  exact this
/-! ### slots begun anew -/
def allD (ds : Ds) : Prop := ∀ (i : Nat) (sv : SV), ds[i]? = some (some sv) → ∃ x, sv = SV.d x
theorem allD_nil : allD [] := fun i sv e => by simp at e
theorem allD_n {ds : Ds} (h : allD ds) : allD (none :: ds) := fun i sv e => by
  cases i with
  | zero => simp at e
  | succ i => exact h i sv (by simpa using e)
theorem allD_d {ds : Ds} {x : D} (h : allD ds) : allD (some (.d x) :: ds) := fun i sv e => by
  cases i with
  | zero =>
    simp at e
    exact ⟨x, e.symm⟩
  | succ i => exact h i sv (by simpa using e)
theorem ste_anew {F F' : Fm} {H0 H H' : Hp} {P P' : List Pn} {σ : L2.St} {ds : Ds} (s : Ste F H0 P σ H ds) (t : TSm H H') (ad : allD ds) (j : F'.J H') (hp : ∀ q ∈ P', PinOk F' H' q) : Ste F' H' P' σ H' ds where
  j0 := j
  kp := Kp.refl F' H'
  j := j
  len := s.len
  pin := hp
  env := fun i sv e => by
    obtain ⟨x, rfl⟩ := ad i sv e
    obtain ⟨v, h1, h2⟩ := s.env i _ e
    exact ⟨v, h1, Rep.mono t h2⟩
  dist := fun i j xs ys p e => by
    obtain ⟨x, z⟩ := ad i _ e
    cases z
theorem rrl_d {F : Fm} {H : Hp} : ∀ {vs : List V} {ds : List D}, RepL H vs ds → RRL F H H vs (ds.map SV.d)
  | _, _, .nil => .nil
  | _, _, .cons r l => .cons r (rrl_d l)
/-- the slots of computed -/
def dsC (f : Flw) (t : Tim) (box : List Int) (out : List Ent) (ad : Addr) (r : List (Option SV)) : Ds := some (.d (flowD f)) :: some (.d (timD t)) :: some (.d (tI box)) :: some (.d (.tup (out.map entD))) :: some (.d (.obj ad)) :: r
section
variable {P : Program} {w : World} {K : PySem.W.Frag} {mg : Str → Option Value} {base : Heap}
abbrev N_computed : List Str := ["flow", "beats", "box", "outside", "known", "plane", "vector", "word", "beat", "point", "rule", "read"]
abbrev P_computed : List Str := ["flow", "beats", "box", "outside"]
theorem gs_computed : GScope N_computed P_computed d_computed.scope := ⟨rfl, rfl, rfl, by decide +kernel, rfl, by decide +kernel, by decide +kernel⟩
structure VWork (f : Flw) (t : Tim) (box : List Int) (out : List Ent) : Prop where
  vf : VFlow f
  vt : VBeats f t
  dim : (box.length : Int) = f.1
  vb : VBox box
  vo : VOut f box out
def spComp : List V → Hp → Nat → (Nat → D) → Prop := fun vs H Nn items => ∃ f t box out, RepL H vs [flowD f, timD t, tI box, .tup (out.map entD)] ∧ VWork f t box out ∧ Nn = (ordL t box).length ∧ items = itemOf f out (ordL t box)
theorem gb_computed (W : Wf w K mg) {vs : List V} {H : Hp} {Nn : Nat} {items : Nat → D} (h : spComp vs H Nn items) : GBody P w K mg base 4 N_computed d_computed.qual d_computed.scope d_computed.body (He.fAd K d_computed.at_) vs H Nn items := by
  obtain ⟨f, t, box, out, hvs, vw, rfl, rfl⟩ := h
  intro cdv A outer s pn S hr ok hX hout hN hH s2 s₀ hAt
  obtain ⟨X, C, pc, n, F, a, g, go, G, outv, Nn, Hc⟩ := S
  simp only at hX hout hN hH
  subst hX hout hN hH
  have nd := gs_computed.nd
  obtain ⟨s1, H1, σ, sz1, I, IC, G0, j1, gr⟩ := hAt
  refine seg_execs_cons (seg_wrap ?_)
  rw [over_func]
  refine wpAny_mono (PS.run (X := rex n (gX P w K mg base N_computed d_computed.qual d_computed.scope (He.fAd K d_computed.at_) cdv A outer s Hc pn) s1 H1) (ps_set (i := 4) nd rfl (Or.inr rfl) (pe_kc (own := [("plane", 5), ("vector", 6), ("word", 7)]) (tt := tYes) (hu8 hr) rfl nd (k_piT (K := K) rfl (pv 3)) (blkOk_by (N := N_computed) (sc := d_computed.scope) (by decide +kernel)) (fun _ _ _ _ _ => (k_pg (K := K) (n := 3) rfl rfl (pgs_cons (pg_name (i := 5) nd rfl (Or.inl rfl)) (pgs_cons (pg_name (i := 6) nd rfl (Or.inl rfl)) (pgs_cons (pg_name (i := 7) nd rfl (Or.inl rfl)) pgs_nil))))) (fun _ _ _ _ _ => pts_nil) (fun _ _ _ _ _ => (pe_tup (pa_cons (pv 5) (pa_cons (pv 6) pa_nil)))) (fun _ _ _ _ _ => (pv 7)))) [] s2 _ _ { nx := fun τ H' => ∃ ad es, Ste Fm.pure H' [] τ H' (dsC f t box out ad (List.replicate 7 none)) ∧ KdJ P w ad es H' ∧ atE es = outK out ∧ es.length ≤ out.length ∧ Hc ad = none ∧ Same Hc H', rt := fun _ _ => False } I ?_) (fun fl s3 h3 => ?_) (fun e s3 z => ?_)
  · unfold tAsg
    obtain ⟨P0, st0⟩ : ∃ P0, Ste Fm.pure Hc P0 (start N_computed vs) Hc (some (.d (flowD f)) :: some (.d (timD t)) :: some (.d (tI box)) :: some (.d (.tup (out.map entD))) :: none :: List.replicate 7 none) := ste_start (F := Fm.pure) (N := N_computed) (as := [.d (flowD f), .d (timD t), .d (tI box), .d (.tup (out.map entD))]) (rrl_d hvs) trivial
    refine kc_run (F := Fm.pure) (ents := out) (f := entD) (src_tup ev_var) (lt_line (Nat.le_trans vw.vo.few (by decide))) (fun x hx => ⟨_, _, tg_tup (tgs_cons tg_nm (tgs_cons tg_nm (tgs_cons tg_nm tgs_nil))), by decide, ev_tup _ (ea_cons ev_var (ea_cons ev_var ea_nil)), ev_var⟩) st0 fun D H' es k j hD kd hat hel => ?_
    refine ⟨D, es, ?_, kd, hat, hel, hD, Kp.pure_same k⟩
    have st1 := (st0.mono k j).setD 4 (x := .obj D) (v := .ref D) (.obj D)
    exact ste_anew st1 (TSm.refl _) (allD_d (allD_d (allD_d (allD_d (allD_d (allD_n (allD_n (allD_n (allD_n (allD_n (allD_n (allD_n allD_nil)))))))))))) trivial fun q hq => nomatch hq
  · cases fl with
    | brk => obtain ⟨_, _, _, z⟩ := h3; exact z.elim
    | cont => obtain ⟨_, _, _, z⟩ := h3; exact z.elim
    | ret v => obtain ⟨_, _, _, _, _, z⟩ := h3; exact z.elim
    | next =>
      obtain ⟨τ, H', I3, ad, es0, st1, kd0, hat0, hel0, hadn, same⟩ := h3
      refine seg_execs_cons ?_
      have nS : ∀ b, Hc b = none → ¬ F.S b := fun b hb z => F.pres Hc b ok.j0 (F.sub b z) hb
      have gr0 : Grow Hc H1 H' := gr.trans fun b o _ e => same b o e
      apply seg_genFor ok (pre := [_, _, _]) ?hI ?hT ?hB ?hE over_func rfl rfl rfl rfl rfl (fun _ => rfl) ⟨s1, H1, σ, sz1, I3, IC, G0, j1, gr0⟩ ?turn ?hK
      case hI => exact fun s H => (k_piL (K := K) rfl (pe_cal (c_in_order W) (hr.mono (by decide)) rfl (pa_cons (pv 0) (pa_cons (pv 1) (pa_cons (pv 2) pa_nil)))))
      case hT => exact fun s H => (k_pg (K := K) (n := 3) rfl rfl (pgs_cons (pg_name (i := 8) nd rfl (Or.inl rfl)) (pgs_cons (pg_name (i := 5) nd rfl (Or.inl rfl)) (pgs_cons (pg_name (i := 9) nd rfl (Or.inr rfl)) pgs_nil))))
      case hB => exact fun s H => (pss_cons (ps_set (i := 10) nd rfl (Or.inl rfl) (pe_ix (k_ixT (K := K) rfl) (pe_ix (k_ixT (K := K) rfl) (pv 0) pe_int (fun _ _ => rfl)) (pv 5) (fun _ _ => rfl))) (pss_cons (ps_set (i := 7) nd rfl (Or.inl rfl) (pe_cal (c_word_made W) (hr.mono (by decide)) rfl (pa_cons (pe_ix (k_ixT (K := K) rfl) (pv 10) pe_int (fun _ _ => rfl)) (pa_cons (pe_lc (own := [("read", 11)]) (tt := tYes) rfl nd (k_piT (K := K) rfl (pe_slice (k_slT (K := K) rfl) (pv 10) (po_some pe_int) po_none)) (blkOk_by (N := N_computed) (sc := d_computed.scope) (by decide +kernel)) (fun _ _ _ _ _ => (pg_name (i := 11) nd rfl (Or.inl rfl))) (fun _ _ _ _ _ => pts_nil) (fun _ _ _ _ _ => (k_kget (P := P) (w := w) rfl rfl (hu9 hr) (pv 4) (pe_tup (pa_cons (pe_ix (k_ixT (K := K) rfl) (pv 11) pe_int (fun _ _ => rfl)) (pa_cons (pe_cal (c_difference W) (hr.mono (by decide)) rfl (pa_cons (pv 9) (pa_cons (pe_ix (k_ixT (K := K) rfl) (pv 11) pe_int (fun _ _ => rfl)) pa_nil))) pa_nil))) pe_int ⟨rfl, rfl, rfl, rfl⟩))) pa_nil)))) (pss_one (k_kput (P := P) (w := w) rfl rfl (hu9 hr) (pv 4) (pe_tup (pa_cons (pv 5) (pa_cons (pv 9) pa_nil))) (pv 7) rfl))))
      case hE => exact fun s H => (pe_tup (pa_cons (pv 8) (pa_cons (pv 5) (pa_cons (pv 9) (pa_cons (pv 7) pa_nil)))))
      case hK =>
        intro m s₀ s' H' hc hg
        exact seg_execs_nil (seg_end (.ok (.ret .none)) ⟨.inl rfl, H', hc, hg⟩)
      case turn =>
        have h3 : box.length ≤ 3 := by
          have h := vw.dim
          rcases vw.vf.dims with e | e <;> rw [e] at h <;> omega
        have hs : EvI (F := Fm.pure) (iList K (tCall (spA Fm.pure (fun a : Flw × Tim × List Int => [.d (flowD a.1), .d (timD a.2.1), .d (tI a.2.2)]) (fun a => VFlow a.1 ∧ VBeats a.1 a.2.1 ∧ VBox a.2.2 ∧ a.2.2.length ≤ 3) fun a r => r = .own (((workOf a.2.1 a.2.2).mergeSort leO).map ordD)) [] E0 (tCons (tVar 0) (tCons (tVar 1) (tCons (tVar 2) tNil))))) (dsC f t box out ad (List.replicate 7 none)) (· = (ordL t box).map ordD) :=
          src_list (ev_fnA (f, t, box) (ea_cons ev_var (ea_cons ev_var (ea_cons ev_var ea_nil))) ⟨vw.vf, vw.vt, vw.vb, h3⟩ fun r e => e)
        refine hs H' [] τ H' st1 _ fun J H2 pnl xs k2 j2 hp2 hfr hsrc hxs => ?_
        subst hxs
        obtain ⟨Gg, Yy, wk, hG, hY⟩ := hsrc.at
        have hlen : ((ordL t box).map ordD).length = (ordL t box).length := List.length_map ..
        have s2 := Kp.pure_same k2
        refine ⟨fun b o _ e => s2 b o e, fun i τ H => i ≤ (ordL t box).length ∧ ∃ o5 o6 o7 o8 o9 o10 o11 es, allD [o5, o6, o7, o8, o9, o10, o11] ∧ Ste Fm.pure H pnl τ H (dsC f t box out ad [o5, o6, o7, o8, o9, o10, o11]) ∧ KdJ P w ad es H ∧ atE es = knAt f out (ordL t box) i ∧ es.length ≤ out.length + i, ?_, ?_⟩
        · have t2 : TSm H' H2 := k2.ts st1.j
          refine ⟨Nat.zero_le _, none, none, none, none, none, none, none, es0, allD_n (allD_n (allD_n (allD_n (allD_n (allD_n (allD_n allD_nil)))))), ?_, kd0.mono ((s2 ad _ kd0.at_).trans kd0.at_.symm) t2, hat0, hel0⟩
          exact ste_anew st1 t2 (allD_d (allD_d (allD_d (allD_d (allD_d (allD_n (allD_n (allD_n (allD_n (allD_n (allD_n (allD_n allD_nil)))))))))))) trivial hp2
        rintro i τ1 Ha ⟨hi, o5, o6, o7, o8, o9, o10, o11, es, had, sa, kd, hat, hel⟩
        have ga := hG Ha sa.j sa.pin
        rcases Nat.lt_or_ge i (ordL t box).length with hlt | hge
        rotate_left
        · refine .inr ⟨Nat.le_antisymm hi hge, ?_⟩
          have := wk.stops Ha ga
          rw [hlen] at this
          rw [Nat.le_antisymm hi hge]
          exact this
        refine .inl ⟨hlt, wk.goes i Ha (by rw [hlen]; exact hlt) ga, fun v Hb hy => ?_⟩
        obtain ⟨x, hx, rx, kb, jb, keepD⟩ := hY i Ha v Hb (by rw [hlen]; exact hlt) sa.j sa.pin (wk.yields i Ha v Hb (by rw [hlen]; exact hlt) ga hy)
        obtain ⟨o, ho, rfl⟩ := get_map hx
        have tb : TSm Ha Hb := fun a vs e => keepD a _ e
        have kdb : KdJ P w ad es Hb := kd.mono ((keepD ad _ kd.at_).trans kd.at_.symm) tb
        have adn : ad ∉ ([] : List Addr) := fun z => nomatch z
        have pinb : ∀ q ∈ pnl, PinOk (Fk P w ad es) Hb q := fun q hq => by
          have := (sa.pin q hq).mono kb sa.j
          cases q with
          | lst p vs xs => exact ⟨fun z => z, this.2⟩
          | tup p vs xs => exact this
        have sb : Ste (Fk P w ad es) Hb pnl τ1 Hb (dsC f t box out ad [o5, o6, o7, o8, o9, o10, o11]) := ste_anew sa tb (allD_d (allD_d (allD_d (allD_d (allD_d had))))) kdb pinb
        obtain ⟨pl, st, hst, hpl, hpt, hbt⟩ := mem_ord (List.mem_of_getElem? ho)
        have tg : TgOk _ [8, 5, 9] (dsC f t box out ad [o5, o6, o7, o8, o9, o10, o11]) (ordD o) (dsC f t box out ad [some (.d (.int o.2.1)), o6, o7, some (.d (.int o.1)), some (.d (tI o.2.2)), o10, o11]) := tg_tup (K := K) (n := 3) (tgs_cons tg_nm (tgs_cons tg_nm (tgs_cons tg_nm tgs_nil)))
        refine tg (Fk P w ad es) Hb pnl τ1 Hb v _ sb rx fun τ2 sc _ _ => ?_
        unfold tSeq
        have hpl2 : pl < f.2.length := by
          rw [← vw.vt.many]
          exact (List.getElem?_eq_some_iff.mp hst).1
        have hrule : f.2[pl]? = some (ruleOf f o) := by
          unfold ruleOf
          rw [hpl, Int.toNat_natCast, List.getD_eq_getElem?_getD, List.getElem?_eq_getElem hpl2]
          rfl
        have hat1 : atI (f.2.map ruleD) o.2.1 = some (ruleD (ruleOf f o)) := by
          rw [hpl]
          exact atI_nat (by rw [List.getElem?_map, hrule]; rfl)
        have vr := vw.vf.rules _ (List.mem_of_getElem? hrule)
        refine (sd_setE (F := Fk P w ad es) (N := (· = dsC f t box out ad [some (.d (.int o.2.1)), o6, o7, some (.d (.int o.1)), some (.d (tI o.2.2)), some (.d (ruleD (ruleOf f o))), o11])) (R := fun _ => False) (ev_op (ev_op ev_var ev_ci (ro_ixT rfl)) ev_var (ro_ixT hat1)) rfl) Hb pnl τ2 Hb _ sc (fun P3 τ3 Hd ds3 hq3 sd e3 => ?_) (fun _ _ _ _ _ _ z => z.elim)
        subst e3
        have hkn := kinds_few vr.kind
        refine (sd_setE (F := Fk P w ad es) (N := (· = dsC f t box out ad [some (.d (.int o.2.1)), o6, some (.d (.int (wordAt f (knAt f out (ordL t box) i) o))), some (.d (.int o.1)), some (.d (tI o.2.2)), some (.d (ruleD (ruleOf f o))), o11])) (R := fun _ => False) (ev_fnA ((ruleOf f o).1, (ruleOf f o).2.map fun q => (knAt f out (ordL t box) i q.1 (subI o.2.2 q.2)).getD 0) (ea_cons (ev_op ev_var ev_ci (ro_ixT at0)) (ea_cons (ev_lcM (zs := (ruleOf f o).2) readD (fun q => .int ((knAt f out (ordL t box) i q.1 (subI o.2.2 q.2)).getD 0)) readD_inj (EvI.cast (src_tup (ev_sl ev_var (ep_some ev_ci) ep_none rsl_tup)) (by rw [cut1])) (lt_line (by omega)) fun q hq => ⟨_, _, tg_nm, by decide, by rw [← hat]; exact ev_kget (fun H j => j) ev_var (ev_tup _ (ea_cons (ev_op ev_var ev_ci (ro_ixT rfl)) (ea_cons (ev_fnA (o.2.2, q.2) (ea_cons ev_var (ea_cons (ev_op ev_var ev_ci (ro_ixT rfl)) ea_nil)) (by show o.2.2.length ≤ 100000; rw [pts_dim _ hpt]; omega) fun r e => e) ea_nil))) ev_ci⟩) ea_nil)) ⟨by rw [List.length_map]; omega, by rw [List.length_map]; omega, fun x hx => by obtain ⟨q, _, rfl⟩ := List.mem_map.mp hx; exact (kw_at vw.vo _ _).get _ _⟩ (fun r e => e) (by show [_, _] = [_, _]; rw [List.map_map]; rfl)) rfl) Hb P3 τ3 Hd _ sd (fun P4 τ4 He ds4 hq4 se e4 => ?_) (fun _ _ _ _ _ _ z => z.elim)
        subst e4
        have smb : Same Hb He := fun b o e => se.kp b o (fun z => z) e
        unfold sKPut
        dsimp only
        refine ev_var (F := Fk P w ad es) (i := 7) (d := .int (wordAt f (knAt f out (ordL t box) i) o)) rfl Hb P4 τ4 He se _ fun v5 H5 r5 k5 j5 rr5 e5 => ?_
        subst e5
        have rr5 : Rep H5 v5 (.int (wordAt f (knAt f out (ordL t box) i) o)) := rr5
        cases rr5
        have se5 := se.mono k5 j5
        refine ev_var (F := Fk P w ad es) (i := 4) (d := .obj ad) rfl Hb P4 τ4 H5 se5 _ fun v6 H6 r6 k6 j6 rr6 e6 => ?_
        subst e6
        have rr6 : Rep H6 v6 (.obj ad) := rr6
        cases rr6
        have se6 := se5.mono k6 j6
        refine (ev_tup (F := Fk P w ad es) [.int o.2.1, tI o.2.2] (ea_cons (ev_var (i := 5) rfl) (ea_cons (ev_var (i := 9) rfl) ea_nil))) Hb P4 τ4 H6 se6 _ fun v7 H7 r7 k7 j7 rr7 e7 => ?_
        subst e7
        have se7 := se6.mono k7 j7
        obtain ⟨bb, cc, rfl, ky⟩ := key_rep (show Rep H7 v7 (kD o.2.1 o.2.2) from rr7)
        have j7 : KdJ P w ad es H7 := j7
        have few : es.length ≤ 2440 := by
          have h1 := vw.vo.few
          have h2 : (ordL t box).length ≤ 240 * 6 := by
            rw [ord_len]
            exact Nat.mul_le_mul (pts240 vw.vb) (by rw [vw.vt.many]; exact vw.vf.n6)
          omega
        refine ⟨ad, es, o.2.1, o.2.2, _, bb, cc, rfl, rfl, rfl, j7, ky, lt_line (Nat.le_trans few (by decide)), ?_⟩
        have sm7 : Same Hb H7 := fun b o e => k7 b o (fun z => z) (k6 b o (fun z => z) (k5 b o (fun z => z) (smb b o e)))
        have tsn : TSm H7 (upd H7 ad (KdO P w ad (putE es o.2.1 o.2.2 (wordAt f (knAt f out (ordL t box) i) o) bb cc))) := TSm.upd fun vs z => by rw [j7.at_] at z; cases z
        have kdn := j7.put (v := wordAt f (knAt f out (ordL t box) i) o) ky
        generalize hHn : upd H7 ad (KdO P w ad (putE es o.2.1 o.2.2 (wordAt f (knAt f out (ordL t box) i) o) bb cc)) = Hn at tsn kdn ⊢
        have ne7 : ∀ b u, b ≠ ad → H7 b = some u → Hn b = some u := fun b u hb e => by
          rw [← hHn, upd_ne hb]
          exact e
        have tsb : TSm Hb Hn := fun a vs e => tsn a vs (sm7 a _ e)
        have pinn : ∀ q ∈ pnl, PinOk Fm.pure Hn q := fun q hq => by
          have := pinb q hq
          cases q with
          | lst p vs xs =>
            refine ⟨fun z => z, ne7 p _ ?_ (sm7 p _ this.2.1), RepL.mono tsb this.2.2⟩
            rintro rfl
            have e1 := sm7 p _ this.2.1
            rw [j7.at_] at e1
            cases e1
          | tup p vs xs => exact ⟨tsb _ _ this.1, RepL.mono tsb this.2⟩
        have had2 : allD [some (SV.d (.int o.2.1)), o6, some (.d (.int (wordAt f (knAt f out (ordL t box) i) o))), some (.d (.int o.1)), some (.d (tI o.2.2)), some (.d (ruleD (ruleOf f o))), o11] := by
          have h6 := had 1
          have h11 := had 6
          intro k sv e
          match k, e with
          | 0, e => exact ⟨_, (Option.some.inj (Option.some.inj e)).symm⟩
          | 1, e => exact h6 sv e
          | 2, e => exact ⟨_, (Option.some.inj (Option.some.inj e)).symm⟩
          | 3, e => exact ⟨_, (Option.some.inj (Option.some.inj e)).symm⟩
          | 4, e => exact ⟨_, (Option.some.inj (Option.some.inj e)).symm⟩
          | 5, e => exact ⟨_, (Option.some.inj (Option.some.inj e)).symm⟩
          | 6, e => exact h11 sv e
          | k + 7, e => simp at e
        have sn : Ste Fm.pure Hn pnl τ4 Hn _ := ste_anew se7 tsn (allD_d (allD_d (allD_d (allD_d (allD_d had2))))) trivial pinn
        unfold Sess.ends
        dsimp only
        refine (ev_tup (F := Fm.pure) [.int o.1, .int o.2.1, tI o.2.2, .int (wordAt f (knAt f out (ordL t box) i) o)] (ea_cons (ev_var (i := 8) rfl) (ea_cons (ev_var (i := 5) rfl) (ea_cons (ev_var (i := 9) rfl) (ea_cons (ev_var (i := 7) rfl) ea_nil))))) Hn pnl τ4 Hn sn _ fun u H8 r8 k8 j8 rr8 e8 => ?_
        subst e8
        have sm8 := Kp.pure_same k8
        refine ⟨?_, fun b u hb e => sm8 b _ (ne7 b _ ?_ (sm7 b _ (keepD b _ e))), fun H9 j8F j9 k9 => ?_⟩
        · show Rep H8 u (itemOf f out (ordL t box) i)
          rw [item_at ho]
          exact rr8
        · rintro rfl
          rcases hb with hb | hb
          · exact hb hadn
          · rw [kd.at_] at e
            exact hb _ (Option.some.inj e).symm
        · have ts9 : TSm H8 H9 := k9.ts j8F
          have t89 : TSm Hn H9 := fun a vs e => ts9 a vs (sm8 a _ e)
          have had9 : H9 ad = Hn ad := (k9 ad _ (nS ad hadn) (sm8 ad _ kdn.at_)).trans kdn.at_.symm
          refine ⟨hlt, _, _, _, _, _, _, _, _, had2, ?_, kdn.mono had9 t89, ?_, ?_⟩
          · refine ste_anew sn t89 (allD_d (allD_d (allD_d (allD_d (allD_d had2))))) trivial fun q hq => ?_
            have := pinn q hq
            cases q with
            | lst p vs xs =>
              have fresh : Hc p = none := by
                rcases hfr _ hq with z | z
                · cases z
                · have z := z p vs xs rfl
                  cases e : Hc p with
                  | none => rfl
                  | some u => rw [same p u e] at z; cases z
              exact ⟨fun z => z, k9 p _ (nS p fresh) (sm8 p _ this.2.1), RepL.mono t89 this.2.2⟩
            | tup p vs xs => exact ⟨t89 _ _ this.1, RepL.mono t89 this.2⟩
          · rw [atE_putF, hat, kn_succ ho]
            rfl
          · exact Nat.le_trans putE_len (by omega)
  · exact z.elim
end
end Wb
/-! WbWd -/
set_option maxHeartbeats 4000000
namespace Wb
open PySem PySem.Spec PyProof.Rows L2 GenW
/-! ### rows of words -/
def RowsJ (ps : List Addr) (rows : List (List Int)) (H : Hp) : Prop := rows.length = ps.length ∧ ∀ (i : Nat) p row, ps[i]? = some p → rows[i]? = some row → H p = some (.lst (row.map V.int))
theorem RowsJ.mem {ps : List Addr} {rows : List (List Int)} {H : Hp} (h : RowsJ ps rows H) {p : Addr} (hp : p ∈ ps) : ∃ row ∈ rows, H p = some (.lst (row.map V.int)) := by
  obtain ⟨i, hi, e⟩ := List.getElem_of_mem hp
  have hr : i < rows.length := by rw [h.1]; exact hi
  exact ⟨rows[i], List.getElem_mem hr, h.2 i p rows[i] (by rw [List.getElem?_eq_getElem hi, e]) (List.getElem?_eq_getElem hr)⟩
theorem RowsJ.same {ps : List Addr} {rows : List (List Int)} {H H' : Hp} (h : RowsJ ps rows H) (e : ∀ b ∈ ps, H' b = H b) : RowsJ ps rows H' := ⟨h.1, fun i p row h1 h2 => (e p (List.mem_of_getElem? h1)).trans (h.2 i p row h1 h2)⟩
/-- the rows, whatever they hold -/
def Fr (ps : List Addr) : Fm where
  S := fun b => b ∈ ps
  A := fun b => b ∈ ps
  J := fun H => ∀ p ∈ ps, ∃ vs, H p = some (.lst vs)
  sub := fun _ h => h
  loc := fun H H' j e p hp => let ⟨vs, h⟩ := j p hp; ⟨vs, (e p hp).trans h⟩
  pres := fun H b j hb z => by obtain ⟨vs, h⟩ := j b hb; rw [h] at z; cases z
  nt := fun H b vs j hb z => by obtain ⟨vs', h⟩ := j b hb; rw [h] at z; cases z
/-- the rows as they are, read only -/
def Frr (ps : List Addr) (rows : List (List Int)) : Fm where
  S := fun _ => False
  A := fun b => b ∈ ps
  J := RowsJ ps rows
  sub := fun _ h => h.elim
  loc := fun H H' j e => j.same e
  pres := fun H b j hb z => by obtain ⟨row, _, h⟩ := j.mem hb; rw [h] at z; cases z
  nt := fun _ _ _ _ h => h.elim
/-- a list of new lists -/
theorem lc_rows {F : Fm} {ds : Ds} {wi : TI} {g : TG} {te : TE} {vs : List Nat} {xs : List D} {zs : List Int} (hs : EvI F wi ds (· = xs)) (hl : xs.length < sizeLine)
    (hb : ∀ x ∈ xs, ∃ is ds', TgOk g is (wipeD ds vs) x ds' ∧ (∀ i ∈ is, i ∈ vs) ∧ Ev F te ds' (· = .own (zs.map D.int))) {H0 : Hp} {P : List Pn} {σ : L2.St} {H : Hp} (s : Ste F H0 P σ H ds) {Q : VK}
    (q : ∀ (Dl : Addr) (H' : Hp) (ps : List Addr), Kp F H H' → F.J H' → H Dl = none → H' Dl = some (.lst (ps.map V.ref)) → ps.length = xs.length → ps.Nodup → (∀ p ∈ ps, H p = none ∧ p ≠ Dl ∧ H' p = some (.lst (zs.map V.int))) → Q (.ref Dl) H') : tLc wi g tYes te vs σ H Q :=
  hs H0 P σ H s _ fun J H1 pn ys k1 j1 hp1 _ hsrc p1 => by
    subst p1
    obtain ⟨G, Y, w, hG, hY⟩ := hsrc.at
    intro Dl hD
    refine lc_it w (fun i H' => Kp F H1 H' ∧ F.J H' ∧ ∃ ps : List Addr, H' Dl = some (.lst (ps.map V.ref)) ∧ ps.length = i ∧ ps.Nodup ∧ ∀ p ∈ ps, H1 p = none ∧ p ≠ Dl ∧ H' p = some (.lst (zs.map V.int))) ⟨Kp.new hD, F.upd j1 hD j1, [], upd_same, rfl, List.nodup_nil, fun p hp => nomatch hp⟩ (fun i H' _ ⟨k, j, _⟩ => hG H' j fun q hq => (hp1 q hq).mono k j1) ?_ ?_
    · rintro i v H2 H3 hi ⟨k2, j2, ps, hacc, hpl, hnd, hps⟩ hy
      obtain ⟨x, hx, rx, k3, j3, keepD⟩ := hY i H2 v H3 hi j2 (fun q hq => (hp1 q hq).mono k2 j1) hy
      obtain ⟨is, ds', htg, his, hte⟩ := hb x (List.mem_of_getElem? hx)
      have s3 : Ste F H0 P (wipe σ vs) H3 (wipeD ds vs) := (s.wipe vs).mono ((k1.trans k2).trans k3) j3
      have nS : ¬ F.S Dl := F.newS j1 hD
      refine htg F H0 P (wipe σ vs) H3 v _ s3 rx fun σ2 s4 l4 e4 => ⟨?_, ?_⟩
      · rw [wipe_eq l4 fun a ha => e4 a fun z => ha (his a z)]
        exact wipe_wipe σ vs
      · unfold tYes
        dsimp only
        rw [if_pos rfl]
        refine hte H0 P σ2 H3 s4 _ fun y H5 r k5 j5 rr er => ?_
        subst er
        obtain ⟨p, ws, rfl, np, hp5, hr⟩ := rr
        rw [hr.ints] at hp5
        have acc5 := k5 Dl _ nS (keepD Dl _ hacc)
        have pD : p ≠ Dl := by
          rintro rfl
          rw [keepD _ _ hacc] at np
          cases np
        have nS2 : ∀ q ∈ ps, ¬ F.S q := fun q hq => F.newS j1 (hps q hq).1
        have old : ∀ q ∈ ps, q ≠ p ∧ H5 q = some (.lst (zs.map V.int)) := fun q hq => by
          have e3 := keepD q _ (hps q hq).2.2
          refine ⟨?_, k5 q _ (nS2 q hq) e3⟩
          rintro rfl
          rw [e3] at np
          cases np
        have kk : Kp F H1 H5 := (k2.trans k3).trans k5
        refine ⟨ps.map V.ref, acc5, by rw [List.length_map]; omega, kk.mut hD, F.upd j1 hD j5, ps ++ [p], ?_, by rw [List.length_append, hpl]; rfl, ?_, fun q hq => ?_⟩
        · rw [List.map_append]
          exact upd_same
        · rw [List.nodup_append]
          exact ⟨hnd, List.nodup_cons.mpr ⟨(fun z => nomatch z), List.nodup_nil⟩, fun a ha b hb => by rw [List.mem_singleton.mp hb]; exact (old a ha).1⟩
        · rcases List.mem_append.mp hq with hq | hq
          · obtain ⟨h1, h2, _⟩ := hps q hq
            exact ⟨h1, h2, by rw [upd_ne h2]; exact (old q hq).2⟩
          · rw [List.mem_singleton.mp hq]
            refine ⟨?_, pD, by rw [upd_ne pD]; exact hp5⟩
            exact (k2.trans k3).free j1 j3 np
    · rintro H2 ⟨k2, j2, ps, hacc, hpl, hnd, hps⟩
      exact q Dl H2 ps (k1.trans k2) j2 (k1.free s.j j1 hD) hacc hpl hnd fun p hp => ⟨k1.free s.j j1 (hps p hp).1, (hps p hp).2⟩
def idxI (box pt : List Int) : Int := (List.zip pt box).foldl (fun f p => f * p.2 + p.1) 0
def setR (rows : List (List Int)) (pl i : Nat) (v : Int) : List (List Int) := rows.set pl ((rows.getD pl []).set i v)
def rowsAt (f : Flw) (box : List Int) (out : List Ent) (os : List Ord) : Nat → List (List Int)
  | 0 => List.replicate f.2.length (List.replicate (ptsOf box).length 0)
  | j + 1 => match os[j]? with
    | some o => setR (rowsAt f box out os j) o.2.1.toNat (idxI box o.2.2).toNat (wordAt f (knAt f out os j) o)
    | none => rowsAt f box out os j
def wordsL (f : Flw) (t : Tim) (box : List Int) (out : List Ent) : List (List Int) := rowsAt f box out (ordL t box) (ordL t box).length
theorem setR_len {rows : List (List Int)} {pl i : Nat} {v : Int} : (setR rows pl i v).length = rows.length := List.length_set ..
theorem rowsAt_shape {f : Flw} {box : List Int} {out : List Ent} {os : List Ord} : ∀ j, (rowsAt f box out os j).length = f.2.length ∧ ∀ row ∈ rowsAt f box out os j, row.length = (ptsOf box).length
  | 0 => ⟨List.length_replicate .., fun row h => by rw [(List.mem_replicate.mp h).2, List.length_replicate]⟩
  | j + 1 => by
    obtain ⟨h1, h2⟩ := rowsAt_shape (f := f) (box := box) (out := out) (os := os) j
    unfold rowsAt
    cases e : os[j]? with
    | none => exact ⟨h1, h2⟩
    | some o =>
      refine ⟨setR_len.trans h1, fun row h => ?_⟩
      by_cases hl : o.2.1.toNat < (rowsAt f box out os j).length
      · rcases List.mem_or_eq_of_mem_set h with h | h
        · exact h2 row h
        · rw [h, List.length_set, List.getD_eq_getElem?_getD, List.getElem?_eq_getElem hl]
          exact h2 _ (List.getElem_mem hl)
      · have h : row ∈ setR (rowsAt f box out os j) o.2.1.toNat (idxI box o.2.2).toNat (wordAt f (knAt f out os j) o) := h
        unfold setR at h
        rw [List.set_eq_of_length_le (by omega)] at h
        exact h2 row h
/-- ahead of turn j -/
theorem rowsAt_succ {f : Flw} {box : List Int} {out : List Ent} {os : List Ord} {j : Nat} {o : Ord} (h : os[j]? = some o) : rowsAt f box out os (j + 1) = setR (rowsAt f box out os j) o.2.1.toNat (idxI box o.2.2).toNat (wordAt f (knAt f out os j) o) := by
  show (match os[j]? with | some o => _ | none => _) = _
  rw [h]
theorem RowsJ.set {ps : List Addr} {rows : List (List Int)} {H : Hp} (h : RowsJ ps rows H) (nd : ps.Nodup) {pl i : Nat} {p : Addr} {row : List Int} {v : Int} (hp : ps[pl]? = some p) (hr : rows[pl]? = some row) : RowsJ ps (setR rows pl i v) (upd H p (.lst ((row.set i v).map V.int))) := by
  refine ⟨setR_len.trans h.1, fun k q r h1 h2 => ?_⟩
  unfold setR at h2
  have hl : pl < rows.length := (List.getElem?_eq_some_iff.mp hr).1
  by_cases e : pl = k
  · subst e
    rw [hp] at h1
    cases h1
    rw [List.getElem?_set_self hl] at h2
    cases h2
    rw [upd_same, List.getD_eq_getElem?_getD, hr]
    rfl
  · rw [List.getElem?_set_ne e] at h2
    have hne : q ≠ p := by
      rintro rfl
      obtain ⟨a1, a2⟩ := List.getElem?_eq_some_iff.mp hp
      obtain ⟨b1, b2⟩ := List.getElem?_eq_some_iff.mp h1
      exact e ((List.getElem_inj nd).mp (a2.trans b2.symm))
    rw [upd_ne hne]
    exact h.2 k q r h1 h2
theorem Ste.grow {F : Fm} {H0 H H' : Hp} {P : List Pn} {σ : L2.St} {ds : Ds} (s : Ste F H0 P σ H ds) (k : ∀ b o, (H0 b ≠ none ∨ ∀ φ, o ≠ .ext φ) → H b = some o → H' b = some o) (j : F.J H') : Ste F H0 P σ H' ds := by
  have ts : TSm H H' := fun a vs e => k a _ (.inr fun φ z => by cases z) e
  have ls : ∀ p vs, H p = some (.lst vs) → H' p = some (.lst vs) := fun p vs e => k p _ (.inr fun φ z => by cases z) e
  refine ⟨s.j0, fun b o n e => k b o (.inl fun z => by rw [e] at z; cases z) (s.kp b o n e), j, s.len, fun q hq => ?_, fun i sv e => ?_, s.dist⟩
  · have := s.pin q hq
    cases q with
    | lst p vs xs => exact ⟨this.1, ls p vs this.2.1, RepL.mono ts this.2.2⟩
    | tup a vs xs => exact ⟨ts _ _ this.1, RepL.mono ts this.2⟩
  · obtain ⟨v, h1, h2⟩ := s.env i sv e
    refine ⟨v, h1, ?_⟩
    cases sv with
    | d x => exact Rep.mono ts h2
    | own xs =>
      obtain ⟨p, vs, h3, h4, h5, h6, h7⟩ := h2
      exact ⟨p, vs, h3, h4, ls p vs h5, RepL.mono ts h6, h7⟩
    | bor xs => exact h2
/-! ### places of points -/
theorem flat_at {α β : Type} {g : α → List β} {m : Nat} (hm : 0 < m) (hg : ∀ r, (g r).length = m) : ∀ (rows : List α) (i : Nat), (rows.flatMap g)[i]? = (rows[i / m]?).bind fun r => (g r)[i % m]?
  | [], i => by simp
  | r :: rows, i => by
    rw [List.flatMap_cons, List.getElem?_append]
    by_cases h : i < m
    · rw [if_pos (by rw [hg]; exact h), Nat.div_eq_of_lt h, Nat.mod_eq_of_lt h]
      rfl
    · have h : m ≤ i := Nat.le_of_not_lt h
      rw [if_neg (by rw [hg]; omega), hg, flat_at hm hg rows (i - m), Nat.div_eq_sub_div hm h, ← Nat.mod_eq_sub_mod h]
      rfl
theorem pts_idxT {box : List Int} (pos : ∀ x ∈ box, 1 ≤ x) : ∀ k, k ≤ box.length → ∀ (i : Nat) pt, (ptsOf (box.take k))[i]? = some pt → idxI (box.take k) pt = (i : Int)
  | 0, _, i, pt, h => by
    rw [List.take_zero] at h ⊢
    have h : ([[]] : List (List Int))[i]? = some pt := h
    cases i with
    | zero => cases h; rfl
    | succ i => simp at h
  | k + 1, hk, i, pt, h => by
    have hb : box[k]? = some box[k] := List.getElem?_eq_getElem (by omega)
    have hx := pos box[k] (List.getElem_mem _)
    rw [ptsOf_take hb] at h
    unfold ptsF at h
    have hm : 0 < box[k].toNat := by omega
    rw [flat_at (g := fun row => (rngI 0 box[k].toNat).map fun item => row ++ [item]) hm (fun r => by rw [List.length_map, rngI_len])] at h
    obtain ⟨row, hr, h⟩ := Option.bind_eq_some_iff.mp h
    have ih := pts_idxT pos k (by omega) _ _ hr
    rw [List.getElem?_map] at h
    obtain ⟨item, hi, rfl⟩ := Option.map_eq_some_iff.mp h
    have hi2 : item = ((i % box[k].toNat : Nat) : Int) := by
      unfold rngI at hi
      rw [List.getElem?_map, List.getElem?_range (Nat.mod_lt _ hm)] at hi
      have : (0 : Int) + ((i % box[k].toNat : Nat) : Int) = item := Option.some.inj hi
      rw [← this, Int.zero_add]
    have hl : row.length = (box.take k).length := pts_dim row (List.mem_of_getElem? hr)
    have htk : box.take (k + 1) = box.take k ++ [box[k]] := by
      rw [List.take_add_one, hb]
      rfl
    unfold idxI at ih ⊢
    rw [htk, List.zip_append hl, List.foldl_append, ih]
    show ((i / box[k].toNat : Nat) : Int) * box[k] + item = (i : Int)
    rw [hi2]
    have e1 : box[k] = ((box[k].toNat : Nat) : Int) := by omega
    have e2 := Nat.div_add_mod i box[k].toNat
    have e3 : ((box[k].toNat * (i / box[k].toNat) + i % box[k].toNat : Nat) : Int) = (i : Int) := by rw [e2]
    rw [Int.natCast_add, Int.natCast_mul] at e3
    rw [← e3]
    conv => lhs; arg 1; arg 2; rw [e1]
    rw [Int.mul_comm]
theorem pts_idx {box : List Int} (vb : VBox box) {i : Nat} {pt : List Int} (h : (ptsOf box)[i]? = some pt) : idxI box pt = (i : Int) := by
  have := pts_idxT vb.pos box.length (Nat.le_refl _) i pt
  rw [List.take_length] at this
  exact this h
theorem pts_nodup {box : List Int} (vb : VBox box) : (ptsOf box).Nodup := by
  rw [List.nodup_iff_pairwise_ne, List.pairwise_iff_getElem]
  intro i j hi hj hij e
  have h1 := pts_idx vb (List.getElem?_eq_getElem hi)
  have h2 := pts_idx vb (List.getElem?_eq_getElem hj)
  rw [e] at h1
  omega
theorem idx_of {box : List Int} (vb : VBox box) {pt : List Int} (h : pt ∈ ptsOf box) : ∃ i : Nat, (ptsOf box)[i]? = some pt ∧ idxI box pt = (i : Int) ∧ i < (ptsOf box).length := by
  obtain ⟨i, hi, e⟩ := List.getElem_of_mem h
  have e' : (ptsOf box)[i]? = some pt := by rw [List.getElem?_eq_getElem hi, e]
  exact ⟨i, e', pts_idx vb e', hi⟩
end Wb
/-! WbWe -/
set_option maxHeartbeats 4000000
namespace Wb
open PySem PySem.Spec PyProof.Rows L2 GenW
theorem pgm_computed {X : Cx} {e : Expr} {es : List Expr} {ta : TA} {p pos : Pos} (W : Wf X.w X.K X.mg) (hr : Room 6 X.A) (hg : Gl X "computed") (ha : PA X (e :: es) ta)
    (he : starEach (e :: es) X.env = (false, eval e X.env) :: starEach es X.env := by rfl) (hpl : (backTo pos (starEach es X.env)).any (·.1) = false := by rfl) : PGm X (.Call (.Name "computed" p) (e :: es) [] pos) (tCallGm spComp ta) := by
  obtain ⟨fd, FD⟩ := W.def_ (d := d_computed) 39 rfl
  have FD : FunD X.K d_computed.name d_computed.qual d_computed.params d_computed.body d_computed.scope [] [] (He.fAd X.K d_computed.at_) fd := FD
  refine pgm_call (k := 4) FD gs_computed hr hg (by exact W.glo 38 rfl) (FD.bindsN fun kV doc pm an cdv ct us hl => ?_) ha (fun vs H Nn items h => ?_) (fun vs H Nn items h => gb_computed W h) (by decide) he hpl
  · match us, hl with
    | [_, _, _, _], _ => rfl
  · obtain ⟨f, t, box, out, h, _⟩ := h
    exact h.length
theorem Ste.asBor {F : Fm} {H0 H : Hp} {P : List Pn} {σ : L2.St} {ds : Ds} {i : Nat} {p : Addr} {vs : List V} {xs : List D} (s : Ste F H0 P σ H ds) (hσ : σ[i]? = some (some (.ref p))) (hp : Pn.lst p vs xs ∈ P) : Ste F H0 P σ H (ds.set i (some (.bor xs))) := by
  refine ⟨s.j0, s.kp, s.j, by rw [List.length_set]; exact s.len, s.pin, fun k sv e => ?_, fun a b ys zs q e1 e2 => ?_⟩
  · by_cases h : i = k
    · subst h
      obtain ⟨h1, h2⟩ := List.getElem?_eq_some_iff.mp e
      rw [List.getElem_set_self] at h2
      cases h2
      exact ⟨_, hσ, p, vs, rfl, hp⟩
    · rw [List.getElem?_set_ne h] at e
      exact s.env k sv e
  · have ne : ∀ {a : Nat} {ys : List D}, (ds.set i (some (.bor xs)))[a]? = some (some (.own ys)) → ds[a]? = some (some (.own ys)) := fun {a ys} e => by
      by_cases h : i = a
      · subst h
        obtain ⟨h1, h2⟩ := List.getElem?_eq_some_iff.mp e
        rw [List.getElem_set_self] at h2
        cases h2
      · rw [List.getElem?_set_ne h] at e
        exact e
    exact s.dist a b ys zs q (ne e1) (ne e2)
/-- another frame, where no slot owns a list -/
theorem Ste.reb {F F' : Fm} {H0 H : Hp} {P : List Pn} {σ : L2.St} {ds : Ds} (s : Ste F H0 P σ H ds) (j : F'.J H) (hp : ∀ q ∈ P, PinOk F' H q) (no : ∀ (i : Nat) xs, ds[i]? ≠ some (some (.own xs))) : Ste F' H P σ H ds where
  j0 := j
  kp := Kp.refl F' H
  j := j
  len := s.len
  pin := hp
  env := fun i sv e => by
    obtain ⟨v, h1, h2⟩ := s.env i sv e
    refine ⟨v, h1, ?_⟩
    cases sv with
    | d x => exact h2
    | own xs => exact absurd e (no i xs)
    | bor xs => exact h2
  dist := fun i j xs ys p e => absurd e (no i xs)
/-- tuple(row) -/
theorem ev_tupRow {F : Fm} {K : PySem.W.Frag} {ds : Ds} {i : Nat} {p : Addr} {row : List Int} (hJ : ∀ H, F.J H → H p = some (.lst (row.map V.int))) (h : ds[i]? = some (some (.d (.obj p)))) : Ev F (tCB (rTupQ K) (tCons (tVar i) tNil)) ds (· = .d (tI row)) := fun H0 P σ H s Q q => by
  obtain ⟨v, h1, h2⟩ := s.env i _ h
  have h2 : Rep H v (.obj p) := h2
  cases h2
  refine ⟨_, h1, p, row.map V.int, rfl, .inl ⟨.inl (.inl (hJ H s.j)), fun l hl => ?_⟩⟩
  exact q _ _ (.d (tI row)) (Kp.new hl) (F.upd s.j hl s.j) (.tup upd_same (RepL.of_ints row)) rfl
theorem paired_at {α β : Type} {R : α → β → Prop} : ∀ {as : List α} {bs : List β}, Paired R as bs → ∀ (i : Nat) a, as[i]? = some a → ∃ b, bs[i]? = some b ∧ R a b
  | _, _, .nil, i, a, h => by simp at h
  | _, _, .cons r t, 0, a, h => by simp at h; subst h; exact ⟨_, rfl, r⟩
  | _, _, .cons r t, i + 1, a, h => by
    obtain ⟨b, h1, h2⟩ := paired_at t i a (by simpa using h)
    exact ⟨b, by simpa using h1, h2⟩
/-- the slots of words_of -/
def dsW (f : Flw) (t : Tim) (box : List Int) (out : List Ent) (ps : List Addr) (r : List (Option SV)) : Ds := some (.d (flowD f)) :: some (.d (timD t)) :: some (.d (tI box)) :: some (.d (.tup (out.map entD))) :: some (.bor (ps.map D.obj)) :: r
theorem no_own {f : Flw} {t : Tim} {box : List Int} {out : List Ent} {ps : List Addr} {r : List (Option SV)} (h : allD r) : ∀ (i : Nat) xs, (dsW f t box out ps r)[i]? ≠ some (some (.own xs)) := fun i xs e => by
  match i, e with
  | 0, e => cases e
  | 1, e => cases e
  | 2, e => cases e
  | 3, e => cases e
  | 4, e => cases e
  | i + 5, e => obtain ⟨x, z⟩ := h i _ e; cases z
section
variable {P : Program} {w : World} {K : PySem.W.Frag} {mg : Str → Option Value} {base : Heap}
abbrev N_words_of : List Str := ["flow", "beats", "box", "outside", "found", "rule", "beat", "plane", "point", "word", "row"]
abbrev P_words_of : List Str := ["flow", "beats", "box", "outside"]
theorem sc_words_of : FnScope N_words_of P_words_of d_words_of.scope := ⟨rfl, rfl, rfl, by decide +kernel, rfl, by decide +kernel, by decide +kernel⟩
theorem b_words_of (kV doc pm : Value) (an : Option Addr) (cdv ct : Value) (us : List Value) (hl : us.length = P_words_of.length) : bindArgs (PySem.W.fnOf d_words_of.name d_words_of.qual d_words_of.params d_words_of.body d_words_of.scope .none kV doc pm an cdv ct) ⟨us, []⟩ = pure (P_words_of.zip us) := match us, hl with
  | [_, _, _, _], _ => rfl
theorem c_words_of (W : Wf w K mg) : Cal P w K mg base 8 "words_of" P_words_of (spA Fm.pure (fun a : Flw × Tim × List Int × List Ent => [.d (flowD a.1), .d (timD a.2.1), .d (tI a.2.2.1), .d (.tup (a.2.2.2.map entD))]) (fun a => VWork a.1 a.2.1 a.2.2.1 a.2.2.2) fun a r => r = .d (.tup ((wordsL a.1 a.2.1 a.2.2.1 a.2.2.2).map tI))) := by
  have nd := sc_words_of.nd
  refine W.calA (d := d_words_of) (N := N_words_of) 40 39 rfl rfl sc_words_of b_words_of ?_ ?_
  rotate_left
  · intro f cdv A outer s H E hr
    refine ⟨_, (pss_cons (ps_expr (pe_cal (c_require_small W) (hr.mono (by decide)) rfl (pa_cons (pv 2) pa_nil))) (pss_cons (ps_expr (pe_cal (c_require_outside W) (hr.mono (by decide)) rfl (pa_cons (pv 0) (pa_cons (pv 2) (pa_cons (pv 3) pa_nil))))) (pss_cons (ps_setLc (i := 4) (own := [("rule", 5)]) (tt := tYes) rfl nd rfl rfl (sw_true rfl rfl rfl (by decide +kernel)) (k_piT (K := K) rfl (pe_ix (k_ixT (K := K) rfl) (pv 0) pe_int (fun _ _ => rfl))) (blkOk_by (N := N_words_of) (sc := d_words_of.scope) (by decide +kernel)) (fun _ _ _ _ _ => (pg_name (i := 5) nd rfl (Or.inl rfl))) (fun _ _ _ _ _ => pts_nil) (fun _ _ _ _ _ => (pe_op op_rep (pe_lst (pa_cons pe_int pa_nil)) (pe_callB (k_len (K := K) rfl) rfl (W.free 73 rfl) (by decide +kernel) (pa_cons (pe_cal (c_points_of W) (hr.mono (by decide)) rfl (pa_cons (pv 2) pa_nil)) pa_nil))))) (pss_cons (ps_forGen rfl rfl hr rfl rfl (pgm_computed W (hr.mono (by decide)) rfl (pa_cons (pv 0) (pa_cons (pv 1) (pa_cons (pv 2) (pa_cons (pv 3) pa_nil))))) (k_pg (K := K) (n := 4) rfl rfl (pgs_cons (pg_name (i := 6) nd rfl (Or.inl rfl)) (pgs_cons (pg_name (i := 7) nd rfl (Or.inl rfl)) (pgs_cons (pg_name (i := 8) nd rfl (Or.inl rfl)) (pgs_cons (pg_name (i := 9) nd rfl (Or.inl rfl)) pgs_nil))))) (pss_one (ps_asg (pv 9) (pg_sub (pe_ix (k_ixL (K := K) rfl) (pv 4) (pv 7) (fun _ _ => rfl)) (pe_cal (c_index_in W) (hr.mono (by decide)) rfl (pa_cons (pv 2) (pa_cons (pv 8) pa_nil))) set_list)))) (pss_one (ps_ret (pe_callTy (k_tuple (K := K) rfl) rfl (W.free 82 rfl) (by decide +kernel) (pa_cons (pe_lc (own := [("row", 10)]) (tt := tYes) rfl nd (k_piL (K := K) rfl (pv 4)) (blkOk_by (N := N_words_of) (sc := d_words_of.scope) (by decide +kernel)) (fun _ _ _ _ _ => (pg_name (i := 10) nd rfl (Or.inl rfl))) (fun _ _ _ _ _ => pts_nil) (fun _ _ _ _ _ => (pe_callTy (k_tuple (K := K) rfl) rfl (W.free 82 rfl) (by decide +kernel) (pa_cons (pv 10) pa_nil)))) pa_nil)))))))), ?_⟩
    rintro ⟨f, t, box, out⟩ vw
    have vw : VWork f t box out := vw
    have h3 : box.length ≤ 3 := by
      have h := vw.dim
      rcases vw.vf.dims with e | e <;> rw [e] at h <;> omega
    have hp240 := pts240 vw.vb
    refine sd_seqE (ds1 := _) (sd_drop (ev_fnA box (ea_cons ev_var ea_nil) ⟨vw.vb.small, vw.vb.few⟩ fun r e => e) rfl) ?_
    refine sd_seqE (ds1 := _) (sd_drop (ev_fnA (f, box, out) (ea_cons ev_var (ea_cons ev_var (ea_cons ev_var ea_nil))) ⟨vw.vo, by show box.length ≤ _; omega⟩ fun r e => e) rfl) ?_
    intro H0 P σ H De s n r
    unfold tSeq tAsg
    refine lc_rows (F := Fm.pure) (xs := f.2.map ruleD) (zs := List.replicate (ptsOf box).length 0) (src_tup (ev_op ev_var ev_ci (ro_ixT rfl))) (lt_line (by rw [List.length_map]; exact Nat.le_trans vw.vf.n6 (by decide))) (fun x hx => ⟨_, _, tg_nm, by decide, ev_is (ev_op (ev_lst [.int 0] (ea_cons ev_ci ea_nil)) (ev_call_b (ea_cons (ev_fnA box (ea_cons ev_var ea_nil) ⟨vw.vb, h3⟩ fun r e => e) ea_nil) (rcl_len (.tup _))) (ro_repL (.inl rfl) ?_ ?_)) ?_⟩) s fun Dl H1 ps k1 j1 hDl hl hpl hnd hps => ?_
    · rw [List.length_map]; omega
    · rw [List.length_map]; exact le_line (by simp; omega)
    · rw [List.length_map]; simp
    rw [List.length_map] at hpl
    have fresh : ∀ p ∈ ps, H0 p = none := fun p hp => s.free (hps p hp).1
    have sm1 := Kp.pure_same k1
    have st1 := (s.mono k1 j1).setD 4 (x := .obj Dl) (v := .ref Dl) (.obj Dl)
    have hrep : RepL H1 (ps.map V.ref) (ps.map D.obj) := by
      clear hl hpl hnd hps fresh
      induction ps with
      | nil => exact .nil
      | cons p ps ih => exact .cons (.obj p) ih
    have hDps : Dl ∉ ps := fun z => (hps Dl z).2.1 rfl
    have jr : (Fr ps).J H1 := fun p hp => ⟨_, (hps p hp).2.2⟩
    have rows0 : RowsJ ps (rowsAt f box out (ordL t box) 0) H1 := by
      refine ⟨by rw [(rowsAt_shape 0).1, hpl], fun i p row h1 h2 => ?_⟩
      have hr : row ∈ rowsAt f box out (ordL t box) 0 := List.mem_of_getElem? h2
      have hr : row ∈ List.replicate f.2.length (List.replicate (ptsOf box).length (0 : Int)) := hr
      rw [(List.mem_replicate.mp hr).2]
      exact (hps p (List.mem_of_getElem? h1)).2.2
    have sw0 : Ste (Fr ps) H1 [Pn.lst Dl (ps.map V.ref) (ps.map D.obj)] (σ.set 4 (some (.ref Dl))) H1 (dsW f t box out ps [none, none, none, none, none, none]) := by
      have b := ste_anew (F' := Fr ps) (P' := [Pn.lst Dl (ps.map V.ref) (ps.map D.obj)]) st1 (TSm.refl _) (allD_d (allD_d (allD_d (allD_d (allD_d (allD_n (allD_n (allD_n (allD_n (allD_n (allD_n allD_nil))))))))))) jr (fun q hq => by
        rw [List.mem_singleton.mp hq]
        exact ⟨hDps, hl, hrep⟩)
      exact b.asBor (i := 4) (p := Dl) (by rw [List.getElem?_set_self (by rw [s.len]; show (4 : Nat) < 11; decide)]) List.mem_cons_self
    have swr := sw0.reb (F' := Frr ps (rowsAt f box out (ordL t box) 0)) rows0 (fun q hq => by
      rw [List.mem_singleton.mp hq]
      exact ⟨fun z => z, hl, hrep⟩) (no_own (allD_n (allD_n (allD_n (allD_n (allD_n (allD_n allD_nil)))))))
    unfold gName
    dsimp only
    unfold tForG tCallGm
    refine (ea_cons (F := Frr ps (rowsAt f box out (ordL t box) 0)) (ev_var (i := 0) rfl) (ea_cons (ev_var (i := 1) rfl) (ea_cons (ev_var (i := 2) rfl) (ea_cons (ev_var (i := 3) rfl) ea_nil))) : EvA _ _ _ (· = [.d (flowD f), .d (timD t), .d (tI box), .d (.tup (out.map entD))])) H1 _ _ H1 swr _ fun vs H2 rs k2 j2 rl er => ?_
    subst er
    have sm2 : Same H1 H2 := fun b o e => k2 b o (fun z => z) e
    have rows2 : RowsJ ps (rowsAt f box out (ordL t box) 0) H2 := j2
    have jr2 : (Fr ps).J H2 := fun p hp => ⟨_, sm2 p _ (hps p hp).2.2⟩
    have kr2 : Kp (Fr ps) H1 H2 := fun b o _ e => sm2 b o e
    have hfew : (ordL t box).length ≤ 1440 := by
      rw [ord_len]
      have h6 : t.2.length ≤ 6 := by rw [vw.vt.many]; exact vw.vf.n6
      exact Nat.mul_le_mul hp240 h6
    refine ⟨(ordL t box).length, itemOf f out (ordL t box), lt_line (by omega), ⟨f, t, box, out, RRL.of (xs := [flowD f, timD t, tI box, .tup (out.map entD)]) rl, vw, rfl, rfl⟩, fun nn hnn => ?_⟩
    refine ⟨Fr ps, fun j σ H => ∃ o5 o6 o7 o8 o9 o10, allD [o5, o6, o7, o8, o9, o10] ∧ Ste (Fr ps) H1 [Pn.lst Dl (ps.map V.ref) (ps.map D.obj)] σ H (dsW f t box out ps [o5, o6, o7, o8, o9, o10]) ∧ RowsJ ps (rowsAt f box out (ordL t box) j) H, jr2, ⟨none, none, none, none, none, none, allD_n (allD_n (allD_n (allD_n (allD_n (allD_n allD_nil))))), sw0.mono kr2 jr2, rows2⟩, ?_, ?_, ?_⟩
    · rintro j σ' Ha Hb ⟨o5, o6, o7, o8, o9, o10, had, sa, ra⟩ ja gr
      have hpn : ∀ p ∈ ps, Hb p = Ha p := fun p hp => by
        obtain ⟨row, _, e⟩ := ra.mem hp
        rw [e]
        exact gr p _ (.inr fun φ z => by cases z) e
      have jb : (Fr ps).J Hb := fun p hp => by
        obtain ⟨vs, e⟩ := ja p hp
        exact ⟨vs, (hpn p hp).trans e⟩
      refine ⟨jb, o5, o6, o7, o8, o9, o10, had, sa.grow (fun b o hb e => gr b o (hb.imp (fun hb => ?_) id) e) jb, ra.same hpn⟩
      cases e : H1 b with
      | none => exact absurd e hb
      | some u => rw [sm2 b u e]; exact fun z => by cases z
    · rintro j σ' Ha ⟨o5, o6, o7, o8, o9, o10, had, sa, ra⟩ ja hj u ru
      have hoj : (ordL t box)[j]? = some (ordL t box)[j] := List.getElem?_eq_getElem hj
      generalize (ordL t box)[j] = o at hoj
      rw [item_at hoj] at ru
      obtain ⟨pl, st, hst, hpl2, hpt, hbt⟩ := mem_ord (List.mem_of_getElem? hoj)
      have hplf : pl < f.2.length := by
        rw [← vw.vt.many]
        exact (List.getElem?_eq_some_iff.mp hst).1
      obtain ⟨ix, hix, eix, hil⟩ := idx_of vw.vb hpt
      have tg : TgOk _ [6, 7, 8, 9] (dsW f t box out ps [o5, o6, o7, o8, o9, o10]) (wordD o (wordAt f (knAt f out (ordL t box) j) o)) (dsW f t box out ps [o5, some (.d (.int o.1)), some (.d (.int o.2.1)), some (.d (tI o.2.2)), some (.d (.int (wordAt f (knAt f out (ordL t box) j) o))), o10]) := tg_tup (K := K) (n := 4) (tgs_cons tg_nm (tgs_cons tg_nm (tgs_cons tg_nm (tgs_cons tg_nm tgs_nil))))
      refine tg (Fr ps) H1 _ σ' Ha u _ sa ru fun σ2 sb _ _ => ?_
      have had2 : allD [o5, some (SV.d (.int o.1)), some (.d (.int o.2.1)), some (.d (tI o.2.2)), some (.d (.int (wordAt f (knAt f out (ordL t box) j) o))), o10] := by
        have h5 := had 0
        have h10 := had 5
        intro k sv e
        match k, e with
        | 0, e => exact h5 sv e
        | 1, e => exact ⟨_, (Option.some.inj (Option.some.inj e)).symm⟩
        | 2, e => exact ⟨_, (Option.some.inj (Option.some.inj e)).symm⟩
        | 3, e => exact ⟨_, (Option.some.inj (Option.some.inj e)).symm⟩
        | 4, e => exact ⟨_, (Option.some.inj (Option.some.inj e)).symm⟩
        | 5, e => exact h10 sv e
        | k + 6, e => simp at e
      have sc := sb.reb (F' := Frr ps (rowsAt f box out (ordL t box) j)) ra (fun q hq => by
        have := sb.pin q hq
        rw [List.mem_singleton.mp hq] at this ⊢
        exact ⟨fun z => z, this.2⟩) (no_own had2)
      have hp : ps[pl]? = some ps[pl] := List.getElem?_eq_getElem (by rw [hpl]; exact hplf)
      have hrl : pl < (rowsAt f box out (ordL t box) j).length := by rw [(rowsAt_shape j).1]; exact hplf
      have hr := List.getElem?_eq_getElem hrl
      have hrlen := (rowsAt_shape (f := f) (box := box) (out := out) (os := ordL t box) j).2 _ (List.mem_of_getElem? hr)
      generalize ps[pl] = p at hp
      generalize (rowsAt f box out (ordL t box) j)[pl] = row at hr hrlen
      have hat : atI (ps.map D.obj) o.2.1 = some (.obj p) := by
        rw [hpl2]
        exact atI_nat (by rw [List.getElem?_map, hp]; rfl)
      refine ev_var (F := Frr ps (rowsAt f box out (ordL t box) j)) (i := 9) (d := .int (wordAt f (knAt f out (ordL t box) j) o)) rfl Ha _ σ2 Ha sc _ fun v5 H5 r5 k5 j5 rr5 e5 => ?_
      subst e5
      have rr5 : Rep H5 v5 (.int (wordAt f (knAt f out (ordL t box) j) o)) := rr5
      cases rr5
      have sc5 := sc.mono k5 j5
      unfold gSub
      refine (ev_op (F := Frr ps (rowsAt f box out (ordL t box) j)) (ev_varB (i := 4) rfl) (ev_var (i := 7) rfl) (ro_ixL (.inr rfl) hat)) Ha _ σ2 H5 sc5 _ fun v6 H6 r6 k6 j6 rr6 e6 => ?_
      subst e6
      have rr6 : Rep H6 v6 (.obj p) := rr6
      cases rr6
      have sc6 := sc5.mono k6 j6
      refine (ev_fnA (F := Frr ps (rowsAt f box out (ordL t box) j)) (r := .d (.int (idxI box o.2.2))) (box, o.2.2) (ea_cons (ev_var (i := 2) rfl) (ea_cons (ev_var (i := 8) rfl) ea_nil)) vw.vb.small (fun r e => e)) Ha _ σ2 H6 sc6 _ fun v7 H7 r7 k7 j7 rr7 e7 => ?_
      subst e7
      have rr7 : Rep H7 v7 (.int (idxI box o.2.2)) := rr7
      cases rr7
      have sm7 : Same Ha H7 := fun b o e => k7 b o (fun z => z) (k6 b o (fun z => z) (k5 b o (fun z => z) e))
      have j7 : RowsJ ps (rowsAt f box out (ordL t box) j) H7 := j7
      have hp7 := j7.2 pl p row hp hr
      have eix2 : (idxI box o.2.2).toNat = ix := by rw [eix]; rfl
      have epl : o.2.1.toNat = pl := by rw [hpl2]; rfl
      refine ⟨p, row.map V.int, idxI box o.2.2, ix, rfl, rfl, hp7, ?_, ?_⟩
      · rw [eix]
        exact ixN_nat (by rw [List.length_map, hrlen]; exact hil)
      have rows8 := RowsJ.set (i := ix) (v := wordAt f (knAt f out (ordL t box) j) o) j7 hnd hp hr
      have hset : (row.map V.int).set ix (.int (wordAt f (knAt f out (ordL t box) j) o)) = (row.set ix (wordAt f (knAt f out (ordL t box) j) o)).map V.int := by rw [List.map_set]
      rw [hset]
      have pin : p ∈ ps := List.mem_of_getElem? hp
      have kp8 : Kp (Fr ps) Ha (upd H7 p (.lst ((row.set ix (wordAt f (knAt f out (ordL t box) j) o)).map V.int))) := fun b o hb e => by
        rw [upd_ne (show b ≠ p from fun z => hb (by rw [z]; exact pin))]
        exact sm7 b o e
      have j8 : (Fr ps).J (upd H7 p (.lst ((row.set ix (wordAt f (knAt f out (ordL t box) j) o)).map V.int))) := fun q hq => by
        obtain ⟨r, _, e⟩ := rows8.mem hq
        exact ⟨_, e⟩
      refine ⟨j8, kp8, _, _, _, _, _, _, had2, sb.mono kp8 j8, ?_⟩
      rw [rowsAt_succ hoj, epl, eix2]
      exact rows8
    · rintro σ' Ha ⟨o5, o6, o7, o8, o9, o10, had, sa, ra⟩ ja
      have sr := sa.reb (F' := Frr ps (rowsAt f box out (ordL t box) (ordL t box).length)) ra (fun q hq => by
        have := sa.pin q hq
        rw [List.mem_singleton.mp hq] at this ⊢
        exact ⟨fun z => z, this.2⟩) (no_own had)
      have hinj : ∀ (i k : Nat) (p : Addr), ps[i]? = some p → ps[k]? = some p → i = k := fun i k p e1 e2 => by
        obtain ⟨a1, a2⟩ := List.getElem?_eq_some_iff.mp e1
        obtain ⟨b1, b2⟩ := List.getElem?_eq_some_iff.mp e2
        exact (List.getElem_inj hnd).mp (a2.trans b2.symm)
      unfold tRet
      dsimp only
      refine (ev_call_b (F := Frr ps (rowsAt f box out (ordL t box) (ordL t box).length)) (as := [.own ((wordsL f t box out).map tI)]) (ea_cons (ev_lcR (φs := (· = ps.map D.obj)) (out := fun x y => ∀ (i : Nat) p row, x = .obj p → ps[i]? = some p → (wordsL f t box out)[i]? = some row → y = tI row) (src_slot rfl) (fun xs e => lt_line (by subst e; rw [List.length_map, hpl]; exact Nat.le_trans vw.vf.n6 (by decide))) (fun xs e x hx => ?_) (fun xs e ys hp => ?_)) ea_nil) (rcl_tuple (.own _))) Ha _ σ' Ha sr _ fun v H9 rr k9 j9 r9 e9 => ?_
      · subst e
        obtain ⟨p, hp, rfl⟩ := List.mem_map.mp hx
        obtain ⟨i, hi, ei⟩ := List.getElem_of_mem hp
        have hpi : ps[i]? = some p := by rw [List.getElem?_eq_getElem hi, ei]
        have hri : i < (wordsL f t box out).length := by unfold wordsL; rw [(rowsAt_shape _).1, ← hpl]; exact hi
        refine ⟨_, _, tg_nm, by decide, (ev_tupRow (F := Frr ps (rowsAt f box out (ordL t box) (ordL t box).length)) (row := (wordsL f t box out)[i]) (fun H (j : RowsJ ps (rowsAt f box out (ordL t box) (ordL t box).length) H) => j.2 i p _ hpi (List.getElem?_eq_getElem hri)) rfl).imp fun r e => ⟨_, e, fun k q row e1 e2 e3 => ?_⟩⟩
        cases e1
        have := hinj i k p hpi e2
        subst this
        rw [List.getElem?_eq_getElem hri] at e3
        rw [Option.some.inj e3]
      · subst e
        show SV.own ys = SV.own ((wordsL f t box out).map tI)
        congr 1
        have hyl := Paired.length hp
        have hwl : (wordsL f t box out).length = ps.length := ra.1
        refine List.ext_getElem? fun i => ?_
        by_cases hi : i < ps.length
        · obtain ⟨y, h1, h2⟩ := paired_at hp i (.obj ps[i]) (by rw [List.getElem?_map, List.getElem?_eq_getElem hi]; rfl)
          have hri : i < (wordsL f t box out).length := by omega
          have := h2 i ps[i] (wordsL f t box out)[i] rfl (List.getElem?_eq_getElem hi) (List.getElem?_eq_getElem hri)
          rw [h1, this, List.getElem?_map, List.getElem?_eq_getElem hri]
          rfl
        · rw [List.getElem?_eq_none (by rw [← hyl, List.length_map]; omega), List.getElem?_eq_none (by rw [List.length_map]; omega)]
      subst e9
      refine r v H9 (.d (.tup ((wordsL f t box out).map tI))) (fun b o _ e => ?_) trivial (show Rep H9 v _ from r9) rfl
      have hb : b ∉ ps := fun z => by rw [fresh b z] at e; cases e
      exact k9 b o (fun z => z) (sa.kp b o hb (sm1 b o (s.kp b o (fun z => z) e)))
  · intro a
    rfl
end
end Wb
/-! WbV1 -/
set_option maxHeartbeats 4000000
namespace Wb
open PySem PySem.Spec PyProof.Rows L2
/-! ### the law's box of draws: a dict, the great cells, the small ones -/
structure Bx where
  a : Addr
  g : Addr
  m : Addr
  sms : List Int
structure BxAt (b : Bx) (H : Hp) (gs : List Int) (t : Int) : Prop where
  dict : H b.a = some (.dK [(.inr "great", .ref b.g), (.inr "small", .ref b.m), (.inr "turn", .int t)])
  great : H b.g = some (.lst (gs.map .int))
  sml : H b.m = some (.lst (b.sms.map .int))
  nn : ∀ x ∈ gs, 0 ≤ x
  tn : 0 ≤ t
  sn : ∀ x ∈ b.sms, 0 ≤ x
  ne : b.sms ≠ []
  gm : b.g ≠ b.m
def BxJ (b : Bx) (H : Hp) : Prop := ∃ gs t, BxAt b H gs t
def bxF (b : Bx) : Fm where
  S := fun x => x = b.a ∨ x = b.g
  A := fun x => x = b.a ∨ x = b.g ∨ x = b.m
  J := BxJ b
  sub := fun x h => h.elim .inl fun z => .inr (.inl z)
  loc := fun H H' ⟨gs, t, j⟩ e => ⟨gs, t, ⟨by rw [e b.a (.inl rfl)]; exact j.dict, by rw [e b.g (.inr (.inl rfl))]; exact j.great, by rw [e b.m (.inr (.inr rfl))]; exact j.sml, j.nn, j.tn, j.sn, j.ne, j.gm⟩⟩
  pres := fun H x ⟨gs, t, j⟩ h z => by
    rcases h with rfl | rfl | rfl
    · rw [j.dict] at z; cases z
    · rw [j.great] at z; cases z
    · rw [j.sml] at z; cases z
  nt := fun H x vs ⟨gs, t, j⟩ h z => by
    rcases h with rfl | rfl
    · rw [j.dict] at z; cases z
    · rw [j.great] at z; cases z
section
variable {P : Program} {w : World} {K : PySem.W.Frag} {mg : Str → Option Value} {base : Heap}
theorem hu1 {A : Around} {k : Nat} (hr : Room k A) : A.units + 1 < cLine := by
  have := hu64 hr
  omega
/-- a promise for any frame of a family -/
def spF {β α : Type} (F : β → Fm) (args : β → α → List SV) (pre : β → α → Prop) (post : β → α → SV → Prop) : Sp := fun vs H Q E => ∃ b, spA (F b) (args b) (pre b) (post b) vs H Q E
def spDraw : Sp := spF bxF (fun b (n : Int) => [.d (.obj b.a), .d (.int n)]) (fun _ n => 1 ≤ n ∧ n < 1000000) fun _ n r => ∃ k, r = .d (.int k) ∧ 0 ≤ k ∧ k < n
abbrev N__law_draw : List Str := ["_law_box_here", "_law_many", "_law_great", "_law_digit", "_law_cell", "_law_mixed"]
abbrev P__law_draw : List Str := ["_law_box_here", "_law_many"]
theorem sc__law_draw : FnScope N__law_draw P__law_draw d__law_draw.scope := ⟨rfl, rfl, rfl, by decide +kernel, rfl, by decide +kernel, by decide +kernel⟩
theorem b__law_draw (kV doc pm : Value) (an : Option Addr) (cdv ct : Value) (us : List Value) (hl : us.length = P__law_draw.length) : bindArgs (PySem.W.fnOf d__law_draw.name d__law_draw.qual d__law_draw.params d__law_draw.body d__law_draw.scope .none kV doc pm an cdv ct) ⟨us, []⟩ = pure (P__law_draw.zip us) := match us, hl with
  | [_, _], _ => rfl
theorem c__law_draw (W : Wf w K mg) : Cal P w K mg base 1 "_law_draw" P__law_draw spDraw := by
  refine Dok.cal (f := He.fAd K d__law_draw.at_) ?_ (W.glo 52 rfl)
  have nd := sc__law_draw.nd
  refine W.fnOk (d := d__law_draw) (N := N__law_draw) (ps := P__law_draw) 60 rfl sc__law_draw b__law_draw ?_ ?_
  rotate_left
  · intro f cdv A outer s H vs Q E hr hs
    refine ⟨_, (pss_cons (ps_set (i := 2) nd rfl (Or.inl rfl) (pe_dget (hu1 hr) (pv 0) pe_str (fun _ _ => rfl))) (pss_cons (ps_while PassesOwn.never (pt_cmpR (k_neD (K := K) rfl (hu64 hr)) (pv 2) (pe_lst pa_nil) (nomark _)) (pss_cons (ps_if (pt_cmpR op_gt (pe_ix (k_ixL (K := K) rfl) (pv 2) (pe_un un_neg pe_int) (fun _ _ => rfl)) pe_int (nomark _)) (pss_cons (ps_set (i := 3) nd rfl (Or.inl rfl) (pe_op op_mod (pe_callTy k_int rfl (W.free 71 rfl) (by decide +kernel) (pa_cons (pe_ix (k_ixL (K := K) rfl) (pv 2) (pe_un un_neg pe_int) (fun _ _ => rfl)) pa_nil)) (pv 1))) (pss_cons (ps_asg (pe_op op_fdiv (pe_callTy k_int rfl (W.free 71 rfl) (by decide +kernel) (pa_cons (pe_ix (k_ixL (K := K) rfl) (pv 2) (pe_un un_neg pe_int) (fun _ _ => rfl)) pa_nil)) (pv 1)) (pg_sub (pv 2) (pe_un un_neg pe_int) set_list)) (pss_one (ps_ret (pv 3))))) pss_nil) (pss_one (ps_expr (pe_bm0 PySem.F.plainAttrs_list PySem.F.slot_list_pop PySem.F.type_list_pop mt_pop (pv 2)))))) (pss_cons (ps_dput (hu1 hr) (pv 0) pe_str (pe_op op_add (pe_dget (hu1 hr) (pv 0) pe_str (fun _ _ => rfl)) pe_int) rfl) (pss_cons (ps_set (i := 4) nd rfl (Or.inl rfl) (pe_ix (k_ixL (K := K) rfl) (pe_dget (hu1 hr) (pv 0) pe_str (fun _ _ => rfl)) (pe_op op_mod (pe_callTy k_int rfl (W.free 71 rfl) (by decide +kernel) (pa_cons (pe_dget (hu1 hr) (pv 0) pe_str (fun _ _ => rfl)) pa_nil)) (pe_callB (k_len (K := K) rfl) rfl (W.free 73 rfl) (by decide +kernel) (pa_cons (pe_dget (hu1 hr) (pv 0) pe_str (fun _ _ => rfl)) pa_nil))) (fun _ _ => rfl))) (pss_cons (ps_set (i := 5) nd rfl (Or.inl rfl) (pe_op op_add (pe_op op_mul (pv 4) pe_int) (pe_op op_mul (pe_dget (hu1 hr) (pv 0) pe_str (fun _ _ => rfl)) pe_int))) (pss_cons (ps_set (i := 5) nd rfl (Or.inl rfl) (pe_op op_mod (pe_callTy k_int rfl (W.free 71 rfl) (by decide +kernel) (pa_cons (pv 5) pa_nil)) pe_int)) (pss_cons (ps_set (i := 5) nd rfl (Or.inl rfl) (pe_op op_mod (pe_callTy k_int rfl (W.free 71 rfl) (by decide +kernel) (pa_cons (pe_op op_mul (pv 5) (pe_op op_add (pe_op op_fdivW (pv 5) pe_int) pe_int)) pa_nil)) pe_int)) (pss_one (ps_ret (pe_op op_mod (pe_callTy k_int rfl (W.free 71 rfl) (by decide +kernel) (pa_cons (pe_op op_fdiv (pv 5) pe_int) pa_nil)) (pv 1))))))))))), ?_⟩
    obtain ⟨b, n, rr, ⟨gs, t, j⟩, ⟨h1, h2⟩, hq⟩ := hs
    cases rr with
    | cons r1 rr =>
      cases rr with
      | cons r2 rr =>
        cases rr
        cases r1
        cases r2
        refine ⟨_, rfl, b.a, .ref b.g, rfl, .inl ⟨_, .inr "great", .inl j.dict, rfl, rfl⟩, ?_⟩
        refine ⟨fun m σ' H' => ∃ gs, σ' = [some (.ref b.a), some (.int n), some (.ref b.g), none, none, none] ∧ BxAt b H' gs t ∧ Kp (bxF b) H H' ∧ m = gs.length, ⟨_, gs, rfl, j, Kp.refl _ _, rfl⟩, ?_⟩
        rintro m σ2 H2 ⟨gs2, rfl, j2, k2, rfl⟩
        refine ⟨_, rfl, by show 0 ≤ sizeLine; decide, fun q hq0 => ?_⟩
        have kq : Kp Fm.pure H2 (upd H2 q (.lst [])) := Kp.same (same_new hq0)
        have j3 : BxAt b (upd H2 q (.lst [])) gs2 t := ⟨same_new hq0 _ _ j2.dict, same_new hq0 _ _ j2.great, same_new hq0 _ _ j2.sml, j2.nn, j2.tn, j2.sn, j2.ne, j2.gm⟩
        have k3 : Kp (bxF b) H (upd H2 q (.lst [])) := k2.trans (Kp.same (same_new hq0))
        refine ro_neNil (F := Fm.pure) (x := .bor (gs2.map .int)) (.inr rfl) (plainDs_map fun _ _ => rfl) (Nat.lt_of_le_of_lt (depDs_map (n := 0) fun _ _ => Nat.le_refl 0) (by decide)) H2 (upd H2 q (.lst [])) _ _ _ trivial trivial kq ⟨b.g, _, rfl, (fun h => h), j3.great, RepL.of_ints _⟩ ⟨q, [], rfl, hq0, upd_same, .nil⟩ fun v H4 z k4 _ rz ez => ?_
        subst ez
        cases rz
        have sm4 : Same (upd H2 q (.lst [])) H4 := Kp.pure_same k4
        have j4 : BxAt b H4 gs2 t := ⟨sm4 _ _ j3.dict, sm4 _ _ j3.great, sm4 _ _ j3.sml, j2.nn, j2.tn, j2.sn, j2.ne, j2.gm⟩
        have k5 : Kp (bxF b) H H4 := k3.trans (Kp.same sm4)
        clear j3 k3 kq sm4 k4 hq0 j2 k2
        refine ⟨_, rfl, ?_⟩
        rcases List.eq_nil_or_concat gs2 with rfl | ⟨gs0, x, rfl⟩
        · refine iteF ?_
          obtain ⟨c0, hc0⟩ : ∃ c, b.sms[((t + 1) % (b.sms.length : Int)).toNat]? = some c := by
            have hl : 0 < b.sms.length := List.length_pos_iff.mpr j4.ne
            have h5 := Int.emod_nonneg (t + 1) (show (b.sms.length : Int) ≠ 0 by omega)
            have h6 := Int.emod_lt_of_pos (t + 1) (show (0 : Int) < (b.sms.length : Int) by omega)
            exact ⟨_, List.getElem?_eq_getElem (by omega)⟩
          refine ⟨_, rfl, b.a, .int t, rfl, .inl ⟨_, .inr "turn", .inl j4.dict, rfl, rfl⟩, t, 1, rfl, rfl, ?_⟩
          refine ⟨_, rfl, b.a, _, rfl, .inl ⟨_, .inr "turn", j4.dict, rfl, (by show 3 < sizeLine; decide), rfl⟩, ?_⟩
          have ea : b.a ≠ b.g := ne_of j4.dict j4.great (by intro z; cases z)
          have em : b.a ≠ b.m := ne_of j4.dict j4.sml (by intro z; cases z)
          have j5 : BxAt b (upd H4 b.a (.dK (putK [(.inr "great", .ref b.g), (.inr "small", .ref b.m), (.inr "turn", .int t)] (.inr "turn") (.int (t + 1))))) [] (t + 1) := ⟨by rw [upd_same]; rfl, by rw [upd_ne (Ne.symm ea)]; exact j4.great, by rw [upd_ne (Ne.symm em)]; exact j4.sml, j4.nn, by have := j4.tn; omega, j4.sn, j4.ne, j4.gm⟩
          have k6 : Kp (bxF b) H (upd H4 b.a (.dK (putK [(.inr "great", .ref b.g), (.inr "small", .ref b.m), (.inr "turn", .int t)] (.inr "turn") (.int (t + 1))))) := k5.trans fun y u hy e => by
            rw [upd_ne (fun z => hy (.inl z))]
            exact e
          generalize (upd H4 b.a (.dK (putK [(.inr "great", .ref b.g), (.inr "small", .ref b.m), (.inr "turn", .int t)] (.inr "turn") (.int (t + 1))))) = H5 at j5 k6
          have hl : 0 < b.sms.length := List.length_pos_iff.mpr j5.ne
          have hi0 := Int.emod_nonneg (t + 1) (show (b.sms.length : Int) ≠ 0 by omega)
          refine ⟨_, rfl, b.a, .ref b.m, rfl, .inl ⟨_, .inr "small", .inl j5.dict, rfl, rfl⟩, _, rfl, b.a, .int (t + 1), rfl, .inl ⟨_, .inr "turn", .inl j5.dict, rfl, rfl⟩, .inl ⟨t + 1, rfl, _, rfl, b.a, .ref b.m, rfl, .inl ⟨_, .inr "small", .inl j5.dict, rfl, rfl⟩, b.m, _, rfl, .inl (SqL.of j5.sml), t + 1, ((b.sms.map V.int).length : Int), rfl, rfl, by rw [List.length_map]; omega, b.m, _, (t + 1) % ((b.sms.map V.int).length : Int), .int c0, rfl, rfl, SqL.of j5.sml, ?_, ?_⟩⟩
          · have hlm : ((b.sms.map V.int).length : Int) = (b.sms.length : Int) := by rw [List.length_map]
            rw [hlm, show (t + 1) % (b.sms.length : Int) = ((((t + 1) % (b.sms.length : Int)).toNat : Nat) : Int) by omega]
            exact atI_nat (by rw [List.getElem?_map, hc0]; rfl)
          · refine ⟨_, rfl, c0, 6364136223846793005, rfl, rfl, .inr ⟨by decide, by decide⟩, _, rfl, b.a, .int (t + 1), rfl, .inl ⟨_, .inr "turn", .inl j5.dict, rfl, rfl⟩, t + 1, 1442695040888963407, rfl, rfl, .inr ⟨by decide, by decide⟩, _, _, rfl, rfl, ?_⟩
            unfold gName tSeq tAsg tRet
            dsimp only
            refine ⟨_, rfl, .inl ⟨_, rfl, _, _, rfl, rfl, (show (0 : Int) < 18446744073709551557 by decide), ?_⟩⟩
            have hb : ∀ z : Int, -(2 ^ 64) < z % 18446744073709551557 ∧ z % 18446744073709551557 < 2 ^ 64 := fun z => by
              have := Int.emod_nonneg z (show (18446744073709551557 : Int) ≠ 0 by decide)
              have := Int.emod_lt_of_pos z (show (0 : Int) < 18446744073709551557 by decide)
              omega
            refine ⟨_, rfl, _, rfl, _, _, rfl, rfl, ⟨by decide, by decide⟩, _, _, rfl, rfl, _, _, rfl, rfl, .inl (hb _), .inl ⟨_, rfl, _, _, rfl, rfl, (show (0 : Int) < 18446744073709551557 by decide), ?_⟩⟩
            refine ⟨_, rfl, _, _, rfl, rfl, ⟨by decide, by decide⟩, .inl ⟨_, rfl, _, rfl, _, _, rfl, rfl, by omega, ?_⟩⟩
            exact hq _ H5 (.d (.int _)) k6 ⟨[], t + 1, j5⟩ (.int _) ⟨_, rfl, Int.emod_nonneg _ (by omega), Int.emod_lt_of_pos _ (by omega)⟩
        · rw [List.concat_eq_append] at j4 ⊢
          have hne : (!((gs0 ++ [x]).map D.int).isEmpty) = true := by simp
          rw [hne]
          refine iteT ?_
          have lst : atI ((gs0 ++ [x]).map V.int) (-1) = some (.int x) := by
            have e : ((gs0 ++ [x]).map V.int).length = gs0.length + 1 := by simp
            unfold atI ixN
            rw [e, if_neg (by decide), if_pos (by omega)]
            show ((gs0 ++ [x]).map V.int)[((-1 : Int) + ((gs0.length + 1 : Nat) : Int)).toNat]? = _
            rw [show ((-1 : Int) + ((gs0.length + 1 : Nat) : Int)).toNat = gs0.length by omega, List.map_append]
            simp
          refine ⟨fun σ' H' => ∃ m', m' < (gs0 ++ [x]).length ∧ ∃ gs, σ' = [some (.ref b.a), some (.int n), some (.ref b.g), none, none, none] ∧ BxAt b H' gs t ∧ Kp (bxF b) H H' ∧ m' = gs.length, fun σ' H' h => h, ?_⟩
          refine ⟨_, rfl, _, rfl, b.g, _, -1, .int x, rfl, rfl, SqL.of j4.great, lst, x, 0, rfl, rfl, _, rfl, ?_⟩
          by_cases hx : 0 < x
          · rw [decide_eq_true hx]
            refine iteT ?_
            have ea : b.a ≠ b.g := ne_of j4.dict j4.great (by intro z; cases z)
            have eix : ixN ((gs0 ++ [x]).map V.int).length (-1) = some gs0.length := by
              rw [List.length_map, List.length_append]
              unfold ixN
              rw [if_neg (by decide), if_pos (by show -((gs0.length + 1 : Nat) : Int) ≤ -1; omega)]
              congr 1
              show ((-1 : Int) + ((gs0.length + 1 : Nat) : Int)).toNat = gs0.length
              omega
            refine ⟨_, rfl, _, rfl, b.g, _, -1, .int x, rfl, rfl, SqL.of j4.great, lst, .inl ⟨x, rfl, _, rfl, x, n, rfl, rfl, by omega, ?_⟩⟩
            refine ⟨_, rfl, _, rfl, b.g, _, -1, .int x, rfl, rfl, SqL.of j4.great, lst, .inl ⟨x, rfl, _, rfl, x, n, rfl, rfl, ⟨by omega, by omega⟩, ?_⟩⟩
            refine ⟨_, rfl, _, rfl, b.g, _, -1, gs0.length, rfl, rfl, j4.great, eix, ?_⟩
            refine ⟨_, rfl, hq _ _ (.d (.int (x % n))) (k5.trans fun y u hy e => ?_) ⟨gs0 ++ [x / n], t, ⟨?_, ?_, ?_, ?_, j4.tn, j4.sn, j4.ne, j4.gm⟩⟩ (.int _) ⟨_, rfl, Int.emod_nonneg _ (by omega), Int.emod_lt_of_pos _ (by omega)⟩⟩
            · rw [upd_ne (fun z => hy (.inr z))]
              exact e
            · rw [upd_ne ea]
              exact j4.dict
            · rw [upd_same]
              congr 2
              rw [List.map_append, List.map_append, List.set_append_right _ _ (by simp), List.length_map, Nat.sub_self]
              rfl
            · rw [upd_ne (Ne.symm j4.gm)]
              exact j4.sml
            · intro y hy
              rcases List.mem_append.mp hy with hy | hy
              · exact j4.nn y (List.mem_append_left _ hy)
              · rw [List.mem_singleton.mp hy]
                exact Int.ediv_nonneg (by omega) (by omega)
          · rw [decide_eq_false hx]
            refine iteF ?_
            refine ⟨_, rfl, .inl ⟨rfl, _, SqL.of j4.great⟩, b.g, _, .int x, rfl, rfl, j4.great, ?_, ?_⟩
            · rw [List.length_map, List.length_append, List.map_append]
              simp
            · have ea : b.a ≠ b.g := ne_of j4.dict j4.great (by intro z; cases z)
              refine ⟨gs0.length, by rw [List.length_append]; exact Nat.lt_succ_self _, gs0, rfl, ⟨?_, ?_, ?_, fun y hy => j4.nn y (List.mem_append_left _ hy), j4.tn, j4.sn, j4.ne, j4.gm⟩, k5.trans fun y u hy e => ?_, rfl⟩
              · rw [upd_ne ea]
                exact j4.dict
              · rw [upd_same, List.map_append]
                congr 2
                exact List.dropLast_concat
              · rw [upd_ne (Ne.symm j4.gm)]
                exact j4.sml
              · rw [upd_ne (fun z => hy (.inr z))]
                exact e
  · rintro vs H Q E ⟨b, a, rr, _⟩
    exact rr.length
end
end Wb
/-! WbV2 -/
set_option maxHeartbeats 4000000
namespace Wb
open PySem PySem.Spec PyProof.Rows L2
/-! ### a tuple once -/
theorem tuple_once (l : Addr) (items : Array Value) (n : Nat) (dd : Option Addr) (sl : Array (Option Value)) (u : Tok) :
    Meets (Builtin.«tuple.__mul__» ⟨[.ref l, .int 1 u], []⟩) (fun _ R s => s.heap.get? l = some { cls := .type "tuple", dict := dd, data := .seq items n, slots := sl } ∧ R (.ok (.ret (.ref l))) s) :=
  .of_wp fun prog w A R s h => by
    obtain ⟨hp, g, d, tk, os⟩ := s
    obtain ⟨hl, h⟩ := h
    have f1 := AutoSeq1.idx_int
    have c1 : (items.isEmpty || (1 : Int) == 1) = true := by simp
    wp_walk using wpAny_loadPart' hl
    exact ⟨_, rfl, h⟩
def rRepU (K : PySem.W.Frag) : R2 := fun x y H Q => (∃ l xs, x = .ref l ∧ y = .int 1 ∧ SqT K H l xs ∧ Q (.ref l) H) ∨ rRepT K x y H Q
theorem op_repU {X : Cx} : OpR X (binaryOp .Mult) (rRepU X.K) := by
  intro pins s σ H x y v u Q I rx ry h
  rcases h with ⟨l, xs, rfl, rfl, hT, q⟩ | h
  · cases rx
    obtain ⟨t, rfl⟩ := ry
    obtain ⟨its, r, ⟨⟨cls, dd, data, sl⟩, ho, hc, n, hd⟩, hs⟩ := I.tuple hT
    simp only at hc hd
    subst hc hd
    exact wpAny_binaryOp_repeat_ref (T := "tuple") (U := "int") (by decide) ⟨_, ho, rfl⟩ (fun s' => typeIs_int s' 1 t) noFill_tuple_mul F.fills_int_mul F.slot_int_rmul repeat_tuple F.slot_int_index.lookup
      (call_meets F.slot_int_rmul (typeIs_int s 1 t) F.entry_int_rmul (F.args_int_rmul_2 _ _) (int_rmul_tuple 1 t l its.toArray n dd sl) ⟨ho, rfl, ⟨_, ho, rfl⟩, call_meets F.slot_tuple_mul ⟨_, ho, rfl⟩ F.entry_tuple_mul (F.args_tuple_mul_2 _ _) (tuple_once l its.toArray n dd sl t) ⟨ho, ⟨.ref l, H, I, rfl, q⟩⟩⟩)
  · exact op_repT pins s σ H x y v u Q I rx ry h
theorem k_repU {X : Cx} {K : PySem.W.Frag} (hK : X.K = K) : OpR X (binaryOp .Mult) (rRepU K) := hK ▸ op_repU
theorem ro_repU {F : Fm} {K : PySem.W.Frag} {xs : List D} {k : Int} (hx : xs ≠ []) (h1 : 1 ≤ k ∧ k ≤ 1000) (hl : xs.length ≤ 1000) : RO F (rRepU K) (.d (.tup xs)) (.d (.int k)) (· = .d (.tup (List.replicate k.toNat xs).flatten)) := fun Hb H vx vy Q jb jh kb rx ry q => by
  by_cases h : k = 1
  · subst h
    have ry : Rep H vy (.int 1) := ry
    have rx : Rep H vx (.tup xs) := rx
    cases ry
    cases rx with
    | @tup a vs _ ha hr =>
      refine .inl ⟨a, vs, rfl, rfl, .inl (.inl ha), q _ H (.d (.tup xs)) (Kp.refl F H) jh (.tup ha hr) ?_⟩
      show SV.d (.tup xs) = SV.d (.tup (List.replicate 1 xs).flatten)
      simp
  · exact .inr (ro_repT hx ⟨by omega, h1.2⟩ hl Hb H vx vy Q jb jh kb rx ry q)
/-! ### promises for a family of frames -/
section
variable {P : Program} {w : World} {K : PySem.W.Frag} {mg : Str → Option Value} {base : Heap} {α β : Type}
theorem Wf.calF (W : Wf w K mg) {d : He.DefD} {k : Nat} {x : Str} {N ps : List Str} {F : β → Fm} {args : β → α → List SV} {pre : β → α → Prop} {post : β → α → SV → Prop} (i j : Nat) (h : fn[i]? = some d) (hg : fa[j]? = some (.glo x)) (S : FnScope N ps d.scope)
    (hb : ∀ (kV doc pm : Value) (an : Option Addr) (cdv ct : Value) (us : List Value), us.length = ps.length → bindArgs (PySem.W.fnOf d.name d.qual d.params d.body d.scope .none kV doc pm an cdv ct) ⟨us, []⟩ = pure (ps.zip us))
    (hl : ∀ b a, (args b a).length = ps.length)
    (hbody : ∀ (f : Addr) (cdv : Value) (A : Around) (outer : List Env) (s : Shared) (H : Hp) (E : XK), Room k (A.deeper (envOfC d.qual d.scope s.heap.objs.size f cdv)) →
      ∃ t, PSs (cxOf CX0 P w K mg base N d.qual d.scope f cdv A outer s H E).nox d.body t ∧ ∀ b a, pre b a → Sd (F b) t (sta N.length (args b a)) (fun _ => post b a (.d .non)) (post b a))
    (ha : He.fAd K d.at_ = He.ga K x := by rfl) (h0 : d.dfl = [] := by rfl) (h1 : d.kwd = [] := by rfl) : Cal P w K mg base (k + 1) x ps (spF F args pre post) := by
  obtain ⟨fd, FD⟩ := W.def_ i h
  have e0 : d.dvs K = [] := by
    unfold He.DefD.dvs
    rw [h0]
    rfl
  have e1 : d.kws K = [] := by
    unfold He.DefD.kws
    rw [h1]
    rfl
  rw [e0, e1] at FD
  refine ⟨He.fAd K d.at_, fd, FD.ok S (fun vs H Q E ⟨b, a, r, _, p, _⟩ => r.length.trans (hl b a)) fun cdv A outer s H vs Q E hr hs => ?_, by rw [ha]; exact W.glo j hg, FD.kp, FD.bindsN hb⟩
  obtain ⟨t, ht, hq⟩ := hbody (He.fAd K d.at_) cdv A outer s H E hr
  refine ⟨t, PSs.nox ht, ?_⟩
  obtain ⟨b, a, r, j, hp, q⟩ := hs
  exact entry (E := E) (Pre := fun as => as = args b a) (Post := fun _ => post b a) ⟨args b a, r, j, rfl, q⟩ fun as e _ => by
    subst e
    exact hq b a hp
variable {F : β → Fm} {ds : Ds} {φ : SV → Prop} {t : TA} {ρ : List SV → Prop} {args : β → α → List SV} {pre : β → α → Prop} {post : β → α → SV → Prop} {E : XK}
theorem ev_callFB (b : β) (h : EvA (F b) t ds ρ) (hp : ∀ as, ρ as → ∃ a, as.map SV.arg = args b a ∧ pre b a ∧ ∀ r, post b a r → φ r) : Ev (F b) (tCall (spF F args pre post) [] E t) ds φ := fun H0 P σ H s Q q =>
  h H0 P σ H s _ fun vs H1 as k1 j1 r1 p1 => by
    rw [List.append_nil]
    obtain ⟨a, ea, hpa, hq⟩ := hp as p1
    exact ⟨b, a, by rw [← ea]; exact r1.args s.j, j1, hpa, fun v H2 r k2 j2 r2 p2 => q v H2 r (k1.trans k2) j2 (r2.back k1 s.j j1) (hq r p2)⟩
theorem ev_fnF (b : β) (a : α) {as : List SV} (h : EvA (F b) t ds (· = as)) (hp : pre b a) (hq : ∀ z, post b a z → φ z) (ea : as.map SV.arg = args b a := by rfl) : Ev (F b) (tCall (spF F args pre post) [] E t) ds φ :=
  ev_callFB b h fun _ e => by
    subst e
    exact ⟨a, ea, hp, hq⟩
end
theorem paired_ints {α : Type} {p : Int → Prop} : ∀ {xs : List α} {ys : List D}, Paired (fun _ y => ∃ z, y = D.int z ∧ p z) xs ys → ∃ v : List Int, ys = v.map .int ∧ v.length = xs.length ∧ ∀ z ∈ v, p z
  | _, _, .nil => ⟨[], rfl, rfl, fun _ h => nomatch h⟩
  | _, _, .cons ⟨z, e, hz⟩ t => by
    obtain ⟨v, h1, h2, h3⟩ := paired_ints t
    refine ⟨z :: v, by rw [e, h1]; rfl, by rw [List.length_cons, List.length_cons, h2], fun y hy => ?_⟩
    rcases List.mem_cons.mp hy with rfl | hy
    · exact hz
    · exact h3 y hy
/-- tuple([.. for x in xs]), ints -/
theorem ev_vec {F : Fm} {K : PySem.W.Frag} {ds : Ds} {wi : TI} {g : TG} {te : TE} {vs : List Nat} {n : Nat} {p : Int → Prop} (hs : EvI F wi ds (fun xs => xs.length = n)) (hn : n < sizeLine)
    (hb : ∀ xs : List D, xs.length = n → ∀ x ∈ xs, ∃ is ds', TgOk g is (wipeD ds vs) x ds' ∧ (∀ i ∈ is, i ∈ vs) ∧ Ev F te ds' fun r => ∃ y, r = .d y ∧ ∃ z, y = .int z ∧ p z) : Ev F (tCB (rTupQ K) (tCons (tLc wi g tYes te vs) tNil)) ds fun r => ∃ v : List Int, r = .d (tI v) ∧ v.length = n ∧ ∀ z ∈ v, p z :=
  ev_cbG (ρ := fun as => ∃ v : List Int, as = [.own (v.map .int)] ∧ v.length = n ∧ ∀ z ∈ v, p z) (ea_consG (ρ := (· = [])) (φ := fun r => ∃ v : List Int, r = .own (v.map .int) ∧ v.length = n ∧ ∀ z ∈ v, p z) (ev_lcR hs (fun xs e => by rw [e]; exact hn) hb fun xs e ys hp => by
    obtain ⟨v, h1, h2, h3⟩ := paired_ints hp
    exact ⟨v, by rw [h1], h2.trans e, h3⟩) ea_nil fun x xs h e => by
      obtain ⟨v, rfl, h2, h3⟩ := h
      subst e
      exact ⟨v, rfl, h2, h3⟩) fun as h => by
    obtain ⟨v, rfl, h2, h3⟩ := h
    exact fun Hb H vs Q a b c d q => rcl_tuple (.own _) Hb H vs Q a b c d fun v' H2 z k j r ez => q v' H2 z k j r ⟨v, ez, h2, h3⟩
section
variable {P : Program} {w : World} {K : PySem.W.Frag} {mg : Str → Option Value} {base : Heap}
abbrev N__law_one : List Str := ["_law_box_here", "_law_items"]
abbrev P__law_one : List Str := ["_law_box_here", "_law_items"]
theorem sc__law_one : FnScope N__law_one P__law_one d__law_one.scope := ⟨rfl, rfl, rfl, by decide +kernel, rfl, by decide +kernel, by decide +kernel⟩
theorem b__law_one (kV doc pm : Value) (an : Option Addr) (cdv ct : Value) (us : List Value) (hl : us.length = P__law_one.length) : bindArgs (PySem.W.fnOf d__law_one.name d__law_one.qual d__law_one.params d__law_one.body d__law_one.scope .none kV doc pm an cdv ct) ⟨us, []⟩ = pure (P__law_one.zip us) := match us, hl with
  | [_, _], _ => rfl
def spOne : Sp := spF bxF (fun b (xs : List D) => [.d (.obj b.a), .bor xs]) (fun _ xs => 1 ≤ xs.length ∧ xs.length < 1000) fun _ xs r => ∃ x ∈ xs, r = .d x
theorem c__law_one (W : Wf w K mg) : Cal P w K mg base 2 "_law_one" P__law_one spOne := by
  have nd := sc__law_one.nd
  refine W.calF (d := d__law_one) (N := N__law_one) 61 53 rfl rfl sc__law_one b__law_one ?_ ?_
  rotate_left
  · intro f cdv A outer s H E hr
    refine ⟨_, (pss_one (ps_ret (pe_ix (k_ixL (K := K) rfl) (pv 1) (pe_cal (c__law_draw W) (hr.mono (by decide)) rfl (pa_cons (pv 0) (pa_cons (pe_callB (k_len (K := K) rfl) rfl (W.free 73 rfl) (by decide +kernel) (pa_cons (pv 1) pa_nil)) pa_nil))) (fun _ _ => rfl)))), ?_⟩
    rintro b xs ⟨h1, h2⟩
    refine sd_ret (ev_opG (ψ := fun r => ∃ k, r = .d (.int k) ∧ 0 ≤ k ∧ k < (xs.length : Int)) ev_varB (ev_fnF b (xs.length : Int) (ea_cons ev_var (ea_cons (ev_call_b (ea_cons ev_varB ea_nil) (rcl_len (.bor _))) ea_nil)) ⟨by omega, by omega⟩ fun z p => p) fun x y ex ey => ?_) fun r e => e
    subst ex
    obtain ⟨k, rfl, k0, k1⟩ := ey
    have hat : atI xs k = some xs[k.toNat] := by
      have e := atI_nat (xs := xs) (j := k.toNat) (List.getElem?_eq_getElem (by omega))
      rw [show ((k.toNat : Nat) : Int) = k by omega] at e
      exact e
    exact fun Hb H vx vy Q a b c d e q => ro_ixL (.inr rfl) hat Hb H vx vy Q a b c d e fun v H2 z k j r ez => q v H2 z k j r ⟨_, List.getElem_mem _, ez⟩
  · intro b a
    rfl
def spVec : Sp := spF bxF (fun b (a : Int × Int) => [.d (.obj b.a), .d (.int a.1), .d (.int a.2)]) (fun _ a => 0 ≤ a.1 ∧ a.1 ≤ 1000 ∧ 0 ≤ a.2 ∧ a.2 < 400000) fun _ a r => ∃ v : List Int, r = .d (tI v) ∧ v.length = a.1.toNat ∧ ∀ x ∈ v, -a.2 ≤ x ∧ x ≤ a.2
abbrev N__law_vector : List Str := ["_law_box_here", "_law_dims", "_law_most", "_law_k"]
abbrev P__law_vector : List Str := ["_law_box_here", "_law_dims", "_law_most"]
theorem sc__law_vector : FnScope N__law_vector P__law_vector d__law_vector.scope := ⟨rfl, rfl, rfl, by decide +kernel, rfl, by decide +kernel, by decide +kernel⟩
theorem b__law_vector (kV doc pm : Value) (an : Option Addr) (cdv ct : Value) (us : List Value) (hl : us.length = P__law_vector.length) : bindArgs (PySem.W.fnOf d__law_vector.name d__law_vector.qual d__law_vector.params d__law_vector.body d__law_vector.scope .none kV doc pm an cdv ct) ⟨us, []⟩ = pure (P__law_vector.zip us) := match us, hl with
  | [_, _, _], _ => rfl
theorem c__law_vector (W : Wf w K mg) : Cal P w K mg base 2 "_law_vector" P__law_vector spVec := by
  have nd := sc__law_vector.nd
  refine W.calF (d := d__law_vector) (N := N__law_vector) 63 55 rfl rfl sc__law_vector b__law_vector ?_ ?_
  rotate_left
  · intro f cdv A outer s H E hr
    refine ⟨_, (pss_one (ps_ret (pe_callTy (k_tuple (K := K) rfl) rfl (W.free 82 rfl) (by decide +kernel) (pa_cons (pe_lc (own := [("_law_k", 3)]) (tt := tYes) rfl nd (pi_range1 rfl (W.free 77 rfl) (pa_cons (pv 1) pa_nil)) (blkOk_by (N := N__law_vector) (sc := d__law_vector.scope) (by decide +kernel)) (fun _ _ _ _ _ => (pg_name (i := 3) nd rfl (Or.inl rfl))) (fun _ _ _ _ _ => pts_nil) (fun _ _ _ _ _ => (pe_op op_sub (pe_cal (c__law_draw W) (hr.mono (by decide)) rfl (pa_cons (pv 0) (pa_cons (pe_op op_add (pe_op op_mul pe_int (pv 2)) pe_int) pa_nil))) (pv 2)))) pa_nil)))), ?_⟩
    rintro b ⟨m, n⟩ ⟨h1, h2, h3, h4⟩
    have h1 : 0 ≤ m := h1
    have h2 : m ≤ 1000 := h2
    have h3 : 0 ≤ n := h3
    have h4 : n < 400000 := h4
    refine sd_ret (ev_vec (n := m.toNat) (p := fun z => -n ≤ z ∧ z ≤ n) ((src_rng1 (n := m) (ea_cons ev_var ea_nil) (by omega)).imp fun xs e => by rw [e, ints_len]) (lt_line (by omega)) fun xs _ x hx => ⟨_, _, tg_nm, by decide, ?_⟩) fun r e => e
    refine ev_opG (φ := fun r => ∃ k, r = .d (.int k) ∧ 0 ≤ k ∧ k < 2 * n + 1) (ψ := (· = .d (.int n))) (ev_fnF b (2 * n + 1) (ea_cons ev_var (ea_cons (ev_op (ev_op ev_ci ev_var (ro_i (.inl (by decide)))) ev_ci ro_i0) ea_nil)) ⟨by omega, by omega⟩ fun z p => p) ev_var fun x y ex ey => ?_
    obtain ⟨k, rfl, k0, k1⟩ := ex
    subst ey
    exact fun Hb H vx vy Q a b c d e q => ro_i0 Hb H vx vy Q a b c d e fun v H2 z k' j r ez => q v H2 z k' j r ⟨_, ez, _, rfl, by omega, by omega⟩
  · intro b a
    rfl
end
end Wb
/-! WbV3 -/
set_option maxHeartbeats 4000000
namespace Wb
open PySem PySem.Spec PyProof.Rows L2
section
variable {F : Fm} {ds : Ds} {ta : TE} {tr : TA} {φ : SV → Prop} {ρ : List SV → Prop} {x : SV} {xs : List SV}
theorem ea_k (ha : Ev F ta ds (· = x)) (hr : EvA F tr ds ρ) : EvA F (tCons ta tr) ds fun as => ∃ bs, as = x :: bs ∧ ρ bs := ea_consG ha hr fun y ys e h => ⟨ys, by rw [e], h⟩
theorem ea_r (ha : Ev F ta ds φ) (hr : EvA F tr ds (· = xs)) : EvA F (tCons ta tr) ds fun as => ∃ y, as = y :: xs ∧ φ y := ea_consG ha hr fun y ys h e => ⟨y, by rw [e], h⟩
end
theorem zeros_tI (n : Nat) : D.tup (List.replicate n [D.int 0]).flatten = tI (List.replicate n 0) := by
  unfold tI
  congr 1
  induction n with
  | zero => rfl
  | succ n ih => rw [List.replicate_succ, List.flatten_cons, ih, List.replicate_succ, List.map_cons]; rfl
def Nz (ws : List Int) : Prop := ∃ x ∈ ws, x ≠ 0
theorem nz_of {v : List Int} {n : Nat} (hl : v.length = n) (h : eqD (tI v) (tI (List.replicate n 0)) = false) : Nz v := by
  refine Classical.byContradiction fun hn => ?_
  have e : v = List.replicate n 0 := by
    rw [List.eq_replicate_iff]
    exact ⟨hl, fun x hx => Classical.byContradiction fun h => hn ⟨x, hx, h⟩⟩
  rw [e, eqD_refl _ (plain_tI _)] at h
  cases h
section
variable {P : Program} {w : World} {K : PySem.W.Frag} {mg : Str → Option Value} {base : Heap}
abbrev N__law_weights : List Str := ["_law_box_here", "_law_dims", "_law_found"]
abbrev P__law_weights : List Str := ["_law_box_here", "_law_dims"]
theorem sc__law_weights : FnScope N__law_weights P__law_weights d__law_weights.scope := ⟨rfl, rfl, rfl, by decide +kernel, rfl, by decide +kernel, by decide +kernel⟩
theorem b__law_weights (kV doc pm : Value) (an : Option Addr) (cdv ct : Value) (us : List Value) (hl : us.length = P__law_weights.length) : bindArgs (PySem.W.fnOf d__law_weights.name d__law_weights.qual d__law_weights.params d__law_weights.body d__law_weights.scope .none kV doc pm an cdv ct) ⟨us, []⟩ = pure (P__law_weights.zip us) := match us, hl with
  | [_, _], _ => rfl
def spWts : Sp := spF bxF (fun b (m : Int) => [.d (.obj b.a), .d (.int m)]) (fun _ m => m = 2 ∨ m = 3) fun _ m r => ∃ ws, r = .d (tI ws) ∧ VWts m ws ∧ Nz ws
theorem c__law_weights (W : Wf w K mg) : Cal P w K mg base 3 "_law_weights" P__law_weights spWts := by
  have nd := sc__law_weights.nd
  refine W.calF (d := d__law_weights) (N := N__law_weights) 64 56 rfl rfl sc__law_weights b__law_weights ?_ ?_
  rotate_left
  · intro f cdv A outer s H E hr
    refine ⟨_, (pss_cons (ps_set (i := 2) nd rfl (Or.inl rfl) (pe_cal (c__law_vector W) (hr.mono (by decide)) rfl (pa_cons (pv 0) (pa_cons (pv 1) (pa_cons (pe_cal (c__law_one W) (hr.mono (by decide)) rfl (pa_cons (pv 0) (pa_cons (pe_lst (pa_cons pe_int (pa_cons pe_int (pa_cons pe_int pa_nil)))) pa_nil))) pa_nil))))) (pss_one (ps_ret (pe_ifExp (pt_cmpR (k_neD (K := K) rfl (hu64 hr)) (pv 2) (pe_op (k_repU (K := K) rfl) (pe_tup (pa_cons pe_int pa_nil)) (pv 1)) (nomark _)) (pv 2) (pe_op (k_catT (K := K) rfl) (pe_tup (pa_cons pe_int pa_nil)) (pe_op (k_repU (K := K) rfl) (pe_tup (pa_cons pe_int pa_nil)) (pe_op op_sub (pv 1) pe_int))))))), ?_⟩
    rintro b m hm
    have hm : m = 2 ∨ m = 3 := hm
    refine sd_seq (M := fun d => ∃ v : List Int, d = [some (.d (.obj b.a)), some (.d (.int m)), some (.d (tI v))] ∧ v.length = m.toNat ∧ ∀ x ∈ v, -60 ≤ x ∧ x ≤ 60) (sd_set (φ := fun r => ∃ v, r = .d (tI v) ∧ v.length = m.toNat ∧ ∀ x ∈ v, -60 ≤ x ∧ x ≤ 60) (ev_callFB b (ea_k ev_var (ea_k ev_var (ea_r (φ := fun r => ∃ n : Int, r = .d (.int n) ∧ 0 ≤ n ∧ n ≤ 60) (ev_fnF b [.int 2, .int 5, .int 60] (ea_cons ev_var (ea_cons (ev_lst [.int 2, .int 5, .int 60] (ea_cons ev_ci (ea_cons ev_ci (ea_cons ev_ci ea_nil)))) ea_nil)) (by decide) fun z p => ?_) ea_nil))) fun as h => ?_) fun r h => ?_) ?_
    · obtain ⟨x, hx, rfl⟩ := p
      simp only [List.mem_cons, List.not_mem_nil, or_false] at hx
      rcases hx with rfl | rfl | rfl
      · exact ⟨2, rfl, by decide, by decide⟩
      · exact ⟨5, rfl, by decide, by decide⟩
      · exact ⟨60, rfl, by decide, by decide⟩
    · obtain ⟨bs, rfl, cs, rfl, y, rfl, n, rfl, n0, n1⟩ := h
      refine ⟨(m, n), rfl, ⟨by omega, by omega, n0, by omega⟩, fun r p => ?_⟩
      obtain ⟨v, e, hl, hv⟩ := p
      exact ⟨v, e, hl, fun x hx => by have h : -n ≤ x ∧ x ≤ n := hv x hx; omega⟩
    · obtain ⟨v, rfl, hl, hv⟩ := h
      exact ⟨trivial, v, rfl, hl, hv⟩
    rintro d ⟨v, rfl, hl, hv⟩
    refine sd_ret (φ := fun r => ∃ ws, r = .d (tI ws) ∧ VWts m ws ∧ Nz ws) (ev_if (ρ := (· = !eqD (tI v) (tI (List.replicate m.toNat 0)))) (et_testD (ev_op ev_var (ev_is (ev_op (ev_tup [.int 0] (ea_cons ev_ci ea_nil)) ev_var (ro_repU (by decide) (by omega) (by decide))) (by rw [zeros_tI])) (ro_neD (plain_tI _) (plain_tI _) (Nat.le_trans (dep_tI _) (by decide)) (Nat.le_trans (dep_tI _) (by decide))))) (fun h => Ev.imp ev_var fun r e => ?_) fun h => (ev_op (ev_tup [.int 1] (ea_cons ev_ci ea_nil)) (ev_op (ev_tup [.int 0] (ea_cons ev_ci ea_nil)) (ev_op ev_var ev_ci ro_i0) (ro_repU (by decide) (by omega) (by decide))) (ro_catT ?_)).imp fun r e => ?_) fun r e => e
    · refine ⟨v, e, ⟨by omega, hv⟩, nz_of hl ?_⟩
      cases hh : eqD (tI v) (tI (List.replicate m.toNat 0)) with
      | false => rfl
      | true => rw [hh] at h; cases h
    · rcases hm with rfl | rfl <;> decide
    · rcases hm with rfl | rfl
      · exact ⟨[1, 0], e, ⟨rfl, by decide⟩, 1, by decide, by decide⟩
      · exact ⟨[1, 0, 0], e, ⟨rfl, by decide⟩, 1, by decide, by decide⟩
  · intro b a
    rfl
def spBox : Sp := spF bxF (fun b (a : Int × Int) => [.d (.obj b.a), .d (.int a.1), .d (.int a.2)]) (fun _ a => 0 ≤ a.1 ∧ a.1 ≤ 1000 ∧ 1 ≤ a.2 ∧ a.2 < 1000) fun _ a r => ∃ v : List Int, r = .d (tI v) ∧ v.length = a.1.toNat ∧ ∀ x ∈ v, 1 ≤ x ∧ x ≤ a.2
abbrev N__law_box : List Str := ["_law_box_here", "_law_dims", "_law_most", "_law_k"]
abbrev P__law_box : List Str := ["_law_box_here", "_law_dims", "_law_most"]
theorem sc__law_box : FnScope N__law_box P__law_box d__law_box.scope := ⟨rfl, rfl, rfl, by decide +kernel, rfl, by decide +kernel, by decide +kernel⟩
theorem b__law_box (kV doc pm : Value) (an : Option Addr) (cdv ct : Value) (us : List Value) (hl : us.length = P__law_box.length) : bindArgs (PySem.W.fnOf d__law_box.name d__law_box.qual d__law_box.params d__law_box.body d__law_box.scope .none kV doc pm an cdv ct) ⟨us, []⟩ = pure (P__law_box.zip us) := match us, hl with
  | [_, _, _], _ => rfl
theorem c__law_box (W : Wf w K mg) : Cal P w K mg base 2 "_law_box" P__law_box spBox := by
  have nd := sc__law_box.nd
  refine W.calF (d := d__law_box) (N := N__law_box) 68 60 rfl rfl sc__law_box b__law_box ?_ ?_
  rotate_left
  · intro f cdv A outer s H E hr
    refine ⟨_, (pss_one (ps_ret (pe_callTy (k_tuple (K := K) rfl) rfl (W.free 82 rfl) (by decide +kernel) (pa_cons (pe_lc (own := [("_law_k", 3)]) (tt := tYes) rfl nd (pi_range1 rfl (W.free 77 rfl) (pa_cons (pv 1) pa_nil)) (blkOk_by (N := N__law_box) (sc := d__law_box.scope) (by decide +kernel)) (fun _ _ _ _ _ => (pg_name (i := 3) nd rfl (Or.inl rfl))) (fun _ _ _ _ _ => pts_nil) (fun _ _ _ _ _ => (pe_op op_add pe_int (pe_cal (c__law_draw W) (hr.mono (by decide)) rfl (pa_cons (pv 0) (pa_cons (pv 2) pa_nil)))))) pa_nil)))), ?_⟩
    rintro b ⟨m, n⟩ ⟨h1, h2, h3, h4⟩
    have h1 : 0 ≤ m := h1
    have h2 : m ≤ 1000 := h2
    have h3 : 1 ≤ n := h3
    have h4 : n < 1000 := h4
    refine sd_ret (ev_vec (n := m.toNat) (p := fun z => 1 ≤ z ∧ z ≤ n) ((src_rng1 (n := m) (ea_cons ev_var ea_nil) (by omega)).imp fun xs e => by rw [e, ints_len]) (lt_line (by omega)) fun xs _ x hx => ⟨_, _, tg_nm, by decide, ?_⟩) fun r e => e
    refine ev_opG (φ := (· = .d (.int 1))) (ψ := fun r => ∃ k, r = .d (.int k) ∧ 0 ≤ k ∧ k < n) ev_ci (ev_fnF b n (ea_cons ev_var (ea_cons ev_var ea_nil)) ⟨h3, by omega⟩ fun z p => p) fun x y ex ey => ?_
    obtain ⟨k, rfl, k0, k1⟩ := ey
    subst ex
    exact fun Hb H vx vy Q a b c d e q => ro_i0 Hb H vx vy Q a b c d e fun v H2 z k' j r ez => q v H2 z k' j r ⟨_, ez, _, rfl, by omega, by omega⟩
  · intro b a
    rfl
end
end Wb
/-! WbV4 -/
set_option maxHeartbeats 4000000
namespace Wb
open PySem PySem.Spec PyProof.Rows L2
theorem mul_rng {xs ys : List Int} {n : Nat} (h1 : xs.length = n) (h2 : ys.length = n) : ((rngI 0 n).map fun k => xs.getD k.toNat 0 * ys.getD k.toNat 0).sum = dotI xs ys := by
  unfold dotI
  congr 1
  unfold rngI
  rw [List.map_map]
  refine List.ext_getElem (by simp [h1, h2]) fun i a b => ?_
  have hx : i < xs.length := by simp at a; omega
  have hy : i < ys.length := by omega
  rw [List.getElem_map, List.getElem_map, List.getElem_zip, List.getElem_range]
  show xs.getD ((0 : Int) + (i : Int)).toNat 0 * ys.getD ((0 : Int) + (i : Int)).toNat 0 = xs[i] * ys[i]
  have e : ((0 : Int) + (i : Int)).toNat = i := by omega
  rw [e, List.getD_eq_getElem?_getD, List.getD_eq_getElem?_getD, List.getElem?_eq_getElem hx, List.getElem?_eq_getElem hy]
  rfl
structure RPre (m : Int) (ws : List Int) (here : Int) (sts : List Int) : Prop where
  dim : m = 2 ∨ m = 3
  wts : VWts m ws
  nz : Nz ws
  hr : 0 ≤ here ∧ here ≤ 3
  st : ∀ s ∈ sts, 0 ≤ s ∧ s ≤ 3
  n1 : 1 ≤ sts.length
  n6 : sts.length ≤ 6
def RPost (m : Int) (ws : List Int) (here : Int) (sts : List Int) (r : SV) : Prop := ∃ q : Rdt, r = .d (readD q) ∧ 0 ≤ q.1 ∧ q.1 < sts.length ∧ (q.2.length : Int) = m ∧ (∀ d ∈ q.2, -4 ≤ d ∧ d ≤ 4) ∧ 1 ≤ dotI ws q.2 + here - sts.getD q.1.toNat 0
section
variable {P : Program} {w : World} {K : PySem.W.Frag} {mg : Str → Option Value} {base : Heap}
abbrev N__law_read : List Str := ["_law_box_here", "_law_dims", "_law_weights_here", "_law_here", "_law_starts", "_law_source", "_law_distance", "_law_turn", "_law_gain", "_law_k", "_law_item", "_law_axis", "_law_step"]
abbrev P__law_read : List Str := ["_law_box_here", "_law_dims", "_law_weights_here", "_law_here", "_law_starts"]
theorem sc__law_read : FnScope N__law_read P__law_read d__law_read.scope := ⟨rfl, rfl, rfl, by decide +kernel, rfl, by decide +kernel, by decide +kernel⟩
theorem b__law_read (kV doc pm : Value) (an : Option Addr) (cdv ct : Value) (us : List Value) (hl : us.length = P__law_read.length) : bindArgs (PySem.W.fnOf d__law_read.name d__law_read.qual d__law_read.params d__law_read.body d__law_read.scope .none kV doc pm an cdv ct) ⟨us, []⟩ = pure (P__law_read.zip us) := match us, hl with
  | [_, _, _, _, _], _ => rfl
def spRead : Sp := spF bxF (fun b (a : Int × List Int × Int × List Int) => [.d (.obj b.a), .d (.int a.1), .d (tI a.2.1), .d (.int a.2.2.1), .d (tI a.2.2.2)]) (fun _ a => RPre a.1 a.2.1 a.2.2.1 a.2.2.2) fun _ a r => RPost a.1 a.2.1 a.2.2.1 a.2.2.2 r
theorem c__law_read (W : Wf w K mg) : Cal P w K mg base 3 "_law_read" P__law_read spRead := by
  have nd := sc__law_read.nd
  refine W.calF (d := d__law_read) (N := N__law_read) 65 57 rfl rfl sc__law_read b__law_read ?_ ?_
  rotate_left
  · intro f cdv A outer s H E hr
    refine ⟨_, (pss_cons (ps_asg (pe_tup (pa_cons (pe_cal (c__law_draw W) (hr.mono (by decide)) rfl (pa_cons (pv 0) (pa_cons (pe_callB (k_len (K := K) rfl) rfl (W.free 73 rfl) (by decide +kernel) (pa_cons (pv 4) pa_nil)) pa_nil))) (pa_cons (pe_cal (c__law_vector W) (hr.mono (by decide)) rfl (pa_cons (pv 0) (pa_cons (pv 1) (pa_cons pe_int pa_nil)))) pa_nil))) (k_pg (K := K) (n := 2) rfl rfl (pgs_cons (pg_name (i := 5) nd rfl (Or.inl rfl)) (pgs_cons (pg_name (i := 6) nd rfl (Or.inr rfl)) pgs_nil)))) (pss_cons (ps_for PassesOwn.never rfl (pi_range1 rfl (W.free 77 rfl) (pa_cons pe_int pa_nil)) (pg_name (i := 7) nd rfl (Or.inl rfl)) (pss_cons (ps_set (i := 8) nd rfl (Or.inl rfl) (pe_callB (k_sum (K := K) rfl rfl) rfl (W.free 81 rfl) (by decide +kernel) (pa_cons (pe_lc (own := [("_law_k", 9)]) (tt := tYes) rfl nd (pi_range1 rfl (W.free 77 rfl) (pa_cons (pv 1) pa_nil)) (blkOk_by (N := N__law_read) (sc := d__law_read.scope) (by decide +kernel)) (fun _ _ _ _ _ => (pg_name (i := 9) nd rfl (Or.inl rfl))) (fun _ _ _ _ _ => pts_nil) (fun _ _ _ _ _ => (pe_op op_mul (pe_ix (k_ixT (K := K) rfl) (pv 2) (pv 9) (fun _ _ => rfl)) (pe_ix (k_ixT (K := K) rfl) (pv 6) (pv 9) (fun _ _ => rfl))))) pa_nil))) (pss_cons (ps_if (pt_cmpR op_ge (pe_op op_sub (pe_op op_add (pv 8) (pv 3)) (pe_ix (k_ixT (K := K) rfl) (pv 4) (pv 5) (fun _ _ => rfl))) pe_int (nomark _)) (pss_one (ps_ret (pe_tup (pa_cons (pv 5) (pa_cons (pv 6) pa_nil))))) pss_nil) (pss_one (ps_set (i := 6) nd rfl (Or.inr rfl) (pe_ifExp (pt_cmpR op_eq (pv 7) pe_int (nomark _)) (pe_callTy (k_tuple (K := K) rfl) rfl (W.free 82 rfl) (by decide +kernel) (pa_cons (pe_lc (own := [("_law_item", 10)]) (tt := tYes) rfl nd (k_piT (K := K) rfl (pv 6)) (blkOk_by (N := N__law_read) (sc := d__law_read.scope) (by decide +kernel)) (fun _ _ _ _ _ => (pg_name (i := 10) nd rfl (Or.inl rfl))) (fun _ _ _ _ _ => pts_nil) (fun _ _ _ _ _ => (pe_un un_neg (pv 10)))) pa_nil)) (pe_cal (c__law_vector W) (hr.mono (by decide)) rfl (pa_cons (pv 0) (pa_cons (pv 1) (pa_cons pe_int pa_nil)))))))))) (pss_cons (ps_set (i := 11) nd rfl (Or.inr rfl) (pe_ix (k_ixL (K := K) rfl) (pe_lc (own := [("_law_k", 9)]) rfl nd (pi_range1 rfl (W.free 77 rfl) (pa_cons (pv 1) pa_nil)) (blkOk_by (N := N__law_read) (sc := d__law_read.scope) (by decide +kernel)) (fun _ _ _ _ _ => (pg_name (i := 9) nd rfl (Or.inl rfl))) (fun _ _ _ _ _ => (pts_one (pt_cmpR op_ne (pe_ix (k_ixT (K := K) rfl) (pv 2) (pv 9) (fun _ _ => rfl)) pe_int (nomark _)))) (fun _ _ _ _ _ => (pv 9))) pe_int (fun _ _ => rfl))) (pss_cons (ps_set (i := 12) nd rfl (Or.inr rfl) (pe_ifExp (pt_cmpR op_gt (pe_ix (k_ixT (K := K) rfl) (pv 2) (pv 11) (fun _ _ => rfl)) pe_int (nomark _)) pe_int (pe_un un_neg pe_int))) (pss_one (ps_ret (pe_tup (pa_cons (pv 5) (pa_cons (pe_callTy (k_tuple (K := K) rfl) rfl (W.free 82 rfl) (by decide +kernel) (pa_cons (pe_lc (own := [("_law_k", 9)]) (tt := tYes) rfl nd (pi_range1 rfl (W.free 77 rfl) (pa_cons (pv 1) pa_nil)) (blkOk_by (N := N__law_read) (sc := d__law_read.scope) (by decide +kernel)) (fun _ _ _ _ _ => (pg_name (i := 9) nd rfl (Or.inl rfl))) (fun _ _ _ _ _ => pts_nil) (fun _ _ _ _ _ => (pe_op op_mul (pv 12) (pe_callTy k_int rfl (W.free 71 rfl) (by decide +kernel) (pa_cons (pe_cmpR op_eq (pv 9) (pv 11) (nomark _)) pa_nil))))) pa_nil)) pa_nil))))))))), ?_⟩
    rintro b ⟨m, ws, here, sts⟩ pre
    have pre : RPre m ws here sts := pre
    have hm := pre.dim
    have hwl : ws.length = m.toNat := by have := pre.wts.1; omega
    have hvec : ∀ {ds : Ds}, ds[0]? = some (some (.d (.obj b.a))) → ds[1]? = some (some (.d (.int m))) → Ev (bxF b) (tCall spVec [] E0 (tCons (tVar 0) (tCons (tVar 1) (tCons (tC (.int 2)) tNil)))) ds fun r => ∃ v : List Int, r = .d (tI v) ∧ v.length = m.toNat ∧ ∀ x ∈ v, -4 ≤ x ∧ x ≤ 4 := fun {ds} e0 e1 => ev_fnF b (m, 2) (ea_cons (ev_var e0) (ea_cons (ev_var e1) (ea_cons ev_ci ea_nil))) ⟨by omega, by omega, (show (0 : Int) ≤ 2 by decide), (show (2 : Int) < 400000 by decide)⟩ fun z p => by
      obtain ⟨v, e, hl, hv⟩ := p
      exact ⟨v, e, hl, fun x hx => by have h : -2 ≤ x ∧ x ≤ 2 := hv x hx; omega⟩
    refine sd_seq (M := fun d => ∃ (k : Int) (v : List Int), d = [some (.d (.obj b.a)), some (.d (.int m)), some (.d (tI ws)), some (.d (.int here)), some (.d (tI sts)), some (.d (.int k)), some (.d (tI v)), none, none, none, none, none, none] ∧ 0 ≤ k ∧ k < sts.length ∧ v.length = m.toNat ∧ ∀ x ∈ v, -4 ≤ x ∧ x ≤ 4)
      (sd_asgG (φ := fun r => ∃ (k : Int) (v : List Int), r = .d (.tup [.int k, tI v]) ∧ 0 ≤ k ∧ k < sts.length ∧ v.length = m.toNat ∧ ∀ x ∈ v, -4 ≤ x ∧ x ≤ 4) (ev_tupG (ea_consG (ω := fun as => ∃ (k : Int) (v : List Int), as = [.d (.int k), .d (tI v)] ∧ 0 ≤ k ∧ k < sts.length ∧ v.length = m.toNat ∧ ∀ x ∈ v, -4 ≤ x ∧ x ≤ 4) (φ := fun r => ∃ k, r = .d (.int k) ∧ 0 ≤ k ∧ k < (sts.length : Int)) (ev_fnF b (sts.length : Int) (ea_cons ev_var (ea_cons (ev_is (ev_call_b (ea_cons ev_var ea_nil) (rcl_len (.tup _))) (by rw [List.length_map])) ea_nil)) ⟨by have := pre.n1; omega, by have := pre.n6; omega⟩ fun z p => p) (ea_r (hvec rfl rfl) ea_nil) fun x xs h1 h2 => ?_) fun rs h => ?_) fun r h => ?_) ?_
    · obtain ⟨k, rfl, k0, k1⟩ := h1
      obtain ⟨y, rfl, v, rfl, hl, hv⟩ := h2
      exact ⟨k, v, rfl, k0, k1, hl, hv⟩
    · obtain ⟨k, v, rfl, k0, k1, hl, hv⟩ := h
      exact ⟨[.int k, tI v], rfl, (show 2 ≤ sizeLine by decide), k, v, rfl, k0, k1, hl, hv⟩
    · obtain ⟨k, v, rfl, k0, k1, hl, hv⟩ := h
      exact ⟨_, _, _, rfl, tg_tup (tgs_cons tg_nm (tgs_cons tg_nm tgs_nil)), k, v, rfl, k0, k1, hl, hv⟩
    rintro d ⟨k, v, rfl, k0, k1, hl, hv⟩
    have hst : atI (sts.map D.int) k = some (.int (sts.getD k.toNat 0)) := at_tI k0 k1
    have hs3 : 0 ≤ sts.getD k.toNat 0 ∧ sts.getD k.toNat 0 ≤ 3 := by
      have hkl : k.toNat < sts.length := by omega
      rw [getD_at hkl]
      exact pre.st _ (List.getElem_mem _)
    refine sd_seq (M := fun d => ∃ (v : List Int) (o7 o8 : Option SV), d = [some (.d (.obj b.a)), some (.d (.int m)), some (.d (tI ws)), some (.d (.int here)), some (.d (tI sts)), some (.d (.int k)), some (.d (tI v)), o7, o8, none, none, none, none])
      (sd_for (fun _ _ d => ∃ (v : List Int) (o7 o8 : Option SV), d = [some (.d (.obj b.a)), some (.d (.int m)), some (.d (tI ws)), some (.d (.int here)), some (.d (tI sts)), some (.d (.int k)), some (.d (tI v)), o7, o8, none, none, none, none] ∧ v.length = m.toNat ∧ ∀ x ∈ v, -4 ≤ x ∧ x ≤ 4) (src_rng1 (n := 4) (ea_cons ev_ci ea_nil) (by decide)) (fun xs e => ⟨v, _, _, rfl, hl, hv⟩) ?_ ?_) ?_
    · rintro xs i x ds1 rfl hx ⟨v, o7, o8, rfl, hl, hv⟩
      have hi : i < 4 := by
        have := (List.getElem?_eq_some_iff.mp hx).1
        rwa [ints_len] at this
      rw [show (4 : Int).toNat = 4 from rfl, ints_at hi] at hx
      cases hx
      refine ⟨_, _, tg_nm, ?_⟩
      refine sd_seqE (ds1 := [some (.d (.obj b.a)), some (.d (.int m)), some (.d (tI ws)), some (.d (.int here)), some (.d (tI sts)), some (.d (.int k)), some (.d (tI v)), some (.d (.int (0 + i))), some (.d (.int (dotI ws v))), none, none, none, none]) (sd_setE (ev_is (ev_call_b (ea_cons (ev_lcM (zs := rngI 0 m.toNat) .int (fun k => .int (ws.getD k.toNat 0 * v.getD k.toNat 0)) int_inj (EvI.cast (src_rng1 (n := m) (ea_cons ev_var ea_nil) (by omega)) (intsD_eq _ _)) (lt_line (by rw [rngI_len]; omega)) fun k hk => ⟨_, _, tg_nm, by decide, ev_op (ev_op ev_var ev_var (ro_ixT (at_rng hk hwl.symm))) (ev_op ev_var ev_var (ro_ixT (at_rng hk hl.symm))) (ro_i (.inl ?_))⟩) ea_nil) (rcl_sum (ns := (rngI 0 m.toNat).map fun k => ws.getD k.toNat 0 * v.getD k.toNat 0) (.inl (by rw [List.map_map]; rfl)))) (by rw [mul_rng hwl hl])) rfl) ?_
      · obtain ⟨k1, k2⟩ := mem_rngI.mp hk
        have hkl : k.toNat < ws.length := by omega
        have := pre.wts.2 _ (List.getElem_mem hkl)
        rw [getD_at hkl]
        omega
      refine sd_seq (M := fun d => d = [some (.d (.obj b.a)), some (.d (.int m)), some (.d (tI ws)), some (.d (.int here)), some (.d (tI sts)), some (.d (.int k)), some (.d (tI v)), some (.d (.int (0 + i))), some (.d (.int (dotI ws v))), none, none, none, none]) (sd_if (ρ := (· = decide (dotI ws v + here - sts.getD k.toNat 0 ≥ 1))) (et_testD (ev_op (ev_op (ev_op ev_var ev_var ro_i0) (ev_op ev_var ev_var (ro_ixT hst)) ro_i0) ev_ci ro_b0)) (fun h => sd_ret (φ := RPost m ws here sts) ((ev_tup [.int k, tI v] (ea_cons ev_var (ea_cons ev_var ea_nil))).imp fun r e => ⟨(k, v), e, k0, k1, by show (v.length : Int) = m; omega, hv, ?_⟩) fun r e => e) fun h => sd_next rfl) ?_
      · have := of_decide_eq_true h.symm
        exact this
      rintro d rfl
      refine sd_set (φ := fun r => ∃ v : List Int, r = .d (tI v) ∧ v.length = m.toNat ∧ ∀ x ∈ v, -4 ≤ x ∧ x ≤ 4) (ev_if (ρ := fun _ => True) (EvT.imp (et_testD (ev_op ev_var ev_ci (ro_eq rfl rfl rfl))) fun _ _ => trivial) (fun _ => ?_) fun _ => hvec rfl rfl) fun r h => ?_
      · refine (ev_call_b (ea_cons (ev_lcM (zs := v) .int (fun x => .int (-x)) int_inj (src_tup ev_var) (lt_line (by omega)) fun x hx => ⟨_, _, tg_nm, by decide, ev_un ev_var ru_i⟩) ea_nil) (rcl_tuple (.own _))).imp fun r e => ⟨v.map fun x => -x, by rw [e]; unfold tI; rw [List.map_map]; rfl, by rw [List.length_map]; exact hl, fun x hx => ?_⟩
        obtain ⟨y, hy, rfl⟩ := List.mem_map.mp hx
        have := hv y hy
        omega
      · obtain ⟨v', rfl, hl', hv'⟩ := h
        exact ⟨trivial, v', _, _, rfl, hl', hv'⟩
    · rintro xs ds1 e ⟨v, o7, o8, rfl, _⟩
      exact ⟨v, o7, o8, rfl⟩
    rintro d ⟨v, o7, o8, rfl⟩
    have nzp : ∀ z : Int, (!decide (V.int z = V.int 0)) = true ↔ z ≠ 0 := fun z => by
      constructor
      · intro h e
        subst e
        simp at h
      · intro h
        have : ¬ V.int z = V.int 0 := fun e => h (V.int.inj e)
        simp [this]
    cases hfl : (rngI 0 m.toNat).filter (fun k => !decide (V.int (ws.getD k.toNat 0) = V.int 0)) with
    | nil =>
      obtain ⟨x, hx, hx0⟩ := pre.nz
      obtain ⟨i, hi, rfl⟩ := List.getElem_of_mem hx
      rw [List.filter_eq_nil_iff] at hfl
      refine absurd ((nzp _).mpr ?_) (hfl (i : Int) (mem_rngI.mpr ⟨by omega, by omega⟩))
      rw [Int.toNat_natCast, getD_at hi]
      exact hx0
    | cons ax rest =>
    have hax : ax ∈ (rngI 0 m.toNat).filter (fun k => !decide (V.int (ws.getD k.toNat 0) = V.int 0)) := by rw [hfl]; exact List.mem_cons_self
    obtain ⟨hr, hp⟩ := List.mem_filter.mp hax
    obtain ⟨a0, a1⟩ := mem_rngI.mp hr
    have hne := (nzp _).mp hp
    refine sd_seqE (ds1 := [some (.d (.obj b.a)), some (.d (.int m)), some (.d (tI ws)), some (.d (.int here)), some (.d (tI sts)), some (.d (.int k)), some (.d (tI v)), o7, o8, none, none, some (.d (.int ax)), none]) (sd_setE (ev_op (ev_lcMIf (zs := rngI 0 m.toNat) .int .int (fun k => !decide (V.int (ws.getD k.toNat 0) = V.int 0)) int_inj (fun d => match d with | .int i => i | _ => 0) (fun _ => rfl) (EvI.cast (src_rng1 (n := m) (ea_cons ev_var ea_nil) (by omega)) (intsD_eq _ _)) (lt_line (by rw [rngI_len]; omega)) fun k hk => ⟨_, _, tg_nm, by decide, et_testD (ev_op (ev_op ev_var ev_var (ro_ixT (at_rng hk hwl.symm))) ev_ci (ro_ne rfl rfl rfl)), fun _ => ev_var⟩) ev_ci (ro_ixL (.inl rfl) (by rw [hfl]; exact at0))) rfl) ?_
    have haxl : ax.toNat < ws.length := by omega
    have hwat : atI (ws.map D.int) ax = some (.int (ws.getD ax.toNat 0)) := at_tI a0 (by omega)
    obtain ⟨stp, hstp, hgt⟩ : ∃ stp : Int, stp = (if ws.getD ax.toNat 0 > 0 then 4 else -4) ∧ 4 ≤ stp * ws.getD ax.toNat 0 ∧ -4 ≤ stp ∧ stp ≤ 4 := by
      refine ⟨_, rfl, ?_⟩
      by_cases h : ws.getD ax.toNat 0 > 0
      · rw [if_pos h]; omega
      · rw [if_neg h]; omega
    refine sd_seqE (ds1 := [some (.d (.obj b.a)), some (.d (.int m)), some (.d (tI ws)), some (.d (.int here)), some (.d (tI sts)), some (.d (.int k)), some (.d (tI v)), o7, o8, none, none, some (.d (.int ax)), some (.d (.int stp))]) (sd_setE (ev_if (ρ := (· = decide (ws.getD ax.toNat 0 > 0))) (et_testD (ev_op (ev_op ev_var ev_var (ro_ixT hwat)) ev_ci ro_b0)) (fun h => ev_is ev_ci ?_) (fun h => ev_is (ev_un ev_ci ru_i) ?_)) rfl) ?_
    · rw [hstp, if_pos (of_decide_eq_true h.symm)]
    · rw [hstp, if_neg (of_decide_eq_false h.symm)]
    refine sd_ret (φ := RPost m ws here sts) ((ev_tup [.int k, tI ((rngI 0 m.toNat).map fun k => stp * (if k = ax then 1 else 0))] (ea_cons ev_var (ea_cons (ev_is (ev_call_b (ea_cons (ev_lcM (zs := rngI 0 m.toNat) .int (fun k => .int (stp * (if decide (V.int k = V.int ax) then 1 else 0))) int_inj (EvI.cast (src_rng1 (n := m) (ea_cons ev_var ea_nil) (by omega)) (intsD_eq _ _)) (lt_line (by rw [rngI_len]; omega)) fun k hk => ⟨_, _, tg_nm, by decide, ev_op ev_var (ev_call_b (ea_cons (ev_op ev_var ev_var (ro_eq rfl rfl rfl)) ea_nil) rcl_intB) (ro_i (.inl (by omega)))⟩) ea_nil) (rcl_tuple (.own _))) ?_) ea_nil))).imp fun r e => ⟨(k, (rngI 0 m.toNat).map fun k => stp * (if k = ax then 1 else 0)), e, k0, k1, ?_, ?_, ?_⟩) fun r e => e
    · unfold tI
      rw [List.map_map]
      congr 2
      refine List.map_congr_left fun k _ => ?_
      show D.int _ = D.int _
      congr 2
      by_cases h : k = ax
      · simp [h]
      · have : ¬ V.int k = V.int ax := fun e => h (V.int.inj e)
        simp [h, this]
    · show ((((rngI 0 m.toNat).map fun k => stp * (if k = ax then 1 else 0)).length : Nat) : Int) = m
      rw [List.length_map, rngI_len]
      omega
    · intro d hd
      obtain ⟨k', _, rfl⟩ := List.mem_map.mp hd
      by_cases h : k' = ax
      · rw [if_pos h]; omega
      · rw [if_neg h]; omega
    · have hdot : dotI ws ((rngI 0 m.toNat).map fun k => stp * (if k = ax then 1 else 0)) = stp * ws.getD ax.toNat 0 := by
        rcases hm with rfl | rfl
        · match ws, hwl with
          | [x, y], _ =>
            have : ax = 0 ∨ ax = 1 := by simp at a1; omega
            rcases this with rfl | rfl <;> simp [dotI, rngI, List.range, List.range.loop] <;> rw [Int.mul_comm]
        · match ws, hwl with
          | [x, y, z], _ =>
            have : ax = 0 ∨ ax = 1 ∨ ax = 2 := by simp at a1; omega
            rcases this with rfl | rfl | rfl <;> simp [dotI, rngI, List.range, List.range.loop] <;> rw [Int.mul_comm]
      show 1 ≤ dotI ws ((rngI 0 m.toNat).map fun k => stp * (if k = ax then 1 else 0)) + here - sts.getD k.toNat 0
      rw [hdot]
      have := pre.hr
      omega
  · intro b a
    rfl
end
end Wb
/-! WbV5 -/
set_option maxHeartbeats 4000000
namespace Wb
open PySem PySem.Spec PyProof.Rows L2
theorem paired_fam {α β : Type} {f : β → D} {p : β → Prop} : ∀ {xs : List α} {ys : List D}, Paired (fun _ y => ∃ z, y = f z ∧ p z) xs ys → ∃ v : List β, ys = v.map f ∧ v.length = xs.length ∧ ∀ z ∈ v, p z
  | _, _, .nil => ⟨[], rfl, rfl, fun _ h => nomatch h⟩
  | _, _, .cons ⟨z, e, hz⟩ t => by
    obtain ⟨v, h1, h2, h3⟩ := paired_fam t
    refine ⟨z :: v, by rw [e, h1]; rfl, by rw [List.length_cons, List.length_cons, h2], fun y hy => ?_⟩
    rcases List.mem_cons.mp hy with rfl | hy
    · exact hz
    · exact h3 y hy
def kindL : List Str := ["copy", "neg", "add", "sub", "mul", "least", "most", "madd"]
theorem kind_of {k : Str} (h : k ∈ kindL) : ∃ n : Int, (k, n) ∈ kindsT ∧ 1 ≤ n ∧ n ≤ 3 := by
  unfold kindL at h
  have key : ∀ k ∈ kindL, k ∈ kindsT.map (·.1) := by decide +kernel
  obtain ⟨p, hp, rfl⟩ := List.mem_map.mp (key k h)
  exact ⟨p.2, hp, kinds_few hp⟩
/-- the rules so far -/
structure RulesOk (m : Int) (many : Nat) (ws sts : List Int) (rs : List Rul) : Prop where
  rule : ∀ r ∈ rs, VRule m many r
  delay : ∀ (j : Nat) r, rs[j]? = some r → ∀ q ∈ r.2, 1 ≤ dotI ws q.2 + sts.getD j 0 - sts.getD q.1.toNat 0
theorem RulesOk.beats {m : Int} {ws sts : List Int} {rs : List Rul} (h : RulesOk m rs.length ws sts rs) (hm : m = 2 ∨ m = 3) (h1 : 1 ≤ rs.length) (h6 : rs.length ≤ 6) (hw : VWts m ws) (hs : sts.length = rs.length) (hst : ∀ s ∈ sts, 0 ≤ s ∧ s ≤ 3) : VFlow (m, rs) ∧ VBeats (m, rs) (ws, sts) := by
  refine ⟨⟨hm, h1, h6, h.rule⟩, ⟨hw, hs, fun x hx => by have h := hst x hx; omega, fun r hr => ?_⟩⟩
  obtain ⟨p, hp, hr⟩ := List.mem_flatMap.mp hr
  obtain ⟨q, hq, rfl⟩ := List.mem_map.mp hr
  have e1 := mem_zi1 hp
  have e2 := mem_zi1 hq
  exact h.delay p.2 p.1 e1 q.1 (List.mem_of_getElem? e2)
theorem RulesOk.snoc {m : Int} {many : Nat} {ws sts : List Int} {rs : List Rul} {r : Rul} (h : RulesOk m many ws sts rs) (hr : VRule m many r) (hd : ∀ q ∈ r.2, 1 ≤ dotI ws q.2 + sts.getD rs.length 0 - sts.getD q.1.toNat 0) : RulesOk m many ws sts (rs ++ [r]) := by
  refine ⟨fun r' h' => ?_, fun j r' hj q hq => ?_⟩
  · rcases List.mem_append.mp h' with h' | h'
    · exact h.rule r' h'
    · rw [List.mem_singleton.mp h']; exact hr
  · rw [List.getElem?_append] at hj
    split at hj
    · exact h.delay j r' hj q hq
    · rename_i hlt
      have hj1 : j - rs.length = 0 := by
        have := (List.getElem?_eq_some_iff.mp hj).1
        simp at this
        omega
      rw [hj1] at hj
      cases hj
      have : j = rs.length := by omega
      rw [this]
      exact hd q hq
section
variable {P : Program} {w : World} {K : PySem.W.Frag} {mg : Str → Option Value} {base : Heap}
abbrev N__law_served : List Str := ["_law_box_here", "_law_most", "_law_dims", "_law_many", "_law_weights_here", "_law_starts", "_law_k", "_law_rules", "_law_plane", "_law_kind", "_law_reads_here"]
abbrev P__law_served : List Str := ["_law_box_here", "_law_most"]
theorem sc__law_served : FnScope N__law_served P__law_served d__law_served.scope := ⟨rfl, rfl, rfl, by decide +kernel, rfl, by decide +kernel, by decide +kernel⟩
theorem b__law_served (kV doc pm : Value) (an : Option Addr) (cdv ct : Value) (us : List Value) (hl : us.length = P__law_served.length) : bindArgs (PySem.W.fnOf d__law_served.name d__law_served.qual d__law_served.params d__law_served.body d__law_served.scope .none kV doc pm an cdv ct) ⟨us, []⟩ = pure (P__law_served.zip us) := match us, hl with
  | [_, _], _ => rfl
def spServed : Sp := spF bxF (fun b (n : Int) => [.d (.obj b.a), .d (.int n)]) (fun _ n => 1 ≤ n ∧ n ≤ 5) fun _ _ r => ∃ f t, r = .own [flowD f, timD t] ∧ VFlow f ∧ VBeats f t
theorem c__law_served (W : Wf w K mg) : Cal P w K mg base 4 "_law_served" P__law_served spServed := by
  have nd := sc__law_served.nd
  refine W.calF (d := d__law_served) (N := N__law_served) 66 58 rfl rfl sc__law_served b__law_served ?_ ?_
  rotate_left
  · intro f cdv A outer s H E hr
    refine ⟨_, (pss_cons (ps_asg (pe_tup (pa_cons (pe_op op_add pe_int (pe_cal (c__law_draw W) (hr.mono (by decide)) rfl (pa_cons (pv 0) (pa_cons pe_int pa_nil)))) (pa_cons (pe_op op_add pe_int (pe_cal (c__law_draw W) (hr.mono (by decide)) rfl (pa_cons (pv 0) (pa_cons (pv 1) pa_nil)))) pa_nil))) (k_pg (K := K) (n := 2) rfl rfl (pgs_cons (pg_name (i := 2) nd rfl (Or.inr rfl)) (pgs_cons (pg_name (i := 3) nd rfl (Or.inl rfl)) pgs_nil)))) (pss_cons (ps_asg (pe_tup (pa_cons (pe_cal (c__law_weights W) (hr.mono (by decide)) rfl (pa_cons (pv 0) (pa_cons (pv 2) pa_nil))) (pa_cons (pe_callTy (k_tuple (K := K) rfl) rfl (W.free 82 rfl) (by decide +kernel) (pa_cons (pe_lc (own := [("_law_k", 6)]) (tt := tYes) rfl nd (pi_range1 rfl (W.free 77 rfl) (pa_cons (pv 3) pa_nil)) (blkOk_by (N := N__law_served) (sc := d__law_served.scope) (by decide +kernel)) (fun _ _ _ _ _ => (pg_name (i := 6) nd rfl (Or.inl rfl))) (fun _ _ _ _ _ => pts_nil) (fun _ _ _ _ _ => (pe_cal (c__law_draw W) (hr.mono (by decide)) rfl (pa_cons (pv 0) (pa_cons pe_int pa_nil))))) pa_nil)) pa_nil))) (k_pg (K := K) (n := 2) rfl rfl (pgs_cons (pg_name (i := 4) nd rfl (Or.inr rfl)) (pgs_cons (pg_name (i := 5) nd rfl (Or.inr rfl)) pgs_nil)))) (pss_cons (ps_set (i := 7) nd rfl (Or.inl rfl) (pe_lst pa_nil)) (pss_cons (ps_for PassesOwn.never rfl (pi_range1 rfl (W.free 77 rfl) (pa_cons (pv 3) pa_nil)) (pg_name (i := 8) nd rfl (Or.inr rfl)) (pss_cons (ps_set (i := 9) nd rfl (Or.inl rfl) (pe_cal (c__law_one W) (hr.mono (by decide)) rfl (pa_cons (pv 0) (pa_cons (pe_lst (pa_cons pe_str (pa_cons pe_str (pa_cons pe_str (pa_cons pe_str (pa_cons pe_str (pa_cons pe_str (pa_cons pe_str (pa_cons pe_str pa_nil))))))))) pa_nil)))) (pss_cons (ps_setLc (i := 10) (own := [("_law_k", 6)]) (tt := tYes) rfl nd rfl rfl (sw_true rfl rfl rfl (by decide +kernel)) (pi_range1 rfl (W.free 77 rfl) (pa_cons (pe_dget (hu1 hr) (pe_cal0 (c__law_kinds W) (hr.mono (by decide)) rfl) (pv 9) (fun _ _ => rfl)) pa_nil)) (blkOk_by (N := N__law_served) (sc := d__law_served.scope) (by decide +kernel)) (fun _ _ _ _ _ => (pg_name (i := 6) nd rfl (Or.inl rfl))) (fun _ _ _ _ _ => pts_nil) (fun _ _ _ _ _ => (pe_cal (c__law_read W) (hr.mono (by decide)) rfl (pa_cons (pv 0) (pa_cons (pv 2) (pa_cons (pv 4) (pa_cons (pe_ix (k_ixT (K := K) rfl) (pv 5) (pv 8) (fun _ _ => rfl)) (pa_cons (pv 5) pa_nil)))))))) (pss_one (ps_expr (pe_bm PySem.F.plainAttrs_list PySem.F.slot_list_append PySem.F.type_list_append mt_append (pv 7) (pa_cons (pe_op (k_catT (K := K) rfl) (pe_tup (pa_cons (pv 9) pa_nil)) (pe_callTy (k_tuple (K := K) rfl) rfl (W.free 82 rfl) (by decide +kernel) (pa_cons (pv 10) pa_nil))) pa_nil))))))) (pss_one (ps_ret (pe_lst (pa_cons (pe_tup (pa_cons (pv 2) (pa_cons (pe_callTy (k_tuple (K := K) rfl) rfl (W.free 82 rfl) (by decide +kernel) (pa_cons (pv 7) pa_nil)) pa_nil))) (pa_cons (pe_tup (pa_cons (pv 4) (pa_cons (pv 5) pa_nil))) pa_nil))))))))), ?_⟩
    rintro b n ⟨n1, n5⟩
    have n1 : 1 ≤ n := n1
    have n5 : n ≤ 5 := n5
    refine sd_seq (M := fun d => ∃ (m k : Int), d = [some (.d (.obj b.a)), some (.d (.int n)), some (.d (.int m)), some (.d (.int k)), none, none, none, none, none, none, none] ∧ (m = 2 ∨ m = 3) ∧ 1 ≤ k ∧ k ≤ 5)
      (sd_asgG (φ := fun r => ∃ (m k : Int), r = .d (.tup [.int m, .int k]) ∧ (m = 2 ∨ m = 3) ∧ 1 ≤ k ∧ k ≤ 5) (ev_tupG (ea_consG (ω := fun as => ∃ (m k : Int), as = [.d (.int m), .d (.int k)] ∧ (m = 2 ∨ m = 3) ∧ 1 ≤ k ∧ k ≤ 5) (φ := fun r => ∃ m : Int, r = .d (.int m) ∧ (m = 2 ∨ m = 3)) (ev_opG (φ := (· = .d (.int 2))) (ψ := fun r => ∃ z, r = .d (.int z) ∧ 0 ≤ z ∧ z < 2) ev_ci (ev_fnF b 2 (ea_cons ev_var (ea_cons ev_ci ea_nil)) (by decide) fun z p => p) fun x y ex ey => ?_) (ea_r (φ := fun r => ∃ k : Int, r = .d (.int k) ∧ 1 ≤ k ∧ k ≤ 5) (ev_opG (φ := (· = .d (.int 1))) (ψ := fun r => ∃ z, r = .d (.int z) ∧ 0 ≤ z ∧ z < n) ev_ci (ev_fnF b n (ea_cons ev_var (ea_cons ev_var ea_nil)) ⟨n1, by omega⟩ fun z p => p) fun x y ex ey => ?_) ea_nil) fun x xs h1 h2 => ?_) fun rs h => ?_) fun r h => ?_) ?_
    · obtain ⟨z, rfl, z0, z1⟩ := ey
      subst ex
      exact fun Hb H vx vy Q a b c d e q => ro_i0 Hb H vx vy Q a b c d e fun v H2 z' k' j r ez => q v H2 z' k' j r ⟨_, ez, by omega⟩
    · obtain ⟨z, rfl, z0, z1⟩ := ey
      subst ex
      exact fun Hb H vx vy Q a b c d e q => ro_i0 Hb H vx vy Q a b c d e fun v H2 z' k' j r ez => q v H2 z' k' j r ⟨_, ez, by omega, by omega⟩
    · obtain ⟨m, rfl, hm⟩ := h1
      obtain ⟨y, rfl, k, rfl, k1, k5⟩ := h2
      exact ⟨m, k, rfl, hm, k1, k5⟩
    · obtain ⟨m, k, rfl, hm, k1, k5⟩ := h
      exact ⟨[.int m, .int k], rfl, (show 2 ≤ sizeLine by decide), m, k, rfl, hm, k1, k5⟩
    · obtain ⟨m, k, rfl, hm, k1, k5⟩ := h
      exact ⟨_, _, _, rfl, tg_tup (tgs_cons tg_nm (tgs_cons tg_nm tgs_nil)), m, k, rfl, hm, k1, k5⟩
    rintro d ⟨m, k, rfl, hm, k1, k5⟩
    refine sd_seq (M := fun d => ∃ ws sts : List Int, d = [some (.d (.obj b.a)), some (.d (.int n)), some (.d (.int m)), some (.d (.int k)), some (.d (tI ws)), some (.d (tI sts)), none, none, none, none, none] ∧ VWts m ws ∧ Nz ws ∧ sts.length = k.toNat ∧ ∀ s ∈ sts, 0 ≤ s ∧ s ≤ 3)
      (sd_asgG (φ := fun r => ∃ ws sts : List Int, r = .d (.tup [tI ws, tI sts]) ∧ VWts m ws ∧ Nz ws ∧ sts.length = k.toNat ∧ ∀ s ∈ sts, 0 ≤ s ∧ s ≤ 3) (ev_tupG (ea_consG (ω := fun as => ∃ ws sts : List Int, as = [.d (tI ws), .d (tI sts)] ∧ VWts m ws ∧ Nz ws ∧ sts.length = k.toNat ∧ ∀ s ∈ sts, 0 ≤ s ∧ s ≤ 3) (φ := fun r => ∃ ws, r = .d (tI ws) ∧ VWts m ws ∧ Nz ws) (ev_fnF b m (ea_cons ev_var (ea_cons ev_var ea_nil)) hm fun z p => p) (ea_r (φ := fun r => ∃ sts : List Int, r = .d (tI sts) ∧ sts.length = k.toNat ∧ ∀ s ∈ sts, 0 ≤ s ∧ s ≤ 3) (ev_vec (n := k.toNat) (p := fun s => 0 ≤ s ∧ s ≤ 3) ((src_rng1 (n := k) (ea_cons ev_var ea_nil) (by omega)).imp fun xs e => by rw [e, ints_len]) (lt_line (by omega)) fun xs _ x hx => ⟨_, _, tg_nm, by decide, ev_fnF b 4 (ea_cons ev_var (ea_cons ev_ci ea_nil)) (by decide) fun z p => ?_⟩) ea_nil) fun x xs h1 h2 => ?_) fun rs h => ?_) fun r h => ?_) ?_
    · obtain ⟨z, rfl, z0, z1⟩ := p
      exact ⟨_, rfl, z, rfl, z0, by have : z < 4 := z1; omega⟩
    · obtain ⟨ws, rfl, hw, hz⟩ := h1
      obtain ⟨y, rfl, sts, rfl, hl, hs⟩ := h2
      exact ⟨ws, sts, rfl, hw, hz, hl, hs⟩
    · obtain ⟨ws, sts, rfl, h⟩ := h
      exact ⟨[tI ws, tI sts], rfl, (show 2 ≤ sizeLine by decide), ws, sts, rfl, h⟩
    · obtain ⟨ws, sts, rfl, h⟩ := h
      exact ⟨_, _, _, rfl, tg_tup (tgs_cons tg_nm (tgs_cons tg_nm tgs_nil)), ws, sts, rfl, h⟩
    rintro d ⟨ws, sts, rfl, hw, hz, hl, hs⟩
    refine sd_seqE (sd_setE (ev_lst [] ea_nil) rfl) ?_
    refine sd_seq (M := fun d => ∃ (rs : List Rul) (o6 o8 o9 o10 : Option SV), d = [some (.d (.obj b.a)), some (.d (.int n)), some (.d (.int m)), some (.d (.int k)), some (.d (tI ws)), some (.d (tI sts)), o6, some (.own (rs.map ruleD)), o8, o9, o10] ∧ rs.length = k.toNat ∧ RulesOk m k.toNat ws sts rs)
      (sd_for (fun _ i d => ∃ (rs : List Rul) (o6 o8 o9 o10 : Option SV), d = [some (.d (.obj b.a)), some (.d (.int n)), some (.d (.int m)), some (.d (.int k)), some (.d (tI ws)), some (.d (tI sts)), o6, some (.own (rs.map ruleD)), o8, o9, o10] ∧ rs.length = i ∧ RulesOk m k.toNat ws sts rs) (src_rng1 (n := k) (ea_cons ev_var ea_nil) (by omega)) (fun xs e => ⟨[], _, _, _, _, rfl, rfl, ⟨(fun r h => nomatch h), (fun j r h => by simp at h)⟩⟩) ?_ ?_) ?_
    · rintro xs i x ds1 rfl hx ⟨rs, o6, o8, o9, o10, rfl, hrl, hrs⟩
      have hi : i < k.toNat := by
        have := (List.getElem?_eq_some_iff.mp hx).1
        rwa [ints_len] at this
      rw [ints_at hi] at hx
      cases hx
      refine ⟨_, _, tg_nm, ?_⟩
      refine sd_seq (M := fun d => ∃ (kd : Str) (nn : Int), d = [some (.d (.obj b.a)), some (.d (.int n)), some (.d (.int m)), some (.d (.int k)), some (.d (tI ws)), some (.d (tI sts)), o6, some (.own (rs.map ruleD)), some (.d (.int (0 + i))), some (.d (.str kd)), o10] ∧ (kd, nn) ∈ kindsT ∧ 1 ≤ nn ∧ nn ≤ 3)
        (sd_set (φ := fun r => ∃ (kd : Str) (nn : Int), r = .d (.str kd) ∧ (kd, nn) ∈ kindsT ∧ 1 ≤ nn ∧ nn ≤ 3) (ev_fnF b (kindL.map D.str) (ea_cons ev_var (ea_cons (ev_lst (kindL.map D.str) (ea_cons ev_cs (ea_cons ev_cs (ea_cons ev_cs (ea_cons ev_cs (ea_cons ev_cs (ea_cons ev_cs (ea_cons ev_cs (ea_cons ev_cs ea_nil)))))))) rfl (by decide)) ea_nil)) (by decide) fun z p => ?_) fun r h => ?_) ?_
      · obtain ⟨x, hx, rfl⟩ := p
        obtain ⟨kd, hkd, rfl⟩ := List.mem_map.mp hx
        obtain ⟨nn, h1, h2, h3⟩ := kind_of hkd
        exact ⟨kd, nn, rfl, h1, h2, h3⟩
      · obtain ⟨kd, nn, rfl, h⟩ := h
        exact ⟨trivial, kd, nn, rfl, h⟩
      rintro d ⟨kd, nn, rfl, hk, nn1, nn3⟩
      have hil : i < sts.length := by omega
      refine sd_seq (M := fun d => ∃ (qs : List Rdt), d = [some (.d (.obj b.a)), some (.d (.int n)), some (.d (.int m)), some (.d (.int k)), some (.d (tI ws)), some (.d (tI sts)), o6, some (.own (rs.map ruleD)), some (.d (.int (0 + i))), some (.d (.str kd)), some (.own (qs.map readD))] ∧ qs.length = nn.toNat ∧ ∀ q ∈ qs, VRead m k.toNat q ∧ 1 ≤ dotI ws q.2 + sts.getD i 0 - sts.getD q.1.toNat 0)
        (sd_set (φ := fun r => ∃ (qs : List Rdt), r = .own (qs.map readD) ∧ qs.length = nn.toNat ∧ ∀ q ∈ qs, VRead m k.toNat q ∧ 1 ≤ dotI ws q.2 + sts.getD i 0 - sts.getD q.1.toNat 0) (ev_lcR (φs := fun xs => xs.length = nn.toNat) (out := fun _ y => ∃ q : Rdt, y = readD q ∧ (VRead m k.toNat q ∧ 1 ≤ dotI ws q.2 + sts.getD i 0 - sts.getD q.1.toNat 0)) ((src_rng1 (n := nn) (ea_cons (ev_kinds ev_var hk) ea_nil) (by omega)).imp fun xs e => by rw [e, ints_len]) (fun xs e => lt_line (by omega)) (fun xs e x hx => ⟨_, _, tg_nm, by decide, ev_fnF b (m, ws, sts.getD i 0, sts) (ea_cons ev_var (ea_cons ev_var (ea_cons ev_var (ea_cons (ev_op ev_var ev_var (ro_ixT (at_tI (by omega) (by omega)))) (ea_cons ev_var ea_nil))))) ?_ (fun z p => ?_) ?_⟩) fun xs e ys hp => ?_) fun r h => ?_) ?_
      · exact ⟨hm, hw, hz, by rw [getD_at hil]; exact hs _ (List.getElem_mem _), hs, by show 1 ≤ sts.length; omega, by show sts.length ≤ 6; omega⟩
      · obtain ⟨q, rfl, q0, q1, ql, qd, qg⟩ := p
        exact ⟨_, rfl, q, rfl, ⟨q0, by have q1 : q.1 < (sts.length : Int) := q1; omega, ql, qd⟩, qg⟩
      · show [_, _, _, _, _] = [_, _, _, _, _]
        rw [show ((0 : Int) + (i : Int)).toNat = i by omega]
        rfl
      · obtain ⟨qs, rfl, h2, h3⟩ := paired_fam hp
        exact ⟨qs, rfl, by omega, h3⟩
      · obtain ⟨qs, rfl, h⟩ := h
        exact ⟨trivial, qs, rfl, h⟩
      rintro d ⟨qs, rfl, hql, hqs⟩
      refine sd_append (K := K) (i := 7) rfl (φ := (· = .d (ruleD (kd, qs)))) (ev_op (ev_tup [.str kd] (ea_cons ev_var ea_nil)) (ev_call_b (ea_cons ev_varO ea_nil) (rcl_tuple (.bor _))) (ro_catT ?_)) (lt_line (by rw [List.length_map]; omega)) fun r e => ⟨_, e, ?_⟩
      · rw [List.length_map]
        exact le_line (by show 1 + qs.length ≤ 100000; omega)
      · refine ⟨rs ++ [(kd, qs)], o6, some (.d (.int (0 + i))), some (.d (.str kd)), some (.own (qs.map readD)), ?_, by rw [List.length_append, hrl]; rfl, hrs.snoc ⟨?_, fun q hq => (hqs q hq).1⟩ fun q hq => by rw [hrl]; exact (hqs q hq).2⟩
        · rw [List.map_append]
          rfl
        · have : ((qs.length : Nat) : Int) = nn := by omega
          show (kd, ((qs.length : Nat) : Int)) ∈ kindsT
          rw [this]
          exact hk
    · rintro xs ds1 rfl ⟨rs, o6, o8, o9, o10, rfl, hrl, hrs⟩
      rw [ints_len] at hrl
      exact ⟨rs, _, _, _, _, rfl, hrl, hrs⟩
    rintro d ⟨rs, o6, o8, o9, o10, rfl, hrl, hrs⟩
    rw [← hrl] at hrs
    obtain ⟨vf, vt⟩ := hrs.beats hm (by omega) (by omega) hw (by omega) hs
    refine sd_ret (φ := (· = .own [flowD (m, rs), timD (ws, sts)])) (ev_lst [flowD (m, rs), timD (ws, sts)] (ea_cons (ev_tup [.int m, .tup (rs.map ruleD)] (ea_cons ev_var (ea_cons (ev_call_b (ea_cons ev_varO ea_nil) (rcl_tuple (.bor _))) ea_nil))) (ea_cons (ev_tup [tI ws, tI sts] (ea_cons ev_var (ea_cons ev_var ea_nil))) ea_nil))) fun r e => ⟨(m, rs), (ws, sts), e, vf, vt⟩
  · intro b a
    rfl
end
end Wb
/-! WbKh -/
set_option maxHeartbeats 4000000
/-! len, sorted of a dict by (plane, vector). -/
namespace Wb
open PySem PySem.Spec PyProof.Rows L2
variable {X : Cx} {P : Program} {w : World}
def rLenE (P : Program) (w : World) : List V → Hp → VK → Prop := fun vs H Q => ∃ a es, vs = [V.ref a] ∧ KdJ P w a es H ∧ es.length ≤ 100000 ∧ Q (.int (es.length : Int)) H
theorem k_lenE (hP : X.prog = P) (hw : X.w = w) : CallR X (.builtin "len") (rLenE P w) := by
  subst hP hw
  intro pins s σ H vs us Q I r h
  obtain ⟨a, es, rfl, j, hl, q⟩ := h
  rw [Vals.ref1 r]
  obtain ⟨h1, h2, xs, rr, d⟩ := kd_of I.hok j
  have el := Paired.length rr
  refine call_len_dictH h1 d (by rw [← el]; omega) ?_
  rw [← el]
  exact ⟨.int (es.length : Int), H, I.tok _, ⟨_, rfl⟩, q⟩
def kDs (es : List KEn) : List D := es.map fun e => kD e.p e.ys
def rSortE (P : Program) (w : World) : List V → Hp → VK → Prop := fun vs H Q => ∃ a es, vs = [V.ref a] ∧ KdJ P w a es H ∧ es.length ≤ 100000 ∧ ∀ (ys : List V) (p : Addr), RepL H ys ((kDs es).mergeSort leD) → H p = none → Q (.ref p) (upd H p (.lst ys))
theorem plain_kD (p : Int) (ys : List Int) : plainD (kD p ys) = true := by
  unfold kD
  simp only [plainD, plainDs, plain_tI, Bool.and_self]
theorem dep_kD (p : Int) (ys : List Int) : depD (kD p ys) ≤ 2 := by
  have := dep_tI ys
  unfold kD
  simp only [depD, depDs]
  omega
theorem alike_kD (p q : Int) (ys zs : List Int) : PySem.W.alike (toPy (kD p ys)) (toPy (kD q zs)) = true := by
  have h := alike_tI ys zs
  unfold kD
  simp only [toPy, toPys, PySem.W.alike, PySem.W.alikeAll, h, Bool.and_self]
theorem rep_kD {H : Hp} {p : Int} {ys : List Int} {b c : Addr} (k : KyJ H p ys b c) : Rep H (.ref b) (kD p ys) := .tup k.1 (.cons (.int p) (.cons (.tup k.2 (RepL.of_ints ys)) .nil))
theorem k_sortE (hP : X.prog = P) (hw : X.w = w) (hc : X.calm = true) (hu : X.A.units + 64 < cLine) : CallR X (.builtin "sorted") (rSortE P w) := by
  subst hP hw
  intro pins s σ H vs us Q I r h
  obtain ⟨a, es, rfl, j, hel, q⟩ := h
  rw [Vals.ref1 r]
  obtain ⟨h1, h2, xs, rr, d⟩ := kd_of I.hok j
  have el := Paired.length rr
  obtain ⟨ds, ep, hraw, hsz, hat⟩ := d.raw
  have hsz' : ds.size = es.length := hsz.trans el.symm
  refine Calls.call_function_entry PyProof.Rows.kind_sorted PyProof.Rows.plain_sorted PyProof.Rows.entry_sorted (PyProof.Rows.args_sorted1 _) ?_
  unfold Builtin.«sorted»
  refine wpAny_bind (m := checkCount "sorted" 1 1 _) (wpAny_pure ?_)
  refine wpAny_bind (PySem.W.kdu_collect (A := X.A.in1) (KdlSrc.rawDict h1) (I.ok.hd hc) hraw (Nat.le_trans (Nat.le_of_eq hsz') h2) fun h' tk acc hk hacc => ?_)
  have I1 : L2.Inv X pins σ H { s with heap := h', toks := tk } := I.kept hk
  have hal : acc.toList.length = es.length := by rw [Array.length_toList, hacc.1, hsz']
  have hitem : ∀ (i : Nat) u, acc.toList[i]? = some u → ∃ e, es[i]? = some e ∧ u = .ref e.b := fun i u e => by
    obtain ⟨hi, ek⟩ := hacc.2 i u (by rw [← Array.getElem?_toList]; exact e)
    obtain ⟨y, hy, k1, _⟩ := hat i hi
    have hie : i < es.length := by omega
    obtain ⟨y', hy', hR⟩ := paired_at rr i es[i] (List.getElem?_eq_getElem hie)
    rw [hy] at hy'
    cases hy'
    exact ⟨es[i], List.getElem?_eq_getElem hie, by rw [ek, k1, hR.2.1]⟩
  have e1 : PySem.W.EachIs (fun v (e : KEn) => v = Value.ref e.b) acc.toList es := by
    have gen : ∀ (us : List Value) (bs : List KEn), us.length = bs.length → (∀ (i : Nat) u, us[i]? = some u → ∃ e, bs[i]? = some e ∧ u = .ref e.b) → PySem.W.EachIs (fun v (e : KEn) => v = Value.ref e.b) us bs := by
      intro us
      induction us with
      | nil =>
        intro bs hl _
        cases bs with
        | nil => exact .nil
        | cons b bs => cases hl
      | cons u us ih =>
        intro bs hl hh
        cases bs with
        | nil => cases hl
        | cons b bs =>
          obtain ⟨e, h1, h2⟩ := hh 0 u rfl
          cases h1
          exact .cons h2 (ih bs (Nat.succ.inj hl) fun i u' hu' => hh (i + 1) u' hu')
    exact gen _ _ hal hitem
  have rd : ∀ e ∈ es, ∃ as, Reads h' (.ref e.b) (toPy (kD e.p e.ys)) as := fun e he => by
    have hdp : DpAll X.K H [V.ref e.b] (toPys [kD e.p e.ys]) := (RepL.one (rep_kD (j.keys e he))).dp (by simp only [plainDs, plain_kD, Bool.and_self])
    have := dpAll_get hdp (i := 0) rfl (by rw [toPys_map]; rfl)
    exact Dp.reads I1 (toPy (kD e.p e.ys)) (.ref e.b) (.ref e.b) this rfl
  refine wpAny_bind (wpAny_newList ?_ (by rw [hal, sizeLine_eq]; omega))
  have hoL : (h'.push (seqObj "list" acc.toList.toArray 0)).get? h'.objs.size = some (seqObj "list" acc.toList.toArray 0) := Heap.get?_push_size _ rfl
  show wpAny _ _ _ _ _ { s with heap := h'.push (seqObj "list" acc.toList.toArray 0), toks := tk }
  have kp : ∀ b o, h'.get? b = some o → (PySem.W.sortingHeap (h'.push (seqObj "list" acc.toList.toArray 0)) h'.objs.size acc.toList).get? b = some o := fun b o q => PySem.W.sortingHeap_old (Nat.ne_of_lt (Heap.lt_size q)) (Heap.get?_push_of_some _ q)
  have er : PySem.W.EachIs (fun v (e : KEn) => ∃ as, Reads (PySem.W.sortingHeap (h'.push (seqObj "list" acc.toList.toArray 0)) h'.objs.size acc.toList) v (toPy (kD e.p e.ys)) as) acc.toList es := (PySem.W.each_mem e1).mono fun v e hh => by
    obtain ⟨rfl, he⟩ := hh
    obtain ⟨as, hr⟩ := rd e he
    exact ⟨as, PyProof.Rows.Reads.keeps kp hr⟩
  have hall : PySem.W.AllAlike (es.map fun e => toPy (kD e.p e.ys)) := PySem.W.AllAlike.of fun a b => alike_kD a.p b.p a.ys b.ys
  have hso : PySem.W.Sortable (es.map fun e => toPy (kD e.p e.ys)) := PySem.W.Sortable.tuples fun e => ⟨.int e.p, [toPy (tI e.ys)], by unfold kD; simp only [toPy, toPys]⟩
  have huu : ∀ e, e ∈ es → X.A.in1.units + 1 + (toPy (kD e.p e.ys)).depth < cLine := fun e _ => by
    have := dep_kD e.p e.ys
    rw [depth_toPy]
    show X.A.units + 1 + 1 + depD (kD e.p e.ys) < cLine
    omega
  refine wpAny_bind (wpAny_holding (wpAny_call_entry PyProof.Rows.slot_list_sort ⟨_, hoL, rfl⟩ PyProof.Rows.entry_list_sort (PySem.W.list_sort_vals (κ := PySem.W.dataKind (PySem.W.sortingHeap (h'.push (seqObj "list" acc.toList.toArray 0)) h'.objs.size acc.toList) (es.map fun e => toPy (kD e.p e.ys))) hoL
    (PySem.W.SortsAt.data (s := { s with heap := PySem.W.sortingHeap (h'.push (seqObj "list" acc.toList.toArray 0)) h'.objs.size acc.toList, toks := tk }) (PySem.W.each_map (R := fun v d => ∃ as, Reads (PySem.W.sortingHeap (h'.push (seqObj "list" acc.toList.toArray 0)) h'.objs.size acc.toList) v d as) (fun e : KEn => toPy (kD e.p e.ys)) er) hall hso (PySem.W.bound_map (enc := fun e : KEn => toPy (kD e.p e.ys)) huu)) (by rw [hal]; exact h2) ⟨.none, rfl, ?_⟩) (PyProof.Rows.args_list_sort _)))
  have hout := PySem.W.sortVals_data false e1 er hall
  obtain ⟨ep', he'⟩ := PyProof.Rows.sortedHeap_at (vs := acc.toList) (out := (PySem.W.sortVals (PySem.W.dataKind (PySem.W.sortingHeap (h'.push (seqObj "list" acc.toList.toArray 0)) h'.objs.size acc.toList) (es.map fun e => toPy (kD e.p e.ys))) false acc.toList acc.toList).toArray) hoL
  generalize PySem.W.sortVals (PySem.W.dataKind (PySem.W.sortingHeap (h'.push (seqObj "list" acc.toList.toArray 0)) h'.objs.size acc.toList) (es.map fun e => toPy (kD e.p e.ys))) false acc.toList acc.toList = out at hout he' ⊢
  generalize hso2 : es.mergeSort (PySem.W.dataLe false fun e : KEn => toPy (kD e.p e.ys)) = bs at hout
  have hmem : ∀ e ∈ bs, e ∈ es := fun e he => by rw [← hso2] at he; exact List.mem_mergeSort.mp he
  have hbl : bs.length = es.length := by rw [← hso2, List.length_mergeSort]
  have hk2 : bs.map (fun e => kD e.p e.ys) = (kDs es).mergeSort leD := by
    rw [← hso2]
    unfold kDs
    rw [List.map_mergeSort (s := leD)]
    intro p _ q _
    rw [PySem.W.dataLe_eq]
    rfl
  have hv : Vals (bs.map fun e => V.ref e.b) out := by
    clear he' hk2 hmem hbl hso2
    induction hout with
    | nil => exact .nil
    | cons h _ ih => exact .cons h ih
  have hrep : RepL H (bs.map fun e => V.ref e.b) ((kDs es).mergeSort leD) := by
    rw [← hk2]
    clear hv hk2 hso2 hout hbl
    induction bs with
    | nil => exact .nil
    | cons e bs ih => exact .cons (rep_kD (j.keys e (hmem e List.mem_cons_self))) (ih fun x hx => hmem x (List.mem_cons_of_mem _ hx))
  refine wpAny_pure ⟨_, rfl, .ref h'.objs.size, upd H h'.objs.size (.lst (bs.map fun e => V.ref e.b)), I1.laid (t' := tk) (fun b u e => ?_) (Nat.le_refl _)
    (show ObjOk X.prog X.w _ _ _ (.lst (bs.map fun e => V.ref e.b)) from ⟨by rw [List.length_map, hbl]; exact h2, out, ep', hv, he'⟩), rfl, q _ _ hrep (I1.hok.fresh (Nat.le_refl _))⟩
  have hb : b < h'.objs.size := Heap.lt_size e
  rw [PyProof.Rows.sortedHeap_old (Nat.ne_of_lt hb) (by rw [size_push']; exact Nat.lt_succ_of_lt hb)]
  exact Heap.get?_push_of_some _ e
end Wb
/-! WbV6 -/
set_option maxHeartbeats 4000000
/-! Statements beside a dict of one's own. -/
namespace Wb
open PySem PySem.Spec PyProof.Rows L2
def noO (ds : Ds) : Prop := ∀ (i : Nat) xs, ds[i]? ≠ some (some (.own xs))
theorem noO_nil : noO [] := fun i xs e => by simp at e
theorem noO_n {ds : Ds} (h : noO ds) : noO (none :: ds) := fun i xs e => by
  cases i with
  | zero => simp at e
  | succ i => exact h i xs (by simpa using e)
theorem noO_d {ds : Ds} {x : D} (h : noO ds) : noO (some (.d x) :: ds) := fun i xs e => by
  cases i with
  | zero => simp at e
  | succ i => exact h i xs (by simpa using e)
theorem Ste.back {F : Fm} {H0 H H' : Hp} {P P' : List Pn} {σ σ' : L2.St} {ds ds' : Ds} (s' : Ste F H P' σ' H' ds') (s : Ste F H0 P σ H ds) : Ste F H0 P' σ' H' ds' where
  j0 := s.j0
  kp := s.kp.trans s'.kp
  j := s'.j
  len := s'.len
  pin := s'.pin
  env := fun i sv e => by
    obtain ⟨v, h1, h2⟩ := s'.env i sv e
    refine ⟨v, h1, ?_⟩
    cases sv with
    | d x => exact h2
    | own xs =>
      obtain ⟨p, vs, h3, h4, h5⟩ := h2
      exact ⟨p, vs, h3, s.free h4, h5⟩
    | bor xs => exact h2
  dist := s'.dist
/-- the frame and the dict at ad, as it is -/
def Fm.and (F : Fm) (P : Program) (w : World) (ad : Addr) (es : List KEn) : Fm where
  S := F.S
  A := fun b => F.A b ∨ (Fk P w ad es).A b
  J := fun H => F.J H ∧ KdJ P w ad es H
  sub := fun b h => .inl (F.sub b h)
  loc := fun H H' j h => ⟨F.loc H H' j.1 fun b hb => h b (.inl hb), (Fk P w ad es).loc H H' j.2 fun b hb => h b (.inr hb)⟩
  pres := fun H b j h => h.elim (F.pres H b j.1) ((Fk P w ad es).pres H b j.2)
  nt := fun H b vs j h => F.nt H b vs j.1 h
section
variable {F : Fm} {P : Program} {w : World} {ad : Addr} {es : List KEn} {ds : Ds} {R : SV → Prop}
theorem KdJ.kp {H H' : Hp} (k : KdJ P w ad es H) (hk : Kp F H H') (j : F.J H) (ns : ¬ F.S ad) : KdJ P w ad es H' := k.mono ((hk ad _ ns k.at_).trans k.at_.symm) (hk.ts j)
theorem Ste.drop {H0 H : Hp} {Pn0 : List Pn} {σ : L2.St} (s : Ste (F.and P w ad es) H0 Pn0 σ H ds) : Ste F H0 Pn0 σ H ds where
  j0 := s.j0.1
  kp := s.kp
  j := s.j.1
  len := s.len
  pin := fun q hq => by
    have := s.pin q hq
    cases q <;> exact this
  env := fun i sv e => by
    obtain ⟨v, h1, h2⟩ := s.env i sv e
    refine ⟨v, h1, ?_⟩
    cases sv <;> exact h2
  dist := s.dist
theorem ev_lift {te : TE} {φ : SV → Prop} (ns : ¬ F.S ad) (h : Ev F te ds φ) : Ev (F.and P w ad es) te ds φ := fun H0 Pn0 σ H s Q q =>
  h H0 Pn0 σ H s.drop Q fun v H2 r k j rr e => q v H2 r k ⟨j, s.j.2.kp k s.j.1 ns⟩ (by cases r <;> exact rr) e
theorem ev_lenE {td : TE} (hl : es.length ≤ 100000) (hd : Ev (F.and P w ad es) td ds (· = .d (.obj ad))) : Ev (F.and P w ad es) (tCB (rLenE P w) (tCons td tNil)) ds (· = .d (.int (es.length : Int))) := fun H0 Pn0 σ H s Q q =>
  hd H0 Pn0 σ H s _ fun v H1 r k1 j1 r1 e1 => by
    subst e1
    have r1 : Rep H1 v (.obj ad) := r1
    cases r1
    exact ⟨ad, es, rfl, j1.2, hl, q _ H1 (.d (.int _)) k1 j1 (.int _) rfl⟩
theorem ev_sortE {td : TE} (hl : es.length ≤ 100000) (hd : Ev (F.and P w ad es) td ds (· = .d (.obj ad))) : Ev (F.and P w ad es) (tCB (rSortE P w) (tCons td tNil)) ds (· = .own ((kDs es).mergeSort leD)) := fun H0 Pn0 σ H s Q q =>
  hd H0 Pn0 σ H s _ fun v H1 r k1 j1 r1 e1 => by
    subst e1
    have r1 : Rep H1 v (.obj ad) := r1
    cases r1
    refine ⟨ad, es, rfl, j1.2, hl, fun ys p hr hp => ?_⟩
    refine q _ _ (.own ((kDs es).mergeSort leD)) (k1.trans (Kp.new hp)) ((F.and P w ad es).upd j1 hp j1) ⟨p, ys, rfl, k1.free s.j j1 hp, upd_same, hr.mono fun a vs e => ?_⟩ rfl
    rw [upd_ne (ne_of_none e hp)]
    exact e
/-- a statement beside the dict at ad -/
def SdK (F : Fm) (P : Program) (w : World) (ad : Addr) (ts : TS) (ds : Ds) (es : List KEn) (N : Ds → List KEn → Prop) (R : SV → Prop) : Prop := ∀ (H0 : Hp) (Pn0 : List Pn) (σ : L2.St) (H : Hp) (D : Ends), Ste F H0 Pn0 σ H ds → H0 ad = none → KdJ P w ad es H →
  (∀ P' σ' H' ds' es', (∀ q ∈ Pn0, q ∈ P') → Ste F H0 P' σ' H' ds' → KdJ P w ad es' H' → N ds' es' → D.nx σ' H') → (∀ v H' r, Kp F H0 H' → F.J H' → RRep F H0 H' v r → R r → D.rt v H') → ts D σ H
variable {N : Ds → List KEn → Prop} {ts tu : TS}
theorem sdk_of {N' : Ds → Prop} (no : noO ds) (h : Sd (F.and P w ad es) ts ds N' R) (k : ∀ ds', N' ds' → N ds' es) : SdK F P w ad ts ds es N R := fun H0 Pn0 σ H D s h0 kd n r => by
  have sr : Ste (F.and P w ad es) H Pn0 σ H ds := s.reb (F' := F.and P w ad es) ⟨s.j, kd⟩ (fun q hq => by
    have := s.pin q hq
    cases q <;> exact this) no
  exact h H Pn0 σ H D sr (fun P' σ' H' ds' hq s' e => n P' σ' H' ds' es hq (s'.drop.back s) s'.j.2 (k ds' e)) fun v H' r' kp j rr e => r v H' r' (s.kp.trans kp) j.1 (RRep.back s.kp s.j0 s.j (by cases r' <;> exact rr)) e
theorem sdk_seq {M : Ds → List KEn → Prop} (h : SdK F P w ad ts ds es M R) (k : ∀ ds' es', M ds' es' → SdK F P w ad tu ds' es' N R) : SdK F P w ad (tSeq ts tu) ds es N R := fun H0 Pn0 σ H D s h0 kd n r =>
  h H0 Pn0 σ H { D with nx := tu D } s h0 kd (fun P' σ' H' ds' es' hq s' kd' m => k ds' es' m H0 P' σ' H' D s' h0 kd' (fun P2 σ2 H2 ds2 es2 hq2 => n P2 σ2 H2 ds2 es2 fun q hh => hq2 q (hq q hh)) r) r
theorem sdk_if {c : TT} {ρ : Bool → Prop} (no : noO ds) (hc : EvT (F.and P w ad es) c ds ρ) (ht : ρ true → SdK F P w ad ts ds es N R) (hu : ρ false → SdK F P w ad tu ds es N R) : SdK F P w ad (tIfS c ts tu) ds es N R := fun H0 Pn0 σ H D s h0 kd n r => by
  have sr : Ste (F.and P w ad es) H Pn0 σ H ds := s.reb (F' := F.and P w ad es) ⟨s.j, kd⟩ (fun q hq => by
    have := s.pin q hq
    cases q <;> exact this) no
  refine hc H Pn0 σ H sr _ fun b H1 k1 j1 p1 => ?_
  have s1 := s.mono (show Kp F H H1 from k1) j1.1
  cases b with
  | true => rw [if_pos rfl]; exact ht p1 H0 Pn0 σ H1 D s1 h0 j1.2 n r
  | false => rw [if_neg Bool.false_ne_true]; exact hu p1 H0 Pn0 σ H1 D s1 h0 j1.2 n r
theorem sdk_for {wi : TI} {g : TG} {φs : List D → Prop} (Iv : List D → Nat → Ds → List KEn → Prop) (hs : EvI F wi ds φs) (h0 : ∀ xs, φs xs → Iv xs 0 ds es)
    (hb : ∀ xs i x ds1 es1, φs xs → xs[i]? = some x → Iv xs i ds1 es1 → ∃ is ds2, TgOk g is ds1 x ds2 ∧ SdK F P w ad ts ds2 es1 (Iv xs (i + 1)) R) (hd : ∀ xs ds1 es1, φs xs → Iv xs xs.length ds1 es1 → N ds1 es1) : SdK F P w ad (tFor wi g ts) ds es N R := fun H0 Pn0 σ H D s hn kd n r =>
  hs H0 Pn0 σ H s _ fun J H1 pn xs k1 j1 hp1 hfr hsrc p1 => by
    have nS : ¬ F.S ad := F.newS s.j0 hn
    obtain ⟨P1, hP, hpn, s1⟩ := s.pinsL k1 j1 pn hp1 hfr
    obtain ⟨G, Y, wk, hG, hY⟩ := hsrc.at
    refine ⟨fun i m σ' H' => m = xs.length - i ∧ i ≤ xs.length ∧ ∃ P' ds1 es1, (∀ q ∈ P1, q ∈ P') ∧ Ste F H0 P' σ' H' ds1 ∧ KdJ P w ad es1 H' ∧ Iv xs i ds1 es1, ⟨xs.length, by simp, Nat.zero_le _, P1, ds, es, fun _ h => h, s1, kd.kp k1 s.j nS, h0 xs p1⟩, ?_⟩
    rintro i m σ2 H2 ⟨rfl, hi, P2, ds2, es2, hP2, s2, kd2, iv⟩
    have pins : ∀ q ∈ pn, PinOk F H2 q := fun q hq => s2.pin q (hP2 q (hpn q hq))
    have g2 := hG H2 s2.j pins
    by_cases hlt : i < xs.length
    · refine .inr ⟨wk.goes i H2 hlt g2, fun σ' H' => i + 1 ≤ xs.length ∧ ∃ P' ds1 es1, (∀ q ∈ P1, q ∈ P') ∧ Ste F H0 P' σ' H' ds1 ∧ KdJ P w ad es1 H' ∧ Iv xs (i + 1) ds1 es1, fun σ' H' p' => ⟨xs.length - (i + 1), by omega, rfl, p'⟩, fun v H3 hy => ?_⟩
      obtain ⟨x, hx, rx, k3, j3, _⟩ := hY i H2 v H3 hlt s2.j pins (wk.yields i H2 v H3 hlt g2 hy)
      obtain ⟨is, ds3, htg, hsd⟩ := hb xs i x ds2 es2 p1 hx iv
      refine htg F H0 P2 σ2 H3 v _ (s2.mono k3 j3) rx fun σ4 s4 _ _ => ?_
      exact hsd H0 P2 σ4 H3 _ s4 hn (kd2.kp k3 s2.j nS) (fun P' σ' H' ds' es' hq s' kd' iv' => ⟨hlt, P', ds', es', fun q h => hq q (hP2 q h), s', kd', iv'⟩) r
    · have e : i = xs.length := by omega
      subst e
      exact .inl ⟨wk.stops H2 g2, n P2 σ2 H2 ds2 es2 (fun q h => hP2 q (hP q h)) s2 kd2 (hd xs ds2 es2 p1 iv)⟩
/-- d[k] = v -/
theorem sdk_put {td ty tv : TE} {φ : Int → Prop} {ψ : Int → List Int → Prop} (hv : Ev F tv ds fun r => ∃ n, r = .d (.int n) ∧ φ n) (hd : Ev F td ds (· = .d (.obj ad))) (hy : Ev F ty ds fun r => ∃ p ys, r = .d (kD p ys) ∧ ψ p ys) (hl : es.length ≤ 100000)
    (k : ∀ n p ys b c, φ n → ψ p ys → N ds (putE es p ys n b c)) : SdK F P w ad (sKPut td ty tv P w) ds es N R := fun H0 Pn0 σ H D s h0 kd n r => by
  have nS : ¬ F.S ad := F.newS s.j0 h0
  have nA : ¬ F.A ad := F.new s.j0 h0
  refine hv H0 Pn0 σ H s _ fun v H1 r1 k1 j1 rr1 e1 => ?_
  obtain ⟨m, rfl, hm⟩ := e1
  have rr1 : Rep H1 v (.int m) := rr1
  cases rr1
  have s1 := s.mono k1 j1
  have kd1 := kd.kp k1 s.j nS
  refine hd H0 Pn0 σ H1 s1 _ fun v2 H2 r2 k2 j2 rr2 e2 => ?_
  subst e2
  have rr2 : Rep H2 v2 (.obj ad) := rr2
  cases rr2
  have s2 := s1.mono k2 j2
  have kd2 := kd1.kp k2 s1.j nS
  refine hy H0 Pn0 σ H2 s2 _ fun v3 H3 r3 k3 j3 rr3 e3 => ?_
  obtain ⟨p, ys, rfl, hp⟩ := e3
  have s3 := s2.mono k3 j3
  have kd3 := kd2.kp k3 s2.j nS
  obtain ⟨b, c, rfl, ky⟩ := key_rep (show Rep H3 v3 (kD p ys) from rr3)
  refine ⟨ad, es, p, ys, m, b, c, rfl, rfl, rfl, kd3, ky, lt_line hl, ?_⟩
  refine n Pn0 σ _ ds _ (fun _ h => h) (s3.grow (fun x o hx e => ?_) (F.loc H3 _ j3 fun x hx => ?_)) (kd3.put ky) (k m p ys b c hm hp)
  · have : x ≠ ad := by
      rintro rfl
      rcases hx with hx | hx
      · exact hx h0
      · rw [kd3.at_] at e
        exact hx _ (Option.some.inj e).symm
    rw [upd_ne this]
    exact e
  · rw [upd_ne]
    rintro rfl
    exact nA hx
end
end Wb
/-! WbP0 -/
set_option maxHeartbeats 4000000
/-! Plain facts: points, the order of keys. -/
namespace Wb
open PySem PySem.Spec PyProof.Rows L2
/-! ### points lie in their box -/
theorem ptsF_in {bs : List Int} {rows : List (List Int)} {size : Int} (h : ∀ pt ∈ rows, pt.length = bs.length ∧ ∀ p ∈ List.zip pt bs, 0 ≤ p.1 ∧ p.1 < p.2) : ∀ pt ∈ ptsF rows size, pt.length = (bs ++ [size]).length ∧ ∀ p ∈ List.zip pt (bs ++ [size]), 0 ≤ p.1 ∧ p.1 < p.2 := by
  intro pt hp
  unfold ptsF at hp
  obtain ⟨row, h1, h2⟩ := List.mem_flatMap.mp hp
  obtain ⟨i, hi, rfl⟩ := List.mem_map.mp h2
  obtain ⟨hl, hz⟩ := h row h1
  refine ⟨by rw [List.length_append, List.length_append, hl]; rfl, fun p hp => ?_⟩
  rw [List.zip_append hl] at hp
  rcases List.mem_append.mp hp with hp | hp
  · exact hz p hp
  · have e := List.mem_singleton.mp hp
    rw [e]
    have := mem_rngI.mp hi
    constructor
    · exact this.1
    · show i < size
      omega
theorem pts_in {box : List Int} {pt : List Int} (h : pt ∈ ptsOf box) : ∀ p ∈ List.zip pt box, 0 ≤ p.1 ∧ p.1 < p.2 := by
  have key : ∀ (box bs : List Int) (rows : List (List Int)), (∀ pt ∈ rows, pt.length = bs.length ∧ ∀ p ∈ List.zip pt bs, 0 ≤ p.1 ∧ p.1 < p.2) → ∀ pt ∈ box.foldl ptsF rows, ∀ p ∈ List.zip pt (bs ++ box), 0 ≤ p.1 ∧ p.1 < p.2 := by
    intro box
    induction box with
    | nil => intro bs rows h pt hp; rw [List.append_nil]; exact (h pt hp).2
    | cons b box ih =>
      intro bs rows h pt hp
      have := ih (bs ++ [b]) (ptsF rows b) (ptsF_in h) pt hp
      rw [List.append_assoc] at this
      exact this
  exact key box [] [[]] (fun pt hp => by rw [List.mem_singleton.mp hp]; exact ⟨rfl, fun p hp => nomatch hp⟩) pt h
theorem pts_inBox {box : List Int} {pt : List Int} (h : pt ∈ ptsOf box) : inBox box pt = true := by
  unfold inBox
  rw [List.all_eq_true]
  intro p hp
  have := pts_in h p hp
  rw [decide_eq_true this.1, decide_eq_true this.2]
  rfl
/-! ### the order of keys -/
theorem toks_ints : ∀ {ys zs : List Int} {r t : List (Int ⊕ List Nat)}, PySem.W.keyToksAll (ys.map PyData.int) ++ r = PySem.W.keyToksAll (zs.map PyData.int) ++ t → ys = zs ∧ r = t
  | [], [], r, t, h => by
    simp only [List.map_nil, PySem.W.keyToksAll, List.cons_append, List.nil_append] at h
    injection h with _ h
    exact ⟨rfl, h⟩
  | [], z :: zs, r, t, h => by
    simp only [List.map_nil, List.map_cons, PySem.W.keyToksAll, List.cons_append, List.nil_append] at h
    injection h with h _
    cases h
  | y :: ys, [], r, t, h => by
    simp only [List.map_nil, List.map_cons, PySem.W.keyToksAll, List.cons_append, List.nil_append] at h
    injection h with h _
    cases h
  | y :: ys, z :: zs, r, t, h => by
    simp only [List.map_cons, PySem.W.keyToksAll, PySem.W.keyToks, List.cons_append, List.nil_append] at h
    injection h with _ h
    injection h with h1 h2
    obtain ⟨e1, e2⟩ := toks_ints h2
    cases h1
    exact ⟨by rw [e1], e2⟩
theorem toks_tup (p : Int) (ys : List Int) (r : List PyData) : PySem.W.keyToksAll (.int p :: toPy (tI ys) :: r) = .inl 1 :: .inl p :: .inl 1 :: (PySem.W.keyToksAll (ys.map PyData.int) ++ PySem.W.keyToksAll r) := by
  rw [toPy_tI]
  simp only [PySem.W.keyToksAll, PySem.W.keyToks, List.cons_append, List.nil_append]
theorem key_total {p q : Int} {ys zs : List Int} (h1 : PySem.W.dataLt (toPy (kD p ys)) (toPy (kD q zs)) = false) (h2 : PySem.W.dataLt (toPy (kD q zs)) (toPy (kD p ys)) = false) : p = q ∧ ys = zs := by
  have e := lex_total (O := itemOrd) _ _ h1 h2
  unfold kD at e
  simp only [toPy, toPys, PySem.W.keyToks] at e
  rw [toks_tup, toks_tup] at e
  injection e with _ e
  injection e with e1 e
  injection e with _ e
  cases e1
  exact ⟨rfl, (toks_ints e).1⟩
theorem leD_trans {a b c : D} (h1 : leD a b = true) (h2 : leD b c = true) : leD a c = true := by
  unfold leD at *
  rw [Bool.not_eq_true'] at *
  cases h : PySem.W.dataLt (toPy c) (toPy a) with
  | false => rfl
  | true =>
    rcases lex_negTrans (O := itemOrd) _ (PySem.W.keyToks (toPy b)) _ h with z | z
    · exact absurd z (by rw [show lexLt itemOrd (PySem.W.keyToks (toPy c)) (PySem.W.keyToks (toPy b)) = false from h2]; exact Bool.false_ne_true)
    · exact absurd z (by rw [show lexLt itemOrd (PySem.W.keyToks (toPy b)) (PySem.W.keyToks (toPy a)) = false from h1]; exact Bool.false_ne_true)
theorem leD_total (a b : D) : (leD a b || leD b a) = true := by
  unfold leD
  cases h : PySem.W.dataLt (toPy b) (toPy a) with
  | false => rfl
  | true =>
    cases h2 : PySem.W.dataLt (toPy a) (toPy b) with
    | false => rfl
    | true =>
      have := lex_trans (O := itemOrd) _ _ _ h h2
      rw [lex_irrefl] at this
      cases this
/-- sorted keys, no two alike: each less than the next -/
theorem sorted_keys {α : Type} {f : α → Int × List Int} {xs : List α} (nd : (xs.map f).Nodup) : ∀ (i : Nat) a b, (xs.mergeSort fun x y => leD (kD (f x).1 (f x).2) (kD (f y).1 (f y).2))[i]? = some a → (xs.mergeSort fun x y => leD (kD (f x).1 (f x).2) (kD (f y).1 (f y).2))[i + 1]? = some b → PySem.W.dataLt (toPy (kD (f a).1 (f a).2)) (toPy (kD (f b).1 (f b).2)) = true := by
  intro i a b ha hb
  have pw := List.pairwise_mergeSort (le := fun x y => leD (kD (f x).1 (f x).2) (kD (f y).1 (f y).2)) (fun _ _ _ => leD_trans) (fun _ _ => leD_total _ _) xs
  have pm := List.mergeSort_perm xs fun x y => leD (kD (f x).1 (f x).2) (kD (f y).1 (f y).2)
  have nd2 : ((xs.mergeSort fun x y => leD (kD (f x).1 (f x).2) (kD (f y).1 (f y).2)).map f).Nodup := (pm.map f).nodup_iff.mpr nd
  generalize (xs.mergeSort fun x y => leD (kD (f x).1 (f x).2) (kD (f y).1 (f y).2)) = ss at *
  obtain ⟨hi, ea⟩ := List.getElem?_eq_some_iff.mp ha
  obtain ⟨hj, eb⟩ := List.getElem?_eq_some_iff.mp hb
  have hle := List.pairwise_iff_getElem.mp pw i (i + 1) hi hj (Nat.lt_succ_self i)
  rw [ea, eb] at hle
  cases h : PySem.W.dataLt (toPy (kD (f a).1 (f a).2)) (toPy (kD (f b).1 (f b).2)) with
  | true => rfl
  | false =>
    have hle : (!PySem.W.dataLt (toPy (kD (f b).1 (f b).2)) (toPy (kD (f a).1 (f a).2))) = true := hle
    rw [Bool.not_eq_true'] at hle
    obtain ⟨e1, e2⟩ := key_total h hle
    have hne := List.pairwise_iff_getElem.mp nd2 i (i + 1) (by simpa using hi) (by simpa using hj) (Nat.lt_succ_self i)
    rw [List.getElem_map, List.getElem_map, ea, eb] at hne
    exact absurd (Prod.ext e1 e2) hne
/-! ### entries of the outside -/
def goodE (f : Flw) (box : List Int) (es : List KEn) : Prop := (∀ e ∈ es, VEnt f box (e.p, e.ys, e.v)) ∧ (es.map fun e => (e.p, e.ys)).Nodup
theorem goodE_nil {f : Flw} {box : List Int} : goodE f box [] := ⟨(fun _ h => nomatch h), List.nodup_nil⟩
theorem atE_mem : ∀ {es : List KEn} {p : Int} {ys : List Int}, (atE es p ys).isSome = true ↔ (p, ys) ∈ es.map fun e => (e.p, e.ys)
  | [], p, ys => by simp [atE]
  | e :: es, p, ys => by
    unfold atE
    rw [List.map_cons, List.mem_cons]
    by_cases h : e.p = p ∧ e.ys = ys
    · rw [if_pos h]
      exact ⟨fun _ => .inl (Prod.ext h.1.symm h.2.symm), fun _ => rfl⟩
    · rw [if_neg h, atE_mem]
      exact ⟨.inr, fun z => z.resolve_left fun z => h ⟨(congrArg Prod.fst z).symm, (congrArg Prod.snd z).symm⟩⟩
theorem goodE_put {f : Flw} {box : List Int} {es : List KEn} {p : Int} {ys : List Int} {v : Int} {b c : Addr} (g : goodE f box es) (h : VEnt f box (p, ys, v)) : goodE f box (putE es p ys v b c) := by
  unfold putE
  by_cases hs : (atE es p ys).isSome = true
  · rw [if_pos hs]
    refine ⟨fun e he => ?_, ?_⟩
    · obtain ⟨e', he', rfl⟩ := List.mem_map.mp he
      by_cases hk : e'.p = p ∧ e'.ys = ys
      · rw [if_pos hk]
        obtain ⟨rfl, rfl⟩ := hk
        exact h
      · rw [if_neg hk]
        exact g.1 e' he'
    · rw [List.map_map]
      have : ((fun e : KEn => (e.p, e.ys)) ∘ fun e : KEn => if e.p = p ∧ e.ys = ys then { e with v := v } else e) = fun e => (e.p, e.ys) := by
        funext e
        show (fun e : KEn => (e.p, e.ys)) (if e.p = p ∧ e.ys = ys then { e with v := v } else e) = _
        split <;> rfl
      rw [this]
      exact g.2
  · rw [if_neg hs]
    refine ⟨fun e he => ?_, ?_⟩
    · rcases List.mem_append.mp he with he | he
      · exact g.1 e he
      · rw [List.mem_singleton.mp he]
        exact h
    · rw [List.map_append]
      refine List.nodup_append.mpr ⟨g.2, by simp, fun x hx y hy => ?_⟩
      rintro rfl
      have e := List.mem_singleton.mp hy
      rw [e] at hx
      exact hs (atE_mem.mpr hx)
theorem atE_of {es : List KEn} (nd : (es.map fun e => (e.p, e.ys)).Nodup) : ∀ e ∈ es, atE es e.p e.ys = some e.v := by
  induction es with
  | nil => intro e he; cases he
  | cons a es ih =>
    intro e he
    rw [List.map_cons, List.nodup_cons] at nd
    unfold atE
    rcases List.mem_cons.mp he with rfl | he
    · rw [if_pos ⟨rfl, rfl⟩]
    · rw [if_neg]
      · exact ih nd.2 e he
      · rintro ⟨h1, h2⟩
        exact nd.1 (by rw [h1, h2]; exact List.mem_map_of_mem (f := fun e : KEn => (e.p, e.ys)) he)
/-- the tuple that is told -/
def tellE (es : List KEn) : List Ent := (es.mergeSort fun x y => leD (kD x.p x.ys) (kD y.p y.ys)).map fun e => (e.p, e.ys, e.v)
theorem tell_ok {f : Flw} {box : List Int} {es : List KEn} (g : goodE f box es) (hl : es.length ≤ 1000) : VOut f box (tellE es) := by
  refine ⟨by unfold tellE; rw [List.length_map, List.length_mergeSort]; exact hl, fun e he => ?_, fun i a b ha hb => ?_⟩
  · obtain ⟨e', he', rfl⟩ := List.mem_map.mp he
    exact g.1 e' (List.mem_mergeSort.mp he')
  · unfold tellE at ha hb
    rw [List.getElem?_map] at ha hb
    obtain ⟨a', ha', rfl⟩ := Option.map_eq_some_iff.mp ha
    obtain ⟨b', hb', rfl⟩ := Option.map_eq_some_iff.mp hb
    exact sorted_keys (f := fun e : KEn => (e.p, e.ys)) g.2 i a' b' ha' hb'
theorem kDs_sort (es : List KEn) : (kDs es).mergeSort leD = (es.mergeSort fun x y => leD (kD x.p x.ys) (kD y.p y.ys)).map fun e => kD e.p e.ys := by
  unfold kDs
  exact (List.map_mergeSort (r := fun x y : KEn => leD (kD x.p x.ys) (kD y.p y.ys)) (s := leD) (f := fun e : KEn => kD e.p e.ys) fun _ _ _ _ => rfl).symm
end Wb
/-! WbV7 -/
set_option maxHeartbeats 4000000
namespace Wb
open PySem PySem.Spec PyProof.Rows L2
theorem noO_o {ds : Ds} (o : Option D) (h : noO ds) : noO (o.map SV.d :: ds) := by
  cases o with
  | none => exact noO_n h
  | some x => exact noO_d h
section
variable {F : Fm} {P : Program} {w : World} {ad : Addr} {es : List KEn} {ds : Ds} {R : SV → Prop} {ts tu : TS}
theorem et_andG {t u : TT} {a : Bool} {ρ : Bool → Prop} (ha : EvT F t ds (· = a)) (hb : a = true → EvT F u ds ρ) (hf : a = false → ρ false) : EvT F (tAnd t u) ds ρ := fun H0 P σ H s Q q =>
  ha H0 P σ H s _ fun c H1 k1 j1 e => by
    subst e
    cases c with
    | true =>
      rw [if_pos rfl]
      exact hb rfl H0 P σ H1 (s.mono k1 j1) Q fun b' H2 k2 j2 p2 => q b' H2 (k1.trans k2) j2 p2
    | false =>
      rw [if_neg Bool.false_ne_true]
      exact q false H1 k1 j1 (hf rfl)
/-- {} goes to a slot -/
theorem sd_knew {i : Nat} {N : Ds → Prop} (h : ∀ ad, ¬ F.S ad → SdK F P w ad tu (ds.set i (some (.d (.obj ad)))) [] (fun _ _ => False) R) : Sd F (tSeq (tAsg (tKNew P w) (gName i)) tu) ds N R := fun H0 Pn σ H D s n r => by
  intro p hp
  have j1 : F.J (upd H p (KdO P w p [])) := F.upd s.j hp s.j
  have s1 := (s.mono (Kp.new hp) j1).setD i (v := .ref p) (x := .obj p) (.obj p)
  exact h p (F.newS s.j0 (s.free hp)) H0 Pn _ _ D s1 (s.free hp) ⟨upd_same, (fun e he => nomatch he)⟩ (fun _ _ _ _ _ _ _ _ z => z.elim) r
theorem sdk_next {N : Ds → List KEn → Prop} (h : N ds es) : SdK F P w ad tNext ds es N R := fun H0 Pn0 σ H D s h0 kd n r => n Pn0 σ H ds es (fun _ h => h) s kd h
end
theorem nodup_inj {α β : Type} {f : α → β} : ∀ {xs : List α}, (xs.map f).Nodup → ∀ {a b : α}, a ∈ xs → b ∈ xs → f a = f b → a = b
  | x :: xs, nd, a, b, ha, hb, e => by
    rw [List.map_cons, List.nodup_cons] at nd
    rcases List.mem_cons.mp ha with rfl | ha1
    · rcases List.mem_cons.mp hb with rfl | hb1
      · rfl
      · exact absurd (by rw [e]; exact List.mem_map_of_mem hb1) nd.1
    · rcases List.mem_cons.mp hb with rfl | hb1
      · exact absurd (by rw [← e]; exact List.mem_map_of_mem ha1) nd.1
      · exact nodup_inj nd.2 ha1 hb1 e
theorem ent_of {f : Flw} {box d : List Int} {pt : List Int} {p v : Int} (vb : VBox box) (hp : pt ∈ ptsOf box) (h3 : box.length ≤ 3) (q : 0 ≤ p ∧ p < f.2.length) (dl : d.length = box.length) (near : ∀ x ∈ d, -4 ≤ x ∧ x ≤ 4) (ho : inBox box (subI pt d) = false) (hv : 0 ≤ v ∧ v < 65521) : VEnt f box (p, subI pt d, v) := by
  have hl := pts_dim _ hp
  have hz := pts_in hp
  refine ⟨q.1, q.2, ?_, fun x hx => ?_, ho, hv⟩
  · show (subI pt d).length = _
    unfold subI
    rw [List.length_map, List.length_zip, hl, dl, Nat.min_self]
  · have hx : x ∈ List.zip (subI pt d) box := hx
    obtain ⟨i, hi, rfl⟩ := List.getElem_of_mem hx
    have h1 : i < (subI pt d).length ∧ i < box.length := by
      rw [List.length_zip] at hi
      omega
    have h2 : i < pt.length := by omega
    have h3' : i < d.length := by omega
    rw [List.getElem_zip]
    have e : (subI pt d)[i] = pt[i] - d[i] := by
      unfold subI
      rw [List.getElem_map, List.getElem_zip]
    rw [e]
    have a1 := hz (pt[i], box[i]) (by
      have := List.getElem_mem (l := List.zip pt box) (n := i) (by rw [List.length_zip]; omega)
      rwa [List.getElem_zip] at this)
    have a2 := near d[i] (List.getElem_mem h3')
    have a3 := vb.small _ (List.getElem_mem h1.2)
    have a4 : box[i] ≤ 240 := Int.le_trans (prod_mem vb.pos _ (List.getElem_mem h1.2)) vb.few
    show -1000000000 ≤ pt[i] - d[i] ∧ pt[i] - d[i] ≤ 999999999 + box[i]
    have a1 : 0 ≤ pt[i] ∧ pt[i] < box[i] := a1
    omega
theorem nine_out {box : List Int} (h : 1 ≤ box.length) : inBox box (List.replicate box.length (-9)) = false := by
  cases box with
  | nil => simp at h
  | cons x xs =>
    unfold inBox
    rw [List.length_cons, List.replicate_succ, List.zip_cons_cons, List.all_cons]
    rfl
theorem nine_zip {n : Nat} {box : List Int} (vb : VBox box) : ∀ p ∈ List.zip (List.replicate n (-9 : Int)) box, -1000000000 ≤ p.1 ∧ p.1 ≤ 999999999 + p.2 := by
  intro p hp
  have h1 := (List.mem_replicate.mp (List.of_mem_zip hp).1).2
  have h2 := vb.pos _ (List.of_mem_zip hp).2
  omega
section
variable {P : Program} {w : World} {K : PySem.W.Frag} {mg : Str → Option Value} {base : Heap}
abbrev N__law_outside : List Str := ["_law_box_here", "_law_flow", "_law_sizes", "_law_found", "_law_plane", "_law_operand", "_law_source", "_law_distance", "_law_point", "_law_vector_here", "_law_key"]
abbrev P__law_outside : List Str := ["_law_box_here", "_law_flow", "_law_sizes"]
theorem sc__law_outside : FnScope N__law_outside P__law_outside d__law_outside.scope := ⟨rfl, rfl, rfl, by decide +kernel, rfl, by decide +kernel, by decide +kernel⟩
theorem b__law_outside (kV doc pm : Value) (an : Option Addr) (cdv ct : Value) (us : List Value) (hl : us.length = P__law_outside.length) : bindArgs (PySem.W.fnOf d__law_outside.name d__law_outside.qual d__law_outside.params d__law_outside.body d__law_outside.scope .none kV doc pm an cdv ct) ⟨us, []⟩ = pure (P__law_outside.zip us) := match us, hl with
  | [_, _, _], _ => rfl
def spOutside : Sp := spF bxF (fun b (a : Flw × List Int) => [.d (.obj b.a), .d (flowD a.1), .d (tI a.2)]) (fun _ a => VFlow a.1 ∧ VBox a.2 ∧ (a.2.length : Int) = a.1.1) fun _ a r => ∃ out, r = .d (.tup (out.map entD)) ∧ VOut a.1 a.2 out
def dsO (b : Bx) (f : Flw) (box : List Int) (ad : Addr) (o4 o5 o6 o7 o8 o9 o10 : Option D) : Ds := [some (.d (.obj b.a)), some (.d (flowD f)), some (.d (tI box)), some (.d (.obj ad)), o4.map SV.d, o5.map SV.d, o6.map SV.d, o7.map SV.d, o8.map SV.d, o9.map SV.d, o10.map SV.d]
theorem noO_O {b : Bx} {f : Flw} {box : List Int} {ad : Addr} {o4 o5 o6 o7 o8 o9 o10 : Option D} : noO (dsO b f box ad o4 o5 o6 o7 o8 o9 o10) :=
  noO_d (noO_d (noO_d (noO_d (noO_o _ (noO_o _ (noO_o _ (noO_o _ (noO_o _ (noO_o _ (noO_o _ noO_nil))))))))))
theorem c__law_outside (W : Wf w K mg) : Cal P w K mg base 4 "_law_outside" P__law_outside spOutside := by
  have nd := sc__law_outside.nd
  refine W.calF (d := d__law_outside) (N := N__law_outside) 72 64 rfl rfl sc__law_outside b__law_outside ?_ ?_
  rotate_left
  · intro f cdv A outer s H E hr
    refine ⟨_, (pss_cons (ps_set (i := 3) nd rfl (Or.inr rfl) (k_knew (P := P) (w := w) rfl rfl)) (pss_cons (ps_for PassesOwn.never rfl (k_piL (K := K) rfl (pe_cal (c__law_reads W) (hr.mono (by decide)) rfl (pa_cons (pv 1) pa_nil))) (k_pg (K := K) (n := 4) rfl rfl (pgs_cons (pg_name (i := 4) nd rfl (Or.inl rfl)) (pgs_cons (pg_name (i := 5) nd rfl (Or.inl rfl)) (pgs_cons (pg_name (i := 6) nd rfl (Or.inl rfl)) (pgs_cons (pg_name (i := 7) nd rfl (Or.inl rfl)) pgs_nil))))) (pss_one (ps_for PassesOwn.never rfl (k_piL (K := K) rfl (pe_cal (c__law_points W) (hr.mono (by decide)) rfl (pa_cons (pv 2) pa_nil))) (pg_name (i := 8) nd rfl (Or.inl rfl)) (pss_cons (ps_set (i := 9) nd rfl (Or.inl rfl) (pe_cal (c__law_less W) (hr.mono (by decide)) rfl (pa_cons (pv 8) (pa_cons (pv 7) pa_nil)))) (pss_one (ps_if (PW.pt (pw_and (pt_not (pt_val (pe_cal (c__law_inside W) (hr.mono (by decide)) rfl (pa_cons (pv 2) (pa_cons (pv 9) pa_nil))))) (pw_and (pt_cmpR op_lt (pe_callB (k_lenE (P := P) (w := w) rfl rfl) rfl (W.free 73 rfl) (by decide +kernel) (pa_cons (pv 3) pa_nil)) pe_int (nomark _)) (pw_and1 (pt_cmpR op_gt (pe_cal (c__law_draw W) (hr.mono (by decide)) rfl (pa_cons (pv 0) (pa_cons pe_int pa_nil))) pe_int (nomark _)))))) (pss_one (k_kput (P := P) (w := w) rfl rfl (hu9 hr) (pv 3) (pe_tup (pa_cons (pv 6) (pa_cons (pv 9) pa_nil))) (pe_cal (c__law_one W) (hr.mono (by decide)) rfl (pa_cons (pv 0) (pa_cons (pe_lst (pa_cons pe_int (pa_cons pe_int (pa_cons pe_int (pa_cons (pe_cal (c__law_draw W) (hr.mono (by decide)) rfl (pa_cons (pv 0) (pa_cons pe_int pa_nil))) pa_nil))))) pa_nil))) rfl)) pss_nil)))))) (pss_cons (ps_if (pt_cmpR op_eq (pe_cal (c__law_draw W) (hr.mono (by decide)) rfl (pa_cons (pv 0) (pa_cons pe_int pa_nil))) pe_int (nomark _)) (pss_one (k_kput (P := P) (w := w) rfl rfl (hu9 hr) (pv 3) (pe_tup (pa_cons (pe_cal (c__law_draw W) (hr.mono (by decide)) rfl (pa_cons (pv 0) (pa_cons (pe_callB (k_len (K := K) rfl) rfl (W.free 73 rfl) (by decide +kernel) (pa_cons (pe_ix (k_ixT (K := K) rfl) (pv 1) pe_int (fun _ _ => rfl)) pa_nil)) pa_nil))) (pa_cons (pe_op (k_repT (K := K) rfl) (pe_tup (pa_cons (pe_un un_neg pe_int) pa_nil)) (pe_ix (k_ixT (K := K) rfl) (pv 1) pe_int (fun _ _ => rfl))) pa_nil))) pe_int rfl)) pss_nil) (pss_one (ps_ret (pe_callTy (k_tuple (K := K) rfl) rfl (W.free 82 rfl) (by decide +kernel) (pa_cons (pe_lc (own := [("_law_key", 10)]) (tt := tYes) rfl nd (k_piL (K := K) rfl (pe_callB (k_sortE (P := P) (w := w) rfl rfl rfl (hu64 hr)) rfl (W.free 79 rfl) (by decide +kernel) (pa_cons (pv 3) pa_nil))) (blkOk_by (N := N__law_outside) (sc := d__law_outside.scope) (by decide +kernel)) (fun _ _ _ _ _ => (pg_name (i := 10) nd rfl (Or.inl rfl))) (fun _ _ _ _ _ => pts_nil) (fun _ _ _ _ _ => (pe_op (k_catT (K := K) rfl) (pv 10) (pe_tup (pa_cons (k_kitem (P := P) (w := w) rfl rfl (hu9 hr) (pv 3) (pv 10) (fun _ _ => rfl)) pa_nil))))) pa_nil))))))), ?_⟩
    rintro b ⟨f, box⟩ ⟨vf, vb, hd⟩
    have vf : VFlow f := vf
    have v5 := vf.n6
    have vb : VBox box := vb
    have hd : (box.length : Int) = f.1 := hd
    have h3 : box.length ≤ 3 := by have := vf.dims3; omega
    have h2 : 2 ≤ box.length := by have := vf.dims; omega
    refine sd_knew fun ad nad => ?_
    show SdK (bxF b) P w ad _ (dsO b f box ad none none none none none none none) [] _ _
    refine sdk_seq (M := fun d es => ∃ o4 o5 o6 o7 o8 o9 o10, d = dsO b f box ad o4 o5 o6 o7 o8 o9 o10 ∧ goodE f box es ∧ es.length ≤ 900)
      (sdk_for (fun _ _ d es => ∃ o4 o5 o6 o7 o8 o9 o10, d = dsO b f box ad o4 o5 o6 o7 o8 o9 o10 ∧ goodE f box es ∧ es.length ≤ 900) (src_list (ev_fnA f (ea_cons (ev_var (i := 1) rfl) ea_nil) vf fun r e => e)) (fun xs _ => ⟨none, none, none, none, none, none, none, rfl, goodE_nil, Nat.zero_le _⟩) ?_ fun xs d es _ h => h) ?_
    · rintro xs i x ds1 es1 rfl hx ⟨o4, o5, o6, o7, o8, o9, o10, rfl, g1, l1⟩
      rw [List.getElem?_map] at hx
      obtain ⟨rw_, hrw, rfl⟩ := Option.map_eq_some_iff.mp hx
      have vr := vf.row (List.mem_of_getElem? hrw)
      refine ⟨_, dsO b f box ad (some (.int rw_.1)) (some (.int rw_.2.1)) (some (.int rw_.2.2.1)) (some (tI rw_.2.2.2)) o8 o9 o10, tg_tup (tgs_cons tg_nm (tgs_cons tg_nm (tgs_cons tg_nm (tgs_cons tg_nm tgs_nil)))), ?_⟩
      refine sdk_for (fun _ _ d es => ∃ o8 o9 o10, d = dsO b f box ad (some (.int rw_.1)) (some (.int rw_.2.1)) (some (.int rw_.2.2.1)) (some (tI rw_.2.2.2)) o8 o9 o10 ∧ goodE f box es ∧ es.length ≤ 900) (src_list (ev_fnA box (ea_cons (ev_var (i := 2) rfl) ea_nil) ⟨vb, h3⟩ fun r e => e)) (fun xs _ => ⟨o8, o9, o10, rfl, g1, l1⟩) ?_ fun xs d es _ ⟨p8, p9, p10, e, g, l⟩ => ⟨_, _, _, _, p8, p9, p10, e, g, l⟩
      rintro ys j y ds2 es2 rfl hy ⟨p8, p9, p10, rfl, g2, l2⟩
      rw [List.getElem?_map] at hy
      obtain ⟨pt, hpt, rfl⟩ := Option.map_eq_some_iff.mp hy
      have hmem := List.mem_of_getElem? hpt
      have hdim := pts_dim _ hmem
      have hdl : rw_.2.2.2.length = box.length := by have := vr.dim; omega
      have hsl : (subI pt rw_.2.2.2).length = box.length := by
        unfold subI
        rw [List.length_map, List.length_zip, hdim, hdl, Nat.min_self]
      refine ⟨_, dsO b f box ad (some (.int rw_.1)) (some (.int rw_.2.1)) (some (.int rw_.2.2.1)) (some (tI rw_.2.2.2)) (some (tI pt)) p9 p10, tg_nm, ?_⟩
      refine sdk_seq (M := fun d es => d = dsO b f box ad (some (.int rw_.1)) (some (.int rw_.2.1)) (some (.int rw_.2.2.1)) (some (tI rw_.2.2.2)) (some (tI pt)) (some (tI (subI pt rw_.2.2.2))) p10 ∧ es = es2)
        (sdk_of noO_O (N' := (· = dsO b f box ad (some (.int rw_.1)) (some (.int rw_.2.1)) (some (.int rw_.2.2.1)) (some (tI rw_.2.2.2)) (some (tI pt)) (some (tI (subI pt rw_.2.2.2))) p10)) (sd_setE (ev_fnA (pt, rw_.2.2.2) (ea_cons (ev_var (i := 8) rfl) (ea_cons (ev_var (i := 7) rfl) ea_nil)) ⟨by show pt.length = rw_.2.2.2.length; omega, by show pt.length ≤ 1000; omega⟩ fun r e => e) rfl) fun d e => ⟨e, rfl⟩) ?_
      rintro d es ⟨rfl, rfl⟩
      refine sdk_if (ρ := fun z => z = true → inBox box (subI pt rw_.2.2.2) = false ∧ es.length < 900) noO_O ?_ ?_ ?_
      · refine et_andG (a := !inBox box (subI pt rw_.2.2.2)) (et_not (et_BD (ev_fnA (box, subI pt rw_.2.2.2) (ea_cons (ev_var (i := 2) rfl) (ea_cons (ev_var (i := 9) rfl) ea_nil)) ⟨hsl, by show box.length ≤ 1000; omega⟩ fun r e => e))) (fun hi => et_andG (a := decide ((es.length : Int) < 900)) (et_testD (ev_op (ev_lenE (by omega) (ev_var (i := 3) rfl)) ev_ci ro_b0)) (fun hl => ?_) fun _ z => nomatch z) fun _ z => nomatch z
        refine et_test (ev_lift nad (ev_opG (φ := fun r => ∃ z, r = .d (.int z)) (ψ := (· = .d (.int 0))) (ev_fnF b 3 (ea_cons (ev_var (i := 0) rfl) (ea_cons ev_ci ea_nil)) (by decide) fun z p => ?_) ev_ci fun x y ex ey => ?_))
        · obtain ⟨k, e, _⟩ := p
          exact ⟨k, e⟩
        · obtain ⟨z, rfl⟩ := ex
          subst ey
          exact fun Hb H vx vy Q a b c d e q => ro_b0 Hb H vx vy Q a b c d e fun v H2 z k j r ez => q v H2 z k j r ⟨_, ez, fun _ => ⟨by rw [Bool.not_eq_true'] at hi; exact hi, by have := of_decide_eq_true hl; omega⟩⟩
      · intro hz
        obtain ⟨hi, hl⟩ := hz rfl
        refine sdk_put (φ := fun n => 0 ≤ n ∧ n < 65521) (ψ := fun p ys => p = rw_.2.2.1 ∧ ys = subI pt rw_.2.2.2) ?_ (ev_var (i := 3) rfl) ((ev_tup [.int rw_.2.2.1, tI (subI pt rw_.2.2.2)] (ea_cons (ev_var (i := 6) rfl) (ea_cons (ev_var (i := 9) rfl) ea_nil))).imp fun r e => ⟨_, _, e, rfl, rfl⟩) (by omega) ?_
        · refine ev_callFB b (ρ := fun as => ∃ z : Int, as = [.d (.obj b.a), .own [.int 0, .int 1, .int 65520, .int z]] ∧ 0 ≤ z ∧ z < 65521) (ea_consG (φ := (· = .d (.obj b.a))) (ρ := fun as => ∃ z : Int, as = [.own [.int 0, .int 1, .int 65520, .int z]] ∧ 0 ≤ z ∧ z < 65521) (ev_var (i := 0) rfl) (EvA.imp (ea_r (φ := fun r => ∃ z : Int, r = .own [.int 0, .int 1, .int 65520, .int z] ∧ 0 ≤ z ∧ z < 65521) (ev_lstG (ρ := fun as => ∃ z : Int, as = [.d (.int 0), .d (.int 1), .d (.int 65520), .d (.int z)] ∧ 0 ≤ z ∧ z < 65521) (EvA.imp (ea_k ev_ci (ea_k ev_ci (ea_k ev_ci (ea_r (φ := fun r => ∃ z, r = .d (.int z) ∧ 0 ≤ z ∧ z < 65521) (ev_fnF b 65521 (ea_cons (ev_var (i := 0) rfl) (ea_cons ev_ci ea_nil)) (by decide) fun z p => p) ea_nil)))) ?_) ?_) ea_nil) ?_) ?_) ?_
          · rintro as ⟨_, rfl, _, rfl, _, rfl, _, rfl, z, rfl, h⟩
            exact ⟨z, rfl, h⟩
          · rintro as ⟨z, rfl, h⟩
            exact ⟨[.int 0, .int 1, .int 65520, .int z], rfl, by show 4 ≤ sizeLine; decide, z, rfl, h⟩
          · rintro as ⟨_, rfl, z, rfl, h⟩
            exact ⟨z, rfl, h⟩
          · rintro x xs rfl ⟨z, rfl, h⟩
            exact ⟨z, rfl, h⟩
          · rintro as ⟨z, rfl, h⟩
            refine ⟨[.int 0, .int 1, .int 65520, .int z], rfl, ⟨(show 1 ≤ 4 by decide), (show 4 < 1000 by decide)⟩, fun r hr => ?_⟩
            obtain ⟨x, hx, rfl⟩ := hr
            simp only [List.mem_cons, List.mem_nil_iff, or_false] at hx
            rcases hx with rfl | rfl | rfl | rfl
            · exact ⟨_, rfl, by decide⟩
            · exact ⟨_, rfl, by decide⟩
            · exact ⟨_, rfl, by decide⟩
            · exact ⟨_, rfl, h⟩
        · rintro n p ys bb c hn ⟨rfl, rfl⟩
          exact ⟨_, _, _, rfl, goodE_put g2 (ent_of vb hmem h3 ⟨vr.lo, vr.hi⟩ hdl vr.near hi hn), by have := putE_len (es := es) (p := rw_.2.2.1) (ys := subI pt rw_.2.2.2) (v := n) (b := bb) (c := c); omega⟩
      · intro _
        exact sdk_next ⟨_, _, _, rfl, g2, l2⟩
    rintro d es ⟨o4, o5, o6, o7, o8, o9, o10, rfl, g, l⟩
    refine sdk_seq (M := fun d es => d = dsO b f box ad o4 o5 o6 o7 o8 o9 o10 ∧ goodE f box es ∧ es.length ≤ 901) (sdk_if (ρ := fun _ => True) noO_O ?_ ?_ ?_) ?_
    · refine et_test (ev_lift nad (ev_opG (φ := fun r => ∃ z, r = .d (.int z)) (ψ := (· = .d (.int 0))) (ev_fnF b 2 (ea_cons (ev_var (i := 0) rfl) (ea_cons ev_ci ea_nil)) (by decide) fun z p => ?_) ev_ci fun x y ex ey => ?_))
      · obtain ⟨k, e, _⟩ := p
        exact ⟨k, e⟩
      · obtain ⟨z, rfl⟩ := ex
        subst ey
        exact fun Hb H vx vy Q a b c d e q => ro_eq rfl rfl rfl Hb H vx vy Q a b c d e fun v H2 z k j r ez => q v H2 z k j r ⟨_, ez, trivial⟩
    · intro _
      have hlen : box.length = f.1.toNat := by omega
      refine sdk_put (φ := (· = 7)) (ψ := fun p ys => (0 ≤ p ∧ p < f.2.length) ∧ ys = List.replicate box.length (-9)) (ev_ci.imp fun r e => ⟨_, e, rfl⟩) (ev_var (i := 3) rfl) (ev_tupG (ρ := fun as => ∃ p : Int, as = [.d (.int p), .d (tI (List.replicate box.length (-9)))] ∧ 0 ≤ p ∧ p < f.2.length) (EvA.imp (ea_r (φ := fun r => ∃ z, r = .d (.int z) ∧ 0 ≤ z ∧ z < (f.2.length : Int)) (ev_fnF b (f.2.length : Int) (ea_cons (ev_var (i := 0) rfl) (ea_cons (ev_is (ev_call_b (ea_cons (ev_op (ev_var (i := 1) rfl) ev_ci (ro_ixT rfl)) ea_nil) (rcl_len (.tup _))) (by rw [List.length_map])) ea_nil)) ⟨by have := vf.n1; omega, by omega⟩ fun z p => p) (ea_cons (ev_is (y := .d (tI (List.replicate box.length (-9)))) (ev_op (ev_tup [.int (-9)] (ea_cons (ev_un ev_ci ru_i) ea_nil)) (ev_op (ev_var (i := 1) rfl) ev_ci (ro_ixT rfl)) (ro_repT (by decide) (by omega) (by decide))) ?_) ea_nil)) ?_) ?_) (by omega) ?_
      · rw [hlen]
        unfold tI
        generalize f.1.toNat = n
        congr 2
        induction n with
        | zero => rfl
        | succ n ih => rw [List.replicate_succ, List.flatten_cons, ih, List.replicate_succ, List.map_cons]; rfl
      · rintro as ⟨y, rfl, z, rfl, h⟩
        exact ⟨z, rfl, h⟩
      · rintro as ⟨z, rfl, h⟩
        exact ⟨[.int z, tI (List.replicate box.length (-9))], rfl, by show 2 ≤ sizeLine; decide, z, _, rfl, h, rfl⟩
      · rintro n p ys bb c rfl ⟨hp, rfl⟩
        exact ⟨rfl, goodE_put g ⟨hp.1, hp.2, List.length_replicate .., nine_zip vb, nine_out (by omega), (show (0:Int) ≤ 7 by decide), (show (7:Int) < 65521 by decide)⟩, by have := putE_len (es := es) (p := p) (ys := List.replicate box.length (-9)) (v := 7) (b := bb) (c := c); omega⟩
    · intro _
      exact sdk_next ⟨rfl, g, by omega⟩
    rintro d es ⟨rfl, g, l⟩
    refine sdk_of noO_O (N' := fun _ => False) (sd_ret (φ := (· = .d (.tup ((tellE es).map entD)))) ?_ fun r e => ⟨tellE es, e, tell_ok g (by omega)⟩) fun d h => h
    have ek : ∀ H, ((bxF b).and P w ad es).J H → KdJ P w ad es H := fun H j => j.2
    refine ev_is (ev_call_b (ea_cons (ev_lcMm (zs := es.mergeSort fun x y => leD (kD x.p x.ys) (kD y.p y.ys)) (fun e => kD e.p e.ys) (fun e => entD (e.p, e.ys, e.v)) ?_ (src_list (ev_is (ev_sortE (by omega) (ev_var (i := 3) rfl)) (by rw [kDs_sort]))) (lt_line (by rw [List.length_mergeSort]; omega)) fun e he => ⟨_, _, tg_nm, by decide, ev_op (ev_var (i := 10) rfl) (ev_tup [.int e.v] (ea_cons (ev_kitem ek (ev_var (i := 3) rfl) (ev_var (i := 10) rfl) (atE_of g.2 e (List.mem_mergeSort.mp he))) ea_nil)) (ro_catT ?_)⟩) ea_nil) (rcl_tuple (.own _))) ?_
    · intro a ha c hc e
      unfold kD at e
      injection e with e
      injection e with e1 e2
      injection e2 with e2 _
      injection e1 with e1
      exact nodup_inj g.2 (List.mem_mergeSort.mp ha) (List.mem_mergeSort.mp hc) (Prod.ext e1 (tI_inj _ _ e2))
    · show 2 + 1 ≤ sizeLine
      decide
    · unfold tellE
      rw [List.map_map]
      rfl
  · intro b a
    rfl
end
end Wb
/-! WbV8 -/
set_option maxHeartbeats 4000000
namespace Wb
open PySem PySem.Spec PyProof.Rows L2
/-- all that stood in Hs stands -/
def FsH (Hs : Hp) : Fm where
  S := fun _ => False
  A := fun b => Hs b ≠ none
  J := fun H => Same Hs H
  sub := fun _ h => h.elim
  loc := fun H H' j e b o h => (e b (by rw [h]; exact fun z => nomatch z)).trans (j b o h)
  pres := fun H b j h z => by
    cases e : Hs b with
    | none => exact h e
    | some o => rw [j b o e] at z; cases z
  nt := fun _ _ _ _ h => h.elim
theorem sql_sm {K : PySem.W.Frag} {H H' : Hp} {a : Addr} {xs : List V} (h : SqL K H a xs) (e : Same H H') : SqL K H' a xs := by
  rcases h with (h | ⟨o, h⟩) | h
  · exact .inl (.inl (e _ _ h))
  · exact .inl (.inr ⟨o, e _ _ h⟩)
  · exact .inr h
theorem rsl_obj {K : PySem.W.Frag} {Hs : Hp} {a : Addr} {ns : List Int} {lo hi : Option Int} (h : SqL K Hs a (ns.map V.int)) : RSl (FsH Hs) (rSlL K) (.d (.obj a)) lo hi (· = .own (cutD (ns.map D.int) lo hi)) := fun Hb H vx Q jb jh kb rx q => by
  have rx : Rep H vx (.obj a) := rx
  cases rx
  exact ⟨a, _, rfl, sql_sm h jh, fun l hl => q _ _ (.own _) (Kp.new hl) ((FsH Hs).upd jh hl jh) ⟨l, _, rfl, kb.free jb jh hl, upd_same, (RepL.of_ints ns).cut lo hi |>.mono fun a vs' e => by rw [upd_ne (ne_of_none e hl)]; exact e⟩ rfl⟩
theorem pairs_step {k : V} {tv : TE} {r : List (TE × TE)} {σ : L2.St} {H : Hp} {Q : List (V × V) → Hp → Prop} (h : tv σ H fun y H2 => tPairs r σ H2 fun ps H3 => Q ((k, y) :: ps) H3) : tPairs ((tC k, tv) :: r) σ H Q := h
section
variable {P : Program} {w : World} {K : PySem.W.Frag} {mg : Str → Option Value} {base : Heap}
def spOpened (K : PySem.W.Frag) : Sp := fun vs H Q _ => ∃ (a : Addr) (ns : List Int), vs = [.ref a] ∧ SqL K H a (ns.map V.int) ∧ ns.length ≤ 100000 ∧ ∀ H' b, Same H H' → BxJ b H' → Q (.ref b.a) H'
abbrev N__law_opened : List Str := ["_law_script", "_law_cells", "_law_cell", "_law_small", "_law_great"]
abbrev P__law_opened : List Str := ["_law_script"]
theorem sc__law_opened : FnScope N__law_opened P__law_opened d__law_opened.scope := ⟨rfl, rfl, rfl, by decide +kernel, rfl, by decide +kernel, by decide +kernel⟩
theorem b__law_opened (kV doc pm : Value) (an : Option Addr) (cdv ct : Value) (us : List Value) (hl : us.length = P__law_opened.length) : bindArgs (PySem.W.fnOf d__law_opened.name d__law_opened.qual d__law_opened.params d__law_opened.body d__law_opened.scope .none kV doc pm an cdv ct) ⟨us, []⟩ = pure (P__law_opened.zip us) := match us, hl with
  | [_], _ => rfl
theorem c__law_opened (W : Wf w K mg) : Cal P w K mg base 1 "_law_opened" P__law_opened (spOpened K) := by
  refine Dok.cal (f := He.fAd K d__law_opened.at_) ?_ (W.glo 51 rfl)
  have nd := sc__law_opened.nd
  refine W.fnOk (d := d__law_opened) (N := N__law_opened) (ps := P__law_opened) 59 rfl sc__law_opened b__law_opened ?_ ?_
  rotate_left
  · intro f cdv A outer s H vs Q E hr hs
    refine ⟨_, (pss_cons (ps_setLc (i := 1) (own := [("_law_cell", 2)]) (tt := tYes) rfl nd rfl rfl (sw_true rfl rfl rfl (by decide +kernel)) (k_piL (K := K) rfl (pe_slice (k_slL (K := K) rfl) (pv 0) po_none (po_some pe_int))) (blkOk_by (N := N__law_opened) (sc := d__law_opened.scope) (by decide +kernel)) (fun _ _ _ _ _ => (pg_name (i := 2) nd rfl (Or.inl rfl))) (fun _ _ _ _ _ => pts_nil) (fun _ _ _ _ _ => (pe_callB k_abs rfl (W.free 67 rfl) (by decide +kernel) (pa_cons (pv 2) pa_nil)))) (pss_cons (ps_setLc (i := 3) (own := [("_law_cell", 2)]) rfl nd rfl rfl (sw_true rfl rfl rfl (by decide +kernel)) (k_piL (K := K) rfl (pv 1)) (blkOk_by (N := N__law_opened) (sc := d__law_opened.scope) (by decide +kernel)) (fun _ _ _ _ _ => (pg_name (i := 2) nd rfl (Or.inl rfl))) (fun _ _ _ _ _ => (pts_one (pt_cmpR op_lt (pv 2) (pe_op op_pow pe_int pe_int) (nomark _)))) (fun _ _ _ _ _ => (pv 2))) (pss_cons (ps_setLc (i := 4) (own := [("_law_cell", 2)]) rfl nd rfl rfl (sw_true rfl rfl rfl (by decide +kernel)) (k_piL (K := K) rfl (pv 1)) (blkOk_by (N := N__law_opened) (sc := d__law_opened.scope) (by decide +kernel)) (fun _ _ _ _ _ => (pg_name (i := 2) nd rfl (Or.inl rfl))) (fun _ _ _ _ _ => (pts_one (pt_cmpR op_ge (pv 2) (pe_op op_pow pe_int pe_int) (nomark _)))) (fun _ _ _ _ _ => (pv 2))) (pss_one (ps_ret (pe_disp (pps_cons pe_str (pv 4) (pps_cons pe_str (pe_op op_cat (pv 3) (pe_op op_rep (pe_lst (pa_cons pe_int pa_nil)) (pe_callTy k_int rfl (W.free 71 rfl) (by decide +kernel) (pa_cons (pe_cmpR (k_eqD (K := K) rfl (hu64 hr)) (pv 3) (pe_lst pa_nil) (nomark _)) pa_nil)))) (pps_cons pe_str pe_int pps_nil))) rfl rfl (by simp) (by decide))))))), ?_⟩
    obtain ⟨a, ns, rfl, hsq, hl, hq⟩ := hs
    have hsm : Same H H := fun _ _ e => e
    have ste0 : Ste (FsH H) H [] (start N__law_opened [.ref a]) H [some (.d (.obj a)), none, none, none, none] := ⟨hsm, Kp.refl _ _, hsm, rfl, (fun q hq => nomatch hq), fun i sv e => by
      match i, e with
      | 0, e => cases e; exact ⟨_, rfl, .obj a⟩
      | 1, e => cases e
      | 2, e => cases e
      | 3, e => cases e
      | 4, e => cases e
      | i + 5, e => simp at e, fun i j xs ys p e1 => by
      match i, e1 with
      | 0, e => cases e
      | 1, e => cases e
      | 2, e => cases e
      | 3, e => cases e
      | 4, e => cases e
      | i + 5, e => simp at e⟩
    obtain ⟨cs, ecs, hcl, hc0⟩ : ∃ cs : List Int, cs = (ns.take 61).map (fun x => if x < 0 then -x else x) ∧ cs.length ≤ 100000 ∧ ∀ x ∈ cs, 0 ≤ x := ⟨_, rfl, by rw [List.length_map, List.length_take]; omega, fun x hx => by
      obtain ⟨y, _, rfl⟩ := List.mem_map.mp hx
      show 0 ≤ if y < 0 then -y else y
      split <;> omega⟩
    refine (sd_setE (F := FsH H) (N := (· = [some (.d (.obj a)), some (.own (cs.map .int)), none, none, none])) (R := fun _ => False) (ev_is (y := .own (cs.map .int)) (ev_lcM (zs := ns.take 61) .int (fun x => .int (if x < 0 then -x else x)) int_inj (src_list (ev_is (ev_sl (ev_var (i := 0) rfl) ep_none (ep_some ev_ci) (rsl_obj hsq)) ?_)) ?_ fun x hx => ⟨_, _, tg_nm, by decide, ev_call_b (ea_cons ev_var ea_nil) rcl_abs⟩) ?_) rfl) H [] _ H _ ste0 (fun P1 σ1 H1 ds1 hq1 s1 e1 => ?_) (fun _ _ _ _ _ _ h => h.elim)
    · rw [List.map_take]
      congr 1
      unfold cutD
      rw [HT.sIx_none, show (some 61 : Option Int) = some ((61 : Nat) : Int) from rfl, HT.sIx_nat, List.drop_zero, Nat.sub_zero]
      exact List.take_eq_take_min.symm
    · exact lt_line (by rw [List.length_take]; omega)
    · rw [ecs, List.map_map]
      rfl
    subst e1
    refine (sd_frz (F := FsH H) (i := 1) (xs := cs.map .int) (N := (· = [some (.d (.obj a)), some (.bor (cs.map .int)), none, some (.own ((cs.filter fun x => decide (x < 10 ^ 18)).map .int)), none])) (R := fun _ => False) rfl (sd_setE (ev_lcMIf (zs := cs) .int .int (fun x => decide (x < 10 ^ 18)) int_inj (fun d => match d with | .int i => i | _ => 0) (fun _ => rfl) (src_slot rfl) (lt_line hcl) fun x hx => ⟨_, _, tg_nm, by decide, et_testD (ev_op ev_var (ev_op ev_ci ev_ci (ro_i ⟨by decide, by decide, by decide⟩)) ro_b0), fun _ => ev_var⟩) rfl)) H P1 σ1 H1 _ s1 (fun P2 σ2 H2 ds2 hq2 s2 e2 => ?_) (fun _ _ _ _ _ _ h => h.elim)
    subst e2
    refine (sd_setE (F := FsH H) (N := (· = [some (.d (.obj a)), some (.bor (cs.map .int)), none, some (.own ((cs.filter fun x => decide (x < 10 ^ 18)).map .int)), some (.own ((cs.filter fun x => decide (x ≥ 10 ^ 18)).map .int))])) (R := fun _ => False) (ev_lcMIf (zs := cs) .int .int (fun x => decide (x ≥ 10 ^ 18)) int_inj (fun d => match d with | .int i => i | _ => 0) (fun _ => rfl) (src_slot rfl) (lt_line hcl) fun x hx => ⟨_, _, tg_nm, by decide, et_testD (ev_op ev_var (ev_op ev_ci ev_ci (ro_i ⟨by decide, by decide, by decide⟩)) ro_b0), fun _ => ev_var⟩) rfl) H P2 σ2 H2 _ s2 (fun P3 σ3 H3 ds3 hq3 s3 e3 => ?_) (fun _ _ _ _ _ _ h => h.elim)
    subst e3
    generalize hsm0 : (cs.filter fun x => decide (x < 10 ^ 18)) = sm at s3
    generalize hgr0 : (cs.filter fun x => decide (x ≥ 10 ^ 18)) = gr at s3
    intro p hp
    have s4 := s3.mono (Kp.new (o := .dK []) hp) ((FsH H).upd s3.j hp s3.j)
    have hsml : sm.length ≤ 61 := by
      rw [← hsm0]
      refine Nat.le_trans (List.length_filter_le _ _) ?_
      rw [ecs, List.length_map, List.length_take]
      omega
    obtain ⟨v4, e4, pg, vg, rfl, n4, g4, r4, _⟩ := s4.env 4 _ rfl
    rw [RepL.ints r4] at g4
    refine pairs_step ⟨_, e4, pairs_step ?_⟩
    refine (show Ev (FsH H) _ _ (· = .own ((sm ++ if sm.isEmpty then [89] else []).map .int)) from ev_is (ev_op (ev_varO (i := 3) rfl) (ev_op (ev_lst [.int 89] (ea_cons ev_ci ea_nil)) (ev_call_b (ea_cons (ev_op (ev_varO (i := 3) rfl) (ev_lst [] ea_nil) (ro_eqNil (.inr rfl) (plainDs_map fun _ _ => rfl) (Nat.lt_of_le_of_lt (depDs_map (f := D.int) (n := 0) fun _ _ => Nat.le_refl 0) (by decide)))) ea_nil) rcl_intB) (ro_repL (.inl rfl) ?_ ?_)) (ro_catL (.inr rfl) (.inl rfl) ?_)) ?_) H P3 σ3 _ s4 _ fun v H5 r k5 j5 r5 e5 => ?_
    · split <;> decide
    · split <;> decide
    · rw [List.length_map]
      have h : (List.replicate (if ((sm.map D.int).isEmpty) = true then (1 : Int) else 0).toNat [D.int 89]).flatten.length ≤ 1 := by split <;> decide
      exact le_line (by omega)
    · congr 1
      rw [List.map_append]
      congr 1
      cases sm <;> rfl
    subst e5
    obtain ⟨q, vs, rfl, hq5, hq6, rq⟩ := r5
    rw [RepL.ints rq] at hq6
    have hp5 : H5 p = some (.dK []) := k5 p _ (fun z => z) upd_same
    have hg5 : H5 pg = some (.lst (gr.map V.int)) := k5 pg _ (fun z => z) g4
    refine pairs_step ⟨hp5, [(.inr "great", .ref pg), (.inr "small", .ref q), (.inr "turn", .int 0)], rfl, (show 3 ≤ 15 by decide), ?_⟩
    have npg : pg ≠ p := by rintro rfl; rw [hp5] at hg5; cases hg5
    have nq : q ≠ p := by rintro rfl; rw [hp5] at hq6; cases hq6
    refine hq _ ⟨p, pg, q, sm ++ if sm.isEmpty then [89] else []⟩ (fun x o e => ?_) ⟨gr, 0, ⟨?_, ?_, ?_, ?_, Int.le_refl 0, ?_, ?_, ?_⟩⟩
    · rw [upd_ne]
      · exact j5 x o e
      · rintro rfl
        have := s3.j x o e
        rw [hp] at this
        cases this
    · rw [upd_same]
      rfl
    · rw [upd_ne npg]
      exact hg5
    · rw [upd_ne nq]
      exact hq6
    · intro x hx
      rw [← hgr0] at hx
      exact hc0 x (List.mem_filter.mp hx).1
    · intro x hx
      rcases List.mem_append.mp hx with hx | hx
      · rw [← hsm0] at hx
        exact hc0 x (List.mem_filter.mp hx).1
      · split at hx
        · rw [List.mem_singleton.mp hx]; decide
        · cases hx
    · show sm ++ (if sm.isEmpty then [89] else []) ≠ []
      cases sm <;> simp
    · show pg ≠ q
      rintro rfl
      rw [g4] at hq5
      cases hq5
  · rintro vs H Q E ⟨a, ns, rfl, _⟩
    rfl
end
end Wb
/-! WbV9 -/
set_option maxHeartbeats 4000000
namespace Wb
open PySem PySem.Spec PyProof.Rows L2
section
variable {P : Program} {w : World} {K : PySem.W.Frag} {mg : Str → Option Value} {base : Heap}
def spFC (K : PySem.W.Frag) : Sp := fun vs H Q _ => ∃ (x dx : Addr) (v1 : V) (rest : List V) (f : Flw) (t : Tim) (box : List Int) (out : List Ent), vs = .ref x :: rest ∧ H x = some (.ins (cF K) dx [("held", v1)]) ∧ Rep H v1 (flowD f) ∧ RepL H rest [timD t, tI box, .tup (out.map entD)] ∧ VWork f t box out ∧
  ∀ H' u, Same H H' → Rep H' u (.tup ((wordsL f t box out).map tI)) → Q u H'
abbrev N_Flow_call : List Str := ["self", "beats", "box", "outside", "error", "fault"]
abbrev P_Flow_call : List Str := ["self", "beats", "box", "outside"]
theorem sc_Flow_call : FnScope N_Flow_call P_Flow_call d_Flow_call.scope := ⟨rfl, rfl, rfl, by decide +kernel, rfl, by decide +kernel, by decide +kernel⟩
theorem b_Flow_call (kV doc pm : Value) (an : Option Addr) (cdv ct : Value) (us : List Value) (hl : us.length = P_Flow_call.length) : bindArgs (PySem.W.fnOf d_Flow_call.name d_Flow_call.qual d_Flow_call.params d_Flow_call.body d_Flow_call.scope .none kV doc pm an cdv ct) ⟨us, []⟩ = pure (P_Flow_call.zip us) := match us, hl with
  | [_, _, _, _], _ => rfl
theorem c_Flow_call (W : Wf w K mg) : Dok P w K mg base 9 (He.ma K (cF K) "__call__") P_Flow_call (spFC K) := by
  have cl := W.cls (x := "Flow") 95 rfl
  have nd := sc_Flow_call.nd
  refine W.fnOk (d := d_Flow_call) (N := N_Flow_call) (ps := P_Flow_call) 42 rfl sc_Flow_call b_Flow_call ?_ ?_
  rotate_left
  · intro f cdv A outer s H vs Q E hr hs
    refine ⟨_, (pss_cons (ps_set (i := 4) nd rfl (Or.inl rfl) (pe_cal (c_beats_error W) (hr.mono (by decide)) rfl (pa_cons (pe_fld (pv 0) rfl) (pa_cons (pv 1) pa_nil)))) (pss_cons (ps_if (pt_cmpR k_notN (pv 4) pe_non (nomark _)) (pss_never) pss_nil) (pss_cons (ps_set (i := 5) nd rfl (Or.inl rfl) (pe_cal (c_box_error W) (hr.mono (by decide)) rfl (pa_cons (pe_ix (k_ixT (K := K) rfl) (pe_fld (pv 0) rfl) pe_int (fun _ _ => rfl)) (pa_cons (pv 2) pa_nil)))) (pss_cons (ps_if (pt_cmpR k_notN (pv 5) pe_non (nomark _)) (pss_never) pss_nil) (pss_one (ps_ret (pe_cal (c_words_of W) (hr.mono (by decide)) rfl (pa_cons (pe_fld (pv 0) rfl) (pa_cons (pv 1) (pa_cons (pv 2) (pa_cons (pv 3) pa_nil))))))))))), ?_⟩
    obtain ⟨x, dx, v1, rest, f, t, box, out, rfl, hx, r1, rr, v, hq⟩ := hs
    have n1 := W.noat (x := "Flow") (f := "held") 103 rfl
    have hsm : Same H H := fun _ _ e => e
    have rrl : RRL (FsH H) H H (.ref x :: rest) [.d (.obj x), .d (timD t), .d (tI box), .d (.tup (out.map entD))] := .cons (r := .d (.obj x)) (.obj x) (RRL.ofRepL rr)
    obtain ⟨P0, s0⟩ := ste_start (F := FsH H) (N := N_Flow_call) rrl hsm
    have held : ∀ {ds : Ds}, ds[0]? = some (some (.d (.obj x))) → Ev (FsH H) (tFld K (tVar 0) "held") ds (· = .d (flowD f)) := fun {ds} e0 H0 Pn σ H1 s Q q => by
      refine (ev_var (F := FsH H) e0) H0 Pn σ H1 s _ fun u H2 r k j rr e => ?_
      subst e
      have rr : Rep H2 u (.obj x) := rr
      cases rr
      exact ⟨x, cF K, dx, _, v1, rfl, j _ _ hx, cl, n1, rfl, q v1 H2 (.d (flowD f)) k j (r1.mono fun a us e => j _ _ e) rfl⟩
    have hb : ∀ y ∈ box, 1 ≤ y ∧ y ≤ 1000000000 := fun y hy => ⟨v.vb.pos y hy, by
      have := prod_mem v.vb.pos y hy
      have := v.vb.few
      omega⟩
    refine sd_seqE (F := FsH H) (N := fun _ => False) (R := (· = .d (.tup ((wordsL f t box out).map tI)))) (ds1 := _) (sd_setE (ev_fnA (f, t) (ea_cons (held rfl) (ea_cons (ev_var (i := 1) rfl) ea_nil)) ⟨v.vf, v.vt⟩ fun r e => e) rfl) (sd_seqE (ds1 := _) (sd_ifF (et_is (et_testD (ev_op (ev_var (i := 4) rfl) ev_cn ro_notN)) rfl) (sd_next rfl)) (sd_seqE (ds1 := _) (sd_setE (ev_fnA (f.1, box) (ea_cons (ev_op (held rfl) ev_ci (ro_ixT rfl)) (ea_cons (ev_var (i := 2) rfl) ea_nil)) ⟨v.dim, hb⟩ fun r e => e) rfl) (sd_seqE (ds1 := _) (sd_ifF (et_is (et_testD (ev_op (ev_var (i := 5) rfl) ev_cn ro_notN)) rfl) (sd_next rfl)) (sd_ret (ev_fnA (f, t, box, out) (ea_cons (held rfl) (ea_cons (ev_var (i := 1) rfl) (ea_cons (ev_var (i := 2) rfl) (ea_cons (ev_var (i := 3) rfl) ea_nil)))) v fun r e => e) fun r e => e)))) H P0 _ H _ s0 (fun _ _ _ _ _ _ h => h.elim) fun u H' r k j rr e => ?_
    subst e
    exact hq H' u j rr
  · rintro vs H Q E ⟨x, dx, v1, rest, f, t, box, out, rfl, _, _, rr, _⟩
    rw [List.length_cons, rr.length]
    rfl
theorem callO_flow (W : Wf w K mg) : StX.CallO K (cF K) (He.ma K (cF K) "__call__") := by
  obtain ⟨a, b, c⟩ := W.meth (x := "Flow") (f := "__call__") 115 rfl
  obtain ⟨_, q⟩ := He.ba W.exs.1
  obtain ⟨_, q⟩ := He.ba q
  obtain ⟨_, q⟩ := He.ba q
  obtain ⟨_, q⟩ := He.ba q
  obtain ⟨_, q⟩ := He.ba q
  exact ⟨a, b, q⟩
/-- a def of no defaults, by its promise alone -/
theorem Dok.raw0 {k : Nat} {f : Addr} {ps : List Str} {sp : Sp} (h : Dok P w K mg base k f ps sp) : FnR P w K mg base CX0 k f sp := by
  obtain ⟨fd, G, _, b⟩ := h
  refine (G.raw b .nil).imp fun vs H Q E h => ?_
  rw [List.append_nil]
  exact h
/-- Flow(f)(beats, box, outside) -/
theorem ev_flowCall {X : Cx} {F : Fm} {ds : Ds} {ta tb : TA} {f : Flw} {t : Tim} {box : List Int} {out : List Ent} (h : EvA F ta ds (· = [.d (flowD f)])) (h2 : EvA F tb ds (· = [.d (timD t), .d (tI box), .d (.tup (out.map entD))])) (v : VWork f t box out) :
    Ev F (StX.tCallO X (cF K) (spFC K) E0 (tMake (cF K) (spFN K) [] E0 ta) tb) ds (· = .d (.tup ((wordsL f t box out).map tI))) := fun H0 P σ H s Q q =>
  h H0 P σ H s _ fun vs H1 as k1 j1 r1 e1 => by
    subst e1
    cases r1 with
    | cons ra rs =>
      cases rs
      intro x dx hx hdx hne
      have kp1 : Same H1 (upd (upd H1 dx (.own x)) x (.ins (cF K) dx [])) := fun y u e => by
        rw [upd_ne (ne_of_none e hx), upd_ne (ne_of_none e hdx)]
        exact e
      have ra : Rep H1 _ (flowD f) := ra
      refine ⟨x, dx, _, f, rfl, upd_same, ra.mono fun a us e => kp1 _ _ e, v.vf, fun H' kp ho => ⟨rfl, x, rfl, ?_⟩⟩
      have s1 : Same H1 H' := fun y u e => kp _ _ (kp1 _ _ e) (ne_of_none e hx)
      have k2 := k1.trans (Kp.same (F := F) s1)
      have j2 := F.same j1 s1
      refine h2 H0 P σ H' (s.mono k2 j2) _ fun vs2 H3 as2 k3 j3 r3 e3 => ?_
      subst e3
      have nS : ¬ F.S x := F.newS j1 hx
      have hx3 := k3 x _ nS ho
      refine ⟨.inr ⟨dx, _, hx3⟩, x, dx, _, vs2, f, t, box, out, rfl, hx3, (ra.mono fun a us e => s1 _ _ e).mono (k3.ts j2), ?_, v, fun H4 u s4 ru => ?_⟩
      · cases r3 with
        | cons a1 r3 =>
          cases r3 with
          | cons a2 r3 =>
            cases r3 with
            | cons a3 r3 =>
              cases r3
              exact .cons a1 (.cons a2 (.cons a3 .nil))
      · exact q u H4 (.d (.tup ((wordsL f t box out).map tI))) ((k2.trans k3).trans (Kp.same s4)) (F.same j3 s4) ru rfl
end
end Wb
/-! WbP1 -/
set_option maxHeartbeats 4000000
/-! The plain law: the words of a box do not hang on the beats. -/
namespace Wb
open PySem PySem.Spec PyProof.Rows L2
/-! ### the order of the work -/
theorem toks_ord (a : Ord) : PySem.W.keyToks (toPy (ordD a)) = .inl 1 :: .inl a.1 :: PySem.W.keyToksAll (toPys [.int a.2.1, tI a.2.2]) := by
  unfold ordD
  simp only [toPy, toPys, PySem.W.keyToks, PySem.W.keyToksAll, List.cons_append, List.nil_append]
theorem leO_beat {a b : Ord} (h : leO a b = true) : a.1 ≤ b.1 := by
  refine Classical.byContradiction fun hn => ?_
  have hlt : b.1 < a.1 := by omega
  have h : (!lexLt itemOrd (PySem.W.keyToks (toPy (ordD b))) (PySem.W.keyToks (toPy (ordD a)))) = true := h
  rw [toks_ord, toks_ord, lex_self (O := itemOrd)] at h
  have hne : (Sum.inl b.1 : Int ⊕ List Nat) ≠ .inl a.1 := fun z => by injection z with z; omega
  rw [lex_diff (O := itemOrd) hne] at h
  have e : itemOrd.blt (.inl b.1) (.inl a.1) = true := decide_eq_true hlt
  rw [e] at h
  cases h
theorem ord_sorted {t : Tim} {box : List Int} {i j : Nat} {a b : Ord} (hi : (ordL t box)[i]? = some a) (hj : (ordL t box)[j]? = some b) (h : i ≤ j) : a.1 ≤ b.1 := by
  rcases Nat.lt_or_eq_of_le h with h | h
  · have pw : (ordL t box).Pairwise fun a b => leO a b = true := List.pairwise_mergeSort (le := leO) (fun _ _ _ => leD_trans) (fun _ _ => leD_total _ _) (workOf t box)
    obtain ⟨h1, e1⟩ := List.getElem?_eq_some_iff.mp hi
    obtain ⟨h2, e2⟩ := List.getElem?_eq_some_iff.mp hj
    have := List.pairwise_iff_getElem.mp pw i j h1 h2 h
    rw [e1, e2] at this
    exact leO_beat this
  · subst h
    rw [hi] at hj
    cases hj
    exact Int.le_refl _
theorem ord_nodup {t : Tim} {box : List Int} (vb : VBox box) : ((ordL t box).map (·.2)).Nodup := by
  refine ((List.mergeSort_perm (workOf t box) leO).map _).nodup_iff.mpr ?_
  unfold workOf
  rw [List.map_flatMap]
  refine List.pairwise_flatMap.mpr ⟨fun pt _ => ?_, (pts_nodup vb).imp fun {a b} hab x hx y hy => ?_⟩
  · rw [List.map_map, List.pairwise_map, List.pairwise_iff_getElem]
    intro i j hi hj hij
    show ((_ : Int), pt) ≠ ((_ : Int), pt)
    intro e
    have e := congrArg Prod.fst e
    have e : (((t.2.zipIdx)[i].2 : Nat) : Int) = (((t.2.zipIdx)[j].2 : Nat) : Int) := e
    rw [List.getElem_zipIdx, List.getElem_zipIdx] at e
    simp at e
    omega
  · rw [List.map_map] at hx hy
    obtain ⟨p, _, rfl⟩ := List.mem_map.mp hx
    obtain ⟨q, _, rfl⟩ := List.mem_map.mp hy
    intro e
    exact hab (congrArg Prod.snd e)
theorem ord_has {t : Tim} {box : List Int} {pl : Nat} {pt : List Int} (h : pl < t.2.length) (hp : pt ∈ ptsOf box) : ∃ (i : Nat) (o : Ord), (ordL t box)[i]? = some o ∧ o.2 = ((pl : Int), pt) := by
  have hm : (dotI t.1 pt + t.2[pl], (pl : Int), pt) ∈ ordL t box := by
    unfold ordL
    refine List.mem_mergeSort.mpr (List.mem_flatMap.mpr ⟨pt, hp, List.mem_map.mpr ⟨(t.2[pl], pl), ?_, rfl⟩⟩)
    exact List.mem_iff_getElem?.mpr ⟨pl, by rw [List.getElem?_zipIdx, List.getElem?_eq_getElem h]; simp⟩
  obtain ⟨i, hi⟩ := List.mem_iff_getElem?.mp hm
  exact ⟨i, _, hi, rfl⟩
theorem ord_uniq {os : List Ord} (nd : (os.map (·.2)).Nodup) {i j : Nat} {a b : Ord} (hi : os[i]? = some a) (hj : os[j]? = some b) (e : a.2 = b.2) : i = j := by
  obtain ⟨h1, e1⟩ := List.getElem?_eq_some_iff.mp hi
  obtain ⟨h2, e2⟩ := List.getElem?_eq_some_iff.mp hj
  have h1' : i < (os.map (·.2)).length := by rw [List.length_map]; exact h1
  have h2' : j < (os.map (·.2)).length := by rw [List.length_map]; exact h2
  refine (List.getElem_inj (h₀ := h1') (h₁ := h2') nd).mp ?_
  rw [List.getElem_map, List.getElem_map, e1, e2, e]
/-! ### what is known -/
theorem kn_none {f : Flw} {out : List Ent} {os : List Ord} {i : Nat} (h : os[i]? = none) : knAt f out os (i + 1) = knAt f out os i := by
  unfold knAt
  rw [List.take_add_one, h]
  simp
theorem kn_no {f : Flw} {out : List Ent} {os : List Ord} {p : Int} {ys : List Int} : ∀ {i : Nat}, (∀ (k : Nat) o, k < i → os[k]? = some o → o.2 ≠ (p, ys)) → knAt f out os i p ys = outK out p ys
  | 0, _ => rfl
  | i + 1, h => by
    have ih := kn_no (f := f) (out := out) (os := os) (p := p) (ys := ys) (i := i) fun k o hk => h k o (Nat.lt_succ_of_lt hk)
    cases e : os[i]? with
    | none => rw [kn_none e, ih]
    | some o =>
      rw [kn_succ e]
      have hne := h i o (Nat.lt_succ_self i) e
      show (if o.2.1 = p ∧ o.2.2 = ys then _ else _) = _
      rw [if_neg fun z => hne (Prod.ext z.1 z.2), ih]
theorem kn_at {f : Flw} {out : List Ent} {os : List Ord} (nd : (os.map (·.2)).Nodup) {k : Nat} {o : Ord} (hk : os[k]? = some o) : ∀ {i : Nat}, k < i → knAt f out os i o.2.1 o.2.2 = some (wordAt f (knAt f out os k) o)
  | 0, h => absurd h (Nat.not_lt_zero _)
  | i + 1, h => by
    by_cases hki : k = i
    · subst hki
      rw [kn_succ hk]
      show (if o.2.1 = o.2.1 ∧ o.2.2 = o.2.2 then _ else _) = _
      rw [if_pos ⟨rfl, rfl⟩]
    · have ih := kn_at (f := f) (out := out) nd hk (i := i) (by omega)
      cases e : os[i]? with
      | none => rw [kn_none e, ih]
      | some o' =>
        rw [kn_succ e]
        show (if o'.2.1 = o.2.1 ∧ o'.2.2 = o.2.2 then _ else _) = _
        rw [if_neg fun z => hki (ord_uniq nd hk e (Prod.ext z.1 z.2).symm), ih]
theorem dot_sub : ∀ {ws pt d : List Int}, pt.length = d.length → dotI ws (subI pt d) = dotI ws pt - dotI ws d
  | [], _, _, _ => rfl
  | w :: ws, [], [], _ => rfl
  | w :: ws, [], _ :: _, h => by cases h
  | w :: ws, _ :: _, [], h => by cases h
  | w :: ws, x :: pt, y :: d, h => by
    have ih := dot_sub (ws := ws) (pt := pt) (d := d) (by simpa using h)
    unfold dotI subI at *
    simp only [List.zip_cons_cons, List.map_cons, List.sum_cons]
    rw [ih, Int.mul_sub]
    omega
theorem row_of {f : Flw} {pl : Nat} {r : Rul} {q : Rdt} (h : f.2[pl]? = some r) (hq : q ∈ r.2) : ∃ k : Nat, ((pl : Int), (k : Int), q.1, q.2) ∈ rowsF f := by
  obtain ⟨k, hk⟩ := List.mem_iff_getElem?.mp hq
  refine ⟨k, List.mem_flatMap.mpr ⟨(r, pl), List.mem_iff_getElem?.mpr ⟨pl, by rw [List.getElem?_zipIdx, h]; simp⟩, List.mem_map.mpr ⟨(q, k), List.mem_iff_getElem?.mpr ⟨k, by rw [List.getElem?_zipIdx, hk]; simp⟩, rfl⟩⟩⟩
section
variable {f : Flw} {t t' : Tim} {box : List Int} {out : List Ent}
theorem VWork.rule (v : VWork f t box out) {o : Ord} (ho : o ∈ ordL t box) : ∃ pl : Nat, o.2.1 = (pl : Int) ∧ pl < f.2.length ∧ f.2[pl]? = some (ruleOf f o) ∧ ruleOf f o ∈ f.2 := by
  obtain ⟨pl, st, h1, h2, h3, h4⟩ := mem_ord ho
  have hl : pl < f.2.length := by
    rw [← v.vt.many]
    exact (List.getElem?_eq_some_iff.mp h1).1
  have e : ruleOf f o = f.2[pl] := by
    unfold ruleOf
    rw [h2, Int.toNat_natCast, List.getD_eq_getElem?_getD, List.getElem?_eq_getElem hl]
    rfl
  exact ⟨pl, h2, hl, by rw [e, List.getElem?_eq_getElem hl], by rw [e]; exact List.getElem_mem hl⟩
/-- what is read stands ahead -/
theorem VWork.ahead (v : VWork f t box out) {i k : Nat} {o o' : Ord} {q : Rdt} (hi : (ordL t box)[i]? = some o) (hq : q ∈ (ruleOf f o).2) (hk : (ordL t box)[k]? = some o') (e : o'.2 = (q.1, subI o.2.2 q.2)) : k < i := by
  obtain ⟨pl, e1, hl, hr, hm⟩ := v.rule (List.mem_of_getElem? hi)
  obtain ⟨kk, hrow⟩ := row_of hr hq
  have hd := v.vt.delays _ hrow
  have hd : 1 ≤ dotI t.1 q.2 + stI t (pl : Int) - stI t q.1 := hd
  obtain ⟨pl1, st1, a1, a2, a3, a4⟩ := mem_ord (List.mem_of_getElem? hi)
  obtain ⟨pl2, st2, b1, b2, b3, b4⟩ := mem_ord (List.mem_of_getElem? hk)
  have vq := (v.vf.rules _ hm).reads q hq
  have hlen : o.2.2.length = q.2.length := by
    have h1 := pts_dim _ a3
    have h2 := vq.dim
    have h3 := v.dim
    omega
  have ep : pl1 = pl := by
    have : (pl1 : Int) = (pl : Int) := a2.symm.trans e1
    omega
  subst ep
  have s1 : stI t (pl1 : Int) = st1 := by
    unfold stI
    rw [Int.toNat_natCast, List.getD_eq_getElem?_getD, a1]
    rfl
  have eq1 : q.1 = (pl2 : Int) := by
    rw [← b2, e]
  have s2 : stI t q.1 = st2 := by
    rw [eq1]
    unfold stI
    rw [Int.toNat_natCast, List.getD_eq_getElem?_getD, b1]
    rfl
  have ev : o'.2.2 = subI o.2.2 q.2 := by rw [e]
  rw [ev, dot_sub hlen] at b4
  rw [s1, s2] at hd
  refine Classical.byContradiction fun hn => ?_
  have := ord_sorted hi hk (by omega)
  omega
abbrev Kf (f : Flw) (t : Tim) (box : List Int) (out : List Ent) : Kn := knAt f out (ordL t box) (ordL t box).length
theorem lt_of_at {α : Type} {xs : List α} {i : Nat} {x : α} (h : xs[i]? = some x) : i < xs.length := (List.getElem?_eq_some_iff.mp h).1
/-- each word is made of words that stay -/
theorem VWork.fix (v : VWork f t box out) {i : Nat} {o : Ord} (hi : (ordL t box)[i]? = some o) : Kf f t box out o.2.1 o.2.2 = some (wordAt f (Kf f t box out) o) := by
  have nd := ord_nodup (t := t) v.vb
  unfold Kf
  rw [kn_at nd hi (lt_of_at hi)]
  congr 1
  unfold wordAt
  congr 1
  refine List.map_congr_left fun q hq => ?_
  congr 1
  by_cases h : ∃ (k : Nat) (o' : Ord), (ordL t box)[k]? = some o' ∧ o'.2 = (q.1, subI o.2.2 q.2)
  · obtain ⟨k, o', hk, e⟩ := h
    have hlt := v.ahead hi hq hk e
    have e1 : q.1 = o'.2.1 := by rw [e]
    have e2 : subI o.2.2 q.2 = o'.2.2 := by rw [e]
    rw [e1, e2, kn_at nd hk hlt, kn_at nd hk (lt_of_at hk)]
  · rw [kn_no fun k o' _ hk e => h ⟨k, o', hk, e⟩, kn_no fun k o' _ hk e => h ⟨k, o', hk, e⟩]
theorem VWork.key (v : VWork f t box out) (v' : VWork f t' box out) {i : Nat} {o : Ord} (hi : (ordL t box)[i]? = some o) : ∃ (k : Nat) (o' : Ord), (ordL t' box)[k]? = some o' ∧ o'.2 = o.2 := by
  obtain ⟨pl, st, a1, a2, a3, a4⟩ := mem_ord (List.mem_of_getElem? hi)
  have hl : pl < t'.2.length := by
    rw [v'.vt.many, ← v.vt.many]
    exact lt_of_at a1
  obtain ⟨k, o', h1, h2⟩ := ord_has (t := t') hl a3
  exact ⟨k, o', h1, h2.trans (Prod.ext a2.symm rfl)⟩
theorem word_key {K : Kn} {o o' : Ord} (e : o'.2 = o.2) : wordAt f K o' = wordAt f K o := by
  unfold wordAt ruleOf
  rw [e]
theorem VWork.same (v : VWork f t box out) (v' : VWork f t' box out) : ∀ (n i : Nat), i < n → ∀ {o : Ord}, (ordL t box)[i]? = some o → Kf f t box out o.2.1 o.2.2 = Kf f t' box out o.2.1 o.2.2
  | 0, i, h, _, _ => absurd h (Nat.not_lt_zero _)
  | n + 1, i, h, o, hi => by
    obtain ⟨k', o', hk', e'⟩ := v.key v' hi
    have e1 : o.2.1 = o'.2.1 := by rw [e']
    have e2 : o.2.2 = o'.2.2 := by rw [e']
    rw [v.fix hi]
    rw [show Kf f t' box out o.2.1 o.2.2 = Kf f t' box out o'.2.1 o'.2.2 by rw [e1, e2], v'.fix hk', word_key e']
    congr 1
    unfold wordAt
    congr 1
    refine List.map_congr_left fun q hq => ?_
    congr 1
    by_cases hh : ∃ (k : Nat) (o2 : Ord), (ordL t box)[k]? = some o2 ∧ o2.2 = (q.1, subI o.2.2 q.2)
    · obtain ⟨k, o2, hk, e⟩ := hh
      have hlt := v.ahead hi hq hk e
      have ih := VWork.same v v' n k (by omega) hk
      rw [e] at ih
      exact ih
    · show knAt f out (ordL t box) _ _ _ = knAt f out (ordL t' box) _ _ _
      rw [kn_no fun k o2 _ hk e => hh ⟨k, o2, hk, e⟩, kn_no fun k o2 _ hk e => ?_]
      obtain ⟨k2, o3, hk2, e3⟩ := v'.key v hk
      exact hh ⟨k2, o3, hk2, e3.trans e⟩
/-! ### the rows -/
def ent (rows : List (List Int)) (pl i : Nat) : Int := (rows.getD pl []).getD i 0
theorem ent_set {rows : List (List Int)} {pl i : Nat} {v : Int} (h : pl < rows.length) (h2 : i < (rows.getD pl []).length) (p k : Nat) : ent (setR rows pl i v) p k = if p = pl ∧ k = i then v else ent rows p k := by
  unfold ent setR
  by_cases hp : p = pl
  · subst hp
    rw [List.getD_eq_getElem?_getD (l := rows.set _ _), List.getElem?_set_self h]
    show (((rows.getD p []).set i v).getD k 0) = _
    by_cases hk : k = i
    · subst hk
      rw [if_pos ⟨rfl, rfl⟩, List.getD_eq_getElem?_getD, List.getElem?_set_self h2]
      rfl
    · rw [if_neg fun z => hk z.2, List.getD_eq_getElem?_getD, List.getElem?_set_ne (Ne.symm hk), ← List.getD_eq_getElem?_getD]
  · rw [if_neg fun z => hp z.1, List.getD_eq_getElem?_getD (l := rows.set _ _), List.getElem?_set_ne (Ne.symm hp), ← List.getD_eq_getElem?_getD]
theorem VWork.place (v : VWork f t box out) {k : Nat} {o : Ord} (hk : (ordL t box)[k]? = some o) : ∃ (pl i : Nat), o.2.1 = (pl : Int) ∧ pl < f.2.length ∧ (ptsOf box)[i]? = some o.2.2 ∧ (idxI box o.2.2).toNat = i ∧ i < (ptsOf box).length := by
  obtain ⟨pl, e1, hl, _, _⟩ := v.rule (List.mem_of_getElem? hk)
  obtain ⟨pl1, st1, a1, a2, a3, a4⟩ := mem_ord (List.mem_of_getElem? hk)
  obtain ⟨i, h1, h2, h3⟩ := idx_of v.vb a3
  exact ⟨pl, i, e1, hl, h1, by rw [h2, Int.toNat_natCast], h3⟩
theorem VWork.ent_at (v : VWork f t box out) {k : Nat} {o : Ord} (hk : (ordL t box)[k]? = some o) : ∀ {j : Nat}, k < j → ent (rowsAt f box out (ordL t box) j) o.2.1.toNat (idxI box o.2.2).toNat = wordAt f (knAt f out (ordL t box) k) o
  | 0, h => absurd h (Nat.not_lt_zero _)
  | j + 1, h => by
    obtain ⟨sh1, sh2⟩ := rowsAt_shape (f := f) (box := box) (out := out) (os := ordL t box) j
    cases e : (ordL t box)[j]? with
    | none =>
      have : (ordL t box).length ≤ j := List.getElem?_eq_none_iff.mp e
      have := lt_of_at hk
      have hkj : k < j := by omega
      have ih := VWork.ent_at v hk hkj
      have e2 : rowsAt f box out (ordL t box) (j + 1) = rowsAt f box out (ordL t box) j := by
        show (match (ordL t box)[j]? with | some o => _ | none => _) = _
        rw [e]
      rw [e2, ih]
    | some o' =>
      obtain ⟨pl, i, p1, p2, p3, p4, p5⟩ := v.place e
      rw [rowsAt_succ e, ent_set (by rw [sh1, p1, Int.toNat_natCast]; exact p2) (by
        have hl : o'.2.1.toNat < (rowsAt f box out (ordL t box) j).length := by rw [sh1, p1, Int.toNat_natCast]; exact p2
        rw [List.getD_eq_getElem?_getD, List.getElem?_eq_getElem hl]
        show _ < ((rowsAt f box out (ordL t box) j)[o'.2.1.toNat]).length
        rw [sh2 _ (List.getElem_mem hl), p4]
        exact p5)]
      by_cases hkj : k = j
      · subst hkj
        rw [hk] at e
        cases e
        rw [if_pos ⟨rfl, rfl⟩]
      · rw [if_neg, VWork.ent_at v hk (j := j) (by omega)]
        rintro ⟨z1, z2⟩
        obtain ⟨pl', i', q1, q2, q3, q4, q5⟩ := v.place hk
        rw [q1, p1, Int.toNat_natCast, Int.toNat_natCast] at z1
        rw [q4, p4] at z2
        subst z1 z2
        rw [p3] at q3
        refine hkj (ord_uniq (ord_nodup v.vb) hk e (Prod.ext (q1.trans p1.symm) (Option.some.inj q3).symm))
theorem VWork.ent_all (v : VWork f t box out) {pl i : Nat} (hpl : pl < f.2.length) {pt : List Int} (hi : (ptsOf box)[i]? = some pt) : ent (wordsL f t box out) pl i = (Kf f t box out (pl : Int) pt).getD 0 := by
  obtain ⟨k, o, hk, e⟩ := ord_has (t := t) (box := box) (pl := pl) (by rw [v.vt.many]; exact hpl) (List.mem_of_getElem? hi)
  have h1 := v.ent_at hk (lt_of_at hk)
  have h2 := kn_at (f := f) (out := out) (ord_nodup v.vb) hk (lt_of_at hk)
  rw [e] at h1 h2
  have h1 : ent (wordsL f t box out) ((pl : Int)).toNat (idxI box pt).toNat = _ := h1
  rw [Int.toNat_natCast, pts_idx v.vb hi, Int.toNat_natCast] at h1
  rw [h1]
  show _ = (knAt f out (ordL t box) _ _ _).getD 0
  rw [h2]
  rfl
theorem rows_ext {a b : List (List Int)} {m n : Nat} (ha : a.length = m ∧ ∀ row ∈ a, row.length = n) (hb : b.length = m ∧ ∀ row ∈ b, row.length = n) (h : ∀ pl i, pl < m → i < n → ent a pl i = ent b pl i) : a = b := by
  refine List.ext_getElem (ha.1.trans hb.1.symm) fun pl h1 h2 => ?_
  have la := ha.2 _ (List.getElem_mem h1)
  have lb := hb.2 _ (List.getElem_mem h2)
  refine List.ext_getElem (la.trans lb.symm) fun i h3 h4 => ?_
  have e := h pl i (by omega) (by omega)
  unfold ent at e
  have ea : a.getD pl [] = a[pl] := by rw [List.getD_eq_getElem?_getD, List.getElem?_eq_getElem h1]; rfl
  have eb : b.getD pl [] = b[pl] := by rw [List.getD_eq_getElem?_getD, List.getElem?_eq_getElem h2]; rfl
  rw [ea, eb, getD_at h3, getD_at h4] at e
  exact e
/-- the words of a box do not hang on the beats -/
theorem words_same (v : VWork f t box out) (v' : VWork f t' box out) : wordsL f t box out = wordsL f t' box out := by
  refine rows_ext (rowsAt_shape _) (rowsAt_shape _) fun pl i hpl hi => ?_
  have hp := List.getElem?_eq_getElem hi
  rw [v.ent_all hpl hp, v'.ent_all hpl hp]
  obtain ⟨k, o, hk, e⟩ := ord_has (t := t) (box := box) (pl := pl) (by rw [v.vt.many]; exact hpl) (List.mem_of_getElem? hp)
  have := v.same v' _ k (Nat.lt_succ_self k) hk
  rw [e] at this
  rw [this]
end
end Wb
/-! WbV10 -/
set_option maxHeartbeats 4000000
namespace Wb
open PySem PySem.Spec PyProof.Rows L2
theorem vbox_of {box : List Int} {n : Int} (h : ∀ x ∈ box, 1 ≤ x ∧ x ≤ n) (hn : (box.length = 2 ∧ n = 4) ∨ (box.length = 3 ∧ n = 3)) : VBox box := by
  refine ⟨fun x hx => (h x hx).1, ?_⟩
  rcases hn with ⟨hl, rfl⟩ | ⟨hl, rfl⟩
  · match box, hl with
    | [a, b], _ =>
      have ha := h a List.mem_cons_self
      have hb := h b (List.mem_cons_of_mem _ List.mem_cons_self)
      have : a * b ≤ 4 * 4 := Int.mul_le_mul ha.2 hb.2 (by omega) (by omega)
      show 1 * a * b ≤ 240
      rw [Int.one_mul]
      omega
  · match box, hl with
    | [a, b, c], _ =>
      have ha := h a List.mem_cons_self
      have hb := h b (List.mem_cons_of_mem _ List.mem_cons_self)
      have hc := h c (List.mem_cons_of_mem _ (List.mem_cons_of_mem _ List.mem_cons_self))
      have h1 : a * b ≤ 3 * 3 := Int.mul_le_mul ha.2 hb.2 (by omega) (by omega)
      have h2 : a * b * c ≤ 9 * 3 := Int.mul_le_mul h1 hc.2 (by omega) (by omega)
      show 1 * a * b * c ≤ 240
      rw [Int.one_mul]
      omega
section
variable {X : Cx} {K : PySem.W.Frag} {F : Fm} {ds : Ds} {te : TE} {N : Ds → Prop} {R : SV → Prop}
theorem k_gl {es : List Expr} {kk n : Nat} {pos : Pos} {t : TGs} (hK : X.K = K) (hc : X.calm = true) (h : PGs X es t) (hn : (assignEach es X.env).length = n := by rfl) (hst : (assignEach es X.env).findIdx? (·.1) = none := by rfl) : PG X (.Tuple es kk pos) (gLst K n t) := hK ▸ pg_lst hc h hn hst
/-- a, b = a list -/
theorem sd_asgL {n : Nat} {gs : TGs} {φ : SV → Prop} (h : Ev F te ds φ) (k : ∀ r, φ r → ∃ xs is ds', IsLst r xs ∧ xs.length = n ∧ TgsOk gs is ds xs ds' ∧ N ds') : Sd F (tAsg te (gLst K n gs)) ds N R := fun H0 P σ H D s nn _ =>
  h H0 P σ H s _ fun v H2 r k2 j2 r2 p2 => by
    obtain ⟨xs, is, ds', hl, hn, htg, hN⟩ := k r p2
    obtain ⟨p, vs, rfl, hp, hr⟩ := rr_lst r2 hl
    exact ⟨p, vs, rfl, SqL.of hp, hr.length.trans hn, htg F H0 P σ H2 vs _ (s.mono k2 j2) hr fun σ' s' _ _ => nn P σ' H2 ds' (fun _ h => h) s' hN⟩
end

theorem ev_vecI {F : Fm} {K : PySem.W.Frag} {ds : Ds} {wi : TI} {g : TG} {te : TE} {vs : List Nat} {zs : List Int} {p : Int → Prop} (hs : EvI F wi ds (· = zs.map D.int)) (hn : zs.length < sizeLine)
    (hb : ∀ z ∈ zs, ∃ is ds', TgOk g is (wipeD ds vs) (.int z) ds' ∧ (∀ i ∈ is, i ∈ vs) ∧ Ev F te ds' fun r => ∃ z, r = .d (.int z) ∧ p z) : Ev F (tCB (rTupQ K) (tCons (tLc wi g tYes te vs) tNil)) ds fun r => ∃ v : List Int, r = .d (tI v) ∧ v.length = zs.length ∧ ∀ z ∈ v, p z :=
  ev_cbG (ρ := fun as => ∃ v : List Int, as = [.own (v.map .int)] ∧ v.length = zs.length ∧ ∀ z ∈ v, p z) (ea_consG (ρ := (· = [])) (φ := fun r => ∃ v : List Int, r = .own (v.map .int) ∧ v.length = zs.length ∧ ∀ z ∈ v, p z) (ev_lcR (out := fun _ y => ∃ z, y = .int z ∧ p z) hs (fun xs e => by rw [e, List.length_map]; exact hn) (fun xs e x hx => by
    subst e
    obtain ⟨z, hz, rfl⟩ := List.mem_map.mp hx
    obtain ⟨is, ds', h1, h2, h3⟩ := hb z hz
    exact ⟨is, ds', h1, h2, h3.imp fun r ⟨z, e, hp⟩ => ⟨_, e, z, rfl, hp⟩⟩) fun xs e ys hp => by
    obtain ⟨v, h1, h2, h3⟩ := paired_ints hp
    exact ⟨v, by rw [h1], by rw [h2, e, List.length_map], h3⟩) ea_nil fun x xs h e => by
      obtain ⟨v, rfl, h2, h3⟩ := h
      subst e
      exact ⟨v, rfl, h2, h3⟩) fun as h => by
    obtain ⟨v, rfl, h2, h3⟩ := h
    exact fun Hb H vs Q a b c d q => rcl_tuple (.own _) Hb H vs Q a b c d fun v' H2 z k j r ez => q v' H2 z k j r ⟨v, ez, h2, h3⟩
theorem RCl.imp {F : Fm} {r : List V → Hp → VK → Prop} {as : List SV} {χ φ : SV → Prop} (h : RCl F r as χ) (k : ∀ z, χ z → φ z) : RCl F r as φ := fun Hb H vs Q a b c d q => h Hb H vs Q a b c d fun v H2 z k1 k2 k3 k4 => q v H2 z k1 k2 k3 (k z k4)
theorem ev_clamp {F : Fm} {ds : Ds} {te : TE} (h : Ev F te ds fun r => ∃ z, r = .d (.int z)) : Ev F (tCB rMaxQ (tCons (tUn (rU fun i => .int (-i)) (tC (.int 60))) (tCons (tCB rMinQ (tCons (tC (.int 60)) (tCons te tNil))) tNil))) ds fun r => ∃ z, r = .d (.int z) ∧ -60 ≤ z ∧ z ≤ 60 := by
  have inner : Ev F (tCB rMinQ (tCons (tC (.int 60)) (tCons te tNil))) ds fun r => ∃ z, r = .d (.int z) ∧ z ≤ 60 := ev_cbG (ea_k ev_ci (ea_r h ea_nil)) fun as hh => by
    obtain ⟨_, rfl, _, rfl, z, rfl⟩ := hh
    exact rcl_min2.imp fun r e => ⟨_, e, by split <;> omega⟩
  refine ev_cbG (ea_k (ev_un ev_ci ru_i) (ea_r inner ea_nil)) fun as hh => ?_
  obtain ⟨_, rfl, _, rfl, z, rfl, hz⟩ := hh
  exact rcl_max2.imp fun r e => ⟨_, e, by split <;> omega, by split <;> omega⟩
theorem ste_plain {F : Fm} {H : Hp} {σ : L2.St} {ds : Ds} (j : F.J H) (hl : σ.length = ds.length) (h : ∀ (i : Nat) sv, ds[i]? = some (some sv) → ∃ v x, sv = .d x ∧ σ[i]? = some (some v) ∧ Rep H v x) : Ste F H [] σ H ds :=
  ⟨j, Kp.refl _ _, j, hl, (fun q hq => nomatch hq), fun i sv e => by
    obtain ⟨v, x, rfl, h1, h2⟩ := h i sv e
    exact ⟨v, h1, h2⟩, fun i k xs ys p e => by
    obtain ⟨v, x, z, _⟩ := h i _ e
    cases z⟩
theorem plain_words (rows : List (List Int)) : plainD (.tup (rows.map tI)) = true := plainDs_map fun r _ => plain_tI r
theorem dep_words (rows : List (List Int)) : depD (.tup (rows.map tI)) ≤ 64 := by
  have := depDs_map (f := tI) (n := 1) (xs := rows) fun r _ => dep_tI r
  show depDs (rows.map tI) + 1 ≤ 64
  omega
theorem at_last {α : Type} {f : α → D} {xs : List α} (h : xs ≠ []) : ∃ x ∈ xs, atI (xs.map f) (-1) = some (f x) := by
  rcases List.eq_nil_or_concat xs with rfl | ⟨ys, x, rfl⟩
  · exact absurd rfl h
  · refine ⟨x, by simp, ?_⟩
    rw [List.concat_eq_append]
    have e : ((ys ++ [x]).map f).length = ys.length + 1 := by simp
    unfold atI ixN
    rw [e, if_neg (by decide), if_pos (by omega)]
    show ((ys ++ [x]).map f)[((-1 : Int) + ((ys.length + 1 : Nat) : Int)).toNat]? = _
    rw [show ((-1 : Int) + ((ys.length + 1 : Nat) : Int)).toNat = ys.length by omega, List.map_append]
    simp
section
variable {P : Program} {w : World} {K : PySem.W.Frag} {mg : Str → Option Value} {base : Heap}
theorem c__law_slowed (W : Wf w K mg) : Cal P w K mg base 8 "_law_slowed" P__law_slowed (spA Fm.pure (fun a : Flw × List Int => [.d (flowD a.1), .d (tI a.2)]) (fun a => VFlow a.1 ∧ VWts a.1.1 a.2) PSlow) := (w_law_slowed W).cal (W.glo 65 rfl)
def spLaw (K : PySem.W.Frag) : Sp := fun vs H Q _ => ∃ (a : Addr) (ns : List Int), vs = [.ref a] ∧ SqL K H a (ns.map V.int) ∧ ns.length ≤ 100000 ∧ ∀ H', Q (.bl true) H'
abbrev N_law : List Str := ["_law_script", "_law_box_here", "_law_turn", "_law_flow", "_law_beats", "_law_sizes", "_law_outside_here", "_law_words", "_law_some", "_law_k", "_law_near", "_law_item", "_law_weights_here", "_law_told", "_law_slow", "_law_other"]
abbrev P_law : List Str := ["_law_script"]
theorem sc_law : FnScope N_law P_law d_law.scope := ⟨rfl, rfl, rfl, by decide +kernel, rfl, by decide +kernel, by decide +kernel⟩
theorem b_law (kV doc pm : Value) (an : Option Addr) (cdv ct : Value) (us : List Value) (hl : us.length = P_law.length) : bindArgs (PySem.W.fnOf d_law.name d_law.qual d_law.params d_law.body d_law.scope .none kV doc pm an cdv ct) ⟨us, []⟩ = pure (P_law.zip us) := match us, hl with
  | [_], _ => rfl
def dL (b : Bx) (o2 o3 o4 o5 o6 o7 o8 o9 o10 o11 o12 o13 o14 o15 : Option SV) : Ds := [none, some (.d (.obj b.a)), o2, o3, o4, o5, o6, o7, o8, o9, o10, o11, o12, o13, o14, o15]
theorem Wf.fnAll (W : Wf w K mg) {d : He.DefD} {k : Nat} {N ps : List Str} {sp : Sp} (i : Nat) (h : fn[i]? = some d) (S : FnScope N ps d.scope)
    (hl : ∀ vs H Q E, sp vs H Q E → vs.length = ps.length)
    (hbody : ∀ (base : Heap) (f : Addr) (cdv : Value) (A : Around) (outer : List Env) (s : Shared) (H : Hp) (vs : List V) (Q : VK) (E : XK), Room k (A.deeper (envOfC d.qual d.scope s.heap.objs.size f cdv)) → sp vs H Q E →
      ∃ t, PSs (cxOf CX0 P w K mg base N d.qual d.scope f cdv A outer s H E).nox d.body t ∧ t { nx := fun _ H' => Q .non H', rt := Q } (start N vs) H)
    (h0 : d.dfl = [] := by rfl) (h1 : d.kwd = [] := by rfl) : ∃ fd, FunD K d.name d.qual d.params d.body d.scope [] [] (He.fAd K d.at_) fd ∧ ∀ base, FnOk P w K mg base CX0 (k + 1) (He.fAd K d.at_) fd ps sp := by
  obtain ⟨fd, FD⟩ := W.def_ i h
  have e0 : d.dvs K = [] := by
    unfold He.DefD.dvs
    rw [h0]
    rfl
  have e1 : d.kws K = [] := by
    unfold He.DefD.kws
    rw [h1]
    rfl
  rw [e0, e1] at FD
  refine ⟨fd, FD, fun base => FD.ok S hl fun cdv A outer s H vs Q E hr hs => ?_⟩
  obtain ⟨t, ht, hq⟩ := hbody base (He.fAd K d.at_) cdv A outer s H vs Q E hr hs
  exact ⟨t, PSs.nox ht, hq⟩
theorem c_law (W : Wf w K mg) : ∃ fd, FunD K d_law.name d_law.qual d_law.params d_law.body d_law.scope [] [] (He.fAd K d_law.at_) fd ∧ ∀ base, FnOk P w K mg base CX0 10 (He.fAd K d_law.at_) fd P_law (spLaw K) := by
  have nd := sc_law.nd
  refine W.fnAll (d := d_law) (N := N_law) (ps := P_law) 74 rfl sc_law ?_ ?_
  rotate_left
  · intro base f cdv A outer s H vs Q E hr hs
    obtain ⟨fdI, gI, kI, bI⟩ := c_Flow_init (P := P) (w := w) (base := base) W
    obtain ⟨fdB, gB, kB, bB⟩ := c_Beats_init (P := P) (w := w) (base := base) W
    obtain ⟨fdW, gW, bW⟩ := fn_weights (P := P) (w := w) (base := base) W
    obtain ⟨fdS, gS, bS⟩ := fn_starts (P := P) (w := w) (base := base) W
    refine ⟨_, (pss_cons (ps_set (i := 1) nd rfl (Or.inr rfl) (pe_cal (c__law_opened W) (hr.mono (by decide)) rfl (pa_cons (pv 0) pa_nil))) (pss_cons (ps_for PassesOwn.never rfl (pi_range1 rfl (W.free 77 rfl) (pa_cons pe_int pa_nil)) (pg_name (i := 2) nd rfl (Or.inl rfl)) (pss_cons (ps_asg (pe_cal (c__law_served W) (hr.mono (by decide)) rfl (pa_cons (pv 1) (pa_cons pe_int pa_nil))) (k_gl (K := K) (n := 2) rfl rfl (pgs_cons (pg_name (i := 3) nd rfl (Or.inl rfl)) (pgs_cons (pg_name (i := 4) nd rfl (Or.inl rfl)) pgs_nil)))) (pss_cons (ps_set (i := 5) nd rfl (Or.inl rfl) (pe_cal (c__law_box W) (hr.mono (by decide)) rfl (pa_cons (pv 1) (pa_cons (pe_ix (k_ixT (K := K) rfl) (pv 3) pe_int (fun _ _ => rfl)) (pa_cons (pe_ix (k_ixL (K := K) rfl) (pe_lst (pa_cons pe_int (pa_cons pe_int pa_nil))) (pe_op op_sub (pe_ix (k_ixT (K := K) rfl) (pv 3) pe_int (fun _ _ => rfl)) pe_int) (fun _ _ => rfl)) pa_nil))))) (pss_cons (ps_set (i := 6) nd rfl (Or.inl rfl) (pe_cal (c__law_outside W) (hr.mono (by decide)) rfl (pa_cons (pv 1) (pa_cons (pv 3) (pa_cons (pv 5) pa_nil))))) (pss_cons (ps_par (i := 7) (j := 8) rfl nd rfl rfl (by decide) rfl rfl (pa_cons (pe_cal (c_words_of W) (hr.mono (by decide)) rfl (pa_cons (pv 3) (pa_cons (pv 4) (pa_cons (pv 5) (pa_cons (pv 6) pa_nil))))) (pa_cons (pe_lst (pa_cons (pv 4) pa_nil)) pa_nil)) rfl) (pss_cons (ps_for PassesOwn.never rfl (pi_range1 rfl (W.free 77 rfl) (pa_cons pe_int pa_nil)) (pg_name (i := 9) nd rfl (Or.inl rfl)) (pss_cons (ps_set (i := 10) nd rfl (Or.inl rfl) (pe_callTy (k_tuple (K := K) rfl) rfl (W.free 82 rfl) (by decide +kernel) (pa_cons (pe_lc (own := [("_law_item", 11)]) (tt := tYes) rfl nd (k_piT (K := K) rfl (pe_ix (k_ixT (K := K) rfl) (pv 4) pe_int (fun _ _ => rfl))) (blkOk_by (N := N_law) (sc := d_law.scope) (by decide +kernel)) (fun _ _ _ _ _ => (pg_name (i := 11) nd rfl (Or.inl rfl))) (fun _ _ _ _ _ => pts_nil) (fun _ _ _ _ _ => (pe_callB (k_max2 rfl) rfl (W.free 75 rfl) (by decide +kernel) (pa_cons (pe_un un_neg pe_int) (pa_cons (pe_callB (k_min2 rfl) rfl (W.free 76 rfl) (by decide +kernel) (pa_cons pe_int (pa_cons (pe_op op_sub (pe_op op_add (pv 11) (pe_cal (c__law_draw W) (hr.mono (by decide)) rfl (pa_cons (pv 1) (pa_cons pe_int pa_nil)))) pe_int) pa_nil))) pa_nil))))) pa_nil))) (pss_cons (ps_set (i := 12) nd rfl (Or.inl rfl) (pe_cal (c__law_one W) (hr.mono (by decide)) rfl (pa_cons (pv 1) (pa_cons (pe_lst (pa_cons (pe_ix (k_ixT (K := K) rfl) (pv 4) pe_int (fun _ _ => rfl)) (pa_cons (pv 10) (pa_cons (pe_cal (c__law_weights W) (hr.mono (by decide)) rfl (pa_cons (pv 1) (pa_cons (pe_ix (k_ixT (K := K) rfl) (pv 3) pe_int (fun _ _ => rfl)) pa_nil))) pa_nil)))) pa_nil)))) (pss_cons (ps_set (i := 13) nd rfl (Or.inl rfl) (pe_cal (c_find_starts W) (hr.mono (by decide)) rfl (pa_cons (pv 3) (pa_cons (pv 12) pa_nil)))) (pss_cons (ps_if (pt_cmpR op_eq (pe_ix (k_ixT (K := K) rfl) (pv 13) pe_int (fun _ _ => rfl)) pe_str (nomark _)) (pss_one (ps_expr (pe_bm PySem.F.plainAttrs_list PySem.F.slot_list_append PySem.F.type_list_append mt_append (pv 8) (pa_cons (pe_tup (pa_cons (pv 12) (pa_cons (pe_ix (k_ixT (K := K) rfl) (pv 13) pe_int (fun _ _ => rfl)) pa_nil))) pa_nil)))) pss_nil) (pss_cons (ps_set (i := 14) nd rfl (Or.inl rfl) (pe_cal (c__law_slowed W) (hr.mono (by decide)) rfl (pa_cons (pv 3) (pa_cons (pv 12) pa_nil)))) (pss_one (ps_if (pt_cmpR k_notN (pv 14) pe_non (nomark _)) (pss_one (ps_expr (pe_bm PySem.F.plainAttrs_list PySem.F.slot_list_append PySem.F.type_list_append mt_append (pv 8) (pa_cons (pv 14) pa_nil)))) pss_nil)))))))) (pss_cons (ps_for PassesOwn.never rfl (k_piL (K := K) rfl (pv 8)) (pg_name (i := 15) nd rfl (Or.inl rfl)) (pss_cons (ps_if (PW.pt (pw_or (pt_cmpR (k_neD (K := K) rfl (hu64 hr)) (pe_cal (c_words_of W) (hr.mono (by decide)) rfl (pa_cons (pv 3) (pa_cons (pv 15) (pa_cons (pv 5) (pa_cons (pv 6) pa_nil))))) (pv 7) (nomark _)) (pw_or1 (pt_cmpR (k_neD (K := K) rfl (hu64 hr)) (StX.pe_callO (pe_make (W.mkr 96 rfl) gI (hr.mono (by decide)) rfl (W.glo 94 rfl) bI .nil pass0 (pa_cons (pv 3) pa_nil)) (callO_flow W) (c_Flow_call W).raw0 (hr.mono (by decide)) pass0 (pa_cons (pv 15) (pa_cons (pv 5) (pa_cons (pv 6) pa_nil)))) (pv 7) (nomark _))))) (pss_one (ps_ret pe_bl)) pss_nil) (pss_one (ps_if (PW.pt (pw_or (pt_cmpR (k_neD (K := K) rfl (hu64 hr)) (pe_prop (pe_make (W.mkr 102 rfl) gB (hr.mono (by decide)) rfl (W.glo 100 rfl) bB .nil pass0 (pa_cons (pv 3) (pa_cons (pv 15) pa_nil))) (W.cls 101 rfl) (p_weights W) gW (hr.mono (by decide)) bW .nil pass0 rfl) (pe_ix (k_ixT (K := K) rfl) (pv 15) pe_int (fun _ _ => rfl)) (nomark _)) (pw_or1 (pt_cmpR (k_neD (K := K) rfl (hu64 hr)) (pe_prop (pe_make (W.mkr 102 rfl) gB (hr.mono (by decide)) rfl (W.glo 100 rfl) bB .nil pass0 (pa_cons (pv 3) (pa_cons (pv 15) pa_nil))) (W.cls 101 rfl) (p_starts W) gS (hr.mono (by decide)) bS .nil pass0 rfl) (pe_ix (k_ixT (K := K) rfl) (pv 15) pe_int (fun _ _ => rfl)) (nomark _))))) (pss_one (ps_ret pe_bl)) pss_nil)))) (pss_one (ps_if (pt_cmpR (k_neD (K := K) rfl (hu64 hr)) (pe_cal (c_words_of W) (hr.mono (by decide)) rfl (pa_cons (pe_cal (c_parse_flow W) (hr.mono (by decide)) rfl (pa_cons (pe_cal (c_flow_text W) (hr.mono (by decide)) rfl (pa_cons (pv 3) pa_nil)) pa_nil)) (pa_cons (pe_ix (k_ixL (K := K) rfl) (pv 8) (pe_un un_neg pe_int) (fun _ _ => rfl)) (pa_cons (pv 5) (pa_cons (pv 6) pa_nil))))) (pv 7) (nomark _)) (pss_one (ps_ret pe_bl)) pss_nil))))))))) (pss_one (ps_ret pe_bl)))), ?_⟩
    obtain ⟨a, ns, rfl, hsq, hl, hq⟩ := hs
    refine ⟨_, rfl, a, ns, rfl, hsq, hl, fun H1 b sm1 j1 => ?_⟩
    have s1 : Ste (bxF b) H1 [] [some (.ref a), some (.ref b.a), none, none, none, none, none, none, none, none, none, none, none, none, none, none] H1 (dL b none none none none none none none none none none none none none none) := ste_plain j1 rfl fun i sv e => by
      match i, e with
      | 0, e => cases e
      | 1, e => cases e; exact ⟨_, _, rfl, rfl, .obj b.a⟩
      | i + 2, e =>
        have e : (List.replicate 14 (none : Option SV))[i]? = some (some sv) := e
        have := (List.mem_replicate.mp (List.mem_of_getElem? e)).2
        cases this
    refine (sd_seq (F := bxF b) (M := fun _ => True) (N := fun _ => False) (R := (· = .d (.bl true))) (sd_for (fun _ _ d => ∃ o2 o3 o4 o5 o6 o7 o8 o9 o10 o11 o12 o13 o14 o15, d = dL b o2 o3 o4 o5 o6 o7 o8 o9 o10 o11 o12 o13 o14 o15) (src_rng1 (n := 8) (ea_cons ev_ci ea_nil) (by decide)) (fun xs e => ⟨none, none, none, none, none, none, none, none, none, none, none, none, none, none, rfl⟩) ?turn (fun _ _ _ _ => trivial)) (fun d _ => ?last)) H1 [] _ H1 _ s1 (fun _ _ _ _ _ _ h => h.elim) fun v H' r k j rr e => ?fin
    case fin =>
      subst e
      have rr : Rep H' v (.bl true) := rr
      cases rr
      exact hq H'
    case last => exact sd_ret (φ := (· = .d (.bl true))) ev_cb fun r e => e
    case turn =>
    rintro xs i x ds1 rfl hx ⟨o2, o3, o4, o5, o6, o7, o8, o9, o10, o11, o12, o13, o14, o15, rfl⟩
    refine ⟨_, dL b (some (.d x)) o3 o4 o5 o6 o7 o8 o9 o10 o11 o12 o13 o14 o15, tg_nm, ?_⟩
    refine sd_seq (M := fun d => ∃ f t, d = dL b (some (.d x)) (some (.d (flowD f))) (some (.d (timD t))) o5 o6 o7 o8 o9 o10 o11 o12 o13 o14 o15 ∧ VFlow f ∧ VBeats f t) (sd_asgL (φ := fun r => ∃ f t, r = .own [flowD f, timD t] ∧ VFlow f ∧ VBeats f t) (ev_fnF b 5 (ea_cons (ev_var (i := 1) rfl) (ea_cons ev_ci ea_nil)) ⟨by decide, by decide⟩ fun z p => p) fun r h => ?_) ?_
    · obtain ⟨f, t, rfl, vf, vt⟩ := h
      exact ⟨_, _, _, .inl rfl, rfl, tgs_cons tg_nm (tgs_cons tg_nm tgs_nil), f, t, rfl, vf, vt⟩
    rintro d ⟨f, t, rfl, vf, vt⟩
    obtain ⟨n, hn, hat, hnb⟩ : ∃ n : Int, ((f.1 = 2 ∧ n = 4) ∨ (f.1 = 3 ∧ n = 3)) ∧ atI [D.int 4, D.int 3] (f.1 - 2) = some (.int n) ∧ 1 ≤ n ∧ n < 1000 := by
      rcases vf.dims with e | e
      · exact ⟨4, .inl ⟨e, rfl⟩, by rw [e]; rfl, by decide, by decide⟩
      · exact ⟨3, .inr ⟨e, rfl⟩, by rw [e]; rfl, by decide, by decide⟩
    have hf3 : 2 ≤ f.1 ∧ f.1 ≤ 3 := by have := vf.dims; omega
    refine sd_seq (M := fun d => ∃ box, d = dL b (some (.d x)) (some (.d (flowD f))) (some (.d (timD t))) (some (.d (tI box))) o6 o7 o8 o9 o10 o11 o12 o13 o14 o15 ∧ VBox box ∧ (box.length : Int) = f.1) (sd_set (φ := fun r => ∃ v : List Int, r = .d (tI v) ∧ v.length = f.1.toNat ∧ ∀ x ∈ v, 1 ≤ x ∧ x ≤ n) (ev_fnF b (f.1, n) (ea_cons (ev_var (i := 1) rfl) (ea_cons (ev_op (ev_var (i := 3) rfl) ev_ci (ro_ixT rfl)) (ea_cons (ev_op (ev_lst [.int 4, .int 3] (ea_cons ev_ci (ea_cons ev_ci ea_nil))) (ev_op (ev_op (ev_var (i := 3) rfl) ev_ci (ro_ixT rfl)) ev_ci ro_i0) (ro_ixL (.inl rfl) hat)) ea_nil))) ⟨by show 0 ≤ f.1; omega, by show f.1 ≤ 1000; omega, hnb⟩ fun z p => p) fun r h => ?_) ?_
    · obtain ⟨box, rfl, hbl, hb⟩ := h
      refine ⟨trivial, box, rfl, vbox_of hb ?_, by omega⟩
      rcases hn with ⟨h1, h2⟩ | ⟨h1, h2⟩
      · exact .inl ⟨by omega, h2⟩
      · exact .inr ⟨by omega, h2⟩
    rintro d ⟨box, rfl, vb, hd⟩
    refine sd_seq (M := fun d => ∃ out, d = dL b (some (.d x)) (some (.d (flowD f))) (some (.d (timD t))) (some (.d (tI box))) (some (.d (.tup (out.map entD)))) o7 o8 o9 o10 o11 o12 o13 o14 o15 ∧ VOut f box out) (sd_set (φ := fun r => ∃ out, r = .d (.tup (out.map entD)) ∧ VOut f box out) (ev_fnF b (f, box) (ea_cons (ev_var (i := 1) rfl) (ea_cons (ev_var (i := 3) rfl) (ea_cons (ev_var (i := 5) rfl) ea_nil))) ⟨vf, vb, hd⟩ fun z p => p) fun r h => ?_) ?_
    · obtain ⟨out, rfl, vo⟩ := h
      exact ⟨trivial, out, rfl, vo⟩
    rintro d ⟨out, rfl, vo⟩
    have vw : ∀ {t' : Tim}, VBeats f t' → VWork f t' box out := fun h => ⟨vf, h, hd, vb, vo⟩
    obtain ⟨wd, hwd⟩ : ∃ wd, wd = D.tup ((wordsL f t box out).map tI) := ⟨_, rfl⟩
    have ewd : ∀ {t' : Tim}, VBeats f t' → D.tup ((wordsL f t' box out).map tI) = wd := fun h => by rw [hwd, words_same (vw h) (vw vt)]
    have eqw : (!eqD wd wd) = false := by rw [hwd, eqD_refl _ (plain_words _)]; rfl
    have plw : plainD wd = true := by rw [hwd]; exact plain_words _
    have dpw : depD wd ≤ 64 := by rw [hwd]; exact dep_words _
    refine sd_seq (M := fun d => d = dL b (some (.d x)) (some (.d (flowD f))) (some (.d (timD t))) (some (.d (tI box))) (some (.d (.tup (out.map entD)))) (some (.d wd)) (some (.own ([t].map timD))) o9 o10 o11 o12 o13 o14 o15) (sd_par (φ := (· = .d wd)) (ψ := (· = .own [timD t])) (ev_is (ev_fnA (f, t, box, out) (ea_cons (ev_var (i := 3) rfl) (ea_cons (ev_var (i := 4) rfl) (ea_cons (ev_var (i := 5) rfl) (ea_cons (ev_var (i := 6) rfl) ea_nil)))) (vw vt) fun r e => e) (by rw [ewd vt])) (ev_lst [timD t] (ea_cons (ev_var (i := 4) rfl) ea_nil)) (by decide) fun y z ey ez => ?_) ?_
    · subst ey ez
      exact ⟨trivial, trivial, .inl ⟨_, rfl⟩, rfl⟩
    rintro d rfl
    refine sd_seq (M := fun d => ∃ (ts : List Tim) (o9 o10 o11 o12 o13 o14 : Option SV), d = dL b (some (.d x)) (some (.d (flowD f))) (some (.d (timD t))) (some (.d (tI box))) (some (.d (.tup (out.map entD)))) (some (.d wd)) (some (.own (ts.map timD))) o9 o10 o11 o12 o13 o14 o15 ∧ (∀ t' ∈ ts, VBeats f t') ∧ ts ≠ [])
      (sd_for (fun _ k d => ∃ (ts : List Tim) (o9 o10 o11 o12 o13 o14 : Option SV), d = dL b (some (.d x)) (some (.d (flowD f))) (some (.d (timD t))) (some (.d (tI box))) (some (.d (.tup (out.map entD)))) (some (.d wd)) (some (.own (ts.map timD))) o9 o10 o11 o12 o13 o14 o15 ∧ (∀ t' ∈ ts, VBeats f t') ∧ ts ≠ [] ∧ ts.length ≤ 1 + 2 * k) (src_rng1 (n := 5) (ea_cons ev_ci ea_nil) (by decide)) (fun xs e => ⟨[t], _, _, _, _, _, _, rfl, (fun t' h => by rw [List.mem_singleton.mp h]; exact vt), (by simp), by simp⟩) ?_ (fun xs d e ⟨ts, p9, p10, p11, p12, p13, p14, h1, h2, h3, _⟩ => ⟨ts, p9, p10, p11, p12, p13, p14, h1, h2, h3⟩)) ?_
    · rintro ys k y ds2 rfl hy ⟨ts, p9, p10, p11, p12, p13, p14, rfl, hts, hne, hlen⟩
      have hk5 : k < 5 := by
        have := (List.getElem?_eq_some_iff.mp hy).1
        rwa [ints_len] at this
      refine ⟨_, dL b (some (.d x)) (some (.d (flowD f))) (some (.d (timD t))) (some (.d (tI box))) (some (.d (.tup (out.map entD)))) (some (.d wd)) (some (.own (ts.map timD))) (some (.d y)) p10 p11 p12 p13 p14 o15, tg_nm, ?_⟩
      refine sd_seq (M := fun d => ∃ (nr : List Int), d = dL b (some (.d x)) (some (.d (flowD f))) (some (.d (timD t))) (some (.d (tI box))) (some (.d (.tup (out.map entD)))) (some (.d wd)) (some (.own (ts.map timD))) (some (.d y)) (some (.d (tI nr))) p11 p12 p13 p14 o15 ∧ VWts f.1 nr) (sd_set (φ := fun r => ∃ v : List Int, r = .d (tI v) ∧ v.length = t.1.length ∧ ∀ z ∈ v, -60 ≤ z ∧ z ≤ 60) (ev_vecI (zs := t.1) (src_tup (ev_op (ev_var (i := 4) rfl) ev_ci (ro_ixT rfl))) (lt_line (vt.wts.len3 vf)) fun z hz => ⟨_, _, tg_nm, by decide, ev_clamp (ev_opG (φ := fun r => ∃ z, r = .d (.int z)) (ψ := (· = .d (.int 1))) (ev_opG (φ := (· = .d (.int z))) (ψ := fun r => ∃ z, r = .d (.int z)) (ev_var (i := 11) rfl) (ev_fnF b 3 (ea_cons (ev_var (i := 1) rfl) (ea_cons ev_ci ea_nil)) (by decide) fun z p => ?_) fun u v eu ev => ?_) ev_ci fun u v eu ev => ?_)⟩) fun r h => ?_) ?_
      · obtain ⟨k, e, _⟩ := p
        exact ⟨k, e⟩
      · obtain ⟨z2, rfl⟩ := ev
        subst eu
        exact ro_i0.imp fun r e => ⟨_, e⟩
      · obtain ⟨z2, rfl⟩ := eu
        subst ev
        exact ro_i0.imp fun r e => ⟨_, e⟩
      · obtain ⟨nr, rfl, h1, h2⟩ := h
        exact ⟨trivial, nr, rfl, by have := vt.wts.1; omega, h2⟩
      rintro d ⟨nr, rfl, vnr⟩
      refine sd_seq (M := fun d => ∃ (ws : List Int), d = dL b (some (.d x)) (some (.d (flowD f))) (some (.d (timD t))) (some (.d (tI box))) (some (.d (.tup (out.map entD)))) (some (.d wd)) (some (.own (ts.map timD))) (some (.d y)) (some (.d (tI nr))) p11 (some (.d (tI ws))) p13 p14 o15 ∧ VWts f.1 ws) (sd_set (φ := fun r => ∃ ws : List Int, r = .d (tI ws) ∧ VWts f.1 ws) (ev_callFB b (ρ := fun as => ∃ w3 : List Int, as = [.d (.obj b.a), .own [tI t.1, tI nr, tI w3]] ∧ VWts f.1 w3) (ea_consG (φ := (· = .d (.obj b.a))) (ρ := fun as => ∃ w3 : List Int, as = [.own [tI t.1, tI nr, tI w3]] ∧ VWts f.1 w3) (ev_var (i := 1) rfl) (EvA.imp (ea_r (φ := fun r => ∃ w3 : List Int, r = .own [tI t.1, tI nr, tI w3] ∧ VWts f.1 w3) (ev_lstG (ρ := fun as => ∃ w3 : List Int, as = [.d (tI t.1), .d (tI nr), .d (tI w3)] ∧ VWts f.1 w3) (EvA.imp (ea_k (ev_op (ev_var (i := 4) rfl) ev_ci (ro_ixT rfl)) (ea_k (ev_var (i := 10) rfl) (ea_r (φ := fun r => ∃ w3 : List Int, r = .d (tI w3) ∧ VWts f.1 w3) (ev_fnF b f.1 (ea_cons (ev_var (i := 1) rfl) (ea_cons (ev_op (ev_var (i := 3) rfl) ev_ci (ro_ixT rfl)) ea_nil)) vf.dims fun z p => ?_) ea_nil))) ?_) ?_) ea_nil) ?_) ?_) ?_) fun r h => ?_) ?_
      · obtain ⟨w3, e, h, _⟩ := p
        exact ⟨w3, e, h⟩
      · rintro as ⟨_, rfl, _, rfl, _, rfl, w3, rfl, h⟩
        exact ⟨w3, rfl, h⟩
      · rintro as ⟨w3, rfl, h⟩
        exact ⟨[tI t.1, tI nr, tI w3], rfl, (show 3 ≤ sizeLine by decide), w3, rfl, h⟩
      · rintro as ⟨_, rfl, w3, rfl, h⟩
        exact ⟨w3, rfl, h⟩
      · rintro u us rfl ⟨w3, rfl, h⟩
        exact ⟨w3, rfl, h⟩
      · rintro as ⟨w3, rfl, h⟩
        refine ⟨[tI t.1, tI nr, tI w3], rfl, ⟨(show 1 ≤ 3 by decide), (show 3 < 1000 by decide)⟩, fun r hr => ?_⟩
        obtain ⟨z, hz, rfl⟩ := hr
        simp only [List.mem_cons, List.mem_nil_iff, or_false] at hz
        rcases hz with rfl | rfl | rfl
        · exact ⟨_, rfl, vt.wts⟩
        · exact ⟨_, rfl, vnr⟩
        · exact ⟨_, rfl, h⟩
      · obtain ⟨ws, rfl, h⟩ := h
        exact ⟨trivial, ws, rfl, h⟩
      rintro d ⟨ws, rfl, vws⟩
      refine sd_seq (M := fun d => ∃ td : D, d = dL b (some (.d x)) (some (.d (flowD f))) (some (.d (timD t))) (some (.d (tI box))) (some (.d (.tup (out.map entD)))) (some (.d wd)) (some (.own (ts.map timD))) (some (.d y)) (some (.d (tI nr))) p11 (some (.d (tI ws))) (some (.d td)) p14 o15 ∧ ((∃ hs, td = .tup [.str "starts", tI hs] ∧ Good f ws hs) ∨ ∃ xs, td = .tup [.str "ring", .tup xs])) (sd_set (φ := PStarts (f, ws)) (ev_fnAG (f, ws) (ea_cons (ev_var (i := 3) rfl) (ea_cons (ev_var (i := 12) rfl) ea_nil)) ⟨vf, vws⟩ fun r p => ⟨p, ?_⟩) fun r h => ?_) ?_
      · rcases p with ⟨hs, rfl, _⟩ | ⟨xs, rfl⟩ <;> trivial
      · rcases h with ⟨hs, rfl, g⟩ | ⟨xs, rfl⟩
        · exact ⟨trivial, _, rfl, .inl ⟨hs, rfl, g⟩⟩
        · exact ⟨trivial, _, rfl, .inr ⟨xs, rfl⟩⟩
      rintro d ⟨td, rfl, htd⟩
      refine sd_seq (M := fun d => ∃ ts' : List Tim, d = dL b (some (.d x)) (some (.d (flowD f))) (some (.d (timD t))) (some (.d (tI box))) (some (.d (.tup (out.map entD)))) (some (.d wd)) (some (.own (ts'.map timD))) (some (.d y)) (some (.d (tI nr))) p11 (some (.d (tI ws))) (some (.d td)) p14 o15 ∧ (∀ t' ∈ ts', VBeats f t') ∧ ts' ≠ [] ∧ ts'.length ≤ 2 + 2 * k) ?_ ?_
      · rcases htd with ⟨hs, rfl, g⟩ | ⟨xs, rfl⟩
        · refine sd_ifT (et_is (et_testD (ev_op (ev_op (ev_var (i := 13) rfl) ev_ci (ro_ixT rfl)) ev_cs (ro_eq rfl rfl rfl))) (by decide +kernel)) (sd_append (K := K) (i := 8) rfl (φ := (· = .d (timD (ws, hs)))) (ev_tup [tI ws, tI hs] (ea_cons (ev_var (i := 12) rfl) (ea_cons (ev_op (ev_var (i := 13) rfl) ev_ci (ro_ixT rfl)) ea_nil))) (lt_line (by rw [List.length_map]; omega)) fun r e => ⟨_, e, ts ++ [(ws, hs)], ?_, fun t' ht => ?_, (by simp), by rw [List.length_append, List.length_singleton]; omega⟩)
          · rw [List.map_append]
            rfl
          · rcases List.mem_append.mp ht with ht | ht
            · exact hts t' ht
            · rw [List.mem_singleton.mp ht]
              exact good_beats vf vws g
        · exact sd_ifF (et_is (et_testD (ev_op (ev_op (ev_var (i := 13) rfl) ev_ci (ro_ixT rfl)) ev_cs (ro_eq rfl rfl rfl))) (by decide +kernel)) (sd_next ⟨ts, rfl, hts, hne, by omega⟩)
      rintro d ⟨ts', rfl, hts', hne', hlen'⟩
      refine sd_seq (M := fun d => ∃ sl : D, d = dL b (some (.d x)) (some (.d (flowD f))) (some (.d (timD t))) (some (.d (tI box))) (some (.d (.tup (out.map entD)))) (some (.d wd)) (some (.own (ts'.map timD))) (some (.d y)) (some (.d (tI nr))) p11 (some (.d (tI ws))) (some (.d td)) (some (.d sl)) o15 ∧ (sl = .non ∨ ∃ ws2 hs, sl = .tup [tI ws2, tI hs] ∧ VWts f.1 ws2 ∧ Good f ws2 hs)) (sd_set (φ := PSlow (f, ws)) (ev_fnAG (f, ws) (ea_cons (ev_var (i := 3) rfl) (ea_cons (ev_var (i := 12) rfl) ea_nil)) ⟨vf, vws⟩ fun r p => ⟨p, ?_⟩) fun r h => ?_) ?_
      · rcases p with rfl | ⟨ws2, hs, rfl, _⟩ <;> trivial
      · rcases h with rfl | ⟨ws2, hs, rfl, h1, h2⟩
        · exact ⟨trivial, _, rfl, .inl rfl⟩
        · exact ⟨trivial, _, rfl, .inr ⟨ws2, hs, rfl, h1, h2⟩⟩
      rintro d ⟨sl, rfl, hsl⟩
      rcases hsl with rfl | ⟨ws2, hs, rfl, h1, h2⟩
      · exact sd_ifF (et_is (et_testD (ev_op (ev_var (i := 14) rfl) ev_cn ro_notN)) rfl) (sd_next ⟨ts', _, _, _, _, _, _, rfl, hts', hne', by omega⟩)
      · refine sd_ifT (et_is (et_testD (ev_op (ev_var (i := 14) rfl) ev_cn ro_notN)) rfl) (sd_append (K := K) (i := 8) rfl (φ := (· = .d (timD (ws2, hs)))) (ev_var (i := 14) rfl) (lt_line (by rw [List.length_map]; omega)) fun r e => ⟨_, e, ts' ++ [(ws2, hs)], some (.d y), some (.d (tI nr)), p11, some (.d (tI ws)), some (.d td), some (.d (timD (ws2, hs))), ?_, fun t' ht => ?_, (by simp), by rw [List.length_append, List.length_singleton]; omega⟩)
        · rw [List.map_append]
          rfl
        · rcases List.mem_append.mp ht with ht | ht
          · exact hts' t' ht
          · rw [List.mem_singleton.mp ht]
            exact good_beats vf h1 h2
    rintro d ⟨ts, p9, p10, p11, p12, p13, p14, rfl, hts, hne⟩
    refine sd_seq (M := fun d => ∃ p15, d = dL b (some (.d x)) (some (.d (flowD f))) (some (.d (timD t))) (some (.d (tI box))) (some (.d (.tup (out.map entD)))) (some (.d wd)) (some (.bor (ts.map timD))) p9 p10 p11 p12 p13 p14 p15) (sd_frz (i := 8) (xs := ts.map timD) rfl (sd_for (fun _ _ d => ∃ p15, d = dL b (some (.d x)) (some (.d (flowD f))) (some (.d (timD t))) (some (.d (tI box))) (some (.d (.tup (out.map entD)))) (some (.d wd)) (some (.bor (ts.map timD))) p9 p10 p11 p12 p13 p14 p15) (src_slot (i := 8) rfl) (fun xs e => ⟨o15, rfl⟩) ?_ (fun _ _ _ h => h))) ?_
    · rintro ys k y ds2 rfl hy ⟨p15, rfl⟩
      rw [List.getElem?_map] at hy
      obtain ⟨t', ht', rfl⟩ := Option.map_eq_some_iff.mp hy
      have vt' := hts t' (List.mem_of_getElem? ht')
      refine ⟨_, dL b (some (.d x)) (some (.d (flowD f))) (some (.d (timD t))) (some (.d (tI box))) (some (.d (.tup (out.map entD)))) (some (.d wd)) (some (.bor (ts.map timD))) p9 p10 p11 p12 p13 p14 (some (.d (timD t'))), tg_nm, ?_⟩
      refine sd_seqE (ds1 := _) (sd_ifF (et_is (et_or (a := false) (et_is (et_testD (ev_op (ev_is (ev_fnA (f, t', box, out) (ea_cons (ev_var (i := 3) rfl) (ea_cons (ev_var (i := 15) rfl) (ea_cons (ev_var (i := 5) rfl) (ea_cons (ev_var (i := 6) rfl) ea_nil)))) (vw vt') fun r e => e) (by rw [ewd vt'])) (ev_var (i := 7) rfl) (ro_neD plw plw dpw dpw))) eqw) fun _ => et_is (et_testD (ev_op (ev_is (ev_flowCall (ea_cons (ev_var (i := 3) rfl) ea_nil) (ea_cons (ev_var (i := 15) rfl) (ea_cons (ev_var (i := 5) rfl) (ea_cons (ev_var (i := 6) rfl) ea_nil))) (vw vt')) (by rw [ewd vt'])) (ev_var (i := 7) rfl) (ro_neD plw plw dpw dpw))) eqw) rfl) (sd_next rfl)) ?_
      have eqt : ∀ v : List Int, (!eqD (tI v) (tI v)) = false := fun v => by rw [eqD_refl _ (plain_tI _)]; rfl
      have dpt : ∀ v : List Int, depD (tI v) ≤ 64 := fun v => Nat.le_trans (dep_tI v) (by decide)
      exact sd_ifF (et_is (et_or (a := false) (et_is (et_testD (ev_op (ev_bGet (sel := Prod.fst) (ea_cons (ev_var (i := 3) rfl) (ea_cons (ev_var (i := 15) rfl) ea_nil)) vf vt') (ev_op (ev_var (i := 15) rfl) ev_ci (ro_ixT rfl)) (ro_neD (plain_tI _) (plain_tI _) (dpt _) (dpt _)))) (eqt _)) fun _ => et_is (et_testD (ev_op (ev_bGet (sel := Prod.snd) (ea_cons (ev_var (i := 3) rfl) (ea_cons (ev_var (i := 15) rfl) ea_nil)) vf vt') (ev_op (ev_var (i := 15) rfl) ev_ci (ro_ixT rfl)) (ro_neD (plain_tI _) (plain_tI _) (dpt _) (dpt _)))) (eqt _)) rfl) (sd_next ⟨_, rfl⟩)
    rintro d ⟨p15, rfl⟩
    obtain ⟨tl, htl, hlast⟩ := at_last (f := timD) hne
    have vtl := hts tl htl
    exact sd_ifF (et_is (et_testD (ev_op (ev_is (ev_fnA (f, tl, box, out) (ea_cons (ev_fnA f (ea_cons (ev_fnA f (ea_cons (ev_var (i := 3) rfl) ea_nil) (TFlow.of vf) fun r e => e) ea_nil) (TFlow.of vf) fun r e => e) (ea_cons (ev_op (ev_varB (i := 8) rfl) (ev_un ev_ci ru_i) (ro_ixL (.inr rfl) hlast)) (ea_cons (ev_var (i := 5) rfl) (ea_cons (ev_var (i := 6) rfl) ea_nil)))) (vw vtl) fun r e => e) (by rw [ewd vtl])) (ev_var (i := 7) rfl) (ro_neD plw plw dpw dpw))) eqw) (sd_next ⟨_, _, _, _, _, _, _, _, _, _, _, _, _, _, rfl⟩)
  · rintro vs H Q E ⟨a, ns, rfl, _⟩
    rfl
end
end Wb
/-! WbEnd -/
set_option maxHeartbeats 0
open PySem PySem.W PySem.Calls PyProof.Rows
theorem PySem.Challenge.cw_wirebeats_k99_whole_words_and_starts_holds : PySem.Challenge.rw_wirebeats_k99_whole_words_and_starts.Holds := by
  w_on; o_law
  refine HandSHeadRun.head_any (r := Wb.R) (q := Wb.qv) (H := Wb.hk) (ob := Wb.ob) (M := 20000) (loose := Wb.names) (d := HandSHeadRun.topDef Wb.R.prog 117) (kwd := []) Wb.ob_eq
    (by kernel_rfl) (fun s => by kernel_rfl) Wb.run (by kernel_rfl) (by kernel_rfl) (by kernel_rfl) (by rfl) (by first | assumption | decide +kernel) (by decide +kernel) ⟨rfl, rfl, rfl, rfl, rfl, by decide +kernel⟩ ?hw ?hc
  case hw => w_witness2
  case hc =>
    refine L2.walk_ofE (l := PySem.Challenge.rw_wirebeats_k99_whole_words_and_starts) (n := 63) (k := 10) (x := "_law_script") (CX := L2.CX0) rfl (by decide) (by kernel_rfl) ⟨rfl, by decide, by decide⟩ ?F (fun _ _ _ _ z => z)
    intro w mg fa h Y G hmg0
    obtain ⟨K, KX, c⟩ := Y
    have hmg : mg ("law" : PySem.Str) = some (.ref fa) := by
      have e : (HandSHeadRun.topDef Wb.R.prog 117).name = ("law" : PySem.Str) := by kernel_rfl
      rw [← e]
      exact hmg0
    have W : Wb.Wf w K mg := ⟨c, h, KX, G⟩
    obtain ⟨fd, FD, hF⟩ := Wb.c_law (P := (PySem.Challenge.rw_wirebeats_k99_whole_words_and_starts).prog) (w := w) W
    have e : some (PySem.Value.ref fa) = some (.ref (He.ga K "law")) := hmg.symm.trans (W.glo (x := "law") 66 rfl)
    have e : fa = He.fAd K Wb.d_law.at_ := by cases e; rfl
    subst e
    have b := L2.FunD.bindsA (ps := ["_law_script"]) FD fun _ _ _ _ _ _ us hl => match us, hl with | [_], _ => rfl
    exact ⟨K, fd, Wb.spLaw K, KX, fun s v => b s [v] rfl, fun H a ns hl _ hS => ⟨a, ns, rfl, hS, Nat.le_trans hl (by decide), fun _ => rfl⟩, fun base _ _ => hF base⟩
