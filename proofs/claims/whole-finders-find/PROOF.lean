import PyProof.Rows.All
import Wide.All
import OpenK.AllK
import Wide.FinOn
import KE.GoesNew
import KE.GoesMore
import HandS.ForMost
import HandS.Exc
import HandS.Codes
import HandS.Deep
import HandS.DictComp
import HandS.IsInst
import HandS.Style
import HandS.TupAny
import HandS.Walk
import HandS.Head0
import HandS.Head1
import HandS.Head2
import HandS.HeadEnd
import HandS.HeadHook1
import HandS.HeadHook2
import HandS.HeadHook3
import HandS.HeadHook4
import PySem.Challenge.RW_probewright_k67_whole_finders_find
set_option Elab.async false
set_option linter.all false
set_option maxRecDepth 100000
set_option maxHeartbeats 0
/-! ### the text by places -/
namespace Pw
open PySem PySem.Spec PyProof.Rows L2
def top (i : Nat) : Stmt := PySem.Challenge.pw_probewright_k67_whole_finders_find.main.body.getD i (.Pass ⟨0, 0, 0, 0⟩)
abbrev s_BadCircuit_init : Stmt := inClass (top 2) 0
abbrev s_is_integer : Stmt := top 13
abbrev s_is_bit : Stmt := top 14
abbrev s_are_bits : Stmt := top 15
abbrev s_is_name : Stmt := top 16
abbrev s_is_stem : Stmt := top 18
abbrev s_is_pin : Stmt := top 19
abbrev s_is_short : Stmt := top 20
abbrev s_is_break : Stmt := top 21
abbrev s_check_version : Stmt := top 22
abbrev s_shorts : Stmt := top 23
abbrev s_gate_value : Stmt := top 25
abbrev s_joined : Stmt := top 26
abbrev s_stuck_pin : Stmt := top 27
abbrev s_check_pattern : Stmt := top 28
abbrev s_pairs_in : Stmt := top 33
abbrev s_mark_of : Stmt := top 34
abbrev s_with_value : Stmt := top 35
abbrev s_folded : Stmt := top 36
abbrev s_negated : Stmt := top 37
abbrev s_gate_mark : Stmt := top 38
abbrev s_check_partial : Stmt := top 39
abbrev s_Marks_init : Stmt := inClass (top 40) 0
abbrev s_Marks_seen : Stmt := inClass (top 40) 1
abbrev s_Marks_forced : Stmt := inClass (top 40) 2
abbrev s_Marks_shorted : Stmt := inClass (top 40) 3
abbrev s_Marks_known : Stmt := inClass (top 40) 4
abbrev s_marks_of : Stmt := top 41
abbrev s_sink_marks : Stmt := top 42
abbrev s_with_bit : Stmt := top 44
abbrev s_empty_partial : Stmt := top 45
abbrev s_is_leaf_right : Stmt := top 46
abbrev s_check_from : Stmt := top 47
abbrev s_check_paper : Stmt := top 48
abbrev s_filled : Stmt := top 49
abbrev s_Search_init : Stmt := inClass (top 51) 0
abbrev s_Search_choice : Stmt := inClass (top 51) 1
abbrev s_Search_answer : Stmt := inClass (top 51) 2
abbrev s_answer : Stmt := top 52
abbrev s_word_of : Stmt := top 54
abbrev s_gate_word : Stmt := top 55
abbrev s_Many_init : Stmt := inClass (top 56) 0
abbrev s_Many_full : Stmt := inClass (top 56) 1
abbrev s_Many_pin : Stmt := inClass (top 56) 2
abbrev s_Many_through : Stmt := inClass (top 56) 3
abbrev s_Many_words : Stmt := inClass (top 56) 4
abbrev s_words_of : Stmt := top 57
abbrev s_responses : Stmt := top 58
abbrev s_check_versions : Stmt := top 60
abbrev s_check_patterns : Stmt := top 61
abbrev s_check_observed : Stmt := top 62
abbrev s_allowed : Stmt := top 63
abbrev s_next_pattern : Stmt := top 64
abbrev s_Finder_init : Stmt := inClass (top 65) 0
abbrev s_Finder_ask : Stmt := inClass (top 65) 1
abbrev s_Finder_tell : Stmt := inClass (top 65) 2
abbrev s_Finder_versions : Stmt := inClass (top 65) 3
abbrev s_pins_allowed : Stmt := top 68
abbrev s_is_row : Stmt := top 69
abbrev s_is_gate : Stmt := top 70
abbrev s_Circuit_init : Stmt := inClass (top 71) 0
abbrev s_Circuit_check_forms : Stmt := inClass (top 71) 1
abbrev s_Circuit_check_names : Stmt := inClass (top 71) 2
abbrev s_Circuit_lines : Stmt := inClass (top 71) 3
abbrev s_Circuit_uses : Stmt := inClass (top 71) 4
abbrev s_Circuit_sources : Stmt := inClass (top 71) 5
abbrev s_Circuit_sinks : Stmt := inClass (top 71) 6
abbrev s_Circuit_sorted_gates : Stmt := inClass (top 71) 7
abbrev s_Circuit_above : Stmt := inClass (top 71) 8
abbrev s_Circuit_parts : Stmt := inClass (top 71) 9
abbrev s__law_cell : Stmt := top 73
abbrev s__law_rich : Stmt := top 74
abbrev s__law_gate : Stmt := top 75
abbrev s__law_parts : Stmt := top 76
abbrev s__law_circuit : Stmt := top 77
abbrev s__law_version : Stmt := top 78
abbrev s__law_gate_value : Stmt := top 79
abbrev s__law_settled : Stmt := top 80
abbrev s__law_values : Stmt := top 81
abbrev s__law_response : Stmt := top 82
abbrev s__law_patterns : Stmt := top 83
abbrev s__law_taken : Stmt := top 84
abbrev s__law_divides : Stmt := top 85
abbrev s__law_next : Stmt := top 86
abbrev s_law : Stmt := top 87

def kindNames : List Str := ["and", "or", "nand", "nor", "xor", "xnor", "not", "buf", "low", "high"]
end Pw
namespace Pw.Hd
open PySem PySem.Spec PyProof.Rows L2
def loose0 : List PySem.Str := ["ProbeError", "BadCircuit", "BadBreak", "BadPattern", "BadPaper", "MOST_NAME", "MOST_PINS", "MOST_LINES", "MOST_SOURCES", "LETTERS", "FIGURES", "is_integer", "is_bit", "are_bits", "is_name", "is_stem", "is_pin", "is_short", "is_break", "check_version", "shorts", "gate_value", "joined", "stuck_pin", "check_pattern", "EQUAL", "UNEQUAL", "PAIRS", "pairs_in", "mark_of"]
def loose1 : List PySem.Str := ["with_value", "folded", "negated", "gate_mark", "check_partial", "Marks", "marks_of", "sink_marks", "with_bit", "empty_partial", "is_leaf_right", "check_from", "check_paper", "filled", "Search", "answer", "word_of", "gate_word", "Many", "words_of", "responses", "check_versions", "check_patterns", "check_observed", "allowed", "next_pattern", "Finder", "KINDS", "pins_allowed", "is_row"]
def loose2 : List PySem.Str := ["is_gate", "Circuit", "_law_cell", "_law_rich", "_law_gate", "_law_parts", "_law_circuit", "_law_version", "_law_gate_value", "_law_settled", "_law_values", "_law_response", "_law_patterns", "_law_taken", "_law_divides", "_law_next"]
def loose : List PySem.Str := loose0 ++ loose1 ++ loose2
def pairAd (i : Nat) (K : PySem.W.Frag) : Addr := match K.lookup (He.ga K "PAIRS") with
  | some ⟨_, _, .seq its _, _⟩ => (match its.toList[i]? with
    | some (.ref a) => a
    | _ => 0)
  | _ => 0
def tupA (K : PySem.W.Frag) (a : Addr) (vs : List V) : Bool := match K.lookup a with
  | some ⟨.type c, _, .seq its _, _⟩ => decide (c = "tuple") && (decide (its.size ≤ sizeLine) && He.relAll vs its.toList)
  | _ => false
theorem tupA_ok {K : PySem.W.Frag} {a : Addr} {vs : List V} (h : tupA K a vs = true) (H : Hp) : SqT K H a vs := by
  unfold tupA at h
  cases q : K.lookup a with
  | none =>
    rw [q] at h
    cases h
  | some o =>
    obtain ⟨oc, od, dt, osl⟩ := o
    rw [q] at h
    cases oc with
    | type c =>
      cases dt with
      | seq its n =>
        have h : (decide (c = "tuple") && (decide (its.size ≤ sizeLine) && He.relAll vs its.toList)) = true := h
        rw [Bool.and_eq_true, Bool.and_eq_true] at h
        exact .inr ⟨_, its, n, q, congrArg Value.type (of_decide_eq_true h.1), rfl, of_decide_eq_true h.2.1, He.relAll_ok h.2.2⟩
      | _ => cases h
    | _ => cases od <;> cases dt <;> cases h
def exB (K : PySem.W.Frag) : Bool := tupA K (He.ga K "PAIRS") [.ref (pairAd 0 K), .ref (pairAd 1 K), .ref (pairAd 2 K), .ref (pairAd 3 K)] && (tupA K (He.ga K "KINDS") (kindNames.map V.str) &&
  (tupA K (pairAd 0 K) [.int 0, .int 0] && (tupA K (pairAd 1 K) [.int 0, .int 1] && (tupA K (pairAd 2 K) [.int 1, .int 0] && tupA K (pairAd 3 K) [.int 1, .int 1]))))
def fa : List He.Fa := [.free "len", .free "isinstance", .free "int", .free "bool", .free "tuple", .free "list", .free "str", .free "all", .free "any", .free "sum", .free "min", .free "max", .free "sorted", .free "enumerate", .free "zip", .free "range", .int "MOST_NAME" 12, .int "MOST_PINS" 4, .int "MOST_LINES" 400, .int "MOST_SOURCES" 40, .int "EQUAL" 9, .int "UNEQUAL" 6, .str "LETTERS" "abcdefghijklmnopqrstuvwxyz", .str "FIGURES" "0123456789", .glo "PAIRS", .glo "KINDS", .glo "Circuit", .glo "Marks", .glo "Search", .glo "Many", .glo "Finder", .glo "is_integer", .glo "is_bit", .glo "are_bits", .glo "is_name", .glo "is_stem", .glo "is_pin", .glo "is_short", .glo "is_break", .glo "check_version", .glo "shorts", .glo "gate_value", .glo "joined", .glo "stuck_pin", .glo "check_pattern", .glo "pairs_in", .glo "mark_of", .glo "with_value", .glo "folded", .glo "negated", .glo "gate_mark", .glo "check_partial", .glo "marks_of", .glo "sink_marks", .glo "with_bit", .glo "empty_partial", .glo "is_leaf_right", .glo "check_from", .glo "check_paper", .glo "filled", .glo "answer", .glo "word_of", .glo "gate_word", .glo "words_of", .glo "responses", .glo "check_versions", .glo "check_patterns", .glo "check_observed", .glo "allowed", .glo "next_pattern", .glo "pins_allowed", .glo "is_row", .glo "is_gate", .glo "_law_cell", .glo "_law_rich", .glo "_law_gate", .glo "_law_parts", .glo "_law_circuit", .glo "_law_version", .glo "_law_gate_value", .glo "_law_settled", .glo "_law_values", .glo "_law_response", .glo "_law_patterns", .glo "_law_taken", .glo "_law_divides", .glo "_law_next", .glo "law", .cls "Circuit", .mkr "Circuit", .noat "Circuit" "inputs", .noat "Circuit" "registers", .noat "Circuit" "gates", .noat "Circuit" "outputs", .noat "Circuit" "gate_of", .noat "Circuit" "order", .cls "Marks", .mkr "Marks", .noat "Marks" "circuit", .noat "Marks" "versions", .noat "Marks" "partial", .cls "Search", .mkr "Search", .noat "Search" "circuit", .noat "Search" "one", .noat "Search" "other", .noat "Search" "above", .noat "Search" "shorted", .cls "Many", .mkr "Many", .noat "Many" "circuit", .noat "Many" "version", .noat "Many" "mask", .noat "Many" "given", .cls "Finder", .mkr "Finder", .noat "Finder" "circuit", .noat "Finder" "left", .noat "Finder" "asked", .meth "Marks" "seen", .meth "Marks" "forced", .meth "Marks" "shorted", .meth "Marks" "known", .meth "Search" "choice", .meth "Search" "answer", .meth "Many" "full", .meth "Many" "pin", .meth "Many" "through", .meth "Many" "words", .meth "Finder" "ask", .meth "Finder" "tell", .meth "Finder" "versions", .meth "Circuit" "check_forms", .meth "Circuit" "check_names", .meth "Circuit" "lines", .meth "Circuit" "uses", .meth "Circuit" "sources", .meth "Circuit" "sinks", .meth "Circuit" "sorted_gates", .meth "Circuit" "above"]
def d_is_integer : He.DefD := ⟨("is_integer", none), "is_integer", "is_integer", defArgs s_is_integer, defBody s_is_integer, defScope s_is_integer, [], []⟩
def d_is_bit : He.DefD := ⟨("is_bit", none), "is_bit", "is_bit", defArgs s_is_bit, defBody s_is_bit, defScope s_is_bit, [], []⟩
def d_are_bits : He.DefD := ⟨("are_bits", none), "are_bits", "are_bits", defArgs s_are_bits, defBody s_are_bits, defScope s_are_bits, [], []⟩
def d_is_name : He.DefD := ⟨("is_name", none), "is_name", "is_name", defArgs s_is_name, defBody s_is_name, defScope s_is_name, [], []⟩
def d_is_stem : He.DefD := ⟨("is_stem", none), "is_stem", "is_stem", defArgs s_is_stem, defBody s_is_stem, defScope s_is_stem, [], []⟩
def d_is_pin : He.DefD := ⟨("is_pin", none), "is_pin", "is_pin", defArgs s_is_pin, defBody s_is_pin, defScope s_is_pin, [], []⟩
def d_is_short : He.DefD := ⟨("is_short", none), "is_short", "is_short", defArgs s_is_short, defBody s_is_short, defScope s_is_short, [], []⟩
def d_is_break : He.DefD := ⟨("is_break", none), "is_break", "is_break", defArgs s_is_break, defBody s_is_break, defScope s_is_break, [], []⟩
def d_check_version : He.DefD := ⟨("check_version", none), "check_version", "check_version", defArgs s_check_version, defBody s_check_version, defScope s_check_version, [], []⟩
def d_shorts : He.DefD := ⟨("shorts", none), "shorts", "shorts", defArgs s_shorts, defBody s_shorts, defScope s_shorts, [], []⟩
def d_gate_value : He.DefD := ⟨("gate_value", none), "gate_value", "gate_value", defArgs s_gate_value, defBody s_gate_value, defScope s_gate_value, [], []⟩
def d_joined : He.DefD := ⟨("joined", none), "joined", "joined", defArgs s_joined, defBody s_joined, defScope s_joined, [], []⟩
def d_stuck_pin : He.DefD := ⟨("stuck_pin", none), "stuck_pin", "stuck_pin", defArgs s_stuck_pin, defBody s_stuck_pin, defScope s_stuck_pin, [], []⟩
def d_check_pattern : He.DefD := ⟨("check_pattern", none), "check_pattern", "check_pattern", defArgs s_check_pattern, defBody s_check_pattern, defScope s_check_pattern, [], []⟩
def d_pairs_in : He.DefD := ⟨("pairs_in", none), "pairs_in", "pairs_in", defArgs s_pairs_in, defBody s_pairs_in, defScope s_pairs_in, [], []⟩
def d_mark_of : He.DefD := ⟨("mark_of", none), "mark_of", "mark_of", defArgs s_mark_of, defBody s_mark_of, defScope s_mark_of, [], []⟩
def d_with_value : He.DefD := ⟨("with_value", none), "with_value", "with_value", defArgs s_with_value, defBody s_with_value, defScope s_with_value, [], []⟩
def d_folded : He.DefD := ⟨("folded", none), "folded", "folded", defArgs s_folded, defBody s_folded, defScope s_folded, [], []⟩
def d_negated : He.DefD := ⟨("negated", none), "negated", "negated", defArgs s_negated, defBody s_negated, defScope s_negated, [], []⟩
def d_gate_mark : He.DefD := ⟨("gate_mark", none), "gate_mark", "gate_mark", defArgs s_gate_mark, defBody s_gate_mark, defScope s_gate_mark, [], []⟩
def d_check_partial : He.DefD := ⟨("check_partial", none), "check_partial", "check_partial", defArgs s_check_partial, defBody s_check_partial, defScope s_check_partial, [], []⟩
def d_Marks_init : He.DefD := ⟨("Marks", some "__init__"), "__init__", "Marks.__init__", defArgs s_Marks_init, defBody s_Marks_init, defScope s_Marks_init, [], []⟩
def d_Marks_seen : He.DefD := ⟨("Marks", some "seen"), "seen", "Marks.seen", defArgs s_Marks_seen, defBody s_Marks_seen, defScope s_Marks_seen, [], []⟩
def d_Marks_forced : He.DefD := ⟨("Marks", some "forced"), "forced", "Marks.forced", defArgs s_Marks_forced, defBody s_Marks_forced, defScope s_Marks_forced, [], []⟩
def d_Marks_shorted : He.DefD := ⟨("Marks", some "shorted"), "shorted", "Marks.shorted", defArgs s_Marks_shorted, defBody s_Marks_shorted, defScope s_Marks_shorted, [], []⟩
def d_Marks_known : He.DefD := ⟨("Marks", some "known"), "known", "Marks.known", defArgs s_Marks_known, defBody s_Marks_known, defScope s_Marks_known, [], []⟩
def d_marks_of : He.DefD := ⟨("marks_of", none), "marks_of", "marks_of", defArgs s_marks_of, defBody s_marks_of, defScope s_marks_of, [], []⟩
def d_sink_marks : He.DefD := ⟨("sink_marks", none), "sink_marks", "sink_marks", defArgs s_sink_marks, defBody s_sink_marks, defScope s_sink_marks, [], []⟩
def d_with_bit : He.DefD := ⟨("with_bit", none), "with_bit", "with_bit", defArgs s_with_bit, defBody s_with_bit, defScope s_with_bit, [], []⟩
def d_empty_partial : He.DefD := ⟨("empty_partial", none), "empty_partial", "empty_partial", defArgs s_empty_partial, defBody s_empty_partial, defScope s_empty_partial, [], []⟩
def d_is_leaf_right : He.DefD := ⟨("is_leaf_right", none), "is_leaf_right", "is_leaf_right", defArgs s_is_leaf_right, defBody s_is_leaf_right, defScope s_is_leaf_right, [], []⟩
def d_check_from : He.DefD := ⟨("check_from", none), "check_from", "check_from", defArgs s_check_from, defBody s_check_from, defScope s_check_from, [], []⟩
def d_check_paper : He.DefD := ⟨("check_paper", none), "check_paper", "check_paper", defArgs s_check_paper, defBody s_check_paper, defScope s_check_paper, [], []⟩
def d_filled : He.DefD := ⟨("filled", none), "filled", "filled", defArgs s_filled, defBody s_filled, defScope s_filled, [], []⟩
def d_Search_init : He.DefD := ⟨("Search", some "__init__"), "__init__", "Search.__init__", defArgs s_Search_init, defBody s_Search_init, defScope s_Search_init, [], []⟩
def d_Search_choice : He.DefD := ⟨("Search", some "choice"), "choice", "Search.choice", defArgs s_Search_choice, defBody s_Search_choice, defScope s_Search_choice, [], []⟩
def d_Search_answer : He.DefD := ⟨("Search", some "answer"), "answer", "Search.answer", defArgs s_Search_answer, defBody s_Search_answer, defScope s_Search_answer, [], []⟩
def d_answer : He.DefD := ⟨("answer", none), "answer", "answer", defArgs s_answer, defBody s_answer, defScope s_answer, [], []⟩
def d_word_of : He.DefD := ⟨("word_of", none), "word_of", "word_of", defArgs s_word_of, defBody s_word_of, defScope s_word_of, [], []⟩
def d_gate_word : He.DefD := ⟨("gate_word", none), "gate_word", "gate_word", defArgs s_gate_word, defBody s_gate_word, defScope s_gate_word, [], []⟩
def d_Many_init : He.DefD := ⟨("Many", some "__init__"), "__init__", "Many.__init__", defArgs s_Many_init, defBody s_Many_init, defScope s_Many_init, [], []⟩
def d_Many_full : He.DefD := ⟨("Many", some "full"), "full", "Many.full", defArgs s_Many_full, defBody s_Many_full, defScope s_Many_full, [], []⟩
def d_Many_pin : He.DefD := ⟨("Many", some "pin"), "pin", "Many.pin", defArgs s_Many_pin, defBody s_Many_pin, defScope s_Many_pin, [], []⟩
def d_Many_through : He.DefD := ⟨("Many", some "through"), "through", "Many.through", defArgs s_Many_through, defBody s_Many_through, defScope s_Many_through, [], []⟩
def d_Many_words : He.DefD := ⟨("Many", some "words"), "words", "Many.words", defArgs s_Many_words, defBody s_Many_words, defScope s_Many_words, [], []⟩
def d_words_of : He.DefD := ⟨("words_of", none), "words_of", "words_of", defArgs s_words_of, defBody s_words_of, defScope s_words_of, [], []⟩
def d_responses : He.DefD := ⟨("responses", none), "responses", "responses", defArgs s_responses, defBody s_responses, defScope s_responses, [], []⟩
def d_check_versions : He.DefD := ⟨("check_versions", none), "check_versions", "check_versions", defArgs s_check_versions, defBody s_check_versions, defScope s_check_versions, [], []⟩
def d_check_patterns : He.DefD := ⟨("check_patterns", none), "check_patterns", "check_patterns", defArgs s_check_patterns, defBody s_check_patterns, defScope s_check_patterns, [], []⟩
def d_check_observed : He.DefD := ⟨("check_observed", none), "check_observed", "check_observed", defArgs s_check_observed, defBody s_check_observed, defScope s_check_observed, [], []⟩
def d_allowed : He.DefD := ⟨("allowed", none), "allowed", "allowed", defArgs s_allowed, defBody s_allowed, defScope s_allowed, [], []⟩
def d_next_pattern : He.DefD := ⟨("next_pattern", none), "next_pattern", "next_pattern", defArgs s_next_pattern, defBody s_next_pattern, defScope s_next_pattern, [], []⟩
def d_Finder_init : He.DefD := ⟨("Finder", some "__init__"), "__init__", "Finder.__init__", defArgs s_Finder_init, defBody s_Finder_init, defScope s_Finder_init, [], []⟩
def d_Finder_ask : He.DefD := ⟨("Finder", some "ask"), "ask", "Finder.ask", defArgs s_Finder_ask, defBody s_Finder_ask, defScope s_Finder_ask, [], []⟩
def d_Finder_tell : He.DefD := ⟨("Finder", some "tell"), "tell", "Finder.tell", defArgs s_Finder_tell, defBody s_Finder_tell, defScope s_Finder_tell, [], []⟩
def d_Finder_versions : He.DefD := ⟨("Finder", some "versions"), "versions", "Finder.versions", defArgs s_Finder_versions, defBody s_Finder_versions, defScope s_Finder_versions, [], []⟩
def d_pins_allowed : He.DefD := ⟨("pins_allowed", none), "pins_allowed", "pins_allowed", defArgs s_pins_allowed, defBody s_pins_allowed, defScope s_pins_allowed, [], []⟩
def d_is_row : He.DefD := ⟨("is_row", none), "is_row", "is_row", defArgs s_is_row, defBody s_is_row, defScope s_is_row, [], []⟩
def d_is_gate : He.DefD := ⟨("is_gate", none), "is_gate", "is_gate", defArgs s_is_gate, defBody s_is_gate, defScope s_is_gate, [], []⟩
def d_Circuit_init : He.DefD := ⟨("Circuit", some "__init__"), "__init__", "Circuit.__init__", defArgs s_Circuit_init, defBody s_Circuit_init, defScope s_Circuit_init, [], []⟩
def d_Circuit_check_forms : He.DefD := ⟨("Circuit", some "check_forms"), "check_forms", "Circuit.check_forms", defArgs s_Circuit_check_forms, defBody s_Circuit_check_forms, defScope s_Circuit_check_forms, [], []⟩
def d_Circuit_check_names : He.DefD := ⟨("Circuit", some "check_names"), "check_names", "Circuit.check_names", defArgs s_Circuit_check_names, defBody s_Circuit_check_names, defScope s_Circuit_check_names, [], []⟩
def d_Circuit_lines : He.DefD := ⟨("Circuit", some "lines"), "lines", "Circuit.lines", defArgs s_Circuit_lines, defBody s_Circuit_lines, defScope s_Circuit_lines, [], []⟩
def d_Circuit_uses : He.DefD := ⟨("Circuit", some "uses"), "uses", "Circuit.uses", defArgs s_Circuit_uses, defBody s_Circuit_uses, defScope s_Circuit_uses, [], []⟩
def d_Circuit_sources : He.DefD := ⟨("Circuit", some "sources"), "sources", "Circuit.sources", defArgs s_Circuit_sources, defBody s_Circuit_sources, defScope s_Circuit_sources, [], []⟩
def d_Circuit_sinks : He.DefD := ⟨("Circuit", some "sinks"), "sinks", "Circuit.sinks", defArgs s_Circuit_sinks, defBody s_Circuit_sinks, defScope s_Circuit_sinks, [], []⟩
def d_Circuit_sorted_gates : He.DefD := ⟨("Circuit", some "sorted_gates"), "sorted_gates", "Circuit.sorted_gates", defArgs s_Circuit_sorted_gates, defBody s_Circuit_sorted_gates, defScope s_Circuit_sorted_gates, [], []⟩
def d_Circuit_above : He.DefD := ⟨("Circuit", some "above"), "above", "Circuit.above", defArgs s_Circuit_above, defBody s_Circuit_above, defScope s_Circuit_above, [], []⟩
def d__law_cell : He.DefD := ⟨("_law_cell", none), "_law_cell", "_law_cell", defArgs s__law_cell, defBody s__law_cell, defScope s__law_cell, [], []⟩
def d__law_rich : He.DefD := ⟨("_law_rich", none), "_law_rich", "_law_rich", defArgs s__law_rich, defBody s__law_rich, defScope s__law_rich, [], []⟩
def d__law_gate : He.DefD := ⟨("_law_gate", none), "_law_gate", "_law_gate", defArgs s__law_gate, defBody s__law_gate, defScope s__law_gate, [], []⟩
def d__law_parts : He.DefD := ⟨("_law_parts", none), "_law_parts", "_law_parts", defArgs s__law_parts, defBody s__law_parts, defScope s__law_parts, [], []⟩
def d__law_circuit : He.DefD := ⟨("_law_circuit", none), "_law_circuit", "_law_circuit", defArgs s__law_circuit, defBody s__law_circuit, defScope s__law_circuit, [], []⟩
def d__law_version : He.DefD := ⟨("_law_version", none), "_law_version", "_law_version", defArgs s__law_version, defBody s__law_version, defScope s__law_version, [], []⟩
def d__law_gate_value : He.DefD := ⟨("_law_gate_value", none), "_law_gate_value", "_law_gate_value", defArgs s__law_gate_value, defBody s__law_gate_value, defScope s__law_gate_value, [], []⟩
def d__law_settled : He.DefD := ⟨("_law_settled", none), "_law_settled", "_law_settled", defArgs s__law_settled, defBody s__law_settled, defScope s__law_settled, [], []⟩
def d__law_values : He.DefD := ⟨("_law_values", none), "_law_values", "_law_values", defArgs s__law_values, defBody s__law_values, defScope s__law_values, [], []⟩
def d__law_response : He.DefD := ⟨("_law_response", none), "_law_response", "_law_response", defArgs s__law_response, defBody s__law_response, defScope s__law_response, [], []⟩
def d__law_patterns : He.DefD := ⟨("_law_patterns", none), "_law_patterns", "_law_patterns", defArgs s__law_patterns, defBody s__law_patterns, defScope s__law_patterns, [], []⟩
def d__law_taken : He.DefD := ⟨("_law_taken", none), "_law_taken", "_law_taken", defArgs s__law_taken, defBody s__law_taken, defScope s__law_taken, [], []⟩
def d__law_divides : He.DefD := ⟨("_law_divides", none), "_law_divides", "_law_divides", defArgs s__law_divides, defBody s__law_divides, defScope s__law_divides, [], []⟩
def d__law_next : He.DefD := ⟨("_law_next", none), "_law_next", "_law_next", defArgs s__law_next, defBody s__law_next, defScope s__law_next, [], []⟩
def d_law : He.DefD := ⟨("law", none), "law", "law", defArgs s_law, defBody s_law, defScope s_law, [], []⟩
def fn : List He.DefD := [d_is_integer, d_is_bit, d_are_bits, d_is_name, d_is_stem, d_is_pin, d_is_short, d_is_break, d_check_version, d_shorts, d_gate_value, d_joined, d_stuck_pin, d_check_pattern, d_pairs_in, d_mark_of, d_with_value, d_folded, d_negated, d_gate_mark, d_check_partial, d_Marks_init, d_Marks_seen, d_Marks_forced, d_Marks_shorted, d_Marks_known, d_marks_of, d_sink_marks, d_with_bit, d_empty_partial, d_is_leaf_right, d_check_from, d_check_paper, d_filled, d_Search_init, d_Search_choice, d_Search_answer, d_answer, d_word_of, d_gate_word, d_Many_init, d_Many_full, d_Many_pin, d_Many_through, d_Many_words, d_words_of, d_responses, d_check_versions, d_check_patterns, d_check_observed, d_allowed, d_next_pattern, d_Finder_init, d_Finder_ask, d_Finder_tell, d_Finder_versions, d_pins_allowed, d_is_row, d_is_gate, d_Circuit_init, d_Circuit_check_forms, d_Circuit_check_names, d_Circuit_lines, d_Circuit_uses, d_Circuit_sources, d_Circuit_sinks, d_Circuit_sorted_gates, d_Circuit_above, d__law_cell, d__law_rich, d__law_gate, d__law_parts, d__law_circuit, d__law_version, d__law_gate_value, d__law_settled, d__law_values, d__law_response, d__law_patterns, d__law_taken, d__law_divides, d__law_next, d_law]
abbrev R : PySem.W.OpenRow := PySem.W.OpenLaw.row PySem.Challenge.rw_probewright_k67_whole_finders_find
abbrev hk : PySem.W.Hook := He.hookX 4 fa fn [] [] exB
def ob (s : PySem.W.SharedT) : He.AlX := He.obsX 4 fa fn [] [] exB (HandSHeadRun.getT s)
theorem ob_eq (s : PySem.W.SharedT) : ob s = hk.obs s.abs := He.obsX_eq (HandSHeadRun.getT_eq s)
theorem run (w : World) : HandSHeadRun.RunEq R (PySem.W.view R.prog [87]) hk ob 6000 loose w := by
  intro os
  kernel_rfl
end Pw.Hd
/-! The mathematics of the law, in plain Lean: circuits, versions, values, pair sets, the generator, papers, the finder. No program here. -/
set_option linter.all false
set_option linter.unusedSectionVars false
namespace Pw

inductive Kind where
  | and | or | nand | nor | xor | xnor | not | buf | low | high
  deriving DecidableEq, Repr

structure Gate (N : Type) where
  line : N
  kind : Kind
  pins : List N
  deriving DecidableEq

structure Circ (N : Type) where
  ins : List N
  regs : List (N × N)
  gates : List (Gate N)
  outs : List N
  order : List (Gate N)

section
variable {N : Type} [DecidableEq N]
def Circ.sources (C : Circ N) : List N := C.ins ++ C.regs.map (·.1)
def Circ.sinks (C : Circ N) : List N := C.outs ++ C.regs.map (·.2)
def Circ.lines (C : Circ N) : List N := C.sources ++ C.gates.map (·.line)
def Circ.uses (C : Circ N) : List N := C.gates.flatMap (·.pins) ++ C.regs.map (·.2) ++ C.outs

/-- each gate stands behind the gates that it uses; kn: what is known ahead -/
def Topo : List N → List (Gate N) → Prop
  | _, [] => True
  | kn, g :: gs => (∀ p ∈ g.pins, p ∈ kn) ∧ Topo (kn ++ [g.line]) gs

def Kind.arity : Kind → Nat → Bool
  | .low, n => n == 0
  | .high, n => n == 0
  | .not, n => n == 1
  | .buf, n => n == 1
  | _, n => decide (1 ≤ n) && decide (n ≤ 4)

structure WF (C : Circ N) : Prop where
  nodup : C.lines.Nodup
  topo : Topo C.sources C.order
  perm : C.order.Perm C.gates
  arity : ∀ g ∈ C.gates, g.kind.arity g.pins.length = true
  sinks : ∀ l ∈ C.sinks, l ∈ C.lines
  ns : C.sources.length ≤ 6
  ng : C.gates.length ≤ 7
  no : C.sinks.length ≤ 6

/-! ### an environment, its update -/
def upf {A : Type} (e : N → A) (l : N) (v : A) : N → A := fun x => if x = l then v else e x
theorem upf_same {A : Type} {e : N → A} {l : N} {v : A} : upf e l v l = v := if_pos rfl
theorem upf_ne {A : Type} {e : N → A} {l x : N} {v : A} (h : x ≠ l) : upf e l v x = e x := if_neg h

def evalS {A : Type} (e : N → A) (xs : List (N × A)) : N → A := xs.foldl (fun e p => upf e p.1 p.2) e
def evalG {A : Type} (gf : Gate N → (N → A) → A) (e : N → A) (gs : List (Gate N)) : N → A := gs.foldl (fun e g => upf e g.line (gf g e)) e

/-- a gate's rule looks at its pins alone -/
def Cong {A : Type} (gf : Gate N → (N → A) → A) : Prop := ∀ g e e', (∀ p ∈ g.pins, e p = e' p) → gf g e = gf g e'

theorem evalS_out {A : Type} : ∀ (xs : List (N × A)) (e : N → A) (l : N), l ∉ xs.map (·.1) → evalS e xs l = e l
  | [], _, _, _ => rfl
  | p :: r, e, l, h => by
    have h1 : l ≠ p.1 := fun q => h (by simp [q])
    have h2 : l ∉ r.map (·.1) := fun q => h (by simp at q ⊢; exact Or.inr q)
    show evalS (upf e p.1 p.2) r l = e l
    rw [evalS_out r _ l h2, upf_ne h1]
theorem evalS_at {A : Type} : ∀ (xs : List (N × A)) (e : N → A), (xs.map (·.1)).Nodup → ∀ p ∈ xs, evalS e xs p.1 = p.2
  | [], _, _, p, h => by simp at h
  | q :: r, e, hn, p, h => by
    obtain ⟨h1, h2⟩ := List.nodup_cons.mp (show (q.1 :: r.map (·.1)).Nodup from hn)
    show evalS (upf e q.1 q.2) r p.1 = p.2
    rcases List.mem_cons.mp h with rfl | h
    · rw [evalS_out r _ _ h1, upf_same]
    · exact evalS_at r _ h2 p h

theorem evalG_spec {A : Type} {gf : Gate N → (N → A) → A} (hc : Cong gf) : ∀ (gs : List (Gate N)) (kn : List N) (e : N → A), Topo kn gs → (kn ++ gs.map (·.line)).Nodup →
    (∀ x ∈ kn, evalG gf e gs x = e x) ∧ ∀ g ∈ gs, evalG gf e gs g.line = gf g (evalG gf e gs)
  | [], _, _, _, _ => ⟨fun _ _ => rfl, fun _ h => by simp at h⟩
  | g :: r, kn, e, ht, hn => by
    obtain ⟨hp, hr⟩ := ht
    have hn' : ((kn ++ [g.line]) ++ r.map (·.line)).Nodup := by simpa using hn
    obtain ⟨i1, i2⟩ := evalG_spec hc r (kn ++ [g.line]) (upf e g.line (gf g e)) hr hn'
    have hg : ∀ x ∈ kn, x ≠ g.line := by
      rw [List.nodup_append] at hn
      exact fun x hx q => hn.2.2 x hx g.line (by simp) q
    have k1 : ∀ x ∈ kn, evalG gf e (g :: r) x = e x := fun x hx => by
      show evalG gf (upf e g.line (gf g e)) r x = e x
      rw [i1 x (by simp [hx]), upf_ne (hg x hx)]
    refine ⟨k1, fun g' hg' => ?_⟩
    rcases List.mem_cons.mp hg' with rfl | hg'
    · show evalG gf (upf e g'.line (gf g' e)) r g'.line = _
      rw [i1 g'.line (by simp), upf_same]
      exact hc g' _ _ fun p hp' => (k1 p (hp p hp')).symm
    · exact i2 g' hg'

theorem topo_ind {P : N → Prop} : ∀ (gs : List (Gate N)) (kn : List N), Topo kn gs → (∀ x ∈ kn, P x) → (∀ g ∈ gs, (∀ p ∈ g.pins, P p) → P g.line) → ∀ x ∈ kn ++ gs.map (·.line), P x
  | [], kn, _, h0, _, x, hx => h0 x (by simpa using hx)
  | g :: r, kn, ht, h0, h1, x, hx => by
    obtain ⟨hp, hr⟩ := ht
    refine topo_ind r (kn ++ [g.line]) hr (fun y hy => ?_) (fun g' hg' => h1 g' (by simp [hg'])) x (by simpa using hx)
    rcases List.mem_append.mp hy with hy | hy
    · exact h0 y hy
    · rw [List.mem_singleton.mp hy]
      exact h1 g (by simp) fun p hp' => h0 p (hp p hp')

variable {C : Circ N}
theorem WF.mem_order (w : WF C) {g : Gate N} : g ∈ C.order ↔ g ∈ C.gates := w.perm.mem_iff
theorem WF.nodupO (w : WF C) : (C.sources ++ C.order.map (·.line)).Nodup := by
  have h : (C.sources ++ C.order.map (·.line)).Perm C.lines := List.Perm.append_left _ (w.perm.map _)
  exact h.nodup_iff.mpr w.nodup
theorem WF.mem_linesO (w : WF C) {x : N} : x ∈ C.sources ++ C.order.map (·.line) ↔ x ∈ C.lines :=
  (List.Perm.append_left _ (w.perm.map _)).mem_iff
theorem WF.ind (w : WF C) {P : N → Prop} (h0 : ∀ x ∈ C.sources, P x) (h1 : ∀ g ∈ C.gates, (∀ p ∈ g.pins, P p) → P g.line) : ∀ x ∈ C.lines, P x := fun x hx =>
  topo_ind C.order C.sources w.topo h0 (fun g hg => h1 g (w.mem_order.mp hg)) x (w.mem_linesO.mpr hx)
theorem WF.nodupS (w : WF C) : C.sources.Nodup := by
  have h := w.nodup
  unfold Circ.lines at h
  exact (List.nodup_append.mp h).1
/-- the pins are lines -/
theorem topo_pins : ∀ (gs : List (Gate N)) (kn : List N), Topo kn gs → ∀ g ∈ gs, ∀ p ∈ g.pins, p ∈ kn ++ gs.map (·.line)
  | [], _, _, g, h, _, _ => by simp at h
  | g :: r, kn, ht, g', hg, p, hp => by
    obtain ⟨h1, h2⟩ := ht
    rcases List.mem_cons.mp hg with rfl | hg
    · exact List.mem_append_left _ (h1 p hp)
    · have := topo_pins r _ h2 g' hg p hp
      simp at this ⊢
      rcases this with h | h | h
      · exact .inl h
      · exact .inr (.inl h)
      · exact .inr (.inr h)
theorem WF.pin (w : WF C) {g : Gate N} (hg : g ∈ C.gates) {p : N} (hp : p ∈ g.pins) : p ∈ C.lines :=
  w.mem_linesO.mp (topo_pins C.order C.sources w.topo g (w.mem_order.mpr hg) p hp)
theorem WF.src (_w : WF C) {s : N} (h : s ∈ C.sources) : s ∈ C.lines := List.mem_append_left _ h
theorem WF.gate (_w : WF C) {g : Gate N} (h : g ∈ C.gates) : g.line ∈ C.lines := List.mem_append_right _ (List.mem_map.mpr ⟨g, h, rfl⟩)
theorem WF.gate_inj (w : WF C) {g h : Gate N} (hg : g ∈ C.gates) (hh : h ∈ C.gates) (e : g.line = h.line) : g = h := by
  have hn : (C.gates.map (·.line)).Nodup := by
    have h := w.nodup
    unfold Circ.lines at h
    exact (List.nodup_append.mp h).2.1
  revert hg hh hn
  generalize C.gates = l
  intro hg hh hn
  induction l with
  | nil => simp at hg
  | cons a r ih =>
    obtain ⟨h1, h2⟩ := List.nodup_cons.mp (show (a.line :: r.map (·.line)).Nodup from hn)
    rcases List.mem_cons.mp hg with eg | hg' <;> rcases List.mem_cons.mp hh with eh | hh'
    · rw [eg, eh]
    · exact absurd (show a.line ∈ r.map (·.line) from List.mem_map.mpr ⟨h, hh', by rw [← e, eg]⟩) h1
    · exact absurd (show a.line ∈ r.map (·.line) from List.mem_map.mpr ⟨g, hg', by rw [e, eh]⟩) h1
    · exact ih hg' hh' h2

/-- the evaluation of a circuit: sources, then the gates in order -/
def evalC {A : Type} (C : Circ N) (d : A) (src : List (N × A)) (gf : Gate N → (N → A) → A) : N → A := evalG gf (evalS (fun _ => d) src) C.order

theorem evalC_src {A : Type} (w : WF C) {d : A} {src : List (N × A)} {gf : Gate N → (N → A) → A} (hc : Cong gf) (hs : src.map (·.1) = C.sources) {p : N × A} (hp : p ∈ src) : evalC C d src gf p.1 = p.2 := by
  have h1 : p.1 ∈ C.sources := by rw [← hs]; exact List.mem_map.mpr ⟨p, hp, rfl⟩
  show evalG gf _ C.order p.1 = p.2
  rw [(evalG_spec hc C.order C.sources _ w.topo w.nodupO).1 p.1 h1]
  exact evalS_at src _ (by rw [hs]; exact w.nodupS) p hp
theorem evalC_gate {A : Type} (w : WF C) {d : A} {src : List (N × A)} {gf : Gate N → (N → A) → A} (hc : Cong gf) {g : Gate N} (hg : g ∈ C.gates) : evalC C d src gf g.line = gf g (evalC C d src gf) :=
  (evalG_spec hc C.order C.sources _ w.topo w.nodupO).2 g (w.mem_order.mpr hg)

/-! ### versions, values -/
inductive Ver (N : Type) where
  | right
  | stem (l : N) (v : Bool)
  | pin (g : N) (i : Nat) (v : Bool)
  | short (a b : N) (k : Bool)
  deriving DecidableEq

def Ver.stuck : Ver N → N → Nat → Option Bool
  | .pin g i v, l, j => if g = l ∧ i = j then some v else none
  | _, _, _ => none

def Kind.bin : Kind → Bool → Bool → Bool
  | .and, a, b => a && b
  | .nand, a, b => a && b
  | .or, a, b => a || b
  | .nor, a, b => a || b
  | _, a, b => a != b
def Kind.neg : Kind → Bool
  | .nand => true
  | .nor => true
  | .xnor => true
  | .not => true
  | _ => false
def Kind.const : Kind → Option Bool
  | .low => some false
  | .high => some true
  | _ => none
def gateVal (k : Kind) (bits : List Bool) : Bool := match k.const with
  | some b => b
  | none => (match bits with
    | [] => false
    | b :: r => r.foldl k.bin b) != k.neg

/-- what a gate sees at its pins -/
def pinVals (v : Ver N) (g : Gate N) (e : N → Bool) : List Bool := g.pins.mapIdx fun i p => (v.stuck g.line i).getD (e p)
def gfV (v : Ver N) (f : N → Option Bool) : Gate N → (N → Bool) → Bool := fun g e => (f g.line).getD (gateVal g.kind (pinVals v g e))
theorem mapIdx_cong {A B : Type} {l : List A} {f g : Nat → A → B} (h : ∀ i, ∀ p ∈ l, f i p = g i p) : l.mapIdx f = l.mapIdx g := by
  apply List.ext_getElem?
  intro i
  rw [List.getElem?_mapIdx, List.getElem?_mapIdx]
  cases e : l[i]? with
  | none => rfl
  | some p => simp [h i p (List.mem_of_getElem? e)]
theorem gfV_cong (v : Ver N) (f : N → Option Bool) : Cong (gfV v f) := fun g e e' h => by
  unfold gfV pinVals
  rw [mapIdx_cong fun i p hp => by rw [h p hp]]
def srcV (C : Circ N) (f : N → Option Bool) (pat : List Bool) : List (N × Bool) := (C.sources.zip pat).map fun p => (p.1, (f p.1).getD p.2)
theorem srcV_keys {f : N → Option Bool} {pat : List Bool} (h : pat.length = C.sources.length) : (srcV C f pat).map (·.1) = C.sources := by
  unfold srcV
  rw [List.map_map]
  show (C.sources.zip pat).map (fun p => p.1) = C.sources
  rw [← List.unzip_fst, List.unzip_zip_left (by omega)]
def through (C : Circ N) (v : Ver N) (f : N → Option Bool) (pat : List Bool) : N → Bool := evalC C false (srcV C f pat) (gfV v f)
def joinB (k : Bool) (a b : Bool) : Bool := if k then a && b else a || b
def forcedOf (C : Circ N) (v : Ver N) (pat : List Bool) : N → Option Bool := match v with
  | .stem l b => fun x => if x = l then some b else none
  | .short a b k => fun x => if x = a ∨ x = b then some (joinB k (through C .right (fun _ => none) pat a) (through C .right (fun _ => none) pat b)) else none
  | _ => fun _ => none
def val (C : Circ N) (v : Ver N) (pat : List Bool) : N → Bool := through C v (forcedOf C v pat) pat
def resp (C : Circ N) (v : Ver N) (pat : List Bool) : List Bool := C.sinks.map (val C v pat)

theorem through_src (w : WF C) {v : Ver N} {f : N → Option Bool} {pat : List Bool} (hl : pat.length = C.sources.length) {i : Nat} {s : N} {b : Bool} (hs : C.sources[i]? = some s) (hb : pat[i]? = some b) :
    through C v f pat s = (f s).getD b := by
  have hm : (s, (f s).getD b) ∈ srcV C f pat := by
    refine List.mem_map.mpr ⟨(s, b), ?_, rfl⟩
    refine List.mem_of_getElem? (i := i) ?_
    rw [List.getElem?_zip_eq_some]
    exact ⟨hs, hb⟩
  exact evalC_src w (gfV_cong v f) (srcV_keys hl) hm
theorem through_gate (w : WF C) {v : Ver N} {f : N → Option Bool} {pat : List Bool} {g : Gate N} (hg : g ∈ C.gates) : through C v f pat g.line = (f g.line).getD (gateVal g.kind (pinVals v g (through C v f pat))) :=
  evalC_gate w (gfV_cong v f) hg

def VerOk (C : Circ N) (v : Ver N) : Prop := match v with
  | .right => True
  | .stem l _ => l ∈ C.lines
  | .pin g i _ => ∃ x ∈ C.gates, x.line = g ∧ i < x.pins.length
  | .short a b _ => a ∈ C.lines ∧ b ∈ C.lines
end
end Pw

set_option linter.all false
set_option linter.unusedSectionVars false
namespace Pw
/-! ### pair sets -/
structure Mark where
  a : Bool
  b : Bool
  c : Bool
  d : Bool
  deriving DecidableEq, Repr, Inhabited
def Mark.has (m : Mark) : Bool → Bool → Bool
  | false, false => m.a
  | false, true => m.b
  | true, false => m.c
  | true, true => m.d
def Mark.add (m : Mark) : Bool → Bool → Mark
  | false, false => { m with a := true }
  | false, true => { m with b := true }
  | true, false => { m with c := true }
  | true, true => { m with d := true }
def Mark.none : Mark := ⟨false, false, false, false⟩
def Mark.or (m n : Mark) : Mark := ⟨m.a || n.a, m.b || n.b, m.c || n.c, m.d || n.d⟩
def bi (b : Bool) : Int := if b then 1 else 0
def Mark.val (m : Mark) : Int := bi m.a + 2 * bi m.b + 4 * bi m.c + 8 * bi m.d
def allPairs : List (Bool × Bool) := [(false, false), (false, true), (true, false), (true, true)]
def Mark.pairs (m : Mark) : List (Bool × Bool) := allPairs.filter fun p => m.has p.1 p.2
def Mark.of (ps : List (Bool × Bool)) : Mark := ps.foldl (fun m p => m.add p.1 p.2) Mark.none

theorem Mark.has_add (m : Mark) (x y u v : Bool) : (m.add x y).has u v = (m.has u v || (decide (x = u) && decide (y = v))) := by
  cases m
  cases x <;> cases y <;> cases u <;> cases v <;> simp [Mark.add, Mark.has]
theorem Mark.has_or (m n : Mark) (u v : Bool) : (m.or n).has u v = (m.has u v || n.has u v) := by
  cases m; cases n
  cases u <;> cases v <;> rfl
theorem Mark.mem_pairs {m : Mark} {p : Bool × Bool} : p ∈ m.pairs ↔ m.has p.1 p.2 = true := by
  unfold Mark.pairs
  rw [List.mem_filter]
  refine ⟨fun h => h.2, fun h => ⟨?_, h⟩⟩
  obtain ⟨x, y⟩ := p
  cases x <;> cases y <;> simp [allPairs]
theorem Mark.fold_has : ∀ (ps : List (Bool × Bool)) (m : Mark) (u v : Bool), (ps.foldl (fun m p => m.add p.1 p.2) m).has u v = true ↔ m.has u v = true ∨ (u, v) ∈ ps
  | [], m, u, v => by simp
  | p :: r, m, u, v => by
    obtain ⟨x, y⟩ := p
    show (r.foldl (fun m p => m.add p.1 p.2) (m.add x y)).has u v = true ↔ _
    rw [Mark.fold_has r, Mark.has_add]
    simp only [Bool.or_eq_true, Bool.and_eq_true, decide_eq_true_eq, List.mem_cons, Prod.mk.injEq]
    constructor
    · rintro ((h | ⟨rfl, rfl⟩) | h)
      · exact .inl h
      · exact .inr (.inl ⟨rfl, rfl⟩)
      · exact .inr (.inr h)
    · rintro (h | ⟨rfl, rfl⟩ | h)
      · exact .inl (.inl h)
      · exact .inl (.inr ⟨rfl, rfl⟩)
      · exact .inr h
theorem Mark.of_has {ps : List (Bool × Bool)} {u v : Bool} : (Mark.of ps).has u v = true ↔ (u, v) ∈ ps := by
  unfold Mark.of
  rw [Mark.fold_has]
  have e : Mark.none.has u v = false := by cases u <;> cases v <;> rfl
  simp [e]

def Mark.withVal (m : Mark) (side : Nat) (b : Bool) : Mark := if side = 0 then Mark.of (m.pairs.map fun p => (b, p.2)) else Mark.of (m.pairs.map fun p => (p.1, b))
def Mark.fold2 (k : Kind) (m n : Mark) : Mark := Mark.of (m.pairs.flatMap fun p => n.pairs.map fun q => (k.bin p.1 q.1, k.bin p.2 q.2))
def Mark.negated (m : Mark) : Mark := Mark.of (m.pairs.map fun p => (!p.1, !p.2))
def Kind.constMark : Kind → Option Mark
  | .low => some ⟨true, false, false, false⟩
  | .high => some ⟨false, false, false, true⟩
  | _ => Option.none
def gateMark (k : Kind) (ms : List Mark) : Mark := match k.constMark with
  | some m => m
  | Option.none =>
    let m := (match ms with
      | [] => default
      | m :: r => r.foldl (Mark.fold2 k) m)
    if k.neg then m.negated else m
/-- the pair (x, y) is in m -/
theorem has_with0 {m : Mark} {x y b : Bool} (h : m.has x y = true) : (m.withVal 0 b).has b y = true := by
  unfold Mark.withVal
  rw [if_pos rfl, Mark.of_has]
  exact List.mem_map.mpr ⟨(x, y), Mark.mem_pairs.mpr h, rfl⟩
theorem has_with1 {m : Mark} {x y b : Bool} (h : m.has x y = true) : (m.withVal 1 b).has x b = true := by
  unfold Mark.withVal
  rw [if_neg (by decide), Mark.of_has]
  exact List.mem_map.mpr ⟨(x, y), Mark.mem_pairs.mpr h, rfl⟩
theorem has_fold2 {k : Kind} {m n : Mark} {x y u v : Bool} (h : m.has x y = true) (h' : n.has u v = true) : (Mark.fold2 k m n).has (k.bin x u) (k.bin y v) = true := by
  unfold Mark.fold2
  rw [Mark.of_has]
  exact List.mem_flatMap.mpr ⟨(x, y), Mark.mem_pairs.mpr h, List.mem_map.mpr ⟨(u, v), Mark.mem_pairs.mpr h', rfl⟩⟩
theorem has_negated {m : Mark} {x y : Bool} (h : m.has x y = true) : m.negated.has (!x) (!y) = true := by
  unfold Mark.negated
  rw [Mark.of_has]
  exact List.mem_map.mpr ⟨(x, y), Mark.mem_pairs.mpr h, rfl⟩
/-- three lists in step -/
inductive Three : List Mark → List Bool → List Bool → Prop where
  | nil : Three [] [] []
  | cons {m : Mark} {x y : Bool} {ms : List Mark} {xs ys : List Bool} : m.has x y = true → Three ms xs ys → Three (m :: ms) (x :: xs) (y :: ys)
theorem has_foldl {k : Kind} : ∀ {ms : List Mark} {xs ys : List Bool}, Three ms xs ys → ∀ {m : Mark} {x y : Bool}, m.has x y = true → (ms.foldl (Mark.fold2 k) m).has (xs.foldl k.bin x) (ys.foldl k.bin y) = true
  | _, _, _, .nil, _, _, _, h => h
  | _, _, _, .cons h1 r, _, _, _, h => has_foldl r (has_fold2 h h1)
theorem has_gate {k : Kind} {ms : List Mark} {xs ys : List Bool} (ht : Three ms xs ys) (ha : k.arity ms.length = true) : (gateMark k ms).has (gateVal k xs) (gateVal k ys) = true := by
  cases hk : k.constMark with
  | some m =>
    cases k <;> first | (cases hk; done) | skip
    all_goals
      cases hk
      rfl
  | none =>
    have hc : k.const = none := by cases k <;> first | rfl | (cases hk; done)
    have h1 : ms ≠ [] := fun e => by
      rw [e] at ha
      cases k <;> first | (simp [Kind.arity] at ha; done) | (cases hk; done)
    cases ht with
    | nil => exact absurd rfl h1
    | cons hm hr =>
      rename_i m x y ms xs ys
      have q := has_foldl (k := k) hr hm
      unfold gateMark gateVal
      rw [hk, hc]
      show (if k.neg = true then (ms.foldl (Mark.fold2 k) m).negated else ms.foldl (Mark.fold2 k) m).has (xs.foldl k.bin x != k.neg) (ys.foldl k.bin y != k.neg) = true
      cases hn : k.neg with
      | true =>
        have q2 := has_negated q
        simpa using q2
      | false => simpa using q
/-! a pair set with just one pair -/
def Mark.single (m : Mark) : Prop := ∃ p, m.pairs = [p]
instance (m : Mark) : Decidable m.single := match h : m.pairs with
  | [] => isFalse fun ⟨p, e⟩ => by rw [h] at e; cases e
  | [p] => isTrue ⟨p, h⟩
  | _ :: _ :: _ => isFalse fun ⟨p, e⟩ => by rw [h] at e; cases e
theorem of_one (p : Bool × Bool) : (Mark.of [p]).single := by
  obtain ⟨x, y⟩ := p
  cases x <;> cases y <;> exact ⟨_, rfl⟩
theorem single_with {m : Mark} (h : m.single) (s : Nat) (b : Bool) : (m.withVal s b).single := by
  obtain ⟨p, e⟩ := h
  unfold Mark.withVal
  rw [e]
  split <;> exact of_one _
theorem single_fold2 {k : Kind} {m n : Mark} (h : m.single) (h' : n.single) : (Mark.fold2 k m n).single := by
  obtain ⟨p, e⟩ := h
  obtain ⟨q, e'⟩ := h'
  unfold Mark.fold2
  rw [e, e']
  exact of_one _
theorem single_negated {m : Mark} (h : m.single) : m.negated.single := by
  obtain ⟨p, e⟩ := h
  unfold Mark.negated
  rw [e]
  exact of_one _
theorem single_foldl {k : Kind} : ∀ {ms : List Mark}, (∀ m ∈ ms, m.single) → ∀ {m : Mark}, m.single → (ms.foldl (Mark.fold2 k) m).single
  | [], _, _, h => h
  | n :: r, hs, _, h => single_foldl (fun m hm => hs m (List.mem_cons_of_mem _ hm)) (single_fold2 h (hs n List.mem_cons_self))
theorem single_gate {k : Kind} {ms : List Mark} (hs : ∀ m ∈ ms, m.single) (ha : k.arity ms.length = true) : (gateMark k ms).single := by
  cases hk : k.constMark with
  | some m =>
    cases k <;> first | (cases hk; done) | skip
    all_goals
      cases hk
      exact ⟨_, rfl⟩
  | none =>
    cases ms with
    | nil => cases k <;> first | (simp [Kind.arity] at ha; done) | (cases hk; done)
    | cons m r =>
      have q := single_foldl (k := k) (fun n hn => hs n (List.mem_cons_of_mem _ hn)) (hs m List.mem_cons_self)
      unfold gateMark
      rw [hk]
      show (if k.neg = true then (r.foldl (Mark.fold2 k) m).negated else r.foldl (Mark.fold2 k) m).single
      split
      · exact single_negated q
      · exact q

section
variable {N : Type} [DecidableEq N]
def seenM (v1 v2 : Ver N) (l : N) (i : Nat) (m : Mark) : Mark :=
  let m1 := (match v1.stuck l i with
    | some b => m.withVal 0 b
    | none => m)
  match v2.stuck l i with
    | some b => m1.withVal 1 b
    | none => m1
/-- what a short does to a pair set: any value that it may have -/
def shortM (m : Mark) (side : Nat) (k : Bool) (pa pb : Mark) : Mark := pa.pairs.foldl (fun f p => pb.pairs.foldl (fun f q => f.or (m.withVal side (joinB k p.1 q.1))) f) Mark.none
def force1 (v : Ver N) (side : Nat) (pl : N → Mark) (l : N) (m : Mark) : Mark := match v with
  | .stem l' b => if l' = l then m.withVal side b else m
  | .short a b k => if l = a ∨ l = b then shortM m side k (pl a) (pl b) else m
  | _ => m
def forceM (v1 v2 : Ver N) (pl : N → Mark) (l : N) (m : Mark) : Mark := force1 v2 1 pl l (force1 v1 0 pl l m)
def gfM (v1 v2 : Ver N) (pl : N → Mark) : Gate N → (N → Mark) → Mark := fun g e => forceM v1 v2 pl g.line (gateMark g.kind (g.pins.mapIdx fun i p => seenM v1 v2 g.line i (e p)))
theorem gfM_cong (v1 v2 : Ver N) (pl : N → Mark) : Cong (gfM v1 v2 pl) := fun g e e' h => by
  unfold gfM
  rw [mapIdx_cong fun i p hp => by rw [h p hp]]
def srcMark : Option Bool → Mark
  | none => ⟨true, false, false, true⟩
  | some b => ⟨!b, false, false, b⟩
def srcM (C : Circ N) (v1 v2 : Ver N) (pl : N → Mark) (part : List (Option Bool)) : List (N × Mark) := (C.sources.zip part).map fun p => (p.1, forceM v1 v2 pl p.1 (srcMark p.2))
def marksP (C : Circ N) (v1 v2 : Ver N) (pl : N → Mark) (part : List (Option Bool)) : N → Mark := evalC C default (srcM C v1 v2 pl part) (gfM v1 v2 pl)
def plainM (C : Circ N) (part : List (Option Bool)) : N → Mark := marksP C .right .right (fun _ => default) part
def marks (C : Circ N) (v1 v2 : Ver N) (part : List (Option Bool)) : N → Mark := marksP C v1 v2 (plainM C part) part

variable {C : Circ N}
theorem srcM_keys {v1 v2 : Ver N} {pl : N → Mark} {part : List (Option Bool)} (h : part.length = C.sources.length) : (srcM C v1 v2 pl part).map (·.1) = C.sources := by
  unfold srcM
  rw [List.map_map]
  show (C.sources.zip part).map (fun p => p.1) = C.sources
  rw [← List.unzip_fst, List.unzip_zip_left (by omega)]
theorem marksP_src (w : WF C) {v1 v2 : Ver N} {pl : N → Mark} {part : List (Option Bool)} (hl : part.length = C.sources.length) {i : Nat} {s : N} {o : Option Bool} (hs : C.sources[i]? = some s) (hb : part[i]? = some o) :
    marksP C v1 v2 pl part s = forceM v1 v2 pl s (srcMark o) := by
  have hm : (s, forceM v1 v2 pl s (srcMark o)) ∈ srcM C v1 v2 pl part := by
    refine List.mem_map.mpr ⟨(s, o), ?_, rfl⟩
    refine List.mem_of_getElem? (i := i) ?_
    rw [List.getElem?_zip_eq_some]
    exact ⟨hs, hb⟩
  exact evalC_src w (gfM_cong v1 v2 pl) (srcM_keys hl) hm
theorem marksP_gate (w : WF C) {v1 v2 : Ver N} {pl : N → Mark} {part : List (Option Bool)} {g : Gate N} (hg : g ∈ C.gates) : marksP C v1 v2 pl part g.line = gfM v1 v2 pl g (marksP C v1 v2 pl part) :=
  evalC_gate w (gfM_cong v1 v2 pl) hg

/-! ### the values are in the pair sets -/
def Fills (part : List (Option Bool)) (pat : List Bool) : Prop := part.length = pat.length ∧ ∀ (i : Nat) (b c : Bool), part[i]? = some (some b) → pat[i]? = some c → b = c

theorem or_fold {α : Type} (f : α → Mark) : ∀ (l : List α) (m : Mark) (x y : Bool), (l.foldl (fun a q => a.or (f q)) m).has x y = true ↔ m.has x y = true ∨ ∃ q ∈ l, (f q).has x y = true
  | [], m, x, y => by simp
  | q :: r, m, x, y => by
    show (r.foldl (fun a q => a.or (f q)) (m.or (f q))).has x y = true ↔ _
    rw [or_fold f r, Mark.has_or]
    simp only [Bool.or_eq_true, List.mem_cons, exists_eq_or_imp, or_assoc]
theorem shortM_has {m : Mark} {side : Nat} {k : Bool} {pa pb : Mark} {x y : Bool} : (shortM m side k pa pb).has x y = true ↔ ∃ p ∈ pa.pairs, ∃ q ∈ pb.pairs, (m.withVal side (joinB k p.1 q.1)).has x y = true := by
  unfold shortM
  have go : ∀ (l : List (Bool × Bool)) (f0 : Mark), (l.foldl (fun f p => pb.pairs.foldl (fun f q => f.or (m.withVal side (joinB k p.1 q.1))) f) f0).has x y = true ↔ f0.has x y = true ∨ ∃ p ∈ l, ∃ q ∈ pb.pairs, (m.withVal side (joinB k p.1 q.1)).has x y = true := by
    intro l
    induction l with
    | nil => intro f0; simp
    | cons p r ih =>
      intro f0
      show (r.foldl _ (pb.pairs.foldl (fun f q => f.or (m.withVal side (joinB k p.1 q.1))) f0)).has x y = true ↔ _
      rw [ih, or_fold (fun q : Bool × Bool => m.withVal side (joinB k p.1 q.1))]
      simp only [List.mem_cons, exists_eq_or_imp, or_assoc]
  rw [go]
  have e : Mark.none.has x y = false := by cases x <;> cases y <;> rfl
  simp [e]
theorem has_short0 {m : Mark} {k : Bool} {pa pb : Mark} {x y u v : Bool} (h : m.has x y = true) (ha : pa.has u u = true) (hb : pb.has v v = true) : (shortM m 0 k pa pb).has (joinB k u v) y = true :=
  shortM_has.mpr ⟨(u, u), Mark.mem_pairs.mpr ha, (v, v), Mark.mem_pairs.mpr hb, has_with0 h⟩
theorem has_short1 {m : Mark} {k : Bool} {pa pb : Mark} {x y u v : Bool} (h : m.has x y = true) (ha : pa.has u u = true) (hb : pb.has v v = true) : (shortM m 1 k pa pb).has x (joinB k u v) = true :=
  shortM_has.mpr ⟨(u, u), Mark.mem_pairs.mpr ha, (v, v), Mark.mem_pairs.mpr hb, has_with1 h⟩
/-- what a version's forcing asks of the plain pair sets -/
def PlainOk (C : Circ N) (v : Ver N) (pl : N → Mark) (pat : List Bool) : Prop := match v with
  | .short a b _ => (pl a).has (val C .right pat a) (val C .right pat a) = true ∧ (pl b).has (val C .right pat b) (val C .right pat b) = true
  | _ => True
theorem val_right (pat : List Bool) : val C .right pat = through C .right (fun _ => none) pat := rfl
theorem has_force0 {v : Ver N} {pl : N → Mark} {pat : List Bool} {l : N} {m : Mark} {x y : Bool} (hp : PlainOk C v pl pat) (h : m.has x y = true) : (force1 v 0 pl l m).has ((forcedOf C v pat l).getD x) y = true := by
  cases v with
  | right => exact h
  | pin g i b => exact h
  | stem l' b =>
    show (if l' = l then m.withVal 0 b else m).has ((if l = l' then some b else none).getD x) y = true
    by_cases e : l = l'
    · rw [if_pos e, if_pos e.symm]
      exact has_with0 h
    · rw [if_neg e, if_neg (fun q => e q.symm)]
      exact h
  | short a b k =>
    show (if l = a ∨ l = b then shortM m 0 k (pl a) (pl b) else m).has ((if l = a ∨ l = b then some (joinB k (through C .right (fun _ => none) pat a) (through C .right (fun _ => none) pat b)) else none).getD x) y = true
    by_cases e : l = a ∨ l = b
    · rw [if_pos e, if_pos e]
      exact has_short0 h hp.1 hp.2
    · rw [if_neg e, if_neg e]
      exact h
theorem has_force1 {v : Ver N} {pl : N → Mark} {pat : List Bool} {l : N} {m : Mark} {x y : Bool} (hp : PlainOk C v pl pat) (h : m.has x y = true) : (force1 v 1 pl l m).has x ((forcedOf C v pat l).getD y) = true := by
  cases v with
  | right => exact h
  | pin g i b => exact h
  | stem l' b =>
    show (if l' = l then m.withVal 1 b else m).has x ((if l = l' then some b else none).getD y) = true
    by_cases e : l = l'
    · rw [if_pos e, if_pos e.symm]
      exact has_with1 h
    · rw [if_neg e, if_neg (fun q => e q.symm)]
      exact h
  | short a b k =>
    show (if l = a ∨ l = b then shortM m 1 k (pl a) (pl b) else m).has x ((if l = a ∨ l = b then some (joinB k (through C .right (fun _ => none) pat a) (through C .right (fun _ => none) pat b)) else none).getD y) = true
    by_cases e : l = a ∨ l = b
    · rw [if_pos e, if_pos e]
      exact has_short1 h hp.1 hp.2
    · rw [if_neg e, if_neg e]
      exact h
theorem has_seen {v1 v2 : Ver N} {l : N} {i : Nat} {m : Mark} {x y : Bool} (h : m.has x y = true) : (seenM v1 v2 l i m).has ((v1.stuck l i).getD x) ((v2.stuck l i).getD y) = true := by
  unfold seenM
  cases v1.stuck l i with
  | none => cases v2.stuck l i with
    | none => exact h
    | some c => exact has_with1 h
  | some b => cases v2.stuck l i with
    | none => exact has_with0 h
    | some c => exact has_with1 (has_with0 h)
theorem three_map {e : N → Mark} {x y : N → Bool} {f : Nat → N → Mark} {a b : Nat → N → Bool} : ∀ (l : List N), (∀ i, ∀ p ∈ l, (f i p).has (a i p) (b i p) = true) → Three (l.mapIdx f) (l.mapIdx a) (l.mapIdx b)
  | [], _ => by simpa using Three.nil
  | p :: r, h => by
    rw [List.mapIdx_cons, List.mapIdx_cons, List.mapIdx_cons]
    exact .cons (h 0 p List.mem_cons_self) (three_map (e := e) (x := x) (y := y) r fun i q hq => h (i + 1) q (List.mem_cons_of_mem _ hq))
theorem marksP_has (w : WF C) {v1 v2 : Ver N} {pl : N → Mark} {part : List (Option Bool)} {pat : List Bool} (hl : pat.length = C.sources.length) (hf : Fills part pat) (h1 : PlainOk C v1 pl pat) (h2 : PlainOk C v2 pl pat) :
    ∀ l ∈ C.lines, (marksP C v1 v2 pl part l).has (val C v1 pat l) (val C v2 pat l) = true := by
  have hl' : part.length = C.sources.length := hf.1.trans hl
  refine w.ind (fun s hs => ?_) fun g hg ih => ?_
  · obtain ⟨i, hi, e⟩ := List.mem_iff_getElem.mp hs
    have es : C.sources[i]? = some s := by rw [List.getElem?_eq_getElem hi, e]
    have eb : pat[i]? = some pat[i] := List.getElem?_eq_getElem (by omega)
    have eo : part[i]? = some part[i] := List.getElem?_eq_getElem (by omega)
    rw [marksP_src w hl' es eo]
    unfold val
    rw [through_src w hl es eb, through_src w hl es eb]
    refine has_force1 h2 (has_force0 h1 ?_)
    cases q : part[i] with
    | none => cases pat[i] <;> rfl
    | some b =>
      have e2 : b = pat[i] := hf.2 i b _ (by rw [eo, q]) eb
      rw [← e2]
      cases b <;> rfl
  · rw [marksP_gate w hg]
    unfold val
    rw [through_gate w hg, through_gate w hg]
    unfold gfM
    refine has_force1 h2 (has_force0 h1 (has_gate ?_ ?_))
    · exact three_map (e := fun _ => default) (x := fun _ => false) (y := fun _ => false) g.pins fun i p hp => has_seen (ih p hp)
    · rw [List.length_mapIdx]
      exact w.arity g hg
theorem plainM_has (w : WF C) {part : List (Option Bool)} {pat : List Bool} (hl : pat.length = C.sources.length) (hf : Fills part pat) : ∀ l ∈ C.lines, (plainM C part l).has (val C .right pat l) (val C .right pat l) = true :=
  marksP_has w hl hf trivial trivial
theorem plainOk_of (w : WF C) {v : Ver N} (hv : VerOk C v) {part : List (Option Bool)} {pat : List Bool} (hl : pat.length = C.sources.length) (hf : Fills part pat) : PlainOk C v (plainM C part) pat := by
  cases v with
  | short a b k => exact ⟨plainM_has w hl hf a hv.1, plainM_has w hl hf b hv.2⟩
  | _ => trivial
theorem marks_has (w : WF C) {v1 v2 : Ver N} (h1 : VerOk C v1) (h2 : VerOk C v2) {part : List (Option Bool)} {pat : List Bool} (hl : pat.length = C.sources.length) (hf : Fills part pat) :
    ∀ l ∈ C.lines, (marks C v1 v2 part l).has (val C v1 pat l) (val C v2 pat l) = true :=
  marksP_has w hl hf (plainOk_of w h1 hl hf) (plainOk_of w h2 hl hf)

/-! ### where nothing is open each pair set has one pair -/
def PlainOne (v : Ver N) (pl : N → Mark) : Prop := match v with
  | .short a b _ => (pl a).single ∧ (pl b).single
  | _ => True
theorem single_short {m : Mark} {s : Nat} {k : Bool} {pa pb : Mark} (h : m.single) (ha : pa.single) (hb : pb.single) : (shortM m s k pa pb).single := by
  obtain ⟨p, e⟩ := ha
  obtain ⟨q, e'⟩ := hb
  unfold shortM
  rw [e, e']
  obtain ⟨r, e2⟩ := single_with h s (joinB k p.1 q.1)
  show (Mark.none.or (m.withVal s (joinB k p.1 q.1))).single
  have e3 : ∀ n : Mark, Mark.none.or n = n := fun n => by cases n; simp [Mark.or, Mark.none]
  rw [e3]
  exact ⟨r, e2⟩
theorem single_force {v : Ver N} {s : Nat} {pl : N → Mark} {l : N} {m : Mark} (hp : PlainOne v pl) (h : m.single) : (force1 v s pl l m).single := by
  cases v with
  | right => exact h
  | pin g i b => exact h
  | stem l' b =>
    show (if l' = l then m.withVal s b else m).single
    split
    · exact single_with h _ _
    · exact h
  | short a b k =>
    show (if l = a ∨ l = b then shortM m s k (pl a) (pl b) else m).single
    split
    · exact single_short h hp.1 hp.2
    · exact h
theorem single_seen {v1 v2 : Ver N} {l : N} {i : Nat} {m : Mark} (h : m.single) : (seenM v1 v2 l i m).single := by
  unfold seenM
  cases v1.stuck l i with
  | none => cases v2.stuck l i with
    | none => exact h
    | some c => exact single_with h _ _
  | some b => cases v2.stuck l i with
    | none => exact single_with h _ _
    | some c => exact single_with (single_with h _ _) _ _
theorem marksP_single (w : WF C) {v1 v2 : Ver N} {pl : N → Mark} {part : List (Option Bool)} (hl : part.length = C.sources.length) (ho : ∀ o ∈ part, o ≠ none) (h1 : PlainOne v1 pl) (h2 : PlainOne v2 pl) : ∀ l ∈ C.lines, (marksP C v1 v2 pl part l).single := by
  refine w.ind (fun s hs => ?_) fun g hg ih => ?_
  · obtain ⟨i, hi, e⟩ := List.mem_iff_getElem.mp hs
    have es : C.sources[i]? = some s := by rw [List.getElem?_eq_getElem hi, e]
    have eo : part[i]? = some part[i] := List.getElem?_eq_getElem (by omega)
    rw [marksP_src w hl es eo]
    refine single_force h2 (single_force h1 ?_)
    cases q : part[i] with
    | none => exact absurd q (ho _ (List.mem_of_getElem? eo))
    | some b => cases b <;> exact ⟨_, rfl⟩
  · rw [marksP_gate w hg]
    refine single_force h2 (single_force h1 (single_gate (fun m hm => ?_) ?_))
    · obtain ⟨i, hi, e⟩ := List.mem_mapIdx.mp hm
      rw [← e]
      exact single_seen (ih _ (List.getElem_mem hi))
    · rw [List.length_mapIdx]
      exact w.arity g hg
theorem marks_single (w : WF C) {v1 v2 : Ver N} (h1 : VerOk C v1) (h2 : VerOk C v2) {part : List (Option Bool)} (hl : part.length = C.sources.length) (ho : ∀ o ∈ part, o ≠ none) : ∀ l ∈ C.lines, (marks C v1 v2 part l).single := by
  have pl : ∀ l ∈ C.lines, (plainM C part l).single := marksP_single w hl ho trivial trivial
  have one : ∀ v : Ver N, VerOk C v → PlainOne v (plainM C part) := fun v hv => by
    cases v with
    | short a b k => exact ⟨pl a hv.1, pl b hv.2⟩
    | _ => trivial
  exact marksP_single w hl ho (one v1 h1) (one v2 h2)
end
end Pw

set_option linter.all false
set_option linter.unusedSectionVars false
namespace Pw
section
variable {N : Type} [DecidableEq N]
/-! ### what leads to a line -/
def aboveF (gs : List (Gate N)) (s : N → Bool) : N → Bool := gs.foldl (fun s g => if s g.line then fun x => s x || decide (x ∈ g.pins) else s) s
def above (C : Circ N) (l : N) : N → Bool := aboveF C.order.reverse fun x => decide (x = l)
/-! ### papers, answers -/
inductive Paper where
  | leaf
  | case (i : Nat) (z o : Paper)
inductive Ans where
  | parted (p : List (Option Bool))
  | alike (p : Paper)
def Mark.uneq (m : Mark) : Bool := m.b || m.c
def Mark.eqs (m : Mark) : Bool := m.a || m.d
def sinkM (C : Circ N) (v1 v2 : Ver N) (part : List (Option Bool)) : List Mark := C.sinks.map (marks C v1 v2 part)
def shortedOne (C : Circ N) (v : Ver N) : N → Bool := match v with
  | .short a b _ => fun x => above C a x || above C b x
  | _ => fun _ => false
def shortedB (C : Circ N) (v1 v2 : Ver N) : N → Bool := fun x => shortedOne C v1 x || shortedOne C v2 x
def freeAt (part : List (Option Bool)) : List Nat := (List.range part.length).filter fun i => decide (part[i]? = some none)
/-- the index that matters: the first free one that leads to the sink or to a short -/
def findIn (C : Circ N) (v1 v2 : Ver N) (free : List Nat) (sink : N) : Option Nat := free.find? fun i => match C.sources[i]? with
  | some s => above C sink s || shortedB C v1 v2 s
  | none => false
def choiceM (C : Circ N) (v1 v2 : Ver N) (part : List (Option Bool)) (ms : List Mark) : Nat :=
  ((ms.zip C.sinks).findSome? fun p => if p.1.uneq then findIn C v1 v2 (freeAt part) p.2 else none).getD ((freeAt part).headD 0)
def answerM (C : Circ N) (v1 v2 : Ver N) : Nat → List (Option Bool) → Ans
  | 0, part => .parted part
  | n + 1, part =>
    if (sinkM C v1 v2 part).all (fun m => !m.uneq) then .alike .leaf
    else if (sinkM C v1 v2 part).any (fun m => !m.eqs) then .parted part
    else match answerM C v1 v2 n (part.set (choiceM C v1 v2 part (sinkM C v1 v2 part)) (some false)) with
      | .parted p => .parted p
      | .alike p0 => match answerM C v1 v2 n (part.set (choiceM C v1 v2 part (sinkM C v1 v2 part)) (some true)) with
        | .parted p => .parted p
        | .alike p1 => .alike (.case (choiceM C v1 v2 part (sinkM C v1 v2 part)) p0 p1)
def Right (C : Circ N) (v1 v2 : Ver N) : List (Option Bool) → Paper → Prop
  | part, .leaf => ∀ m ∈ sinkM C v1 v2 part, m.uneq = false
  | part, .case i z o => part[i]? = some none ∧ Right C v1 v2 (part.set i (some false)) z ∧ Right C v1 v2 (part.set i (some true)) o

def opens (part : List (Option Bool)) : Nat := part.countP (· == none)
theorem opens_set {part : List (Option Bool)} {i : Nat} {b : Bool} (h : part[i]? = some none) : opens (part.set i (some b)) + 1 = opens part := by
  revert i
  induction part with
  | nil => intro i h; simp at h
  | cons o r ih =>
    intro i h
    cases i with
    | zero =>
      have e : o = none := by simpa using h
      subst e
      show opens (some b :: r) + 1 = opens (none :: r)
      unfold opens
      rw [List.countP_cons, List.countP_cons]
      simp
    | succ i =>
      have h2 : r[i]? = some none := by simpa using h
      have q := ih h2
      show opens (o :: r.set i (some b)) + 1 = opens (o :: r)
      unfold opens at q ⊢
      rw [List.countP_cons, List.countP_cons]
      omega
variable {C : Circ N}
theorem mem_freeAt {part : List (Option Bool)} {i : Nat} : i ∈ freeAt part ↔ part[i]? = some none := by
  unfold freeAt
  rw [List.mem_filter, List.mem_range, decide_eq_true_eq]
  refine ⟨fun h => h.2, fun h => ⟨?_, h⟩⟩
  exact (List.getElem?_eq_some_iff.mp h).1
theorem free_ne {part : List (Option Bool)} (h : ¬ ∀ o ∈ part, o ≠ none) : freeAt part ≠ [] := by
  intro e
  refine h fun o ho q => ?_
  obtain ⟨i, hi, e2⟩ := List.mem_iff_getElem.mp ho
  have : i ∈ freeAt part := mem_freeAt.mpr (by rw [List.getElem?_eq_getElem hi, e2, q])
  rw [e] at this
  simp at this
theorem choice_free {v1 v2 : Ver N} {part : List (Option Bool)} {ms : List Mark} (h : freeAt part ≠ []) : part[choiceM C v1 v2 part ms]? = some none := by
  refine mem_freeAt.mp ?_
  unfold choiceM
  cases e : (ms.zip C.sinks).findSome? fun p => if p.1.uneq then findIn C v1 v2 (freeAt part) p.2 else none with
  | some i =>
    obtain ⟨p, hp, q⟩ := List.exists_of_findSome?_eq_some e
    split at q
    · exact List.mem_of_find?_eq_some q
    · cases q
  | none =>
    show (freeAt part).headD 0 ∈ freeAt part
    cases e2 : freeAt part with
    | nil => exact absurd e2 h
    | cons a r => simp
/-- where neither all sinks are equal nor one is unequal for sure, something is open -/
theorem open_of (w : WF C) {v1 v2 : Ver N} (h1 : VerOk C v1) (h2 : VerOk C v2) {part : List (Option Bool)} (hl : part.length = C.sources.length) (ha : (sinkM C v1 v2 part).all (fun m => !m.uneq) = false) (hb : (sinkM C v1 v2 part).any (fun m => !m.eqs) = false) :
    freeAt part ≠ [] := by
  refine free_ne fun ho => ?_
  have hs := marks_single w h1 h2 hl ho
  obtain ⟨m, hm, q⟩ : ∃ m ∈ sinkM C v1 v2 part, m.uneq = true := by
    rw [List.all_eq_false] at ha
    obtain ⟨m, hm, q⟩ := ha
    exact ⟨m, hm, by simpa using q⟩
  rw [List.any_eq_false] at hb
  have q2 : m.eqs = true := by simpa using hb m hm
  obtain ⟨l, hl', e⟩ := List.mem_map.mp hm
  obtain ⟨p, e2⟩ := hs l (w.sinks l hl')
  rw [e] at e2
  clear hs hb ha
  obtain ⟨a, b, c, d⟩ := m
  cases a <;> cases b <;> cases c <;> cases d <;> first | (cases q; done) | (cases q2; done) | (simp [Mark.pairs, allPairs, Mark.has] at e2; done)

theorem fills_set {part : List (Option Bool)} {pat : List Bool} {i : Nat} {b : Bool} (h : Fills part pat) (hb : pat[i]? = some b) : Fills (part.set i (some b)) pat := by
  refine ⟨by rw [List.length_set]; exact h.1, fun j c d e1 e2 => ?_⟩
  by_cases hj : j = i
  · subst hj
    have hi : j < part.length := by
      have := (List.getElem?_eq_some_iff.mp hb).1
      rw [h.1]; exact this
    rw [List.getElem?_set_self hi] at e1
    cases e1
    rw [hb] at e2
    exact Option.some.inj e2
  · rw [List.getElem?_set_ne (Ne.symm hj)] at e1
    exact h.2 j c d e1 e2
theorem fills_back {part : List (Option Bool)} {pat : List Bool} {i : Nat} {b : Bool} (hi : part[i]? = some none) (h : Fills (part.set i (some b)) pat) : Fills part pat := by
  refine ⟨by rw [← h.1, List.length_set], fun j c d e1 e2 => ?_⟩
  by_cases hj : j = i
  · subst hj
    rw [hi] at e1
    cases e1
  · exact h.2 j c d (by rw [List.getElem?_set_ne (Ne.symm hj)]; exact e1) e2
theorem uneq_eq {m : Mark} {x y : Bool} (h : m.uneq = false) (hh : m.has x y = true) : x = y := by
  obtain ⟨a, b, c, d⟩ := m
  have h' : (b || c) = false := h
  cases x <;> cases y <;> first | rfl | (rw [Bool.or_eq_false_iff] at h'; have q1 : b = false := h'.1; have q2 : c = false := h'.2; subst q1 q2; cases hh)
theorem eqs_ne {m : Mark} {x y : Bool} (h : m.eqs = false) (hh : m.has x y = true) : x ≠ y := by
  obtain ⟨a, b, c, d⟩ := m
  have h' : (a || d) = false := h
  rw [Bool.or_eq_false_iff] at h'
  have q1 : a = false := h'.1
  have q2 : d = false := h'.2
  subst q1 q2
  cases x <;> cases y <;> first | (cases hh; done) | (intro q; cases q)
theorem right_alike (w : WF C) {v1 v2 : Ver N} (h1 : VerOk C v1) (h2 : VerOk C v2) {pat : List Bool} (hl : pat.length = C.sources.length) : ∀ (q : Paper) (part : List (Option Bool)), Right C v1 v2 part q → Fills part pat → resp C v1 pat = resp C v2 pat
  | .leaf, part, hr, hf => by
    refine List.map_congr_left fun l hl' => ?_
    exact uneq_eq (hr _ (List.mem_map.mpr ⟨l, hl', rfl⟩)) (marks_has w h1 h2 hl hf l (w.sinks l hl'))
  | .case i z o, part, hr, hf => by
    obtain ⟨hi, hz, ho⟩ := hr
    have hlt : i < pat.length := by
      have := (List.getElem?_eq_some_iff.mp hi).1
      rw [← hf.1]; exact this
    have eb : pat[i]? = some pat[i] := List.getElem?_eq_getElem hlt
    cases e : pat[i] with
    | false => exact right_alike w h1 h2 hl z _ hz (fills_set hf (by rw [eb, e]))
    | true => exact right_alike w h1 h2 hl o _ ho (fills_set hf (by rw [eb, e]))
/-- what an answer says -/
def AnsOk (C : Circ N) (v1 v2 : Ver N) (part : List (Option Bool)) : Ans → Prop
  | .parted p => p.length = part.length ∧ ∀ pat, pat.length = C.sources.length → Fills p pat → resp C v1 pat ≠ resp C v2 pat
  | .alike q => Right C v1 v2 part q
theorem answer_ok (w : WF C) {v1 v2 : Ver N} (h1 : VerOk C v1) (h2 : VerOk C v2) : ∀ (n : Nat) (part : List (Option Bool)), part.length = C.sources.length → opens part < n → AnsOk C v1 v2 part (answerM C v1 v2 n part)
  | 0, part, _, h => absurd h (Nat.not_lt_zero _)
  | n + 1, part, hl, ho => by
    unfold answerM
    cases ha : (sinkM C v1 v2 part).all (fun m => !m.uneq) with
    | true =>
      rw [if_pos rfl]
      rw [List.all_eq_true] at ha
      exact fun m hm => by simpa using ha m hm
    | false =>
      rw [if_neg Bool.false_ne_true]
      cases hb : (sinkM C v1 v2 part).any (fun m => !m.eqs) with
      | true =>
        rw [if_pos rfl]
        refine ⟨rfl, fun pat hp hf e => ?_⟩
        rw [List.any_eq_true] at hb
        obtain ⟨m, hm, q⟩ := hb
        obtain ⟨l, hl', e2⟩ := List.mem_map.mp hm
        have k := marks_has w h1 h2 hp hf l (w.sinks l hl')
        rw [e2] at k
        refine eqs_ne (by simpa using q) k ?_
        obtain ⟨i, hi, e3⟩ := List.mem_iff_getElem.mp hl'
        have e4 : (resp C v1 pat)[i]? = (resp C v2 pat)[i]? := by rw [e]
        unfold resp at e4
        rw [List.getElem?_map, List.getElem?_map, List.getElem?_eq_getElem hi, e3] at e4
        simpa using e4
      | false =>
        rw [if_neg Bool.false_ne_true]
        have hi := choice_free (C := C) (v1 := v1) (v2 := v2) (ms := sinkM C v1 v2 part) (open_of w h1 h2 hl ha hb)
        generalize choiceM C v1 v2 part (sinkM C v1 v2 part) = i at hi
        have o0 := opens_set (b := false) hi
        have o1 := opens_set (b := true) hi
        have k0 := answer_ok w h1 h2 n (part.set i (some false)) (by rw [List.length_set]; exact hl) (by omega)
        have k1 := answer_ok w h1 h2 n (part.set i (some true)) (by rw [List.length_set]; exact hl) (by omega)
        cases e0 : answerM C v1 v2 n (part.set i (some false)) with
        | parted p =>
          rw [e0] at k0
          exact ⟨by rw [k0.1, List.length_set], k0.2⟩
        | alike p0 =>
          rw [e0] at k0
          cases e1 : answerM C v1 v2 n (part.set i (some true)) with
          | parted p =>
            rw [e1] at k1
            exact ⟨by rw [k1.1, List.length_set], k1.2⟩
          | alike p1 =>
            rw [e1] at k1
            exact ⟨hi, k0, k1⟩
/-! ### filling -/
def fillB (part : List (Option Bool)) (b : Bool) : List Bool := part.map fun o => o.getD b
theorem fills_fill (part : List (Option Bool)) (b : Bool) : Fills part (fillB part b) := by
  refine ⟨(List.length_map _).symm, fun i c d e1 e2 => ?_⟩
  unfold fillB at e2
  rw [List.getElem?_map, e1] at e2
  simpa using e2
def emptyP (C : Circ N) : List (Option Bool) := C.sources.map fun _ => none
theorem emptyP_len : (emptyP C).length = C.sources.length := List.length_map _
theorem opens_empty : opens (emptyP C) = C.sources.length := by
  unfold opens emptyP
  rw [List.countP_map]
  have e : ((fun x => x == none) ∘ fun (_ : N) => (none : Option Bool)) = fun _ => true := by funext x; rfl
  rw [e, List.countP_true]
theorem fills_empty {pat : List Bool} (h : pat.length = C.sources.length) : Fills (emptyP C) pat := by
  refine ⟨by rw [emptyP_len, h], fun i b c e1 _ => ?_⟩
  unfold emptyP at e1
  rw [List.getElem?_map] at e1
  cases q : C.sources[i]? with
  | none => rw [q] at e1; cases e1
  | some s => rw [q] at e1; cases e1
/-- answer of two versions -/
def ans (C : Circ N) (v1 v2 : Ver N) : Ans := answerM C v1 v2 (C.sources.length + 1) (emptyP C)
theorem ans_ok (w : WF C) {v1 v2 : Ver N} (h1 : VerOk C v1) (h2 : VerOk C v2) : AnsOk C v1 v2 (emptyP C) (ans C v1 v2) :=
  answer_ok w h1 h2 _ _ emptyP_len (by rw [opens_empty]; omega)

/-! ### the next pattern -/
inductive Nxt where
  | pattern (p : List Bool)
  | alike (ps : List Paper)
def nextG (C : Circ N) (v : Ver N) : List (Ver N) → List Paper → Nxt
  | [], acc => .alike acc
  | u :: r, acc => match ans C v u with
    | .parted p => .pattern (fillB p false)
    | .alike q => nextG C v r (acc ++ [q])
def nextM (C : Circ N) : List (Ver N) → Nxt
  | [] => .alike []
  | v :: r => nextG C v r []
/-- the papers for v and each of the rest -/
inductive Papers (C : Circ N) (v : Ver N) : List (Ver N) → List Paper → Prop where
  | nil : Papers C v [] []
  | cons {u : Ver N} {q : Paper} {us : List (Ver N)} {qs : List Paper} : Right C v u (emptyP C) q → Papers C v us qs → Papers C v (u :: us) (q :: qs)
def Divides (C : Circ N) (vs : List (Ver N)) (pat : List Bool) : Prop := ∃ v0 r, vs = v0 :: r ∧ ∃ u ∈ vs, resp C u pat ≠ resp C v0 pat
def NxtOk (C : Circ N) (v : Ver N) (r : List (Ver N)) : Nxt → Prop
  | .pattern p => p.length = C.sources.length ∧ Divides C (v :: r) p
  | .alike qs => Papers C v r qs
theorem papers_snoc {v u : Ver N} {q : Paper} : ∀ {us : List (Ver N)} {qs : List Paper}, Papers C v us qs → Right C v u (emptyP C) q → Papers C v (us ++ [u]) (qs ++ [q])
  | _, _, .nil, h => .cons h .nil
  | _, _, .cons h1 r, h => .cons h1 (papers_snoc r h)
theorem nextG_ok (w : WF C) {v : Ver N} (hv : VerOk C v) : ∀ (r done : List (Ver N)) (acc : List Paper), (∀ u ∈ r, VerOk C u) → Papers C v done acc → NxtOk C v (done ++ r) (nextG C v r acc)
  | [], done, acc, _, h => by rw [List.append_nil]; exact h
  | u :: r, done, acc, hu, h => by
    have k := ans_ok w hv (hu u List.mem_cons_self)
    unfold nextG
    cases e : ans C v u with
    | parted p =>
      rw [e] at k
      have hl : (fillB p false).length = C.sources.length := by
        unfold fillB
        rw [List.length_map, k.1, emptyP_len]
      exact ⟨hl, v, done ++ u :: r, rfl, u, by simp, fun q => k.2 _ hl (fills_fill p false) q.symm⟩
    | alike q =>
      rw [e] at k
      have z := nextG_ok w hv r (done ++ [u]) (acc ++ [q]) (fun x hx => hu x (List.mem_cons_of_mem _ hx)) (papers_snoc h k)
      rw [List.append_assoc] at z
      exact z
theorem next_ok (w : WF C) {v : Ver N} {r : List (Ver N)} (hv : ∀ u ∈ v :: r, VerOk C u) : NxtOk C v r (nextM C (v :: r)) := by
  have := nextG_ok w (hv v List.mem_cons_self) r [] [] (fun u hu => hv u (List.mem_cons_of_mem _ hu)) .nil
  rw [List.nil_append] at this
  exact this
theorem papers_same (w : WF C) {v : Ver N} (hv : VerOk C v) {pat : List Bool} (hl : pat.length = C.sources.length) : ∀ {us : List (Ver N)} {qs : List Paper}, Papers C v us qs → (∀ u ∈ us, VerOk C u) → ∀ u ∈ us, resp C u pat = resp C v pat
  | _, _, .nil, _, u, h => by simp at h
  | _, _, .cons h1 r, hu, u, h => by
    rcases List.mem_cons.mp h with rfl | h
    · exact (right_alike w hv (hu u List.mem_cons_self) hl _ _ h1 (fills_empty hl)).symm
    · exact papers_same w hv hl r (fun x hx => hu x (List.mem_cons_of_mem _ hx)) u h
theorem papers_len {v : Ver N} : ∀ {us : List (Ver N)} {qs : List Paper}, Papers C v us qs → qs.length = us.length
  | _, _, .nil => rfl
  | _, _, .cons _ r => by simp [papers_len r]
theorem papers_at {v : Ver N} : ∀ {us : List (Ver N)} {qs : List Paper} {i : Nat} {u : Ver N}, Papers C v us qs → us[i]? = some u → ∃ q, qs[i]? = some q ∧ Right C v u (emptyP C) q
  | _, _, _, _, .nil, h => by simp at h
  | _, _, 0, _, .cons h1 r, h => by
    have e := Option.some.inj h
    subst e
    exact ⟨_, rfl, h1⟩
  | _, _, i + 1, u, .cons h1 r, h => papers_at (i := i) r (by simpa using h)
/-! ### the finder -/
def askM (C : Circ N) (vs : List (Ver N)) : Option (List Bool) := if vs.length < 2 then none else match nextM C vs with
  | .pattern p => some p
  | .alike _ => none
theorem ask_some (w : WF C) {vs : List (Ver N)} (hv : ∀ u ∈ vs, VerOk C u) {p : List Bool} (h : askM C vs = some p) : p.length = C.sources.length ∧ Divides C vs p := by
  unfold askM at h
  split at h
  · cases h
  · cases vs with
    | nil => cases h
    | cons v r =>
      have k := next_ok w hv
      cases e : nextM C (v :: r) with
      | pattern q =>
        rw [e] at k h
        cases h
        exact k
      | alike qs => rw [e] at h; cases h
theorem ask_none (w : WF C) {vs : List (Ver N)} (hv : ∀ u ∈ vs, VerOk C u) (h : askM C vs = none) {pat : List Bool} (hl : pat.length = C.sources.length) : ¬ Divides C vs pat := by
  rintro ⟨v0, r, rfl, u, hu, hne⟩
  unfold askM at h
  split at h
  · rename_i hlt
    have e : r = [] := by
      cases r with
      | nil => rfl
      | cons a b =>
        have : (v0 :: a :: b).length < 2 := hlt
        rw [List.length_cons, List.length_cons] at this
        omega
    subst e
    rw [List.mem_singleton.mp hu] at hne
    exact hne rfl
  · have k := next_ok w hv
    cases e : nextM C (v0 :: r) with
    | pattern q => rw [e] at h; cases h
    | alike qs =>
      rw [e] at k
      rcases List.mem_cons.mp hu with rfl | hu
      · exact hne rfl
      · exact hne (papers_same w (hv v0 List.mem_cons_self) hl k (fun x hx => hv x (List.mem_cons_of_mem _ hx)) u hu)
/-- what is told leaves fewer -/
def keepR (C : Circ N) (vs : List (Ver N)) (pat row : List Bool) : List (Ver N) := vs.filter fun v => decide (resp C v pat = row)
theorem keep_less {vs : List (Ver N)} {pat row : List Bool} (h : Divides C vs pat) : (keepR C vs pat row).length < vs.length := by
  obtain ⟨v0, r, e, u, hu, hne⟩ := h
  refine Nat.lt_of_le_of_ne (List.length_filter_le _ _) fun q => ?_
  have all := List.length_filter_eq_length_iff.mp q
  have e0 : resp C v0 pat = row := of_decide_eq_true (all v0 (by rw [e]; exact List.mem_cons_self))
  have e1 : resp C u pat = row := of_decide_eq_true (all u hu)
  exact hne (by rw [e0, e1])
theorem keep_mem {vs : List (Ver N)} {pat : List Bool} {t : Ver N} (h : t ∈ vs) : t ∈ keepR C vs pat (resp C t pat) := List.mem_filter.mpr ⟨h, decide_eq_true rfl⟩
end
end Pw

/-! ### rules that the layer lacks: |=, &=, ^=; enumerate of a tuple; zip of a list and a tuple; d.update(d); name = {.. for ..} -/
namespace Pw
open PySem PySem.Spec PyProof.Rows L2
section
variable {X : Cx}
theorem ip_or : PIp X .BitOr (rI0 fun i j => .int (Builtin.bitOr i j)) := fun pins s σ H x y v u Q I r1 r2 h => iop_or pins s σ H x y v u Q I r1 r2 h
theorem ip_and : PIp X .BitAnd (rI0 fun i j => .int (Builtin.bitAnd i j)) := fun pins s σ H x y v u Q I r1 r2 h => iop_and pins s σ H x y v u Q I r1 r2 h
theorem ip_xor : PIp X .BitXor (rI0 fun i j => .int (Builtin.bitXor i j)) := fun pins s σ H x y v u Q I r1 r2 h => iop_xor pins s σ H x y v u Q I r1 r2 h
theorem hu64 {A : Around} {k : Nat} (hr : Room k A) : A.units + 64 < cLine := hr.units
theorem hu65 {A : Around} {k : Nat} (hr : Room k A) : A.units + 65 < cLine := by have := hr.un; omega

/-! d.update(e) -/
def rUpd : V → List V → Hp → VK → Prop := fun x vs H Q => ∃ (d o : Addr) (kvs more : List (Key × V)), x = .ref d ∧ vs = [.ref o] ∧ d ≠ o ∧ H d = some (.dK kvs) ∧ H o = some (.dK more) ∧ kvs.length + more.length ≤ sizeLine ∧
  Q .non (upd H d (.dK (mergeK kvs more)))
theorem mt_update : MtR X "dict.update" rUpd := by
  intro pins s σ H x vs v us Q I rx rv h
  obtain ⟨d, o, kvs, more, rfl, rfl, hne, hd, ho, hz, q⟩ := h
  cases rx
  obtain ⟨u, rfl, ru⟩ := rv.one
  cases ru
  obtain ⟨z1, s1, ks, rel1, dd⟩ := dk_of I.hok hd
  obtain ⟨z2, s2, ms, rel2, oo⟩ := dk_of I.hok ho
  have hlen : ks.length + ms.length ≤ sizeLine := by rw [← rel1.length, ← rel2.length]; exact hz
  refine call_meetsIn PySem.F.slot_dict_update dd.typeIs PySem.F.entry_dict_update (PySem.F.args_dict_update_2 _ _) (meets_dict_update (mixKind X.prog X.w) d o hne s2) ⟨ks, ms, dd, oo, hlen, fun h' dd' oo' hs => ?_⟩
  have he : ∃ q, h'.get? d = some q := let ⟨q, _, _, hq, _⟩ := dd'; ⟨q, hq⟩
  have hl : (mergeK kvs more).length ≤ sizeLine := Nat.le_trans (length_mergeK more kvs) hz
  exact ⟨.non, _, d_write (t' := s.toks) I (by rw [hd]; exact True.intro) hs he (dk_new hl s1 (KV.merge rel2 rel1) dd'), rfl, q⟩

/-! enumerate(tuple) -/
theorem meets_enumerate_newT {v : Value} {o : Obj} {H : Heap → Prop} (B : Begins v o H) :
    Meets (Builtin.«enumerate.__new__» ⟨[.type "enumerate", v], []⟩) (fun _ R s => H s.heap ∧
      R (.ok (.ret (.ref (s.heap.push o).objs.size))) { s with heap := (s.heap.push o).push { cls := .type "enumerate", data := .fields #[.none, .bool false, .ref s.heap.objs.size, rawInt 0, .none, .none] } }) :=
  .of_wp fun prog w A R s h => by
    obtain ⟨hp, g, d, tk, os⟩ := s; obtain ⟨h1, h⟩ := h
    have hsub := sub_enumerate
    have q1 : ∀ {A' : Around} {E : Value → Shared → Prop} {Q : Value → Shared → Prop}, Q (.ref hp.objs.size) ⟨hp.push o, g, d, tk, os⟩ → wpAny (model prog w) A' (pyIter v) Q E ⟨hp, g, d, tk, os⟩ :=
      fun q => B.iter prog w _ _ ⟨hp, g, d, tk, os⟩ _ h1 q
    wp_walk using q1
    refine wpAny_stack_any fun st => wpAny_pure ?_
    split
    · rename_i c _ _ _ _ _
      cases (c == Value.type "enumerate")
      · wp_walk using q1
        exact ⟨_, rfl, h⟩
      · wp_walk using q1
        exact ⟨_, rfl, h⟩
    · wp_walk using q1
      exact ⟨_, rfl, h⟩
theorem enum_begins1 {prog : Program} {w : World} {A : Around} {E : Value → Shared → Prop} {s : Shared} {v : Value} {o : Obj} {H : Heap → Prop} {Q : Value → Shared → Prop} (B : Begins v o H) (h1 : H s.heap)
    (h : ∀ h', IsEnum h' (s.heap.objs.size + 1) s.heap.objs.size 0 .none → h'.get? s.heap.objs.size = some o → h'.objs.size = s.heap.objs.size + 2 →
      (∀ b o, s.heap.get? b = some o → h'.get? b = some o) → Q (.ref (s.heap.objs.size + 1)) { s with heap := h' }) :
    wpAny (model prog w) A (call (.type "enumerate") [v]) Q E s := by
  refine callType_new F.called_enumerate (by decide) (F.typeCall_enumerate_1 _) (F.newCall_enumerate_1 _) (fun obj => F.args_object_init_2 obj _) F.entry_enumerate_new
    (meets_enumerate_newT B) ⟨h1, ?_⟩
  have hz : (s.heap.push o).objs.size = s.heap.objs.size + 1 := Heap.size_push ..
  show _ ∧ _
  rw [hz]
  have he : IsEnum ((s.heap.push o).push { cls := .type "enumerate", data := .fields #[.none, .bool false, .ref s.heap.objs.size, rawInt 0, .none, .none] }) (s.heap.objs.size + 1) s.heap.objs.size 0 .none := by
    have := Heap.get?_push_size (s.heap.push o) (o := { cls := .type "enumerate", data := .fields #[.none, .bool false, .ref s.heap.objs.size, rawInt 0, .none, .none] }) rfl
    rw [hz] at this; exact this
  refine ⟨⟨_, he, rfl⟩, h _ he (Heap.get?_push_of_some _ (Heap.get?_push_size _ B.free)) (by rw [Heap.size_push, hz]) fun b o x => Heap.get?_push_of_some _ (Heap.get?_push_of_some _ x)⟩

/-- the tuple at a, each item in a new pair with its number -/
def IteT (K : PySem.W.Frag) (a : Addr) : It :=
  ⟨fun i H => ∃ (xs : List V) (x : V), SqT K H a xs ∧ xs[i]? = some x, fun i H v H' => ∃ T x, v = .ref T ∧ H T = none ∧ H' = upd H T (.tup [.int (i : Nat), x]) ∧ ∀ xs, SqT K H a xs → xs[i]? = some x, fun i H => ∃ xs : List V, SqT K H a xs ∧ xs.length = i⟩
theorem ne_cls {h : Heap} {a b : Addr} {o u : Obj} (ha : h.get? a = some o) (hb : h.get? b = some u) (d : o.cls ≠ u.cls) : a ≠ b := fun e => by
  rw [e, hb] at ha
  cases ha
  exact d rfl
theorem turn_enumT {P : Program} {w : World} {K : PySem.W.Frag} {elts : List Expr} {kk : Nat} {tpos : Pos} (a e it : Addr) :
    Turn P w K (.Tuple elts kk tpos) (IteT K a) [e, it] e (fun i h => (∃ old, IsEnum h e it ((i : Nat) : Int) old) ∧ h.IsTupleIter it a i ∧ e ≠ it) where
  mem := by simp
  obj := fun i h st b hb => by
    obtain ⟨⟨old, he⟩, ⟨o, ho, hc, hd⟩, _⟩ := st
    have e' : b = e ∨ b = it := by simpa using hb
    rcases e' with z | z
    · rw [z]; exact ⟨_, he, fun v q => nomatch q⟩
    · rw [z]; exact ⟨o, ho, fun v q => by rw [hd] at q; cases q⟩
  keep := fun i h h' st k => let ⟨⟨old, he⟩, hi, hne⟩ := st; ⟨⟨old, k e (by simp) _ he⟩, hi.at fun o q => k it (by simp) o q, hne⟩
  item := by
    intro X hP hw hK hc i pins s σ H E I hf st hg
    subst hP hw hK
    obtain ⟨⟨old, he⟩, hit, hne⟩ := st
    obtain ⟨xs, x, hq, hx⟩ := hg
    obtain ⟨its, rv, p, hz⟩ := I.tuple hq
    obtain ⟨u, hu, ru⟩ := rv.get hx
    have pt : s.heap.IsTuple a its.toArray := p
    obtain ⟨oa, hoa, hca, _⟩ := id pt
    obtain ⟨oi, hoi, hci, _⟩ := id hit
    have hae : e ≠ a := ne_cls he hoa (by rw [hca]; exact fun z => absurd (Value.type.inj z) (by decide))
    have hai : a ≠ it := ne_cls hoa hoi (by rw [hca, hci]; exact fun z => absurd (Value.type.inj z) (by decide))
    have D := Draws.tuple (prog := X.prog) (w := X.w) (A := X.A.in1) (I.ok.hd hc) it a hai its.toArray
    have G := GoesN.enumFrom (elts := elts) (x1 := kk) (pos := tpos) 0 D e hne (by simp [hne, hae]) (by simp)
    have hn : i < its.toArray.size := by
      have := (List.getElem?_eq_some_iff.mp hu).1
      simpa using this
    have e0 : ∀ j : Nat, (0 : Int) + (j : Int) = (j : Int) := fun j => Int.zero_add _
    refine G.goes i s _ E hn ⟨⟨old, by rw [e0]; exact he⟩, hit, pt⟩ fun v h' tk hY st' hk htk => ?_
    obtain ⟨T, t, y, ev, hT, hy, hTt⟩ := hY
    obtain ⟨⟨old', he'⟩, hit', pt'⟩ := st'
    have ey : u = y := by
      have q : its.toArray[i]? = some u := by simpa using hu
      rw [q] at hy
      exact Option.some.inj hy
    subst ey
    have new : ObjOk X.prog X.w (upd H T (.tup [.int (i : Nat), x])) h' T (.tup [.int (i : Nat), x]) :=
      ⟨by show 2 ≤ sizeLine; decide, [.int ((0 : Int) + (i : Int)) t, u], .cons ⟨t, by rw [e0]⟩ (.cons ru .nil), hTt⟩
    have I1 : Inv X pins σ (upd H T (.tup [.int (i : Nat), x])) { s with heap := h', toks := tk } :=
      I.turnedNew (ch := [e, it]) (fun b ob hb q => hk b ob hb q) hf hT new
    refine ⟨.ref T, _, I1, ev, ⟨T, x, rfl, I.hok.fresh hT, rfl, fun ys hy' => by rw [I.tuple_inj hy' hq]; exact hx⟩, ⟨⟨old', ?_⟩, hit', hne⟩, fun b hb => ?_⟩
    · rw [e0] at he'
      exact he'
    · have hb' : b < s.heap.objs.size := by
        have e' : b = e ∨ b = it := by simpa using hb
        rcases e' with z | z
        · rw [z]; exact Heap.lt_size he
        · rw [z]; exact Heap.lt_size hoi
      rw [upd_ne (Nat.ne_of_lt (Nat.lt_of_lt_of_le hb' hT))]
      exact (hf b hb).1
  done := by
    intro X hP hw hK hc i pins s σ H E I hf st hg
    subst hP hw hK
    obtain ⟨⟨old, he⟩, hit, hne⟩ := st
    obtain ⟨xs, hq, hx⟩ := hg
    obtain ⟨its, rv, p, hz⟩ := I.tuple hq
    obtain ⟨f0, f1, f2, f3, f4, f5⟩ := hf it (by simp)
    have pt : s.heap.IsTuple a its.toArray := p
    obtain ⟨oa, hoa, hca, _⟩ := id pt
    obtain ⟨oi, hoi, hci, _⟩ := id hit
    have hai : a ≠ it := ne_cls hoa hoi (by rw [hca, hci]; exact fun z => absurd (Value.type.inj z) (by decide))
    have hl := rv.length
    have hn : i = its.toArray.size := by simp; omega
    subst hn
    have D := Draws.tuple (prog := X.prog) (w := X.w) (A := X.A.in1) (I.ok.hd hc) it a hai its.toArray
    exact wpAny_pyNext_enum_endD D he ⟨hit, pt⟩ fun h' eb => ⟨rfl, I.turned (t' := s.toks) (fun b o hb q => eb b o hb q) f0 f1 f3 f4 f5⟩
  self := fun A i s Q E st h => let ⟨⟨_, he⟩, _⟩ := st; wpAny_pyIter_enum he h
def iEnumT (K : PySem.W.Frag) (ta : TA) : TI := fun σ H R => ta σ H fun vs H1 => ∃ a xs, vs = [.ref a] ∧ SqT K H1 a xs ∧ R (IteT K a) H1
theorem pi_enumT {e : Expr} {ta : TA} {p pos tpos : Pos} {elts : List Expr} {kk : Nat} (hg : Gl X "enumerate") (hm : X.mg "enumerate" = none) (ha : PA X [e] ta) (hs : starEach [e] X.env = [(false, eval e X.env)] := by rfl) :
    PI X (.Tuple elts kk tpos) (.Call (.Name "enumerate" p) [e] [] pos) (iEnumT X.K ta) := by
  refine ⟨fun pins s σ H R I h => ?_⟩
  refine Call_ (ld_blt I hg hm boot_enumerate (PyProof.Rows.callWith_type1 (thn (ha.run pos pins s σ H _ I h) fun us s1 ⟨vs, H1, I1, r1, q1⟩ => ?_) hs rfl))
  obtain ⟨a, xs, ex, hq, q⟩ := q1
  subst ex
  cases r1 with
  | cons r rr =>
    cases rr
    cases r
    obtain ⟨its, rv, p', hz⟩ := I1.tuple hq
    have pt : s1.heap.IsTuple a its.toArray := p'
    refine enum_begins1 (begins_tuple a its.toArray) pt fun h' he hit hsz hk => wpAny_pyIter_enum he ?_
    have I2 : Inv X pins σ H1 { s1 with heap := h' } := I1.kept (t' := s1.toks) hk
    refine ⟨s1.heap.objs.size + 1, [s1.heap.objs.size + 1, s1.heap.objs.size], _, _, H1, rfl, I2, turn_enumT a (s1.heap.objs.size + 1) s1.heap.objs.size, ⟨⟨.none, he⟩, ⟨_, hit, rfl, rfl⟩, Nat.succ_ne_self _⟩, fun b hb => ?_, q⟩
    have e' : b = s1.heap.objs.size + 1 ∨ b = s1.heap.objs.size := by simpa using hb
    have hle : s1.heap.objs.size ≤ b := by
      rcases e' with z | z
      · rw [z]; exact Nat.le_add_right _ _
      · rw [z]; exact Nat.le_refl _
    exact I1.fpOk hle (I1.hok.fresh hle)
/-- how enumerate of a standing tuple walks -/
theorem walk_enumT {K : PySem.W.Frag} {a : Addr} {xs : List V} : Walk (IteT K a) xs.length (fun H => SqT K H a xs) (fun i H v H' => ∃ T x, v = .ref T ∧ H T = none ∧ H' = upd H T (.tup [.int (i : Nat), x]) ∧ xs[i]? = some x) :=
  ⟨fun i _ hi q => ⟨xs, xs[i], q, by simp [hi]⟩, fun _ q => ⟨xs, q, rfl⟩, fun _ _ _ _ _ q ⟨T, x, h1, h2, h3, h4⟩ => ⟨T, x, h1, h2, h3, h4 xs q⟩⟩

/-! zip(list, tuple), the tuple a tracked one -/
def ItzM (K : PySem.W.Frag) (a b : Addr) : It :=
  ⟨fun i H => ∃ (xs ys : List V) (x y : V), SqL K H a xs ∧ H b = some (.tup ys) ∧ xs[i]? = some x ∧ ys[i]? = some y,
    fun i H v H' => ∃ T x y, v = .ref T ∧ H T = none ∧ H' = upd H T (.tup [x, y]) ∧ (∀ xs, SqL K H a xs → xs[i]? = some x) ∧ ∀ ys, H b = some (.tup ys) → ys[i]? = some y,
    fun i H => ∃ xs ys : List V, SqL K H a xs ∧ H b = some (.tup ys) ∧ xs.length = i ∧ ys.length = i⟩
structure Apart (z TI TO i1 i2 : Addr) : Prop where
  TIz : TI ≠ z
  TOz : TO ≠ z
  TITO : TI ≠ TO
  TIi1 : TI ≠ i1
  TIi2 : TI ≠ i2
  zi1 : z ≠ i1
  zi2 : z ≠ i2
  TOi1 : TO ≠ i1
  TOi2 : TO ≠ i2
  i12 : i1 ≠ i2
theorem sep_of {h : Heap} {z TI TO i1 i2 a b : Addr} {items : Array Value} {items2 : Array Value} {x y : Value} {i : Nat} (D : Apart z TI TO i1 i2) (hz : IsZip h z TI TO .none) (hTO : IsTupOf2 h TO x y) (h1 : h.IsListIter i1 a i) (h2 : h.IsTupleIter i2 b i) (hl : h.IsList a items) (ht : h.IsTuple b items2) (hb : b ≠ TO) :
    ZipSep2 z TI TO i1 i2 [i1, a] [i2, b] ∧ a ≠ i1 ∧ b ≠ i2 := by
  obtain ⟨oa, hoa, hca, _⟩ := hl
  obtain ⟨ob, hob, hcb, _⟩ := ht
  obtain ⟨o1, ho1, hc1, _⟩ := h1
  obtain ⟨o2, ho2, hc2, _⟩ := h2
  have k1 : z ≠ a := ne_cls hz hoa (by rw [hca]; exact fun z => absurd (Value.type.inj z) (by decide))
  have k2 : z ≠ b := ne_cls hz hob (by rw [hcb]; exact fun z => absurd (Value.type.inj z) (by decide))
  have k3 : TO ≠ a := ne_cls hTO hoa (by rw [hca]; exact fun z => absurd (Value.type.inj z) (by decide))
  have k4 : a ≠ i1 := ne_cls hoa ho1 (by rw [hca, hc1]; exact fun z => absurd (Value.type.inj z) (by decide))
  have k5 : b ≠ i2 := ne_cls hob ho2 (by rw [hcb, hc2]; exact fun z => absurd (Value.type.inj z) (by decide))
  have k6 : i1 ≠ b := ne_cls ho1 hob (by rw [hc1, hcb]; exact fun z => absurd (Value.type.inj z) (by decide))
  have k7 : i2 ≠ a := ne_cls ho2 hoa (by rw [hc2, hca]; exact fun z => absurd (Value.type.inj z) (by decide))
  exact ⟨⟨D.TIz, D.TOz, D.TITO, D.TIi1, by simp, by simp [D.zi1, k1], by simp [D.TOi1, k3], D.TIi2, by simp, by simp [D.zi2, k2], by simp [D.TOi2, Ne.symm hb], by simp [D.i12, k6], by simp [Ne.symm D.i12, k7]⟩, k4, k5⟩
theorem turn_zipM {P : Program} {w : World} {K : PySem.W.Frag} {elts : List Expr} {kk : Nat} {tpos : Pos} {a b z TI TO i1 i2 : Addr} (D : Apart z TI TO i1 i2) :
    Turn P w K (.Tuple elts kk tpos) (ItzM K a b) [z, TI, TO, i1, i2] z (fun i h => IsZip h z TI TO .none ∧ IsTupOf2 h TI (.ref i1) (.ref i2) ∧ (∃ x y, IsTupOf2 h TO x y) ∧ h.IsListIter i1 a i ∧ h.IsTupleIter i2 b i) where
  mem := by simp
  obj := fun i h st c hc => by
    obtain ⟨hz, hTI, ⟨x, y, hTO⟩, ⟨o1, e1, _, d1⟩, ⟨o2, e2, _, d2⟩⟩ := st
    have e' : c = z ∨ c = TI ∨ c = TO ∨ c = i1 ∨ c = i2 := by simpa using hc
    rcases e' with q | q | q | q | q
    · rw [q]; exact ⟨_, hz, fun v q => nomatch q⟩
    · rw [q]; exact ⟨_, hTI, fun v q => nomatch q⟩
    · rw [q]; exact ⟨_, hTO, fun v q => nomatch q⟩
    · rw [q]; exact ⟨o1, e1, fun v q => by rw [d1] at q; cases q⟩
    · rw [q]; exact ⟨o2, e2, fun v q => by rw [d2] at q; cases q⟩
  keep := fun i h h' st k => by
    obtain ⟨hz, hTI, ⟨x, y, hTO⟩, h1, h2⟩ := st
    exact ⟨k z (by simp) _ hz, k TI (by simp) _ hTI, ⟨x, y, k TO (by simp) _ hTO⟩, h1.at fun o q => k i1 (by simp) o q, h2.at fun o q => k i2 (by simp) o q⟩
  item := by
    intro X hP hw hK hc i pins s σ H E I hf st hg
    subst hP hw hK
    obtain ⟨hz, hTI, ⟨x0, y0, hTO⟩, h1, h2⟩ := st
    obtain ⟨xs, ys, x, y, hqx, hqy, hx, hy⟩ := hg
    obtain ⟨its, rv, p, _⟩ := I.list hqx
    obtain ⟨its2, rv2, p2, _⟩ := I.tuple (SqT.of hqy)
    obtain ⟨u, hu, ru⟩ := rv.get hx
    obtain ⟨u2, hu2, ru2⟩ := rv2.get hy
    have pl : s.heap.IsList a its.toArray := p.isList
    have pt : s.heap.IsTuple b its2.toArray := p2
    have hb : b ≠ TO := fun q => by
      have := (hf TO (by simp)).1
      rw [← q, hqy] at this
      cases this
    obtain ⟨S, n1, n2⟩ := sep_of D hz hTO h1 h2 pl pt hb
    have G := GoesN.zip2 (elts := elts) (x1 := kk) (pos := tpos) S (Draws.list (prog := X.prog) (w := X.w) (A := X.A.in1) (I.ok.hd hc) i1 a n1 its.toArray) (Draws.tuple (prog := X.prog) (w := X.w) (A := X.A.in1) (I.ok.hd hc) i2 b n2 its2.toArray)
    have hu' : its.toArray[i]? = some u := by simpa using hu
    have hu2' : its2.toArray[i]? = some u2 := by simpa using hu2
    have hn : i < min its.toArray.size its2.toArray.size := by
      have q1 := (Array.getElem?_eq_some_iff.mp hu').1
      have q2 := (Array.getElem?_eq_some_iff.mp hu2').1
      omega
    refine G.goes i s _ E hn ⟨hz, hTI, ⟨x0, y0, hTO⟩, ⟨h1, pl⟩, ⟨h2, pt⟩⟩ fun v h' tk hY st' hk htk => ?_
    obtain ⟨T, v1, v2, ev, hT, hv1, hv2, hTt⟩ := hY
    obtain ⟨hz', hTI', hTO', ⟨h1', _⟩, ⟨h2', _⟩⟩ := st'
    have e1 : u = v1 := Option.some.inj (hu'.symm.trans hv1)
    have e2 : u2 = v2 := Option.some.inj (hu2'.symm.trans hv2)
    subst e1 e2
    have new : ObjOk X.prog X.w (upd H T (.tup [x, y])) h' T (.tup [x, y]) := ⟨by show 2 ≤ sizeLine; decide, [u, u2], .cons ru (.cons ru2 .nil), hTt⟩
    have I1 : Inv X pins σ (upd H T (.tup [x, y])) { s with heap := h', toks := tk } :=
      I.turnedNew (ch := [z, TI, TO, i1, i2]) (fun c ob hb q => hk c ob (fun m => hb (by
        have m' : c = z ∨ c = TO ∨ c = i1 ∨ c = i2 := by simpa using m
        rcases m' with m' | m' | m' | m' <;> simp [m'])) q) hf hT new
    refine ⟨.ref T, _, I1, ev, ⟨T, x, y, rfl, I.hok.fresh hT, rfl, fun l hl => by rw [I.list_inj hl hqx]; exact hx, fun l hl => ?_⟩, ⟨hz', hTI', hTO', h1', h2'⟩, fun c hcm => ?_⟩
    · rw [hqy] at hl
      cases hl
      exact hy
    · have hlt : c < s.heap.objs.size := by
        have e' : c = z ∨ c = TI ∨ c = TO ∨ c = i1 ∨ c = i2 := by simpa using hcm
        rcases e' with q | q | q | q | q
        · rw [q]; exact Heap.lt_size hz
        · rw [q]; exact Heap.lt_size hTI
        · rw [q]; exact Heap.lt_size hTO
        · rw [q]; obtain ⟨_, e1, _⟩ := h1; exact Heap.lt_size e1
        · rw [q]; obtain ⟨_, e2, _⟩ := h2; exact Heap.lt_size e2
      rw [upd_ne (Nat.ne_of_lt (Nat.lt_of_lt_of_le hlt hT))]
      exact (hf c hcm).1
  done := by
    intro X hP hw hK hc i pins s σ H E I hf st hg
    subst hP hw hK
    obtain ⟨hz, hTI, ⟨x0, y0, hTO⟩, h1, h2⟩ := st
    obtain ⟨xs, ys, hqx, hqy, hl1, hl2⟩ := hg
    obtain ⟨its, rv, p, _⟩ := I.list hqx
    obtain ⟨its2, rv2, p2, _⟩ := I.tuple (SqT.of hqy)
    have pl : s.heap.IsList a its.toArray := p.isList
    have pt : s.heap.IsTuple b its2.toArray := p2
    have hb : b ≠ TO := fun q => by
      have := (hf TO (by simp)).1
      rw [← q, hqy] at this
      cases this
    obtain ⟨S, n1, n2⟩ := sep_of D hz hTO h1 h2 pl pt hb
    have G := GoesN.zip2 (elts := elts) (x1 := kk) (pos := tpos) S (Draws.list (prog := X.prog) (w := X.w) (A := X.A.in1) (I.ok.hd hc) i1 a n1 its.toArray) (Draws.tuple (prog := X.prog) (w := X.w) (A := X.A.in1) (I.ok.hd hc) i2 b n2 its2.toArray)
    have l1 := rv.length
    have l2 := rv2.length
    have hn : i = min its.toArray.size its2.toArray.size := by simp; omega
    subst hn
    refine G.stops s _ E ⟨hz, hTI, ⟨x0, y0, hTO⟩, ⟨h1, pl⟩, ⟨h2, pt⟩⟩ fun h' tk hk htk => ?_
    exact I.turnedL (t' := tk) (ch := [z, TI, TO, i1, i2]) (fun c o hb q => hk c o (fun m => hb (by
        have m' : c = z ∨ c = TO ∨ c = i1 ∨ c = i2 := by simpa using m
        rcases m' with m' | m' | m' | m' <;> simp [m'])) q) hf
  self := fun A i s Q E st h => wpAny_pyIter_zip st.1 h
def iZipM (K : PySem.W.Frag) (ta : TA) : TI := fun σ H R => ta σ H fun vs H1 => ∃ a b xs ys, vs = [.ref a, .ref b] ∧ SqL K H1 a xs ∧ H1 b = some (.tup ys) ∧ R (ItzM K a b) H1
theorem pi_zipLT {e e2 : Expr} {ta : TA} {p pos tpos : Pos} {elts : List Expr} {kk : Nat} (hg : Gl X "zip") (hm : X.mg "zip" = none) (ha : PA X [e, e2] ta) (hs : starEach [e, e2] X.env = [(false, eval e X.env), (false, eval e2 X.env)] := by rfl) (hs2 : starEach [e2] X.env = [(false, eval e2 X.env)] := by rfl) :
    PI X (.Tuple elts kk tpos) (.Call (.Name "zip" p) [e, e2] [] pos) (iZipM X.K ta) := by
  refine ⟨fun pins s σ H R I h => ?_⟩
  refine Call_ (ld_blt I hg hm (by decide +kernel : bootBuiltins "zip" = some (.type "zip")) (PyProof.Rows.callWith_type1 (thn (ha.run pos pins s σ H _ I h) fun us s1 ⟨vs, H1, I1, r1, q1⟩ => ?_) (by rw [hs, hs2]) (by rw [hs2]; rfl)))
  obtain ⟨a, b, xs, ys, ex, hqx, hqy, q⟩ := q1
  subst ex
  obtain ⟨u1, u2, rfl, r1, r2⟩ := r1.two
  cases r1
  cases r2
  obtain ⟨its, rv, p', _⟩ := I1.list hqx
  obtain ⟨its2, rv2, p2', _⟩ := I1.tuple (SqT.of hqy)
  refine zip_begins2 (begins_list a its.toArray) (begins_tuple b its2.toArray) p'.isList p2' fun h' hz hTI hTO h1 h2 hsz hk => wpAny_pyIter_zip hz ?_
  have I2 : Inv X pins σ H1 { s1 with heap := h' } := I1.kept (t' := s1.toks) hk
  have D : Apart (s1.heap.objs.size + 4) (s1.heap.objs.size + 2) (s1.heap.objs.size + 3) s1.heap.objs.size (s1.heap.objs.size + 1) :=
    (fun (n : Nat) => (⟨show (n + 2 : Nat) ≠ n + 4 by omega, show (n + 3 : Nat) ≠ n + 4 by omega, show (n + 2 : Nat) ≠ n + 3 by omega, show (n + 2 : Nat) ≠ n by omega, show (n + 2 : Nat) ≠ n + 1 by omega, show (n + 4 : Nat) ≠ n by omega, show (n + 4 : Nat) ≠ n + 1 by omega, show (n + 3 : Nat) ≠ n by omega, show (n + 3 : Nat) ≠ n + 1 by omega, show (n : Nat) ≠ n + 1 by omega⟩ : Apart (n + 4) (n + 2) (n + 3) n (n + 1))) s1.heap.objs.size
  refine ⟨s1.heap.objs.size + 4, [s1.heap.objs.size + 4, s1.heap.objs.size + 2, s1.heap.objs.size + 3, s1.heap.objs.size, s1.heap.objs.size + 1], _, _, H1, rfl, I2, turn_zipM (a := a) (b := b) D, ⟨hz, hTI, ⟨_, _, hTO⟩, ⟨_, h1, rfl, rfl⟩, ⟨_, h2, rfl, rfl⟩⟩, fun c hc => ?_, q⟩
  have e' : c = s1.heap.objs.size + 4 ∨ c = s1.heap.objs.size + 2 ∨ c = s1.heap.objs.size + 3 ∨ c = s1.heap.objs.size ∨ c = s1.heap.objs.size + 1 := by simpa using hc
  have hle : s1.heap.objs.size ≤ c := by
    rcases e' with z | z | z | z | z <;> rw [z] <;> first | exact Nat.le_add_right _ _ | exact Nat.le_refl _
  exact I1.fpOk hle (I1.hok.fresh hle)
theorem walk_zipM {K : PySem.W.Frag} {a b : Addr} {xs ys : List V} (hl : xs.length = ys.length) : Walk (ItzM K a b) xs.length (fun H => SqL K H a xs ∧ H b = some (.tup ys)) (fun i H v H' => ∃ T x y, v = .ref T ∧ H T = none ∧ H' = upd H T (.tup [x, y]) ∧ xs[i]? = some x ∧ ys[i]? = some y) :=
  ⟨fun i _ hi q => ⟨xs, ys, xs[i], ys[i]'(by omega), q.1, q.2, by simp [hi], by simp [show i < ys.length by omega]⟩, fun _ q => ⟨xs, ys, q.1, q.2, rfl, hl.symm⟩, fun _ _ _ _ _ q ⟨T, x, y, h1, h2, h3, h4, h5⟩ => ⟨T, x, y, h1, h2, h3, h4 xs q.1, h5 ys q.2⟩⟩

/-! name = {k: v for ..} on one line, the name a local -/
theorem ps_setDc {i : Nat} {y : Str} {py : Pos} {kx vx tg iter : Expr} {ifs : List Expr} {scope : Scope} {own : List (Str × Nat)} {pos spos : Pos} {wi : TI} {g : TG} {tt : TT} {tk tv : TE} (hc : X.calm = true) (hN : X.N.Nodup) (hy : X.N[i]? = some y) (hyl : X.env.scope.names.lookup y = some .local)
    (hsw : swapsWith (.DictComp kx vx [⟨tg, iter, ifs, 0⟩] scope pos) (some (.Name y py)) spos.line X.env = pure true) (hi : PI X tg iter wi) (ok : BlkOk X.N X.env.scope scope own)
    (hg : ∀ (s : Shared) (H : Hp) (C : Addr) (cl : List (Str × Addr)) (fp : List Addr), PG (X.blk s H scope (compEnvC scope cl C X.env) fp) tg g) (ht : ∀ (s : Shared) (H : Hp) (C : Addr) (cl : List (Str × Addr)) (fp : List Addr), PTs (X.blk s H scope (compEnvC scope cl C X.env) fp) ifs tt)
    (hk : ∀ (s : Shared) (H : Hp) (C : Addr) (cl : List (Str × Addr)) (fp : List Addr), PE (X.blk s H scope (compEnvC scope cl C X.env) fp) kx tk)
    (he : ∀ (s : Shared) (H : Hp) (C : Addr) (cl : List (Str × Addr)) (fp : List Addr), PE (X.blk s H scope (compEnvC scope cl C X.env) fp) vx tv) (hs : ∀ x, foldedSetIterable iter X.env x = pure x := by intro _; rfl) :
    PS X (.Assign [.Name y py] (.DictComp kx vx [⟨tg, iter, ifs, 0⟩] scope pos) spos) (tAsg (tDc wi g tt tk tv (own.map (·.2))) (gName i)) := by
  refine ⟨fun pins s σ H D I h => ?_⟩
  rw [exec_Assign_Name_used _ _ _ _ hsw]
  refine wpAny_bind (wpAny_standAt (wpAny_bind ?_))
  show wpAny _ X.A (do let _ ← comprehension (.DictComp kx vx [⟨tg, iter, ifs, 0⟩] scope pos) scope X.env (firstIterPos [⟨tg, iter, ifs, 0⟩] pos) newDict false (eval iter X.env) (some (assign (.Name y py) X.env))) _ _ s
  have h : tDc wi g tt tk tv (own.map (·.2)) σ H (fun x H1 => gName i x σ H1 D.nx) := h
  refine wpAny_bind (thn (dc_core (Qf := fun _ s' => SP X pins D .next s') hc hN I hi ok hg ht hk he hs h fun L C s' m H' I' q hn f => ?_) fun _ s' hq => wpAny_pure (wpAny_pure hq))
  show wpAny _ _ (assign (.Name y py) X.env (.ref L)) _ _ _
  refine wpAny_assign_Name (store_ok2 (v := V.ref L) I' hN hy (.inl hyl) rfl (fun s2 I2 ⟨a, sb, ha⟩ => ?_) (.inr hyl))
  obtain ⟨f0, f1, f2, f3, f4, f5⟩ := f
  have haC : C ≠ a := by
    rcases ha with z | z
    · rw [z]; exact f1
    · exact fun e => f4 y a z e.symm
  refine ⟨m, hn.sameBut sb haC, fun h3 sb3 => ?_⟩
  exact ⟨_, H', I2.turned (t' := s2.toks) (fun b o hb e => (sb3.2 b hb).trans e) f0 f1 f3 f4 f5, q⟩
theorem sw_trueD {kx vx : Expr} {gs : List Comprehension} {scope : Scope} {pos py : Pos} {y : Str} {l : Nat} {env : Env} (hk : env.scope.kind = .function) (hy : env.scope.names.lookup y = some .local) (hl : (py.line == pos.line) = true)
    (ha : (scope.names.any fun (n, k) => n == y && (k == .local || k == .cell)) = false) : swapsWith (.DictComp kx vx gs scope pos) (some (.Name y py)) l env = pure true := by
  have ky : env.kindOf y = some .local := hy
  have hb : env.blockKind = .function := by unfold Env.blockKind; rw [hk]; rfl
  unfold swapsWith
  simp only [hb, ky, ha, Expr.pos, hl]
  rfl
/-- a dict comprehension over any walk -/
theorem dc_it {J : It} {n : Nat} {G : Hp → Prop} {Y : Nat → Hp → V → Hp → Prop} (w : Walk J n G Y) {g : TG} {tt : TT} {tk tv : TE} {vs : List Nat} {σ : L2.St} {H1 : Hp} {D : Addr} {Qd : Hp → Prop} (Pv : Nat → Hp → Prop) (h0 : Pv 0 (upd H1 D (.dK []))) (hG : ∀ i H, i ≤ n → Pv i H → G H)
    (hs : ∀ i x H H', i < n → Pv i H → Y i H x H' → g x (wipe σ vs) H' fun σ2 H2 => wipe σ2 vs = wipe σ vs ∧ tt σ2 H2 fun b H3 =>
      if b = true then tk σ2 H3 fun y H4 => tv σ2 H4 fun z H5 => ∃ kvs k, y = kV k ∧ H5 D = some (.dK kvs) ∧ kvs.length < sizeLine ∧ Pv (i + 1) (upd H5 D (.dK (putK kvs k z))) else Pv (i + 1) H3) (hd : ∀ H, Pv n H → Qd H) :
    ∃ W : Nat → Nat → Hp → Prop, (∃ m, W 0 m (upd H1 D (.dK []))) ∧ ∀ i m H, W i m H →
      (J.stop i H ∧ Qd H) ∨ (J.go i H ∧ ∃ Nx : Hp → Prop, (∀ H', Nx H' → ∃ m', m' < m ∧ W (i + 1) m' H') ∧ ∀ x H', J.yld i H x H' → g x (wipe σ vs) H' fun σ2 H2 => wipe σ2 vs = wipe σ vs ∧ tt σ2 H2 fun b H3 =>
        if b = true then tk σ2 H3 fun y H4 => tv σ2 H4 fun z H5 => ∃ kvs k, y = kV k ∧ H5 D = some (.dK kvs) ∧ kvs.length < sizeLine ∧ Nx (upd H5 D (.dK (putK kvs k z))) else Nx H3) := by
  refine ⟨fun i m H => m = n - i ∧ i ≤ n ∧ Pv i H, ⟨n, by simp, Nat.zero_le _, h0⟩, ?_⟩
  rintro i m H ⟨rfl, hi, p⟩
  have q := hG i H hi p
  by_cases hlt : i < n
  · exact .inr ⟨w.goes i H hlt q, Pv (i + 1), fun H' p' => ⟨n - (i + 1), by omega, rfl, hlt, p'⟩, fun x H' y => hs i x H H' hlt p (w.yields i H x H' hlt q y)⟩
  · have e : i = n := by omega
    subst e
    exact .inl ⟨w.stops H q, hd H p⟩
end
end Pw
namespace Pw
open PySem PySem.Spec PyProof.Rows L2
theorem sc_BadCircuit_init : FnScope ["self", "reason", "name"] ["self", "reason", "name"] (defScope s_BadCircuit_init) := ⟨rfl, rfl, rfl, by decide +kernel, rfl, by decide +kernel, by decide +kernel⟩
theorem sc_is_integer : FnScope ["value", "least", "greatest"] ["value", "least", "greatest"] (defScope s_is_integer) := ⟨rfl, rfl, rfl, by decide +kernel, rfl, by decide +kernel, by decide +kernel⟩
theorem sc_is_bit : FnScope ["value"] ["value"] (defScope s_is_bit) := ⟨rfl, rfl, rfl, by decide +kernel, rfl, by decide +kernel, by decide +kernel⟩
theorem sc_are_bits : FnScope ["value", "count", "item"] ["value", "count"] (defScope s_are_bits) := ⟨rfl, rfl, rfl, by decide +kernel, rfl, by decide +kernel, by decide +kernel⟩
theorem sc_is_name : FnScope ["value", "character"] ["value"] (defScope s_is_name) := ⟨rfl, rfl, rfl, by decide +kernel, rfl, by decide +kernel, by decide +kernel⟩
theorem sc_is_stem : FnScope ["circuit", "value"] ["circuit", "value"] (defScope s_is_stem) := ⟨rfl, rfl, rfl, by decide +kernel, rfl, by decide +kernel, by decide +kernel⟩
theorem sc_is_pin : FnScope ["circuit", "value"] ["circuit", "value"] (defScope s_is_pin) := ⟨rfl, rfl, rfl, by decide +kernel, rfl, by decide +kernel, by decide +kernel⟩
theorem sc_is_short : FnScope ["circuit", "value", "lines"] ["circuit", "value"] (defScope s_is_short) := ⟨rfl, rfl, rfl, by decide +kernel, rfl, by decide +kernel, by decide +kernel⟩
theorem sc_is_break : FnScope ["circuit", "value"] ["circuit", "value"] (defScope s_is_break) := ⟨rfl, rfl, rfl, by decide +kernel, rfl, by decide +kernel, by decide +kernel⟩
theorem sc_check_version : FnScope ["circuit", "version"] ["circuit", "version"] (defScope s_check_version) := ⟨rfl, rfl, rfl, by decide +kernel, rfl, by decide +kernel, by decide +kernel⟩
theorem sc_shorts : FnScope ["circuit", "lines", "above", "found", "index", "one", "other", "line", "kind"] ["circuit"] (defScope s_shorts) := ⟨rfl, rfl, rfl, by decide +kernel, rfl, by decide +kernel, by decide +kernel⟩
theorem sc_gate_value : FnScope ["kind", "bits", "total", "value"] ["kind", "bits"] (defScope s_gate_value) := ⟨rfl, rfl, rfl, by decide +kernel, rfl, by decide +kernel, by decide +kernel⟩
theorem sc_joined : FnScope ["kind", "one", "other"] ["kind", "one", "other"] (defScope s_joined) := ⟨rfl, rfl, rfl, by decide +kernel, rfl, by decide +kernel, by decide +kernel⟩
theorem sc_stuck_pin : FnScope ["version", "gate", "index"] ["version", "gate", "index"] (defScope s_stuck_pin) := ⟨rfl, rfl, rfl, by decide +kernel, rfl, by decide +kernel, by decide +kernel⟩
theorem sc_check_pattern : FnScope ["circuit", "pattern"] ["circuit", "pattern"] (defScope s_check_pattern) := ⟨rfl, rfl, rfl, by decide +kernel, rfl, by decide +kernel, by decide +kernel⟩
theorem sc_pairs_in : FnScope ["mark", "index", "pair"] ["mark"] (defScope s_pairs_in) := ⟨rfl, rfl, rfl, by decide +kernel, rfl, by decide +kernel, by decide +kernel⟩
theorem sc_mark_of : FnScope ["pairs", "mark", "one", "other"] ["pairs"] (defScope s_mark_of) := ⟨rfl, rfl, rfl, by decide +kernel, rfl, by decide +kernel, by decide +kernel⟩
theorem sc_with_value : FnScope ["mark", "side", "bit", "one", "_", "other"] ["mark", "side", "bit"] (defScope s_with_value) := ⟨rfl, rfl, rfl, by decide +kernel, rfl, by decide +kernel, by decide +kernel⟩
theorem sc_folded : FnScope ["kind", "left", "right", "found", "a", "b", "c", "d"] ["kind", "left", "right"] (defScope s_folded) := ⟨rfl, rfl, rfl, by decide +kernel, rfl, by decide +kernel, by decide +kernel⟩
theorem sc_negated : FnScope ["mark", "one", "other"] ["mark"] (defScope s_negated) := ⟨rfl, rfl, rfl, by decide +kernel, rfl, by decide +kernel, by decide +kernel⟩
theorem sc_gate_mark : FnScope ["kind", "marks", "plain", "mark", "other"] ["kind", "marks"] (defScope s_gate_mark) := ⟨rfl, rfl, rfl, by decide +kernel, rfl, by decide +kernel, by decide +kernel⟩
theorem sc_check_partial : FnScope ["circuit", "partial", "item"] ["circuit", "partial"] (defScope s_check_partial) := ⟨rfl, rfl, rfl, by decide +kernel, rfl, by decide +kernel, by decide +kernel⟩
theorem sc_Marks_init : FnScope ["self", "circuit", "versions", "partial"] ["self", "circuit", "versions", "partial"] (defScope s_Marks_init) := ⟨rfl, rfl, rfl, by decide +kernel, rfl, by decide +kernel, by decide +kernel⟩
theorem sc_Marks_seen : FnScope ["self", "gate", "index", "known", "mark", "side", "version", "bit"] ["self", "gate", "index", "known"] (defScope s_Marks_seen) := ⟨rfl, rfl, rfl, by decide +kernel, rfl, by decide +kernel, by decide +kernel⟩
theorem sc_Marks_forced : FnScope ["self", "line", "mark", "known", "side", "version"] ["self", "line", "mark", "known"] (defScope s_Marks_forced) := ⟨rfl, rfl, rfl, by decide +kernel, rfl, by decide +kernel, by decide +kernel⟩
theorem sc_Marks_shorted : FnScope ["self", "mark", "side", "version", "plain", "found", "one", "_", "other"] ["self", "mark", "side", "version"] (defScope s_Marks_shorted) := ⟨rfl, rfl, rfl, by decide +kernel, rfl, by decide +kernel, by decide +kernel⟩
theorem sc_Marks_known : FnScope ["self", "known", "line", "bit", "mark", "gate", "marks", "index"] ["self"] (defScope s_Marks_known) := ⟨rfl, rfl, rfl, by decide +kernel, rfl, by decide +kernel, by decide +kernel⟩
theorem sc_marks_of : FnScope ["circuit", "one", "other", "partial"] ["circuit", "one", "other", "partial"] (defScope s_marks_of) := ⟨rfl, rfl, rfl, by decide +kernel, rfl, by decide +kernel, by decide +kernel⟩
theorem sc_sink_marks : FnScope ["circuit", "one", "other", "partial", "known", "line"] ["circuit", "one", "other", "partial"] (defScope s_sink_marks) := ⟨rfl, rfl, rfl, by decide +kernel, rfl, by decide +kernel, by decide +kernel⟩
theorem sc_with_bit : FnScope ["partial", "index", "bit"] ["partial", "index", "bit"] (defScope s_with_bit) := ⟨rfl, rfl, rfl, by decide +kernel, rfl, by decide +kernel, by decide +kernel⟩
theorem sc_empty_partial : FnScope ["circuit", "_"] ["circuit"] (defScope s_empty_partial) := ⟨rfl, rfl, rfl, by decide +kernel, rfl, by decide +kernel, by decide +kernel⟩
theorem sc_is_leaf_right : FnScope ["circuit", "one", "other", "partial", "mark"] ["circuit", "one", "other", "partial"] (defScope s_is_leaf_right) := ⟨rfl, rfl, rfl, by decide +kernel, rfl, by decide +kernel, by decide +kernel⟩
theorem sc_check_from : FnScope ["circuit", "one", "other", "partial", "paper", "bit"] ["circuit", "one", "other", "partial", "paper"] (defScope s_check_from) := ⟨rfl, rfl, rfl, by decide +kernel, rfl, by decide +kernel, by decide +kernel⟩
theorem sc_check_paper : FnScope ["circuit", "one", "other", "paper"] ["circuit", "one", "other", "paper"] (defScope s_check_paper) := ⟨rfl, rfl, rfl, by decide +kernel, rfl, by decide +kernel, by decide +kernel⟩
theorem sc_filled : FnScope ["circuit", "partial", "bit", "item"] ["circuit", "partial", "bit"] (defScope s_filled) := ⟨rfl, rfl, rfl, by decide +kernel, rfl, by decide +kernel, by decide +kernel⟩
theorem sc_Search_init : FnScope ["self", "circuit", "one", "other", "version", "line"] ["self", "circuit", "one", "other"] (defScope s_Search_init) := ⟨rfl, rfl, rfl, by decide +kernel, rfl, by decide +kernel, by decide +kernel⟩
theorem sc_Search_choice : FnScope ["self", "partial", "marks", "free", "sources", "mark", "above", "index", "item"] ["self", "partial", "marks"] (defScope s_Search_choice) := ⟨rfl, rfl, rfl, by decide +kernel, rfl, by decide +kernel, by decide +kernel⟩
theorem sc_Search_answer : FnScope ["self", "partial", "marks", "index", "papers", "bit", "found", "mark"] ["self", "partial"] (defScope s_Search_answer) := ⟨rfl, rfl, rfl, by decide +kernel, rfl, by decide +kernel, by decide +kernel⟩
theorem sc_answer : FnScope ["circuit", "one", "other"] ["circuit", "one", "other"] (defScope s_answer) := ⟨rfl, rfl, rfl, by decide +kernel, rfl, by decide +kernel, by decide +kernel⟩
theorem sc_word_of : FnScope ["bits", "word", "index", "bit"] ["bits"] (defScope s_word_of) := ⟨rfl, rfl, rfl, by decide +kernel, rfl, by decide +kernel, by decide +kernel⟩
theorem sc_gate_word : FnScope ["kind", "words", "mask", "word", "other"] ["kind", "words", "mask"] (defScope s_gate_word) := ⟨rfl, rfl, rfl, by decide +kernel, rfl, by decide +kernel, by decide +kernel⟩
theorem sc_Many_init : FnScope ["self", "circuit", "version", "patterns", "index", "line", "pattern"] ["self", "circuit", "version", "patterns"] (defScope s_Many_init) := ⟨rfl, rfl, rfl, by decide +kernel, rfl, by decide +kernel, by decide +kernel⟩
theorem sc_Many_full : FnScope ["self", "bit"] ["self", "bit"] (defScope s_Many_full) := ⟨rfl, rfl, rfl, by decide +kernel, rfl, by decide +kernel, by decide +kernel⟩
theorem sc_Many_pin : FnScope ["self", "gate", "index", "known", "version", "stuck"] ["self", "gate", "index", "known", "version"] (defScope s_Many_pin) := ⟨rfl, rfl, rfl, by decide +kernel, rfl, by decide +kernel, by decide +kernel⟩
theorem sc_Many_through : FnScope ["self", "version", "forced", "known", "gate", "words", "line", "word", "index"] ["self", "version", "forced"] (defScope s_Many_through) := ⟨rfl, rfl, rfl, by decide +kernel, rfl, by decide +kernel, by decide +kernel⟩
theorem sc_Many_words : FnScope ["self", "version", "forced", "known", "one", "other", "word"] ["self"] (defScope s_Many_words) := ⟨rfl, rfl, rfl, by decide +kernel, rfl, by decide +kernel, by decide +kernel⟩
theorem sc_words_of : FnScope ["circuit", "version", "patterns", "pattern"] ["circuit", "version", "patterns"] (defScope s_words_of) := ⟨rfl, rfl, rfl, by decide +kernel, rfl, by decide +kernel, by decide +kernel⟩
theorem sc_responses : FnScope ["circuit", "version", "patterns", "words", "rows", "line", "index", "row"] ["circuit", "version", "patterns"] (defScope s_responses) := ⟨rfl, rfl, rfl, by decide +kernel, rfl, by decide +kernel, by decide +kernel⟩
theorem sc_check_versions : FnScope ["circuit", "versions", "version"] ["circuit", "versions"] (defScope s_check_versions) := ⟨rfl, rfl, rfl, by decide +kernel, rfl, by decide +kernel, by decide +kernel⟩
theorem sc_check_patterns : FnScope ["circuit", "patterns", "pattern"] ["circuit", "patterns"] (defScope s_check_patterns) := ⟨rfl, rfl, rfl, by decide +kernel, rfl, by decide +kernel, by decide +kernel⟩
theorem sc_check_observed : FnScope ["circuit", "patterns", "observed", "row"] ["circuit", "patterns", "observed"] (defScope s_check_observed) := ⟨rfl, rfl, rfl, by decide +kernel, rfl, by decide +kernel, by decide +kernel⟩
theorem sc_allowed : FnScope ["circuit", "versions", "patterns", "observed", "rows", "version"] ["circuit", "versions", "patterns", "observed"] (defScope s_allowed) := ⟨rfl, rfl, rfl, by decide +kernel, rfl, by decide +kernel, by decide +kernel⟩
theorem sc_next_pattern : FnScope ["circuit", "versions", "papers", "version", "found"] ["circuit", "versions"] (defScope s_next_pattern) := ⟨rfl, rfl, rfl, by decide +kernel, rfl, by decide +kernel, by decide +kernel⟩
theorem sc_Finder_init : FnScope ["self", "circuit", "versions"] ["self", "circuit", "versions"] (defScope s_Finder_init) := ⟨rfl, rfl, rfl, by decide +kernel, rfl, by decide +kernel, by decide +kernel⟩
theorem sc_Finder_ask : FnScope ["self", "found"] ["self"] (defScope s_Finder_ask) := ⟨rfl, rfl, rfl, by decide +kernel, rfl, by decide +kernel, by decide +kernel⟩
theorem sc_Finder_tell : FnScope ["self", "pattern", "row"] ["self", "pattern", "row"] (defScope s_Finder_tell) := ⟨rfl, rfl, rfl, by decide +kernel, rfl, by decide +kernel, by decide +kernel⟩
theorem sc_Finder_versions : FnScope ["self"] ["self"] (defScope s_Finder_versions) := ⟨rfl, rfl, rfl, by decide +kernel, rfl, by decide +kernel, by decide +kernel⟩
theorem sc_pins_allowed : FnScope ["kind", "count"] ["kind", "count"] (defScope s_pins_allowed) := ⟨rfl, rfl, rfl, by decide +kernel, rfl, by decide +kernel, by decide +kernel⟩
theorem sc_is_row : FnScope ["value", "size", "item"] ["value", "size"] (defScope s_is_row) := ⟨rfl, rfl, rfl, by decide +kernel, rfl, by decide +kernel, by decide +kernel⟩
theorem sc_is_gate : FnScope ["value", "pin"] ["value"] (defScope s_is_gate) := ⟨rfl, rfl, rfl, by decide +kernel, rfl, by decide +kernel, by decide +kernel⟩
theorem sc_Circuit_init : FnScope ["self", "inputs", "registers", "gates", "outputs", "gate"] ["self", "inputs", "registers", "gates", "outputs"] (defScope s_Circuit_init) := ⟨rfl, rfl, rfl, by decide +kernel, rfl, by decide +kernel, by decide +kernel⟩
theorem sc_Circuit_check_forms : FnScope ["self", "name", "cell", "gate"] ["self"] (defScope s_Circuit_check_forms) := ⟨rfl, rfl, rfl, by decide +kernel, rfl, by decide +kernel, by decide +kernel⟩
theorem sc_Circuit_check_names : FnScope ["self", "seen", "name"] ["self"] (defScope s_Circuit_check_names) := ⟨rfl, rfl, rfl, by decide +kernel, rfl, by decide +kernel, by decide +kernel⟩
theorem sc_Circuit_lines : FnScope ["self", "gate"] ["self"] (defScope s_Circuit_lines) := ⟨rfl, rfl, rfl, by decide +kernel, rfl, by decide +kernel, by decide +kernel⟩
theorem sc_Circuit_uses : FnScope ["self", "names", "gate", "pin", "cell"] ["self"] (defScope s_Circuit_uses) := ⟨rfl, rfl, rfl, by decide +kernel, rfl, by decide +kernel, by decide +kernel⟩
theorem sc_Circuit_sources : FnScope ["self", "cell"] ["self"] (defScope s_Circuit_sources) := ⟨rfl, rfl, rfl, by decide +kernel, rfl, by decide +kernel, by decide +kernel⟩
theorem sc_Circuit_sinks : FnScope ["self", "cell"] ["self"] (defScope s_Circuit_sinks) := ⟨rfl, rfl, rfl, by decide +kernel, rfl, by decide +kernel, by decide +kernel⟩
theorem sc_Circuit_sorted_gates : FnScope ["self", "known", "order", "waiting", "later", "gate", "name", "pin"] ["self"] (defScope s_Circuit_sorted_gates) := ⟨rfl, rfl, rfl, by decide +kernel, rfl, by decide +kernel, by decide +kernel⟩
theorem sc_Circuit_above : FnScope ["self", "line", "found", "gate", "pin"] ["self", "line"] (defScope s_Circuit_above) := ⟨rfl, rfl, rfl, by decide +kernel, rfl, by decide +kernel, by decide +kernel⟩
theorem sc_Circuit_parts : FnScope ["self"] ["self"] (defScope s_Circuit_parts) := ⟨rfl, rfl, rfl, by decide +kernel, rfl, by decide +kernel, by decide +kernel⟩
theorem sc__law_cell : FnScope ["_law_script", "_law_k"] ["_law_script", "_law_k"] (defScope s__law_cell) := ⟨rfl, rfl, rfl, by decide +kernel, rfl, by decide +kernel, by decide +kernel⟩
theorem sc__law_rich : FnScope ["_law_cell_here", "_law_k", "_law_mixed"] ["_law_cell_here", "_law_k"] (defScope s__law_rich) := ⟨rfl, rfl, rfl, by decide +kernel, rfl, by decide +kernel, by decide +kernel⟩
theorem sc__law_gate : FnScope ["_law_rich_here", "_law_known", "_law_name", "_law_kind", "_law_count", "_law_pins", "_law_k"] ["_law_rich_here", "_law_known", "_law_name"] (defScope s__law_gate) := ⟨rfl, rfl, rfl, by decide +kernel, rfl, by decide +kernel, by decide +kernel⟩
theorem sc__law_parts : FnScope ["_law_script", "_law_most", "_law_cell_here", "_law_inputs", "_law_names", "_law_known", "_law_gates", "_law_k", "_law_rich_here", "_law_registers", "_law_outputs"] ["_law_script", "_law_most"] (defScope s__law_parts) := ⟨rfl, rfl, rfl, by decide +kernel, rfl, by decide +kernel, by decide +kernel⟩
theorem sc__law_circuit : FnScope ["_law_script", "_law_most", "_law_inputs", "_law_registers", "_law_gates", "_law_outputs"] ["_law_script", "_law_most"] (defScope s__law_circuit) := ⟨rfl, rfl, rfl, by decide +kernel, rfl, by decide +kernel, by decide +kernel⟩
theorem sc__law_version : FnScope ["_law_circuit_here", "_law_rich_here", "_law_lines", "_law_choice", "_law_rest", "_law_gate_here", "_law_found"] ["_law_circuit_here", "_law_rich_here"] (defScope s__law_version) := ⟨rfl, rfl, rfl, by decide +kernel, rfl, by decide +kernel, by decide +kernel⟩
theorem sc__law_gate_value : FnScope ["_law_kind", "_law_bits", "_law_result", "_law_bit"] ["_law_kind", "_law_bits"] (defScope s__law_gate_value) := ⟨rfl, rfl, rfl, by decide +kernel, rfl, by decide +kernel, by decide +kernel⟩
theorem sc__law_settled : FnScope ["_law_circuit_here", "_law_version_here", "_law_pattern", "_law_forced", "_law_known", "_law_sources", "_law_k", "_law_turn", "_law_gate_here", "_law_bits", "_law_pin"] ["_law_circuit_here", "_law_version_here", "_law_pattern", "_law_forced"] (defScope s__law_settled) := ⟨rfl, rfl, rfl, by decide +kernel, rfl, by decide +kernel, by decide +kernel⟩
theorem sc__law_values : FnScope ["_law_circuit_here", "_law_version_here", "_law_pattern", "_law_known", "_law_pair", "_law_bit"] ["_law_circuit_here", "_law_version_here", "_law_pattern"] (defScope s__law_values) := ⟨rfl, rfl, rfl, by decide +kernel, rfl, by decide +kernel, by decide +kernel⟩
theorem sc__law_response : FnScope ["_law_circuit_here", "_law_version_here", "_law_pattern", "_law_known", "_law_line"] ["_law_circuit_here", "_law_version_here", "_law_pattern"] (defScope s__law_response) := ⟨rfl, rfl, rfl, by decide +kernel, rfl, by decide +kernel, by decide +kernel⟩
theorem sc__law_patterns : FnScope ["_law_count", "_law_patterns_here", "_law_k", "_law_pattern"] ["_law_count"] (defScope s__law_patterns) := ⟨rfl, rfl, rfl, by decide +kernel, rfl, by decide +kernel, by decide +kernel⟩
theorem sc__law_taken : FnScope ["_law_circuit_here", "_law_one", "_law_other", "_law_paper"] ["_law_circuit_here", "_law_one", "_law_other", "_law_paper"] (defScope s__law_taken) := ⟨rfl, rfl, rfl, by decide +kernel, rfl, by decide +kernel, by decide +kernel⟩
theorem sc__law_divides : FnScope ["_law_circuit_here", "_law_versions", "_law_pattern", "_law_first", "_law_version_here"] ["_law_circuit_here", "_law_versions", "_law_pattern"] (defScope s__law_divides) := ⟨rfl, rfl, rfl, by decide +kernel, rfl, by decide +kernel, by decide +kernel⟩
theorem sc__law_next : FnScope ["_law_circuit_here", "_law_versions", "_law_found", "_law_k"] ["_law_circuit_here", "_law_versions"] (defScope s__law_next) := ⟨rfl, rfl, rfl, by decide +kernel, rfl, by decide +kernel, by decide +kernel⟩
theorem sc_law : FnScope ["_law_script", "_law_circuit_here", "_law_versions", "_law_k", "_law_version_here", "_law_true", "_law_handed", "_law_finder", "_law_turn", "_law_left", "_law_pattern", "_law_patterns_here", "_law_row", "_law_due", "_law_other"] ["_law_script"] (defScope s_law) := ⟨rfl, rfl, rfl, by decide +kernel, rfl, by decide +kernel, by decide +kernel⟩
/-! ### what the top has written: addresses, facts -/
structure Ad where
  CC : Addr
  CM : Addr
  CS : Addr
  CN : Addr
  CF : Addr
  aP : Addr
  aK : Addr
def Kind.str : Kind → Str
  | .and => "and"
  | .or => "or"
  | .nand => "nand"
  | .nor => "nor"
  | .xor => "xor"
  | .xnor => "xnor"
  | .not => "not"
  | .buf => "buf"
  | .low => "low"
  | .high => "high"
structure Txt (K : PySem.W.Frag) (mg : Str → Option Value) (A : Ad) : Prop where
  z_len : mg "len" = none
  z_isinstance : mg "isinstance" = none
  z_int : mg "int" = none
  z_bool : mg "bool" = none
  z_tuple : mg "tuple" = none
  z_list : mg "list" = none
  z_str : mg "str" = none
  z_all : mg "all" = none
  z_any : mg "any" = none
  z_sum : mg "sum" = none
  z_min : mg "min" = none
  z_max : mg "max" = none
  z_sorted : mg "sorted" = none
  z_enumerate : mg "enumerate" = none
  z_zip : mg "zip" = none
  z_range : mg "range" = none
  g_MOST_NAME : ∃ u, mg "MOST_NAME" = some u ∧ RelV (.int 12) u
  g_MOST_PINS : ∃ u, mg "MOST_PINS" = some u ∧ RelV (.int 4) u
  g_MOST_LINES : ∃ u, mg "MOST_LINES" = some u ∧ RelV (.int 400) u
  g_MOST_SOURCES : ∃ u, mg "MOST_SOURCES" = some u ∧ RelV (.int 40) u
  g_LETTERS : ∃ u, mg "LETTERS" = some u ∧ RelV (.str "abcdefghijklmnopqrstuvwxyz") u
  g_FIGURES : ∃ u, mg "FIGURES" = some u ∧ RelV (.str "0123456789") u
  g_EQUAL : ∃ u, mg "EQUAL" = some u ∧ RelV (.int 9) u
  g_UNEQUAL : ∃ u, mg "UNEQUAL" = some u ∧ RelV (.int 6) u
  g_PAIRS : ∃ u, mg "PAIRS" = some u ∧ RelV (.ref A.aP) u
  g_KINDS : ∃ u, mg "KINDS" = some u ∧ RelV (.ref A.aK) u
  pairs : ∃ ps : List Addr, ps.length = 4 ∧ (∀ H, SqT K H A.aP (ps.map V.ref)) ∧ ∀ (i : Nat) (p : Addr) (xy : Bool × Bool), ps[i]? = some p → allPairs[i]? = some xy → ∀ H, SqT K H p [.int (bi xy.1), .int (bi xy.2)]
  kinds : ∀ H, SqT K H A.aK (kindNames.map V.str)
  cC : Cls K A.CC
  cM : Cls K A.CM
  cS : Cls K A.CS
  cN : Cls K A.CN
  cF : Cls K A.CF
  nC_inputs : NoAttr K A.CC "inputs"
  nC_registers : NoAttr K A.CC "registers"
  nC_gates : NoAttr K A.CC "gates"
  nC_outputs : NoAttr K A.CC "outputs"
  nC_gate_of : NoAttr K A.CC "gate_of"
  nC_order : NoAttr K A.CC "order"
  nM_circuit : NoAttr K A.CM "circuit"
  nM_versions : NoAttr K A.CM "versions"
  nM_part : NoAttr K A.CM "partial"
  nS_circuit : NoAttr K A.CS "circuit"
  nS_one : NoAttr K A.CS "one"
  nS_other : NoAttr K A.CS "other"
  nS_above : NoAttr K A.CS "above"
  nS_shorted : NoAttr K A.CS "shorted"
  nN_circuit : NoAttr K A.CN "circuit"
  nN_version : NoAttr K A.CN "version"
  nN_mask : NoAttr K A.CN "mask"
  nN_given : NoAttr K A.CN "given"
  nF_circuit : NoAttr K A.CF "circuit"
  nF_left : NoAttr K A.CF "left"
  nF_asked : NoAttr K A.CF "asked"

theorem bt_isinstance : bootBuiltins "isinstance" = some (.builtin "isinstance") := by decide +kernel
theorem bt_all : bootBuiltins "all" = some (.builtin "all") := by decide +kernel
theorem bt_any : bootBuiltins "any" = some (.builtin "any") := by decide +kernel
theorem bt_sum : bootBuiltins "sum" = some (.builtin "sum") := by decide +kernel
theorem bt_min : bootBuiltins "min" = some (.builtin "min") := by decide +kernel
theorem bt_max : bootBuiltins "max" = some (.builtin "max") := by decide +kernel
theorem bt_sorted : bootBuiltins "sorted" = some (.builtin "sorted") := by decide +kernel
theorem bt_int : bootBuiltins "int" = some (.type "int") := by decide +kernel
theorem bt_bool : bootBuiltins "bool" = some (.type "bool") := by decide +kernel
theorem bt_tuple : bootBuiltins "tuple" = some (.type "tuple") := by decide +kernel
theorem bt_list : bootBuiltins "list" = some (.type "list") := by decide +kernel
theorem bt_str : bootBuiltins "str" = some (.type "str") := by decide +kernel
/-! ### defs that may be called -/
structure Cal (P : Program) (w : World) (K : PySem.W.Frag) (mg : Str → Option Value) (base : Heap) (k : Nat) (x : Str) (sp : Sp) : Prop where
  ex : ∃ (f : Addr) (fd : FuncData) (ps : List Str), FnOk P w K mg base CX0 k f fd ps sp ∧ mg x = some (.ref f) ∧ PySem.W.keepIn K (.ref f) = true ∧ Binds K fd ps []
structure Met (P : Program) (w : World) (K : PySem.W.Frag) (mg : Str → Option Value) (base : Heap) (k : Nat) (C : Addr) (m : Str) (sp : Sp) : Prop where
  ex : ∃ (f : Addr) (fd : FuncData) (ps : List Str), Cls K C ∧ Meth K C m f ∧ FnOk P w K mg base CX0 k f fd ps sp ∧ Binds K fd ps []
structure Mak (P : Program) (w : World) (K : PySem.W.Frag) (mg : Str → Option Value) (base : Heap) (k : Nat) (x : Str) (C : Addr) (sp : Sp) : Prop where
  ex : ∃ (f : Addr) (fd : FuncData) (ps : List Str), Mk K C f ∧ FnOk P w K mg base CX0 k f fd ps sp ∧ mg x = some (.ref C) ∧ Binds K fd ps []
/-- where a def stands -/
structure At (K : PySem.W.Frag) (mg : Str → Option Value) (x : Str) (st : Stmt) (f : Addr) (fd : FuncData) (ps : List Str) : Prop where
  fn : Fun K x x st f fd
  mgf : mg x = some (.ref f)
  bd : Binds K fd ps []
structure AtM (K : PySem.W.Frag) (C : Addr) (x qual : Str) (st : Stmt) (f : Addr) (fd : FuncData) (ps : List Str) : Prop where
  fn : Fun K x qual st f fd
  cl : Cls K C
  me : Meth K C x f
  bd : Binds K fd ps []
structure AtI (K : PySem.W.Frag) (mg : Str → Option Value) (c : Str) (C : Addr) (qual : Str) (st : Stmt) (f : Addr) (fd : FuncData) (ps : List Str) : Prop where
  fn : Fun K "__init__" qual st f fd
  mkr : Mk K C f
  mgc : mg c = some (.ref C)
  bd : Binds K fd ps []
section
variable {P : Program} {w : World} {K : PySem.W.Frag} {mg : Str → Option Value} {base : Heap}
theorem At.cal {x : Str} {st : Stmt} {f : Addr} {fd : FuncData} {ps : List Str} {k : Nat} {sp : Sp} (a : At K mg x st f fd ps) (F : FnOk P w K mg base CX0 k f fd ps sp) : Cal P w K mg base k x sp := ⟨f, fd, ps, F, a.mgf, a.fn.kp, a.bd⟩
theorem AtM.met {C : Addr} {x qual : Str} {st : Stmt} {f : Addr} {fd : FuncData} {ps : List Str} {k : Nat} {sp : Sp} (a : AtM K C x qual st f fd ps) (F : FnOk P w K mg base CX0 k f fd ps sp) : Met P w K mg base k C x sp := ⟨f, fd, ps, a.cl, a.me, F, a.bd⟩
theorem AtI.mak {c : Str} {C : Addr} {qual : Str} {st : Stmt} {f : Addr} {fd : FuncData} {ps : List Str} {k : Nat} {sp : Sp} (a : AtI K mg c C qual st f fd ps) (F : FnOk P w K mg base CX0 k f fd ps sp) : Mak P w K mg base k c C sp := ⟨f, fd, ps, a.mkr, F, a.mgc, a.bd⟩
theorem Cal.imp {k j : Nat} {x : Str} {sp sp' : Sp} (c : Cal P w K mg base k x sp) (h : ∀ vs H Q E, sp' vs H Q E → sp vs H Q E) (hk : k ≤ j) : Cal P w K mg base j x sp' := let ⟨f, fd, ps, F, a, b, d⟩ := c.ex; ⟨f, fd, ps, (F.imp h).mono hk, a, b, d⟩
theorem Met.imp {k j : Nat} {C : Addr} {x : Str} {sp sp' : Sp} (c : Met P w K mg base k C x sp) (h : ∀ vs H Q E, sp' vs H Q E → sp vs H Q E) (hk : k ≤ j) : Met P w K mg base j C x sp' := let ⟨f, fd, ps, a, b, F, d⟩ := c.ex; ⟨f, fd, ps, a, b, (F.imp h).mono hk, d⟩
end
section
variable {X : Cx} {k j : Nat} {C : Addr} {x m : Str} {sp : Sp} {p pos apos : Pos} {e o : Expr} {es : List Expr} {ta : TE} {t : TA}
theorem pe_c (c : Cal X.prog X.w X.K X.mg X.base k x sp) (hr : Room j X.A) (hk : k ≤ j) (hg : Gl X x) (ha : PA X (e :: es) t)
    (hdb : (x == ("__debug__" : Str)) = false := by decide) (he : starEach (e :: es) X.env = (false, eval e X.env) :: starEach es X.env := by rfl) (hpl : (backTo pos (starEach es X.env)).any (·.1) = false := by rfl) :
    PE X (.Call (.Name x p) (e :: es) [] pos) (tCall sp [] E0 t) := by
  obtain ⟨f, fd, ps, F, hm, kp, b⟩ := c.ex
  exact pe_call F (hr.mono hk) hg hm kp b .nil pass0 ha hdb he hpl
theorem pe_mk (c : Mak X.prog X.w X.K X.mg X.base k x C sp) (hr : Room j X.A) (hk : k + 1 ≤ j) (hg : Gl X x) (ha : PA X (e :: es) t)
    (hdb : (x == ("__debug__" : Str)) = false := by decide) (he : starEach (e :: es) X.env = (false, eval e X.env) :: starEach es X.env := by rfl) (hpl : (backTo pos (starEach es X.env)).any (·.1) = false := by rfl) :
    PE X (.Call (.Name x p) (e :: es) [] pos) (tMake C sp [] E0 t) := by
  obtain ⟨f, fd, ps, M, F, hm, b⟩ := c.ex
  exact pe_make M F (hr.mono hk) hg hm b .nil pass0 ha hdb he hpl
theorem pe_mt {pl : Sem Bool} (c : Met X.prog X.w X.K X.mg X.base k C m sp) (hr : Room j X.A) (hk : k ≤ j) (he : PE X o ta) (ha : PA X (e :: es) t)
    (hst : starEach (e :: es) X.env = (false, eval e X.env) :: starEach es X.env := by rfl) (hpl : (backTo pos (starEach es X.env)).any (·.1) = false := by rfl)
    (ht : eval (.Call (.Attribute o m apos) (e :: es) [] pos) X.env = (do
      let ov ← eval o X.env
      standAt apos.atName
      let (f, first) ← holding [ov] (getMethod ov m pl)
      callWith pos f first (backTo pos (starEach (e :: es) X.env)) (backToKw pos (keywordEach [] X.env))) := by rfl) :
    PE X (.Call (.Attribute o m apos) (e :: es) [] pos) (tMeth C m sp [] E0 ta t) := by
  obtain ⟨f, fd, ps, hc, hm, F, b⟩ := c.ex
  exact pe_meth (pl := pl) he hc hm F (hr.mono hk) b .nil pass0 ha hst hpl ht
theorem pe_mt0 {pl : Sem Bool} (c : Met X.prog X.w X.K X.mg X.base k C m sp) (hr : Room j X.A) (hk : k ≤ j) (he : PE X o ta)
    (ht : eval (.Call (.Attribute o m apos) [] [] pos) X.env = (do
      let ov ← eval o X.env
      standAt apos.atName
      let (f, first) ← holding [ov] (getMethod ov m pl)
      callWith pos f first (backTo pos (starEach [] X.env)) (backToKw pos (keywordEach [] X.env))) := by rfl) :
    PE X (.Call (.Attribute o m apos) [] [] pos) (tMeth C m sp [] E0 ta tNil) := by
  obtain ⟨f, fd, ps, hc, hm, F, b⟩ := c.ex
  exact pe_meth0 (pl := pl) he hc hm F (hr.mono hk) b .nil pass0 ht
theorem pe_gc {x : Str} {v : V} {pos : Pos} (hg : Gl X x) (h : ∃ u, X.mg x = some u ∧ RelV v u) (hd : (x == ("__debug__" : Str)) = false := by decide) : PE X (.Name x pos) (tC v) := by
  obtain ⟨u, hm, r⟩ := h
  exact pe_glob hg hm r hd
end

/-! ### data in the heap -/
theorem same_new {H : Hp} {p : Addr} (h : H p = none) (o : HO) : Same H (upd H p o) := fun b u q => by rw [upd_ne (ne_of_none q h)]; exact q
/-- an object that the first heap does not know changes -/
theorem _root_.L2.Same.mut {H H' : Hp} {p : Addr} {o : HO} (e : Same H H') (h : H p = none) : Same H (upd H' p o) := fun a u ha => by
  rw [upd_ne (ne_of_none ha h)]
  exact e a u ha
theorem _root_.L2.Same.seqT {K : PySem.W.Frag} {H H' : Hp} {a : Addr} {xs : List V} (e : Same H H') (h : SqT K H a xs) : SqT K H' a xs := by
  rcases h with (h | ⟨o, h⟩) | h
  · exact .inl (.inl (e _ _ h))
  · exact .inl (.inr ⟨o, e _ _ h⟩)
  · exact .inr h
theorem Paired.at' {α β : Type} {F : α → β → Prop} : ∀ {l₁ : List α} {l₂ : List β} {i : Nat} {b : β}, Paired F l₁ l₂ → l₂[i]? = some b → ∃ a, l₁[i]? = some a ∧ F a b
  | _, _, _, _, .nil, h => by simp at h
  | _, _, 0, _, .cons h1 _, h => ⟨_, rfl, by rw [← Option.some.inj h]; exact h1⟩
  | _, _, i + 1, b, .cons _ r, h => Paired.at' (i := i) r (by simpa using h)
theorem Paired.at {α β : Type} {F : α → β → Prop} : ∀ {l₁ : List α} {l₂ : List β} {i : Nat} {a : α}, Paired F l₁ l₂ → l₁[i]? = some a → ∃ b, l₂[i]? = some b ∧ F a b
  | _, _, _, _, .nil, h => by simp at h
  | _, _, 0, _, .cons h1 _, h => ⟨_, rfl, by rw [← Option.some.inj h]; exact h1⟩
  | _, _, i + 1, a, .cons _ r, h => Paired.at (i := i) r (by simpa using h)
theorem Paired.rev {α β : Type} {F : α → β → Prop} {l₁ : List α} {l₂ : List β} (h : Paired F l₁ l₂) : Paired F l₁.reverse l₂.reverse := by
  induction h with
  | nil => exact .nil
  | cons h1 r ih => rw [List.reverse_cons, List.reverse_cons]; exact ih.snoc h1
theorem Paired.app {α β : Type} {F : α → β → Prop} {l₁ m₁ : List α} {l₂ m₂ : List β} (h : Paired F l₁ l₂) (h' : Paired F m₁ m₂) : Paired F (l₁ ++ m₁) (l₂ ++ m₂) := by
  induction h with
  | nil => exact h'
  | cons h1 r ih => exact .cons h1 ih

def GateAt (H : Hp) (v : V) (g : Gate Str) : Prop := ∃ a b, v = .ref a ∧ H a = some (.tup [.str g.line, .str g.kind.str, .ref b]) ∧ H b = some (.tup (g.pins.map V.str)) ∧ ∀ z ∈ g.line :: g.pins, PyData.strOk z = true
def RegAt (H : Hp) (v : V) (r : Str × Str) : Prop := ∃ a, v = .ref a ∧ H a = some (.tup [.str r.1, .str r.2])
def optV : Option Bool → V
  | none => .non
  | some b => .int (bi b)
def bitV (b : Bool) : V := .int (bi b)
def BitsAt (H : Hp) (v : V) (pat : List Bool) : Prop := ∃ a, v = .ref a ∧ H a = some (.tup (pat.map bitV))
def PartAt (H : Hp) (v : V) (part : List (Option Bool)) : Prop := ∃ a, v = .ref a ∧ H a = some (.tup (part.map optV))
def andOr (k : Bool) : Str := if k then "and" else "or"
def verTup : Ver Str → List V
  | .right => []
  | .stem l b => [.str "stem", .str l, bitV b]
  | .pin g i b => [.str "pin", .str g, .int (i : Int), bitV b]
  | .short a b k => [.str "short", .str a, .str b, .str (andOr k)]
def verStrs : Ver Str → List Str
  | .right => []
  | .stem l _ => [l]
  | .pin g _ _ => [g]
  | .short a b _ => [a, b]
def VerAt (H : Hp) (v : V) (u : Ver Str) : Prop := match u with
  | .right => v = .non
  | u => ∃ a, v = .ref a ∧ H a = some (.tup (verTup u)) ∧ ∀ z ∈ verStrs u, PyData.strOk z = true
def PaperAt (H : Hp) : V → Paper → Prop
  | v, .leaf => ∃ a, v = .ref a ∧ H a = some (.tup [.str "leaf"])
  | v, .case i z o => ∃ a vz vo, v = .ref a ∧ H a = some (.tup [.str "case", .int (i : Int), vz, vo]) ∧ PaperAt H vz z ∧ PaperAt H vo o
def AnsAt (H : Hp) (v : V) : Ans → Prop
  | .parted p => ∃ a x, v = .ref a ∧ H a = some (.tup [.str "parted", x]) ∧ PartAt H x p
  | .alike q => ∃ a x, v = .ref a ∧ H a = some (.tup [.str "alike", x]) ∧ PaperAt H x q
/-- a dict with text keys: f tells what stands at a key -/
def DTab (H : Hp) (v : V) (f : Str → Option V) : Prop := ∃ a kvs, v = .ref a ∧ H a = some (.dK kvs) ∧ kvs.length ≤ 1000 ∧ ∀ l, valV kvs (Sum.inr l) = f l
section
variable {H H' : Hp} {v : V}
theorem GateAt.mono (s : Same H H') {g : Gate Str} : GateAt H v g → GateAt H' v g := fun ⟨a, b, e, h1, h2, h3⟩ => ⟨a, b, e, s _ _ h1, s _ _ h2, h3⟩
theorem RegAt.mono (s : Same H H') {r : Str × Str} : RegAt H v r → RegAt H' v r := fun ⟨a, e, h1⟩ => ⟨a, e, s _ _ h1⟩
theorem BitsAt.mono (s : Same H H') {p : List Bool} : BitsAt H v p → BitsAt H' v p := fun ⟨a, e, h1⟩ => ⟨a, e, s _ _ h1⟩
theorem PartAt.mono (s : Same H H') {p : List (Option Bool)} : PartAt H v p → PartAt H' v p := fun ⟨a, e, h1⟩ => ⟨a, e, s _ _ h1⟩
theorem VerAt.mono (s : Same H H') {u : Ver Str} (h : VerAt H v u) : VerAt H' v u := by
  cases u with
  | right => exact h
  | _ =>
    obtain ⟨a, e, h1, h2⟩ := h
    exact ⟨a, e, s _ _ h1, h2⟩
theorem PaperAt.mono (s : Same H H') : ∀ {q : Paper} {v : V}, PaperAt H v q → PaperAt H' v q
  | .leaf, _, ⟨a, e, h1⟩ => ⟨a, e, s _ _ h1⟩
  | .case i z o, _, ⟨a, vz, vo, e, h1, h2, h3⟩ => ⟨a, vz, vo, e, s _ _ h1, PaperAt.mono s h2, PaperAt.mono s h3⟩
theorem AnsAt.mono (s : Same H H') {q : Ans} (h : AnsAt H v q) : AnsAt H' v q := by
  cases q with
  | parted p =>
    obtain ⟨a, x, e, h1, h2⟩ := h
    exact ⟨a, x, e, s _ _ h1, h2.mono s⟩
  | alike p =>
    obtain ⟨a, x, e, h1, h2⟩ := h
    exact ⟨a, x, e, s _ _ h1, h2.mono s⟩
theorem DTab.mono (s : Same H H') {f : Str → Option V} : DTab H v f → DTab H' v f := fun ⟨a, kvs, e, h1, h2, h3⟩ => ⟨a, kvs, e, s _ _ h1, h2, h3⟩
theorem gates_mono (s : Same H H') {vs : List V} {gs : List (Gate Str)} (h : Paired (GateAt H) vs gs) : Paired (GateAt H') vs gs := L2.Paired.mapP h fun _ _ q => q.mono s
theorem regs_mono (s : Same H H') {vs : List V} {gs : List (Str × Str)} (h : Paired (RegAt H) vs gs) : Paired (RegAt H') vs gs := L2.Paired.mapP h fun _ _ q => q.mono s
end
/-! ### the circuit as an object -/
def cNames : List Str := ["inputs", "registers", "gates", "outputs", "gate_of", "order"]
structure Small (C : Circ Str) : Prop where
  i : C.ins.length ≤ 10
  r : C.regs.length ≤ 10
  g : C.gates.length ≤ 10
  o : C.outs.length ≤ 10
  p : ∀ g ∈ C.gates, g.pins.length ≤ 4
structure CPre (A : Ad) (H : Hp) (p : Addr) (C : Circ Str) (dx : Addr) (fs : List (Str × V)) (aI aR aG aO : Addr) (vR vG : List V) : Prop where
  ob : H p = some (.ins A.CC dx fs)
  fI : fs.lookup ("inputs" : Str) = some (.ref aI)
  fR : fs.lookup ("registers" : Str) = some (.ref aR)
  fG : fs.lookup ("gates" : Str) = some (.ref aG)
  fO : fs.lookup ("outputs" : Str) = some (.ref aO)
  fN : ∀ m : Str, m ∉ cNames → fs.lookup m = none
  hI : H aI = some (.tup (C.ins.map V.str))
  hR : H aR = some (.tup vR)
  hG : H aG = some (.tup vG)
  hO : H aO = some (.tup (C.outs.map V.str))
  regs : Paired (RegAt H) vR C.regs
  gates : Paired (GateAt H) vG C.gates
  sm : Small C
theorem CPre.mono {A : Ad} {H H' : Hp} {p : Addr} {C : Circ Str} {dx : Addr} {fs : List (Str × V)} {aI aR aG aO : Addr} {vR vG : List V} (s : Same H H') (h : CPre A H p C dx fs aI aR aG aO vR vG) : CPre A H' p C dx fs aI aR aG aO vR vG :=
  ⟨s _ _ h.ob, h.fI, h.fR, h.fG, h.fO, h.fN, s _ _ h.hI, s _ _ h.hR, s _ _ h.hG, s _ _ h.hO, regs_mono s h.regs, gates_mono s h.gates, h.sm⟩
/-- the parts stand (the order may not yet) -/
def CParts (A : Ad) (H : Hp) (v : V) (C : Circ Str) : Prop := ∃ p dx fs aI aR aG aO vR vG, v = .ref p ∧ CPre A H p C dx fs aI aR aG aO vR vG
/-- the whole -/
def CircAt (A : Ad) (H : Hp) (v : V) (C : Circ Str) : Prop := ∃ p dx fs aI aR aG aO vR vG aD aL vL kvs, v = .ref p ∧ CPre A H p C dx fs aI aR aG aO vR vG ∧ fs.lookup ("gate_of" : Str) = some (.ref aD) ∧ fs.lookup ("order" : Str) = some (.ref aL) ∧
  H aL = some (.lst vL) ∧ Paired (GateAt H) vL C.order ∧ H aD = some (.dK kvs) ∧ (∀ g ∈ C.gates, ∃ x, valV kvs (Sum.inr g.line) = some x ∧ GateAt H x g)
theorem CParts.mono {A : Ad} {H H' : Hp} {v : V} {C : Circ Str} (s : Same H H') : CParts A H v C → CParts A H' v C := fun ⟨p, dx, fs, aI, aR, aG, aO, vR, vG, e, h⟩ => ⟨p, dx, fs, aI, aR, aG, aO, vR, vG, e, h.mono s⟩
theorem CircAt.mono {A : Ad} {H H' : Hp} {v : V} {C : Circ Str} (s : Same H H') : CircAt A H v C → CircAt A H' v C := fun ⟨p, dx, fs, aI, aR, aG, aO, vR, vG, aD, aL, vL, kvs, e, h, h1, h2, h3, h4, h5, h6⟩ =>
  ⟨p, dx, fs, aI, aR, aG, aO, vR, vG, aD, aL, vL, kvs, e, h.mono s, h1, h2, s _ _ h3, gates_mono s h4, s _ _ h5, fun g hg => let ⟨x, q1, q2⟩ := h6 g hg; ⟨x, q1, q2.mono s⟩⟩
theorem CircAt.parts {A : Ad} {H : Hp} {v : V} {C : Circ Str} : CircAt A H v C → CParts A H v C := fun ⟨p, dx, fs, aI, aR, aG, aO, vR, vG, _, _, _, _, e, h, _⟩ => ⟨p, dx, fs, aI, aR, aG, aO, vR, vG, e, h⟩
theorem CParts.ins {A : Ad} {H : Hp} {v : V} {C : Circ Str} : CParts A H v C → ∃ p dx fs, v = .ref p ∧ H p = some (.ins A.CC dx fs) ∧ ∀ m : Str, m ∉ cNames → fs.lookup m = none := fun ⟨p, dx, fs, _, _, _, _, _, _, e, h⟩ => ⟨p, dx, fs, e, h.ob, h.fN⟩
theorem CircAt.ins {A : Ad} {H : Hp} {v : V} {C : Circ Str} (h : CircAt A H v C) : ∃ p dx fs, v = .ref p ∧ H p = some (.ins A.CC dx fs) ∧ ∀ m : Str, m ∉ cNames → fs.lookup m = none := h.parts.ins
/-- a promise's usual end: something comes back, what stood stands -/
abbrev Ret (R : V → Hp → Prop) (H : Hp) (Q : VK) : Prop := ∀ v H', Same H H' → R v H' → Q v H'
theorem Ret.go {R : V → Hp → Prop} {H H' : Hp} {Q : VK} (k : Ret R H Q) {v : V} (s : Same H H') (r : R v H') : Q v H' := k v H' s r
theorem len1000 {n : Nat} (h : n ≤ 1000) : n ≤ sizeLine := Nat.le_of_lt (small1000 h)
end Pw
namespace Pw
open PySem PySem.Spec PyProof.Rows L2
/-! ### rules within a comprehension: the frame's facts by name -/
section
variable {X : Cx} {K : PySem.W.Frag}
theorem ix_tupB (h : X.K = K) : IxR X (rIxT K) := by subst h; exact ix_tup
theorem ix_listB (h : X.K = K) : IxR X (rIxL K) := by subst h; exact ix_list
theorem op_catAB (h : X.K = K) : OpR X (binaryOp .Add) (rCatA K) := by subst h; exact op_catA
theorem op_eqDB (h : X.K = K) (hu : X.A.units + 64 < cLine) : OpR X (compareOp .Eq) (rEqD K) := by subst h; exact op_eqD hu
theorem op_neDB (h : X.K = K) (hu : X.A.units + 64 < cLine) : OpR X (compareOp .NotEq) (rNeD K) := by subst h; exact op_neD hu
theorem pi_tupB {l tg : Expr} {tl : TE} (h : X.K = K) (hl : PE X l tl) : PI X tg l (iTup K tl) := by subst h; exact pi_tup hl
theorem pi_listB {l tg : Expr} {tl : TE} (h : X.K = K) (hl : PE X l tl) : PI X tg l (iList K tl) := by subst h; exact pi_list hl
theorem pe_fldB {e : Expr} {f : Str} {pos : Pos} {ta : TE} (h : X.K = K) (he : PE X e ta) (hb : attributeBase e f X.env (eval e X.env) = eval e X.env) : PE X (.Attribute e f pos) (tFld K ta f) := by subst h; exact pe_fld he hb
theorem call_len_seqB (h : X.K = K) : CallR X (.builtin "len") (fun xs H Q => ∃ p ys, xs = [.ref p] ∧ (SqL K H p ys ∨ SqT K H p ys) ∧ Q (.int ys.length) H) := by subst h; exact call_len_seq
theorem call_list_ofB (h : X.K = K) : CallR X (.type "list") (fun xs H Q => ∃ p ys, xs = [.ref p] ∧ (SqL K H p ys ∨ SqT K H p ys) ∧ ∀ l, H l = none → Q (.ref l) (upd H l (.lst ys))) := by subst h; exact call_list_of
theorem call_tuple_ofB (h : X.K = K) : CallR X (.type "tuple") (fun xs H Q => ∃ p ys, xs = [.ref p] ∧ ((SqL K H p ys ∧ ∀ l, H l = none → Q (.ref l) (upd H l (.tup ys))) ∨ (SqT K H p ys ∧ Q (.ref p) H))) := by subst h; exact call_tuple_of
end
/-! ### what stands but lists -/
def Keep (H H' : Hp) : Prop := ∀ b o, H b = some o → (∀ xs, o ≠ .lst xs) → H' b = some o
theorem _root_.L2.Same.keep {H H' : Hp} (s : Same H H') : Keep H H' := fun b o h _ => s b o h
theorem keep_lst {H : Hp} {D : Addr} {xs ys : List V} (h : H D = some (.lst xs)) : Keep H (upd H D (.lst ys)) := fun b o hb hl => by
  have : b ≠ D := fun e => by
    rw [e, h] at hb
    exact hl xs (Option.some.inj hb).symm
  rw [upd_ne this]
  exact hb
def isDict : HO → Prop
  | .dK _ => True
  | _ => False
def KeepD (H H' : Hp) : Prop := ∀ b o, H b = some o → ¬ isDict o → H' b = some o
theorem _root_.L2.Same.keepD {H H' : Hp} (s : Same H H') : KeepD H H' := fun b o h _ => s b o h
theorem keepD_put {H : Hp} {D : Addr} {xs ys : List (Key × V)} (h : H D = some (.dK xs)) : KeepD H (upd H D (.dK ys)) := fun b o hb hl => by
  have : b ≠ D := fun e => by
    rw [e, h] at hb
    rw [← Option.some.inj hb] at hl
    exact hl trivial
  rw [upd_ne this]
  exact hb
section
variable {H H' : Hp} {v : V}
theorem Keep.tup (s : Keep H H') {a : Addr} {xs : List V} (h : H a = some (.tup xs)) : H' a = some (.tup xs) := s _ _ h fun _ q => by cases q
theorem Keep.dk (s : Keep H H') {a : Addr} {xs : List (Key × V)} (h : H a = some (.dK xs)) : H' a = some (.dK xs) := s _ _ h fun _ q => by cases q
theorem KeepD.tup (s : KeepD H H') {a : Addr} {xs : List V} (h : H a = some (.tup xs)) : H' a = some (.tup xs) := s _ _ h fun q => q
theorem GateAt.keep (s : Keep H H') {g : Gate Str} : GateAt H v g → GateAt H' v g := fun ⟨a, b, e, h1, h2, h3⟩ => ⟨a, b, e, s.tup h1, s.tup h2, h3⟩
theorem GateAt.keepD (s : KeepD H H') {g : Gate Str} : GateAt H v g → GateAt H' v g := fun ⟨a, b, e, h1, h2, h3⟩ => ⟨a, b, e, s.tup h1, s.tup h2, h3⟩
theorem BitsAt.keep (s : Keep H H') {p : List Bool} : BitsAt H v p → BitsAt H' v p := fun ⟨a, e, h1⟩ => ⟨a, e, s.tup h1⟩
theorem VerAt.keep (s : Keep H H') {u : Ver Str} (h : VerAt H v u) : VerAt H' v u := by
  cases u with
  | right => exact h
  | _ =>
    obtain ⟨a, e, h1, h2⟩ := h
    exact ⟨a, e, s.tup h1, h2⟩
theorem DTab.keep (s : Keep H H') {f : Str → Option V} : DTab H v f → DTab H' v f := fun ⟨a, kvs, e, h1, h2, h3⟩ => ⟨a, kvs, e, s.dk h1, h2, h3⟩
end
/-! ### comprehensions by what their elements are -/
section
variable {J : It} {n : Nat} {G : Hp → Prop} {Y : Nat → Hp → V → Hp → Prop}
/-- [e for x in w if t]: p tells which are kept, R what each element is -/
theorem lcF (w : Walk J n G Y) {g : TG} {tt : TT} {te : TE} {vs : List Nat} {σ : L2.St} {H1 : Hp} {D : Addr} {Qd : Hp → Prop} (p : Nat → Bool) (R : Nat → V → Hp → Prop) (mono : ∀ i y H H', Keep H H' → R i y H → R i y H') (hn : n ≤ 1000) (hD : H1 D = none)
    (hG : ∀ H', Same H1 H' → G H')
    (hs : ∀ i x H H', i < n → Same H1 H → Y i H x H' → ∀ (k : V → Hp → Prop) (kn : Hp → Prop), (p i = true → ∀ y H4, Same H H4 → R i y H4 → k y H4) → (p i = false → ∀ H3, Same H H3 → kn H3) →
      g x (wipe σ vs) H' fun σ2 H2 => wipe σ2 vs = wipe σ vs ∧ tt σ2 H2 fun b H3 => if b = true then te σ2 H3 k else kn H3)
    (hd : ∀ H' ys, Same H1 H' → H' D = some (.lst ys) → Paired (fun i y => R i y H') ((List.range n).filter p) ys → Qd H') :
    ∃ W : Nat → Nat → Hp → Prop, (∃ m, W 0 m (upd H1 D (.lst []))) ∧ ∀ i m H, W i m H →
      (J.stop i H ∧ Qd H) ∨ (J.go i H ∧ ∃ Nx : Hp → Prop, (∀ H', Nx H' → ∃ m', m' < m ∧ W (i + 1) m' H') ∧ ∀ x H', J.yld i H x H' → g x (wipe σ vs) H' fun σ2 H2 => wipe σ2 vs = wipe σ vs ∧ tt σ2 H2 fun b H3 =>
        if b = true then te σ2 H3 fun y H4 => ∃ acc, H4 D = some (.lst acc) ∧ acc.length < sizeLine ∧ Nx (upd H4 D (.lst (acc ++ [y]))) else Nx H3) := by
  refine lc_it w (fun i H => Same H1 H ∧ i ≤ n ∧ ∃ ys, H D = some (.lst ys) ∧ Paired (fun i y => R i y H) ((List.range i).filter p) ys) ⟨same_new hD _, Nat.zero_le _, [], upd_same, .nil⟩ (fun i H _ q => hG H q.1) ?_ fun H ⟨s, _, ys, h1, h2⟩ => hd H ys s h1 h2
  rintro i x H H' hi ⟨s, hi', ys, h1, h2⟩ hY
  have hl : ys.length < sizeLine := by
    have q1 := h2.length
    have q2 := List.length_filter_le p (List.range i)
    rw [List.length_range] at q2
    exact small1000 (by omega)
  refine hs i x H H' hi s hY _ _ (fun hp y H4 s4 r => ⟨ys, s4 _ _ h1, hl, ?_, hi, ys ++ [y], upd_same, ?_⟩) (fun hp H3 s3 => ⟨s.trans s3, hi, ys, s3 _ _ h1, ?_⟩)
  · exact Same.mut (s.trans s4) hD
  · rw [List.range_succ, List.filter_append, List.filter_cons, if_pos hp, List.filter_nil]
    have kp : Keep H4 (upd H4 D (.lst (ys ++ [y]))) := keep_lst (s4 _ _ h1)
    exact (L2.Paired.mapP h2 fun j z q => mono j z _ _ kp (mono j z _ _ s4.keep q)).snoc (mono i y _ _ kp r)
  · rw [List.range_succ, List.filter_append, List.filter_cons, if_neg (by rw [hp]; exact Bool.false_ne_true), List.filter_nil, List.append_nil]
    exact L2.Paired.mapP h2 fun j z q => mono j z _ _ s3.keep q
/-- [e for x in w] -/
theorem lcR (w : Walk J n G Y) {g : TG} {te : TE} {vs : List Nat} {σ : L2.St} {H1 : Hp} {D : Addr} {Qd : Hp → Prop} (R : Nat → V → Hp → Prop) (mono : ∀ i y H H', Keep H H' → R i y H → R i y H') (hn : n ≤ 1000) (hD : H1 D = none)
    (hG : ∀ H', Same H1 H' → G H')
    (hs : ∀ i x H H', i < n → Same H1 H → Y i H x H' → ∀ (k : V → Hp → Prop), (∀ y H4, Same H H4 → R i y H4 → k y H4) → g x (wipe σ vs) H' fun σ2 H2 => wipe σ2 vs = wipe σ vs ∧ te σ2 H2 k)
    (hd : ∀ H' ys, Same H1 H' → H' D = some (.lst ys) → Paired (fun i y => R i y H') (List.range n) ys → Qd H') :
    ∃ W : Nat → Nat → Hp → Prop, (∃ m, W 0 m (upd H1 D (.lst []))) ∧ ∀ i m H, W i m H →
      (J.stop i H ∧ Qd H) ∨ (J.go i H ∧ ∃ Nx : Hp → Prop, (∀ H', Nx H' → ∃ m', m' < m ∧ W (i + 1) m' H') ∧ ∀ x H', J.yld i H x H' → g x (wipe σ vs) H' fun σ2 H2 => wipe σ2 vs = wipe σ vs ∧ tYes σ2 H2 fun b H3 =>
        if b = true then te σ2 H3 fun y H4 => ∃ acc, H4 D = some (.lst acc) ∧ acc.length < sizeLine ∧ Nx (upd H4 D (.lst (acc ++ [y]))) else Nx H3) := by
  refine lcF w (fun _ => true) R mono hn hD hG (fun i x H H' hi s hY k kn hk _ => hs i x H H' hi s hY k (fun y H4 => hk rfl y H4)) fun H' ys s h1 h2 => hd H' ys s h1 ?_
  have e : (List.range n).filter (fun _ => true) = List.range n := List.filter_eq_self.mpr fun _ _ => rfl
  rw [e] at h2
  exact h2
/-- the elements are values known ahead -/
theorem lcV (w : Walk J n G Y) {g : TG} {te : TE} {vs : List Nat} {σ : L2.St} {H1 : Hp} {D : Addr} {Qd : Hp → Prop} (f : Nat → V) (hn : n ≤ 1000) (hD : H1 D = none) (hG : ∀ H', Same H1 H' → G H')
    (hs : ∀ i x H H', i < n → Same H1 H → Y i H x H' → ∀ (k : V → Hp → Prop), (∀ H4, Same H H4 → k (f i) H4) → g x (wipe σ vs) H' fun σ2 H2 => wipe σ2 vs = wipe σ vs ∧ te σ2 H2 k)
    (hd : ∀ H', Same H1 H' → H' D = some (.lst ((List.range n).map f)) → Qd H') :
    ∃ W : Nat → Nat → Hp → Prop, (∃ m, W 0 m (upd H1 D (.lst []))) ∧ ∀ i m H, W i m H →
      (J.stop i H ∧ Qd H) ∨ (J.go i H ∧ ∃ Nx : Hp → Prop, (∀ H', Nx H' → ∃ m', m' < m ∧ W (i + 1) m' H') ∧ ∀ x H', J.yld i H x H' → g x (wipe σ vs) H' fun σ2 H2 => wipe σ2 vs = wipe σ vs ∧ tYes σ2 H2 fun b H3 =>
        if b = true then te σ2 H3 fun y H4 => ∃ acc, H4 D = some (.lst acc) ∧ acc.length < sizeLine ∧ Nx (upd H4 D (.lst (acc ++ [y]))) else Nx H3) := by
  refine lcR w (fun i y _ => y = f i) (fun _ _ _ _ _ q => q) hn hD hG (fun i x H H' hi s hY k hk => hs i x H H' hi s hY k fun H4 s4 => hk _ H4 s4 rfl) fun H' ys s h1 h2 => hd H' s ?_
  rw [h1]
  have go : ∀ {l : List Nat} {ys : List V}, Paired (fun i y => y = f i) l ys → ys = l.map f := by
    intro l ys h
    induction h with
    | nil => rfl
    | cons h1 r ih => rw [List.map_cons, h1, ih]
  rw [go h2]
/-- {k: e for x in w}: no key twice; the elements lean on no dict -/
theorem dcR (w : Walk J n G Y) {g : TG} {tk tv : TE} {vs : List Nat} {σ : L2.St} {H1 : Hp} {D : Addr} {Qd : Hp → Prop} (key : Nat → Str) (R : Nat → V → Hp → Prop) (mono : ∀ i y H H', KeepD H H' → R i y H → R i y H') (hn : n ≤ 1000) (hD : H1 D = none)
    (hG : ∀ H', Same H1 H' → G H')
    (hs : ∀ i x H H', i < n → Same H1 H → Y i H x H' → ∀ (k : V → V → Hp → Prop), (∀ y H4, Same H H4 → R i y H4 → k (.str (key i)) y H4) → g x (wipe σ vs) H' fun σ2 H2 => wipe σ2 vs = wipe σ vs ∧ tk σ2 H2 fun z H3 => tv σ2 H3 fun y H4 => k z y H4)
    (hd : ∀ H' kvs, Same H1 H' → H' D = some (.dK kvs) → kvs.length ≤ n → (∀ l, (∃ i, i < n ∧ key i = l ∧ (∀ j, j < n → i < j → key j ≠ l) ∧ ∃ y, valV kvs (Sum.inr l) = some y ∧ R i y H') ∨ ((∀ i, i < n → key i ≠ l) ∧ valV kvs (Sum.inr l) = none)) → Qd H') :
    ∃ W : Nat → Nat → Hp → Prop, (∃ m, W 0 m (upd H1 D (.dK []))) ∧ ∀ i m H, W i m H →
      (J.stop i H ∧ Qd H) ∨ (J.go i H ∧ ∃ Nx : Hp → Prop, (∀ H', Nx H' → ∃ m', m' < m ∧ W (i + 1) m' H') ∧ ∀ x H', J.yld i H x H' → g x (wipe σ vs) H' fun σ2 H2 => wipe σ2 vs = wipe σ vs ∧ tYes σ2 H2 fun b H3 =>
        if b = true then tk σ2 H3 fun y H4 => tv σ2 H4 fun z H5 => ∃ kvs k, y = kV k ∧ H5 D = some (.dK kvs) ∧ kvs.length < sizeLine ∧ Nx (upd H5 D (.dK (putK kvs k z))) else Nx H3) := by
  refine dc_it w (fun i H => Same H1 H ∧ i ≤ n ∧ ∃ kvs, H D = some (.dK kvs) ∧ kvs.length ≤ i ∧ ∀ l, (∃ j, j < i ∧ key j = l ∧ (∀ j', j' < i → j < j' → key j' ≠ l) ∧ ∃ y, valV kvs (Sum.inr l) = some y ∧ R j y H) ∨ ((∀ j, j < i → key j ≠ l) ∧ valV kvs (Sum.inr l) = none))
    ⟨same_new hD _, Nat.zero_le _, [], upd_same, Nat.zero_le _, fun l => .inr ⟨fun j h => absurd h (Nat.not_lt_zero _), rfl⟩⟩ (fun i H _ q => hG H q.1) ?_ fun H ⟨s, _, kvs, h1, h2, h3⟩ => hd H kvs s h1 h2 h3
  rintro i x H H' hi ⟨s, hi', kvs, h1, h2, h3⟩ hY
  refine hs i x H H' hi s hY _ fun y H4 s4 r => ⟨kvs, Sum.inr (key i), rfl, s4 _ _ h1, small1000 (by omega), Same.mut (s.trans s4) hD, hi, putK kvs (Sum.inr (key i)) y, upd_same, ?_, fun l => ?_⟩
  · have := length_putK kvs (Sum.inr (key i)) y
    omega
  · have kp : KeepD H4 (upd H4 D (.dK (putK kvs (Sum.inr (key i)) y))) := keepD_put (s4 _ _ h1)
    rw [valV_put]
    by_cases e : l = key i
    · subst e
      rw [if_pos rfl]
      exact .inl ⟨i, Nat.lt_succ_self i, rfl, fun j' h q => absurd h (by omega), y, rfl, mono i y _ _ kp r⟩
    · rw [if_neg fun q => e (Sum.inr.inj q)]
      rcases h3 l with ⟨j, hj, hk, hu, z, hz, hr⟩ | ⟨hj, hz⟩
      · refine .inl ⟨j, Nat.lt_succ_of_lt hj, hk, fun j' h q => ?_, z, hz, mono j z _ _ kp (mono j z _ _ s4.keepD hr)⟩
        rcases Nat.lt_succ_iff_lt_or_eq.mp h with h | h
        · exact hu j' h q
        · rw [h]
          exact fun q => e q.symm
      · refine .inr ⟨fun j h => ?_, hz⟩
        rcases Nat.lt_succ_iff_lt_or_eq.mp h with h | h
        · exact hj j h
        · rw [h]
          exact fun q => e q.symm
end
end Pw
namespace Pw
open PySem PySem.Spec PyProof.Rows L2
local macro_rules
  | `(tactic| decreasing_trivial) => `(tactic| repeat (first
    | refine ⟨_, rfl, ?_⟩
    | refine ⟨_, _, rfl, rfl, ?_⟩
    | refine ⟨rfl, ?_⟩))
/-! ### small helps -/
theorem ifT {c : Bool} {A B : Prop} (h : c = true) (k : A) : if c = true then A else B := by rw [if_pos h]; exact k
theorem ifF {c : Bool} {A B : Prop} (h : c = false) (k : B) : if c = true then A else B := by rw [if_neg (by rw [h]; exact Bool.false_ne_true)]; exact k
theorem bT {Q : VK} {H : Hp} {b : Bool} (h : b = true) (k : Q (.bl true) H) : Q (.bl b) H := by rw [h]; exact k
theorem bF {Q : VK} {H : Hp} {b : Bool} (h : b = false) (k : Q (.bl false) H) : Q (.bl b) H := by rw [h]; exact k
def letters : Str := "abcdefghijklmnopqrstuvwxyz"
def figures : Str := "0123456789"
def chOk (c : Nat) : Bool := decide (c ∈ letters.cps.toList) || decide (c ∈ figures.cps.toList)
def nameOk (s : Str) : Bool := decide (s.length ≤ 12) && (match s.cps.toList with
  | [] => false
  | c :: r => decide (c ∈ letters.cps.toList) && r.all chOk)
section
variable {P : Program} {w : World} {K : PySem.W.Frag} {mg : Str → Option Value} {base : Heap} {A : Ad}
/-! ### words -/
def spInteger : Sp := fun vs H Q _ => ∃ i lo hi : Int, vs = [.int i, .int lo, .int hi] ∧ lo ≤ i ∧ i ≤ hi ∧ Q (.bl true) H
theorem ok_is_integer {f : Addr} {fd : FuncData} (T : Txt K mg A) (F : Fun K "is_integer" "is_integer" s_is_integer f fd) : FnOk P w K mg base CX0 1 f fd ["value", "least", "greatest"] spInteger := by
  refine F.ok sc_is_integer (fun vs H Q E h => ?_) (fun cdv Ar outer s H vs Q E hr h => ?_)
  · obtain ⟨i, lo, hi, rfl, _⟩ := h
    rfl
  obtain ⟨i, lo, hi, rfl, h1, h2, k⟩ := h
  refine ⟨_, (pss_cons (ps_if (PW.pt (pw_or (pt_not (pt_val (pe_callB call_isi (by rfl) T.z_isinstance bt_isinstance (pa_cons (pv 0) (pa_cons (pe_bltn (v := .ty "int") (by rfl) T.z_int bt_int rfl) pa_nil))))) (pw_or1 (pt_val (pe_callB call_isi (by rfl) T.z_isinstance bt_isinstance (pa_cons (pv 0) (pa_cons (pe_bltn (v := .ty "bool") (by rfl) T.z_bool bt_bool rfl) pa_nil))))))) (pss_one (ps_ret pe_bl)) pss_nil)
      (pss_one (ps_ret (pe_and (pe_cmpR op_le (pv 1) (pv 0) (nomark _)) (pe_one (pe_cmpR op_le (pv 0) (pv 2) (nomark _))))))), ?_⟩
  refine ⟨_, rfl, _, _, _, _, true, rfl, .ty _, .base (.int _), kit_ty (by decide +kernel), _, rfl, iteF ?_⟩
  refine ⟨_, rfl, _, _, _, _, false, rfl, .ty _, .base (.int _), kit_ty (by decide +kernel), _, rfl, iteF ?_⟩
  decreasing_trivial
  refine ifT (decide_eq_true h1) ?_
  decreasing_trivial
  exact bT (Q := Q) (decide_eq_true h2) k
def spBit : Sp := fun vs H Q _ => ∃ b : Bool, vs = [bitV b] ∧ Q (.bl true) H
theorem bi_ge (b : Bool) : 0 ≤ bi b := by cases b <;> decide
theorem bi_le (b : Bool) : bi b ≤ 1 := by cases b <;> decide
theorem ok_is_bit {f : Addr} {fd : FuncData} (T : Txt K mg A) (c_is_integer : Cal P w K mg base 1 "is_integer" spInteger) (F : Fun K "is_bit" "is_bit" s_is_bit f fd) : FnOk P w K mg base CX0 2 f fd ["value"] spBit := by
  refine F.ok sc_is_bit (fun vs H Q E h => ?_) (fun cdv Ar outer s H vs Q E hr h => ?_)
  · obtain ⟨b, rfl, _⟩ := h
    rfl
  obtain ⟨b, rfl, k⟩ := h
  refine ⟨_, (pss_one (ps_ret (pe_c c_is_integer hr (by omega) rfl (pa_cons (pv 0) (pa_cons pe_int (pa_cons pe_int pa_nil)))))), ?_⟩
  decreasing_trivial
  exact ⟨_, _, _, rfl, bi_ge b, bi_le b, k⟩
def spBits : Sp := fun vs H Q _ => ∃ (a : Addr) (pat : List Bool) (n : Nat), vs = [.ref a, .int n] ∧ H a = some (.tup (pat.map bitV)) ∧ pat.length = n ∧ n ≤ 1000 ∧ Ret (fun v _ => v = .bl true) H Q
theorem all_true {n : Nat} {ys : List V} (h : Paired (fun (_ : Nat) y => y = V.bl true) (List.range n) ys) : ys = ((List.replicate n true).map V.bl) := by
  have e := h.length
  rw [List.length_range] at e
  have q : ∀ y ∈ ys, y = V.bl true := by
    intro y hy
    obtain ⟨i, hi, e2⟩ := List.mem_iff_getElem.mp hy
    obtain ⟨a, _, q⟩ := Paired.at' h (i := i) (b := y) (by rw [List.getElem?_eq_getElem hi, e2])
    exact q
  rw [List.map_replicate]
  exact List.eq_replicate_iff.mpr ⟨by omega, q⟩
theorem all_rep (n : Nat) : (List.replicate n true).all id = true := by
  rw [List.all_eq_true]
  intro x hx
  exact (List.mem_replicate.mp hx).2
theorem ok_are_bits {f : Addr} {fd : FuncData} (T : Txt K mg A) (c_is_bit : Cal P w K mg base 2 "is_bit" spBit) (F : Fun K "are_bits" "are_bits" s_are_bits f fd) : FnOk P w K mg base CX0 3 f fd ["value", "count"] spBits := by
  refine F.ok sc_are_bits (fun vs H Q E h => ?_) (fun cdv Ar outer s H vs Q E hr h => ?_)
  · obtain ⟨a, pat, n, rfl, _⟩ := h
    rfl
  obtain ⟨a, pat, n, rfl, h1, h2, h3, k⟩ := h
  refine ⟨_, (pss_cons (ps_if (PW.pt (pw_or (pt_not (pt_val (pe_callB call_isi (by rfl) T.z_isinstance bt_isinstance (pa_cons (pv 0) (pa_cons (pe_bltn (v := .ty "tuple") (by rfl) T.z_tuple bt_tuple rfl) pa_nil))))) (pw_or1 (pt_cmpR op_ne (pe_callB call_len_seq (by rfl) T.z_len PySem.boot_len (pa_cons (pv 0) pa_nil)) (pv 1) (nomark _))))) (pss_one (ps_ret pe_bl)) pss_nil)
      (pss_one (ps_ret (pe_callB (cr_all rfl) (by rfl) T.z_all bt_all (pa_cons (pe_lc (own := [("item", 2)])  rfl sc_are_bits.nd (pi_tup (pv 0)) (blkOk_by (own := [("item", 2)]) (sc := defScope s_are_bits) (N := ["value", "count", "item"]) (by decide +kernel)) (fun _ _ _ _ _ => (pg_name (i := 2) sc_are_bits.nd rfl (Or.inl rfl))) (fun _ _ _ _ _ => pts_nil) (fun _ _ _ _ _ => (pe_c c_is_bit hr (by omega) rfl (pa_cons (pv 2) pa_nil)))) pa_nil))))), ?_⟩
  refine ⟨_, rfl, _, _, _, _, true, rfl, .ty _, .base (.tup h1), kit_ty (by decide +kernel), _, rfl, iteF ?_⟩
  refine ⟨_, rfl, _, _, rfl, .inr (SqT.of h1), ?_⟩
  decreasing_trivial
  refine ifF (by simp [h2]) ?_
  decreasing_trivial
  refine ⟨⟨_, SqT.of h1⟩, fun D hD => ?_⟩
  refine lcR (walk_tup (xs := pat.map bitV)) (fun i y _ => y = V.bl true) (fun _ _ _ _ _ q => q) (by simp [h2, h3]) hD (fun H' s' => s'.seqT (SqT.of h1)) ?_ ?_
  · rintro i x H1 H2 hi s1 ⟨rfl, hx⟩ k2 hk
    refine ⟨rfl, ?_⟩
    decreasing_trivial
    rw [List.getElem?_map, Option.map_eq_some_iff] at hx
    obtain ⟨b, hb, rfl⟩ := hx
    exact ⟨b, rfl, hk _ _ (Same.refl _) rfl⟩
  · intro H1 ys s1 hD1 hp
    rw [all_true hp] at hD1
    refine ⟨_, _, rfl, SqL.of hD1, ?_⟩
    rw [all_rep]
    exact k.go s1 rfl
theorem cps_one {s : Str} {c : Nat} {r : List Nat} (h : s.cps.toList = c :: r) : s.cps.size = r.length + 1 := by
  rw [← Array.length_toList, h]; rfl
def spName : Sp := fun vs H Q _ => ∃ s : Str, vs = [.str s] ∧ nameOk s = true ∧ Q (.bl true) H
theorem ok_is_name {f : Addr} {fd : FuncData} (T : Txt K mg A) (F : Fun K "is_name" "is_name" s_is_name f fd) : FnOk P w K mg base CX0 1 f fd ["value"] spName := by
  refine F.ok sc_is_name (fun vs H Q E h => ?_) (fun cdv Ar outer s H vs Q E hr h => ?_)
  · obtain ⟨z, rfl, _⟩ := h
    rfl
  obtain ⟨z, rfl, hz, k⟩ := h
  unfold nameOk at hz
  rw [Bool.and_eq_true] at hz
  obtain ⟨hl, hz⟩ := hz
  have hl := of_decide_eq_true hl
  obtain ⟨c, r, e⟩ : ∃ c r, z.cps.toList = c :: r := by
    cases q : z.cps.toList with
    | nil => rw [q] at hz; cases hz
    | cons c r => exact ⟨c, r, rfl⟩
  rw [e] at hz
  have hz : (decide (c ∈ letters.cps.toList) && r.all chOk) = true := hz
  rw [Bool.and_eq_true] at hz
  obtain ⟨hc, hz⟩ := hz
  have hne : z ≠ "" := fun q => by
    rw [q] at e
    cases e
  have hsz : z.length ≤ sizeLine := Nat.le_trans hl (by decide)
  have hall : ∀ (i d : Nat), z.cps[i]? = some d → chOk d = true := by
    intro i d q
    have q : z.cps.toList[i]? = some d := by rw [Array.getElem?_toList]; exact q
    rw [e] at q
    cases i with
    | zero =>
      have q : c = d := Option.some.inj q
      unfold chOk
      rw [← q, hc, Bool.true_or]
    | succ i => exact (List.all_eq_true.mp hz) d (List.mem_of_getElem? (by simpa using q))
  refine ⟨_, (pss_cons (ps_if (PW.pt (pw_or (pt_not (pt_val (pe_callB call_isi (by rfl) T.z_isinstance bt_isinstance (pa_cons (pv 0) (pa_cons (pe_bltn (v := .ty "str") (by rfl) T.z_str bt_str rfl) pa_nil))))) (pw_or (pt_cmpR op_eq (pv 0) pe_str (nomark _)) (pw_or (pt_cmpR op_gt (pe_callB call_len_str (by rfl) T.z_len PySem.boot_len (pa_cons (pv 0) pa_nil)) (pe_gc rfl T.g_MOST_NAME) (nomark _)) (pw_or1 (pt_cmpR op_notIn_sign (pe_ix ix_str (pv 0) pe_int (fun _ _ => rfl)) (pe_gc rfl T.g_LETTERS) (by rfl))))))) (pss_one (ps_ret pe_bl)) pss_nil)
      (pss_cons (ps_for PassesOwn.never rfl (pi_str (pv 0)) (pg_name (i := 1) sc_is_name.nd rfl (Or.inl rfl)) (pss_one (ps_if (PW.pt (pw_and (pt_cmpR op_notIn_sign (pv 1) (pe_gc rfl T.g_LETTERS) (by rfl)) (pw_and (pt_cmpR op_notIn_sign (pv 1) (pe_gc rfl T.g_FIGURES) (by rfl)) (pw_and1 (pt_cmpR op_ne (pv 1) pe_str (nomark _)))))) (pss_one (ps_ret pe_bl)) pss_nil)))
      (pss_one (ps_ret pe_bl)))), ?_⟩
  refine ⟨_, rfl, _, _, _, _, true, rfl, .ty _, .base (.str _), kit_ty (by decide +kernel), _, rfl, iteF ?_⟩
  decreasing_trivial
  refine ifF (by simp [hne]) ?_
  refine ⟨_, rfl, _, rfl, hsz, ?_⟩
  decreasing_trivial
  refine ifF (decide_eq_false (by omega)) ?_
  refine ⟨_, rfl, _, _, _, rfl, rfl, hsz, atI_nat (j := 0) (by rw [e]; rfl), ?_⟩
  decreasing_trivial
  refine ifF (by rw [show (letters : Str) = "abcdefghijklmnopqrstuvwxyz" from rfl] at hc; rw [hc]; rfl) ?_
  decreasing_trivial
  refine for_it (walk_str (z := z)) (fun _ σ H' => (∃ x, σ = [some (.str z), x]) ∧ H' = H) ⟨⟨_, rfl⟩, rfl⟩ (fun _ _ _ _ _ => trivial) ?_ ?_
  · rintro i x σ H1 H2 hi ⟨⟨x0, rfl⟩, rfl⟩ ⟨rfl, d, hd, rfl⟩
    have q := hall i d hd
    unfold chOk at q
    decreasing_trivial
    by_cases c1 : d ∈ (letters : Str).cps.toList
    · refine ifF (congrArg not (decide_eq_true c1)) ?_
      exact ⟨⟨_, rfl⟩, rfl⟩
    · have c2 : d ∈ (figures : Str).cps.toList := by simpa [c1] using q
      refine ifT (congrArg not (decide_eq_false c1)) ?_
      decreasing_trivial
      refine ifF (congrArg not (decide_eq_true c2)) ?_
      exact ⟨⟨_, rfl⟩, rfl⟩
  · rintro σ H1 ⟨_, rfl⟩
    exact k
end
end Pw
namespace Pw
open PySem PySem.Spec PyProof.Rows L2
local macro_rules
  | `(tactic| decreasing_trivial) => `(tactic| repeat (first
    | refine ⟨_, rfl, ?_⟩
    | refine ⟨_, _, rfl, rfl, ?_⟩
    | refine ⟨rfl, ?_⟩
    | refine ⟨_, _, rfl, .inl (SqL.of (by assumption)), ?_⟩
    | refine ⟨_, _, rfl, .inr (SqT.of (by assumption)), ?_⟩
    | refine ⟨_, _, _, _, rfl, rfl, SqT.of (by assumption), rfl, ?_⟩
    | refine ⟨_, _, _, _, rfl, rfl, SqL.of (by assumption), rfl, ?_⟩))
section
variable {P : Program} {w : World} {K : PySem.W.Frag} {mg : Str → Option Value} {base : Heap} {A : Ad}
theorem sz {n : Nat} (h : n ≤ 1000 := by decide) : n ≤ sizeLine := Nat.le_of_lt (small1000 h)
theorem in_up {K : PySem.W.Frag} {H : Hp} {t : Addr} {xs : List V} : SqT K (upd H t (.tup xs)) t xs := SqT.of upd_same
/-- x in (a written tuple): what it answers -/
theorem rdIn {K : PySem.W.Frag} {x : V} {H : Hp} {Q : VK} {xs : List V} {b : Bool} (hl : xs.length ≤ 1000) (hf : flatV x = true) (ha : xs.all flatV = true) (hb : inV x xs = b) (k : ∀ t, H t = none → Q (.bl b) (upd H t (.tup xs))) : xs.length ≤ sizeLine ∧ ∀ t, H t = none → rIn K false x (.ref t) (upd H t (.tup xs)) Q := by
  refine ⟨sz hl, fun t ht => ⟨t, xs, rfl, .inr in_up, hf, ha, ?_⟩⟩
  rw [if_neg Bool.false_ne_true, hb]
  exact k t ht
def spPins : Sp := fun vs H Q _ => ∃ (k : Kind) (n : Nat), vs = [.str k.str, .int n] ∧ k.arity n = true ∧ Ret (fun v _ => v = .bl true) H Q
theorem ok_pins_allowed {f : Addr} {fd : FuncData} (T : Txt K mg A) (F : Fun K "pins_allowed" "pins_allowed" s_pins_allowed f fd) : FnOk P w K mg base CX0 1 f fd ["kind", "count"] spPins := by
  refine F.ok sc_pins_allowed (fun vs H Q E h => ?_) (fun cdv Ar outer s H vs Q E hr h => ?_)
  · obtain ⟨k, n, rfl, _⟩ := h
    rfl
  obtain ⟨kd, n, rfl, hk, k⟩ := h
  refine ⟨_, (pss_cons (ps_if (pt_cmpR op_in_seq (pv 0) (pe_tup (pa_cons pe_str (pa_cons pe_str pa_nil))) (by rfl)) (pss_one (ps_ret (pe_cmpR op_eq (pv 1) pe_int (nomark _)))) pss_nil)
      (pss_cons (ps_if (pt_cmpR op_in_seq (pv 0) (pe_tup (pa_cons pe_str (pa_cons pe_str pa_nil))) (by rfl)) (pss_one (ps_ret (pe_cmpR op_eq (pv 1) pe_int (nomark _)))) pss_nil)
      (pss_one (ps_ret (pe_and (pe_cmpR op_in_seq (pv 0) (pe_gc rfl T.g_KINDS) (by rfl)) (pe_and (pe_cmpR op_le pe_int (pv 1) (nomark _)) (pe_one (pe_cmpR op_le (pv 1) (pe_gc rfl T.g_MOST_PINS) (nomark _))))))))), ?_⟩
  have hs : ∀ H', Same H H' → Q (.bl true) H' := fun H' s => k.go s rfl
  have hK := T.kinds
  cases kd
  case low =>
    refine ⟨_, rfl, rdIn (b := true) (by decide) rfl rfl (by decide +kernel) fun t ht => ⟨_, rfl, iteT ?_⟩⟩
    obtain rfl : n = 0 := by simpa [Kind.arity] using hk
    decreasing_trivial
    exact hs _ (same_new ht _)
  case high =>
    refine ⟨_, rfl, rdIn (b := true) (by decide) rfl rfl (by decide +kernel) fun t ht => ⟨_, rfl, iteT ?_⟩⟩
    obtain rfl : n = 0 := by simpa [Kind.arity] using hk
    decreasing_trivial
    exact hs _ (same_new ht _)
  case not =>
    refine ⟨_, rfl, rdIn (b := false) (by decide) rfl rfl (by decide +kernel) fun t ht => ⟨_, rfl, iteF ?_⟩⟩
    refine ⟨_, rfl, rdIn (b := true) (by decide) rfl rfl (by decide +kernel) fun t1 ht1 => ⟨_, rfl, iteT ?_⟩⟩
    obtain rfl : n = 1 := by simpa [Kind.arity] using hk
    decreasing_trivial
    exact hs _ ((same_new ht _).trans (same_new ht1 _))
  case buf =>
    refine ⟨_, rfl, rdIn (b := false) (by decide) rfl rfl (by decide +kernel) fun t ht => ⟨_, rfl, iteF ?_⟩⟩
    refine ⟨_, rfl, rdIn (b := true) (by decide) rfl rfl (by decide +kernel) fun t1 ht1 => ⟨_, rfl, iteT ?_⟩⟩
    obtain rfl : n = 1 := by simpa [Kind.arity] using hk
    decreasing_trivial
    exact hs _ ((same_new ht _).trans (same_new ht1 _))
  all_goals
    refine ⟨_, rfl, rdIn (b := false) (by decide) rfl rfl (by decide +kernel) fun t ht => ⟨_, rfl, iteF ?_⟩⟩
    refine ⟨_, rfl, rdIn (b := false) (by decide) rfl rfl (by decide +kernel) fun t1 ht1 => ⟨_, rfl, iteF ?_⟩⟩
    have h14 : 1 ≤ n ∧ n ≤ 4 := by simpa [Kind.arity] using hk
    refine ⟨_, rfl, _, _, rfl, .inr (hK _), rfl, rfl, ?_⟩
    refine ⟨true, congrArg V.bl (by decide +kernel), iteT ?_⟩
    decreasing_trivial
    refine ifT (decide_eq_true (by omega)) ?_
    decreasing_trivial
    exact bT (Q := Q) (decide_eq_true (by omega)) (hs _ ((same_new ht _).trans (same_new ht1 _)))
def spRow : Sp := fun vs H Q _ => ∃ (v : V) (r : Str × Str), vs = [v, .int 2] ∧ RegAt H v r ∧ nameOk r.1 = true ∧ nameOk r.2 = true ∧ Ret (fun v _ => v = .bl true) H Q
theorem ok_is_row {f : Addr} {fd : FuncData} (T : Txt K mg A) (c_is_name : Cal P w K mg base 1 "is_name" spName) (F : Fun K "is_row" "is_row" s_is_row f fd) : FnOk P w K mg base CX0 2 f fd ["value", "size"] spRow := by
  refine F.ok sc_is_row (fun vs H Q E h => ?_) (fun cdv Ar outer s H vs Q E hr h => ?_)
  · obtain ⟨v, r, rfl, _⟩ := h
    rfl
  obtain ⟨v, r, rfl, ⟨a, rfl, h1⟩, n1, n2, k⟩ := h
  refine ⟨_, (pss_one (ps_ret (pe_and (pe_callB call_isi (by rfl) T.z_isinstance bt_isinstance (pa_cons (pv 0) (pa_cons (pe_bltn (v := .ty "tuple") (by rfl) T.z_tuple bt_tuple rfl) pa_nil))) (pe_and (pe_cmpR op_eq (pe_callB call_len_seq (by rfl) T.z_len PySem.boot_len (pa_cons (pv 0) pa_nil)) (pv 1) (nomark _)) (pe_one (pe_callB (cr_all rfl) (by rfl) T.z_all bt_all (pa_cons (pe_lc (own := [("item", 2)])  rfl sc_is_row.nd (pi_tup (pv 0)) (blkOk_by (own := [("item", 2)]) (sc := defScope s_is_row) (N := ["value", "size", "item"]) (by decide +kernel)) (fun _ _ _ _ _ => (pg_name (i := 2) sc_is_row.nd rfl (Or.inl rfl))) (fun _ _ _ _ _ => pts_nil) (fun _ _ _ _ _ => (pe_c c_is_name hr (by omega) rfl (pa_cons (pv 2) pa_nil)))) pa_nil))))))), ?_⟩
  refine ⟨_, rfl, _, _, _, _, true, rfl, .ty _, .base (.tup h1), kit_ty (by decide +kernel), _, rfl, iteT ?_⟩
  refine ⟨_, rfl, _, _, rfl, .inr (SqT.of h1), ?_⟩
  decreasing_trivial
  refine ⟨⟨_, SqT.of h1⟩, fun D hD => ?_⟩
  refine lcR (walk_tup (xs := [.str r.1, .str r.2])) (fun i y _ => y = V.bl true) (fun _ _ _ _ _ q => q) (by show 2 ≤ 1000; decide) hD (fun H' s' => s'.seqT (SqT.of h1)) ?_ ?_
  · rintro i x H1 H2 hi s1 ⟨rfl, hx⟩ k2 hk
    refine ⟨rfl, ?_⟩
    decreasing_trivial
    have : ∃ z, x = .str z ∧ nameOk z = true := by
      match i, hx with
      | 0, hx => exact ⟨_, (Option.some.inj hx).symm, n1⟩
      | 1, hx => exact ⟨_, (Option.some.inj hx).symm, n2⟩
    obtain ⟨z, rfl, hz⟩ := this
    exact ⟨z, rfl, hz, hk _ _ (Same.refl _) rfl⟩
  · intro H1 ys s1 hD1 hp
    rw [all_true hp] at hD1
    refine ⟨_, _, rfl, SqL.of hD1, ?_⟩
    rw [all_rep]
    exact k.go s1 rfl
def spGateOk : Sp := fun vs H Q _ => ∃ (v : V) (g : Gate Str), vs = [v] ∧ GateAt H v g ∧ nameOk g.line = true ∧ (∀ p ∈ g.pins, nameOk p = true) ∧ g.kind.arity g.pins.length = true ∧ Ret (fun v _ => v = .bl true) H Q
theorem arity_le {k : Kind} {n : Nat} (h : k.arity n = true) : n ≤ 4 := by
  cases k <;> simp [Kind.arity] at h <;> omega
theorem ok_is_gate {f : Addr} {fd : FuncData} (T : Txt K mg A) (c_is_name : Cal P w K mg base 1 "is_name" spName) (c_pins_allowed : Cal P w K mg base 1 "pins_allowed" spPins) (F : Fun K "is_gate" "is_gate" s_is_gate f fd) : FnOk P w K mg base CX0 2 f fd ["value"] spGateOk := by
  refine F.ok sc_is_gate (fun vs H Q E h => ?_) (fun cdv Ar outer s H vs Q E hr h => ?_)
  · obtain ⟨v, r, rfl, _⟩ := h
    rfl
  obtain ⟨v, g, rfl, ⟨a, b, rfl, h1, h2, _⟩, n1, n2, ha, k⟩ := h
  refine ⟨_, (pss_cons (ps_if (PW.pt (pw_or (pt_not (pt_val (pe_callB call_isi (by rfl) T.z_isinstance bt_isinstance (pa_cons (pv 0) (pa_cons (pe_bltn (v := .ty "tuple") (by rfl) T.z_tuple bt_tuple rfl) pa_nil))))) (pw_or (pt_cmpR op_ne (pe_callB call_len_seq (by rfl) T.z_len PySem.boot_len (pa_cons (pv 0) pa_nil)) pe_int (nomark _)) (pw_or (pt_not (pt_val (pe_c c_is_name hr (by omega) rfl (pa_cons (pe_ix ix_tup (pv 0) pe_int (fun _ _ => rfl)) pa_nil)))) (pw_or1 (pt_not (pt_val (pe_callB call_isi (by rfl) T.z_isinstance bt_isinstance (pa_cons (pe_ix ix_tup (pv 0) pe_int (fun _ _ => rfl)) (pa_cons (pe_bltn (v := .ty "str") (by rfl) T.z_str bt_str rfl) pa_nil)))))))))) (pss_one (ps_ret pe_bl)) pss_nil)
      (pss_cons (ps_if (PW.pt (pw_or (pt_not (pt_val (pe_callB call_isi (by rfl) T.z_isinstance bt_isinstance (pa_cons (pe_ix ix_tup (pv 0) pe_int (fun _ _ => rfl)) (pa_cons (pe_bltn (v := .ty "tuple") (by rfl) T.z_tuple bt_tuple rfl) pa_nil))))) (pw_or1 (pt_not (pt_val (pe_callB (cr_all rfl) (by rfl) T.z_all bt_all (pa_cons (pe_lc (own := [("pin", 1)])  rfl sc_is_gate.nd (pi_tup (pe_ix ix_tup (pv 0) pe_int (fun _ _ => rfl))) (blkOk_by (own := [("pin", 1)]) (sc := defScope s_is_gate) (N := ["value", "pin"]) (by decide +kernel)) (fun _ _ _ _ _ => (pg_name (i := 1) sc_is_gate.nd rfl (Or.inl rfl))) (fun _ _ _ _ _ => pts_nil) (fun _ _ _ _ _ => (pe_c c_is_name hr (by omega) rfl (pa_cons (pv 1) pa_nil)))) pa_nil))))))) (pss_one (ps_ret pe_bl)) pss_nil)
      (pss_one (ps_ret (pe_c c_pins_allowed hr (by omega) rfl (pa_cons (pe_ix ix_tup (pv 0) pe_int (fun _ _ => rfl)) (pa_cons (pe_callB call_len_seq (by rfl) T.z_len PySem.boot_len (pa_cons (pe_ix ix_tup (pv 0) pe_int (fun _ _ => rfl)) pa_nil)) pa_nil))))))), ?_⟩
  refine ⟨_, rfl, _, _, _, _, true, rfl, .ty _, .base (.tup h1), kit_ty (by decide +kernel), _, rfl, iteF ?_⟩
  decreasing_trivial
  refine ⟨n1, _, rfl, iteF ?_⟩
  decreasing_trivial
  refine ⟨_, _, _, _, true, rfl, .ty _, .base (.str _), kit_ty (by decide +kernel), _, rfl, iteF ?_⟩
  decreasing_trivial
  refine ⟨_, _, _, _, true, rfl, .ty _, .base (.tup h2), kit_ty (by decide +kernel), _, rfl, iteF ?_⟩
  decreasing_trivial
  refine ⟨⟨_, SqT.of h2⟩, fun D hD => ?_⟩
  have hl := arity_le ha
  refine lcR (walk_tup (xs := g.pins.map V.str)) (fun i y _ => y = V.bl true) (fun _ _ _ _ _ q => q) (by rw [List.length_map]; omega) hD (fun H' s' => s'.seqT (SqT.of h2)) ?_ ?_
  · rintro i x H1 H2 hi s1 ⟨rfl, hx⟩ k2 hk
    refine ⟨rfl, ?_⟩
    decreasing_trivial
    rw [List.getElem?_map, Option.map_eq_some_iff] at hx
    obtain ⟨z, hz, rfl⟩ := hx
    exact ⟨z, rfl, n2 z (List.mem_of_getElem? hz), hk _ _ (Same.refl _) rfl⟩
  · intro H1 ys s1 hD1 hp
    rw [all_true hp] at hD1
    refine ⟨_, _, rfl, SqL.of hD1, ?_⟩
    rw [all_rep]
    have h1' := s1 _ _ h1
    have h2' := s1 _ _ h2
    refine ⟨_, rfl, iteF ?_⟩
    decreasing_trivial
    refine ⟨g.kind, _, rfl, by rw [List.length_map]; exact ha, fun v H' s' e => ?_⟩
    exact k.go (s1.trans s') e
/-! ### meaning -/
def spGateValue : Sp := fun vs H Q _ => ∃ (k : Kind) (l : Addr) (x y : Bool), (k = .and ∨ k = .or ∨ k = .xor) ∧ vs = [.str k.str, .ref l] ∧ H l = some (.lst [bitV x, bitV y]) ∧ Ret (fun v _ => v = bitV (k.bin x y)) H Q
theorem ok_gate_value {f : Addr} {fd : FuncData} (T : Txt K mg A) (F : Fun K "gate_value" "gate_value" s_gate_value f fd) : FnOk P w K mg base CX0 1 f fd ["kind", "bits"] spGateValue := by
  refine F.ok sc_gate_value (fun vs H Q E h => ?_) (fun cdv Ar outer s H vs Q E hr h => ?_)
  · obtain ⟨kd, l, x, y, _, rfl, _⟩ := h
    rfl
  obtain ⟨kd, l, x, y, hk, rfl, h1, k⟩ := h
  refine ⟨_, (pss_cons (ps_if (pt_cmpR op_in_seq (pv 0) (pe_tup (pa_cons pe_str (pa_cons pe_str pa_nil))) (by rfl)) (pss_one (ps_ret (pe_callTy call_int1 (by rfl) T.z_int bt_int (pa_cons (pe_cmpR op_eq (pv 0) pe_str (nomark _)) pa_nil)))) pss_nil)
      (pss_cons (ps_set (i := 2) sc_gate_value.nd rfl (Or.inl rfl) (pe_callB (cr_sum rfl) (by rfl) T.z_sum bt_sum (pa_cons (pv 1) pa_nil)))
      (pss_cons (ps_if (pt_cmpR op_in_seq (pv 0) (pe_tup (pa_cons pe_str (pa_cons pe_str (pa_cons pe_str (pa_cons pe_str pa_nil))))) (by rfl)) (pss_one (ps_set (i := 3) sc_gate_value.nd rfl (Or.inl rfl) (pe_cmpR op_eq (pv 2) (pe_callB call_len_seq (by rfl) T.z_len PySem.boot_len (pa_cons (pv 1) pa_nil)) (nomark _)))) (pss_one (ps_if (pt_cmpR op_in_seq (pv 0) (pe_tup (pa_cons pe_str (pa_cons pe_str pa_nil))) (by rfl)) (pss_one (ps_set (i := 3) sc_gate_value.nd rfl (Or.inl rfl) (pe_cmpR op_gt (pv 2) pe_int (nomark _)))) (pss_one (ps_set (i := 3) sc_gate_value.nd rfl (Or.inl rfl) (pe_cmpR op_ne (pe_op op_mul (pe_op op_fdiv (pv 2) pe_int) pe_int) (pv 2) (nomark _)))))))
      (pss_one (ps_ret (pe_callTy call_int1 (by rfl) T.z_int bt_int (pa_cons (pe_cmpR op_ne (pv 3) (pe_cmpR op_in_seq (pv 0) (pe_tup (pa_cons pe_str (pa_cons pe_str (pa_cons pe_str (pa_cons pe_str pa_nil))))) (by rfl)) (nomark _)) pa_nil))))))), ?_⟩
  have h1 : H l = some (.lst ([bi x, bi y].map V.int)) := h1
  rcases hk with rfl | rfl | rfl
  · refine ⟨_, rfl, rdIn (b := false) (by decide) rfl rfl (by decide +kernel) fun t ht => ⟨_, rfl, iteF ?_⟩⟩
    have s0 := same_new ht (.tup [.str "low", .str "high"])
    decreasing_trivial
    refine ⟨_, _, rfl, SqL.of (s0 _ _ h1), ?_⟩
    refine ⟨_, rfl, rdIn (b := true) (by decide) rfl rfl (by decide +kernel) fun t1 ht1 => ⟨_, rfl, iteT ?_⟩⟩
    have s1 := s0.trans (same_new ht1 (.tup [.str "and", .str "nand", .str "not", .str "buf"]))
    have h3 := s1 _ _ h1
    decreasing_trivial
    refine rdIn (b := false) (by decide) rfl rfl (by decide +kernel) fun t2 ht2 => ?_
    refine ⟨rfl, .inr ⟨_, rfl, ?_⟩⟩
    refine k.go (s1.trans (same_new ht2 _)) ?_
    cases x <;> cases y <;> rfl
  · refine ⟨_, rfl, rdIn (b := false) (by decide) rfl rfl (by decide +kernel) fun t ht => ⟨_, rfl, iteF ?_⟩⟩
    have s0 := same_new ht (.tup [.str "low", .str "high"])
    decreasing_trivial
    refine ⟨_, _, rfl, SqL.of (s0 _ _ h1), ?_⟩
    refine ⟨_, rfl, rdIn (b := false) (by decide) rfl rfl (by decide +kernel) fun t1 ht1 => ⟨_, rfl, iteF ?_⟩⟩
    have s1 := s0.trans (same_new ht1 (.tup [.str "and", .str "nand", .str "not", .str "buf"]))
    have h3 := s1 _ _ h1
    refine ⟨_, rfl, rdIn (b := true) (by decide) rfl rfl (by decide +kernel) fun t3 ht3 => ⟨_, rfl, iteT ?_⟩⟩
    have s2 := s1.trans (same_new ht3 (.tup [.str "or", .str "nor"]))
    have h4 := s2 _ _ h1
    decreasing_trivial
    refine rdIn (b := false) (by decide) rfl rfl (by decide +kernel) fun t2 ht2 => ?_
    refine ⟨rfl, .inr ⟨_, rfl, ?_⟩⟩
    refine k.go (s2.trans (same_new ht2 _)) ?_
    cases x <;> cases y <;> rfl
  · refine ⟨_, rfl, rdIn (b := false) (by decide) rfl rfl (by decide +kernel) fun t ht => ⟨_, rfl, iteF ?_⟩⟩
    have s0 := same_new ht (.tup [.str "low", .str "high"])
    decreasing_trivial
    refine ⟨_, _, rfl, SqL.of (s0 _ _ h1), ?_⟩
    refine ⟨_, rfl, rdIn (b := false) (by decide) rfl rfl (by decide +kernel) fun t1 ht1 => ⟨_, rfl, iteF ?_⟩⟩
    have s1 := s0.trans (same_new ht1 (.tup [.str "and", .str "nand", .str "not", .str "buf"]))
    have h3 := s1 _ _ h1
    refine ⟨_, rfl, rdIn (b := false) (by decide) rfl rfl (by decide +kernel) fun t3 ht3 => ⟨_, rfl, iteF ?_⟩⟩
    have s2 := s1.trans (same_new ht3 (.tup [.str "or", .str "nor"]))
    have h4 := s2 _ _ h1
    decreasing_trivial
    refine ⟨⟨by show (0 : Int) < 2; decide, by decide⟩, _, _, rfl, rfl, .inl ⟨?_, ?_⟩, ?_⟩
    · cases x <;> cases y <;> decide
    · cases x <;> cases y <;> decide
    decreasing_trivial
    refine rdIn (b := false) (by decide) rfl rfl (by decide +kernel) fun t2 ht2 => ?_
    refine ⟨rfl, .inr ⟨_, rfl, ?_⟩⟩
    refine k.go (s2.trans (same_new ht2 _)) ?_
    cases x <;> cases y <;> rfl
def spJoined : Sp := fun vs H Q _ => ∃ (k x y : Bool), vs = [.str (andOr k), bitV x, bitV y] ∧ Q (bitV (joinB k x y)) H
theorem ok_joined {f : Addr} {fd : FuncData} (T : Txt K mg A) (F : Fun K "joined" "joined" s_joined f fd) : FnOk P w K mg base CX0 1 f fd ["kind", "one", "other"] spJoined := by
  refine F.ok sc_joined (fun vs H Q E h => ?_) (fun cdv Ar outer s H vs Q E hr h => ?_)
  · obtain ⟨kd, x, y, rfl, _⟩ := h
    rfl
  obtain ⟨kd, x, y, rfl, k⟩ := h
  refine ⟨_, (pss_one (ps_ret (pe_ifExp (pt_cmpR op_eq (pv 0) pe_str (nomark _)) (pe_callB (call_min2 rfl) (by rfl) T.z_min bt_min (pa_cons (pv 1) (pa_cons (pv 2) pa_nil))) (pe_callB (call_max2 rfl) (by rfl) T.z_max bt_max (pa_cons (pv 1) (pa_cons (pv 2) pa_nil)))))), ?_⟩
  cases kd
  · decreasing_trivial
    cases x <;> cases y <;> exact ⟨_, _, rfl, k⟩
  · decreasing_trivial
    cases x <;> cases y <;> exact ⟨_, _, rfl, k⟩
end
end Pw
namespace Pw
open PySem PySem.Spec PyProof.Rows L2
local macro_rules
  | `(tactic| decreasing_trivial) => `(tactic| repeat (first
    | refine ⟨_, rfl, ?_⟩
    | refine ⟨_, _, rfl, rfl, ?_⟩
    | refine ⟨rfl, ?_⟩
    | refine ⟨_, _, rfl, .inl (SqL.of (by assumption)), ?_⟩
    | refine ⟨_, _, rfl, .inr (SqT.of (by assumption)), ?_⟩
    | refine ⟨_, _, _, _, rfl, rfl, SqT.of (by assumption), rfl, ?_⟩
    | refine ⟨_, _, _, _, rfl, rfl, SqL.of (by assumption), rfl, ?_⟩
    | refine ⟨_, _, rfl, ?_⟩))
/-! ### lists in step -/
theorem Paired.ofAt {α β : Type} {F : α → β → Prop} : ∀ {l₁ : List α} {l₂ : List β}, l₁.length = l₂.length → (∀ (i : Nat) a b, l₁[i]? = some a → l₂[i]? = some b → F a b) → Paired F l₁ l₂
  | [], [], _, _ => .nil
  | [], _ :: _, h, _ => by simp at h
  | _ :: _, [], h, _ => by simp at h
  | a :: r, b :: t, h, k => .cons (k 0 a b rfl rfl) (Paired.ofAt (by simpa using h) fun i x y hx hy => k (i + 1) x y (by simpa using hx) (by simpa using hy))
theorem Paired.both {α β : Type} {F : α → β → Prop} {l₁ : List α} {l₂ : List β} {i : Nat} {a : α} {b : β} (h : Paired F l₁ l₂) (ha : l₁[i]? = some a) (hb : l₂[i]? = some b) : F a b := by
  obtain ⟨b', hb', q⟩ := Paired.at h ha
  rw [hb] at hb'
  rw [Option.some.inj hb']
  exact q
theorem Paired.ofMap {α β : Type} {f : α → Option β} : ∀ {l₁ : List α} {l₂ : List β}, l₁.map f = l₂.map some → Paired (fun i x => f i = some x) l₁ l₂
  | [], [], _ => .nil
  | [], _ :: _, h => by simp at h
  | _ :: _, [], h => by simp at h
  | a :: r, b :: t, h => by
    rw [List.map_cons, List.map_cons] at h
    exact .cons (List.cons.inj h).1 (Paired.ofMap (List.cons.inj h).2)
theorem Paired.over {α β γ : Type} {F : α → β → Prop} {G : α → γ → Prop} {l : List α} {l₁ : List β} {l₂ : List γ} (h : Paired F l l₁) (k : Paired G l l₂) : Paired (fun b c => ∃ a, F a b ∧ G a c) l₁ l₂ := by
  revert l₂
  induction h with
  | nil => intro l₂ k; cases k; exact .nil
  | cons h1 r ih =>
    intro l₂ k
    cases k with
    | cons k1 kr => exact .cons ⟨_, h1, k1⟩ (ih kr)
section
variable {J : It} {n : Nat} {G : Hp → Prop} {Y : Nat → Hp → V → Hp → Prop}
/-- [e for x in w]: what each element is, by a list in step -/
theorem lcM {α : Type} (w : Walk J n G Y) {g : TG} {te : TE} {vs : List Nat} {σ : L2.St} {H1 : Hp} {D : Addr} {Qd : Hp → Prop} (src : List α) (hsrc : src.length = n) (R : V → α → Hp → Prop) (mono : ∀ y a H H', Keep H H' → R y a H → R y a H') (hn : n ≤ 1000) (hD : H1 D = none)
    (hG : ∀ H', Same H1 H' → G H')
    (hs : ∀ i x H H' a, src[i]? = some a → Same H1 H → Y i H x H' → ∀ (k : V → Hp → Prop), (∀ y H4, Same H H4 → R y a H4 → k y H4) → g x (wipe σ vs) H' fun σ2 H2 => wipe σ2 vs = wipe σ vs ∧ te σ2 H2 k)
    (hd : ∀ H' ys, Same H1 H' → H' D = some (.lst ys) → Paired (fun y a => R y a H') ys src → Qd H') :
    ∃ W : Nat → Nat → Hp → Prop, (∃ m, W 0 m (upd H1 D (.lst []))) ∧ ∀ i m H, W i m H →
      (J.stop i H ∧ Qd H) ∨ (J.go i H ∧ ∃ Nx : Hp → Prop, (∀ H', Nx H' → ∃ m', m' < m ∧ W (i + 1) m' H') ∧ ∀ x H', J.yld i H x H' → g x (wipe σ vs) H' fun σ2 H2 => wipe σ2 vs = wipe σ vs ∧ tYes σ2 H2 fun b H3 =>
        if b = true then te σ2 H3 fun y H4 => ∃ acc, H4 D = some (.lst acc) ∧ acc.length < sizeLine ∧ Nx (upd H4 D (.lst (acc ++ [y]))) else Nx H3) := by
  refine lcR w (fun i y H => ∃ a, src[i]? = some a ∧ R y a H) (fun i y H H' kp ⟨a, e, r⟩ => ⟨a, e, mono y a H H' kp r⟩) hn hD hG (fun i x H H' hi s hY k hk => ?_) fun H' ys s h1 h2 => hd H' ys s h1 ?_
  · have e : src[i]? = some src[i] := List.getElem?_eq_getElem (by omega)
    exact hs i x H H' _ e s hY k fun y H4 s4 r => hk y H4 s4 ⟨_, e, r⟩
  · have hl := h2.length
    rw [List.length_range] at hl
    refine Paired.ofAt (by omega) fun i y a hy ha => ?_
    have hi : i < n := by rw [← hsrc]; exact (List.getElem?_eq_some_iff.mp ha).1
    obtain ⟨a', ha', r⟩ := Paired.both h2 (i := i) (a := i) (b := y) (by rw [List.getElem?_range hi]) hy
    rw [ha] at ha'
    rw [Option.some.inj ha']
    exact r
end
theorem Keep.seqT {K : PySem.W.Frag} {H H' : Hp} {a : Addr} {xs : List V} (e : Keep H H') (h : SqT K H a xs) : SqT K H' a xs := by
  rcases h with (h | ⟨o, h⟩) | h
  · exact .inl (.inl (e.tup h))
  · exact .inl (.inr ⟨o, e _ _ h fun _ q => by cases q⟩)
  · exact .inr h
/-! ### pair sets -/
def PairAt (K : PySem.W.Frag) (H : Hp) (v : V) (p : Bool × Bool) : Prop := ∃ a, v = .ref a ∧ SqT K H a [bitV p.1, bitV p.2]
section
variable {P : Program} {w : World} {K : PySem.W.Frag} {mg : Str → Option Value} {base : Heap} {A : Ad}
theorem PairAt.mono {H H' : Hp} (s : Same H H') {v : V} {p : Bool × Bool} : PairAt K H v p → PairAt K H' v p := fun ⟨a, e, h⟩ => ⟨a, e, s.seqT h⟩
theorem PairAt.keep {H H' : Hp} (s : Keep H H') {v : V} {p : Bool × Bool} : PairAt K H v p → PairAt K H' v p := fun ⟨a, e, h⟩ => ⟨a, e, s.seqT h⟩
def markV (m : Mark) : V := .int m.val
def bitAt (m : Mark) (i : Nat) : Bool := decide (V.int (Builtin.bitAnd (m.val / 2 ^ ((i : Int)).toNat) 1) = V.int 1)
theorem pairs_idx (m : Mark) : Paired (fun i xy => allPairs[i]? = some xy) ((List.range 4).filter (bitAt m)) m.pairs := by
  refine Paired.ofMap ?_
  obtain ⟨a, b, c, d⟩ := m
  cases a <;> cases b <;> cases c <;> cases d <;> decide +kernel
theorem pairs_len (m : Mark) : m.pairs.length ≤ 4 := by
  have h := List.length_filter_le (fun p : Bool × Bool => m.has p.1 p.2) allPairs
  exact h
def spPairs (K : PySem.W.Frag) : Sp := fun vs H Q _ => ∃ m : Mark, vs = [markV m] ∧ Ret (fun v H' => ∃ l ys, v = .ref l ∧ H l = none ∧ H' l = some (.lst ys) ∧ Paired (PairAt K H') ys m.pairs) H Q
theorem ok_pairs_in {f : Addr} {fd : FuncData} (T : Txt K mg A) (F : Fun K "pairs_in" "pairs_in" s_pairs_in f fd) : FnOk P w K mg base CX0 1 f fd ["mark"] (spPairs K) := by
  refine F.ok sc_pairs_in (fun vs H Q E h => ?_) (fun cdv Ar outer s H vs Q E hr h => ?_)
  · obtain ⟨m, rfl, _⟩ := h
    rfl
  obtain ⟨m, rfl, k⟩ := h
  refine ⟨_, (pss_one (ps_ret (pe_lc (own := [("index", 1), ("pair", 2)]) (g := (gTup K 2 (gCons (gName 1) (gCons (gName 2) gNil))))  rfl sc_pairs_in.nd (pi_enumT (by rfl) T.z_enumerate (pa_cons (pe_gc rfl T.g_PAIRS) pa_nil)) (blkOk_by (own := [("index", 1), ("pair", 2)]) (sc := defScope s_pairs_in) (N := ["mark", "index", "pair"]) (by decide +kernel)) (fun _ _ _ _ _ => (pg_tup rfl (pgs_cons (pg_name (i := 1) sc_pairs_in.nd rfl (Or.inl rfl)) (pgs_cons (pg_name (i := 2) sc_pairs_in.nd rfl (Or.inl rfl)) pgs_nil)))) (fun _ _ _ _ _ => (pts_one (pt_cmpR op_eq (pe_op op_and (pe_op op_shr (pv 0) (pv 1)) pe_int) pe_int (nomark _)))) (fun _ _ _ _ _ => (pv 2))))), ?_⟩
  obtain ⟨ps, hps, hP, hp⟩ := T.pairs
  refine ⟨_, _, rfl, hP _, fun D hD => ?_⟩
  refine lcF (walk_enumT (xs := ps.map V.ref)) (bitAt m) (fun i y H => ∃ xy, allPairs[i]? = some xy ∧ PairAt K H y xy) (fun i y H H' kp ⟨xy, e, r⟩ => ⟨xy, e, r.keep kp⟩) (by rw [List.length_map, hps]; decide) hD (fun H' _ => hP H') ?_ ?_
  · rintro i x H1 H2 hi s1 ⟨t, z, rfl, ht, rfl, hz⟩ kk kn hk hkn
    refine ⟨_, _, rfl, SqT.of upd_same, rfl, ?_⟩
    decreasing_trivial
    refine ⟨by omega, ?_⟩
    decreasing_trivial
    rw [List.getElem?_map, Option.map_eq_some_iff] at hz
    obtain ⟨p, hpi, rfl⟩ := hz
    rw [List.length_map, hps] at hi
    have e : allPairs[i]? = some allPairs[i] := List.getElem?_eq_getElem hi
    have sN := same_new ht (.tup [.int (i : Nat), V.ref p])
    cases hb : bitAt m i with
    | true =>
      have hb' := hb
      unfold bitAt at hb'
      refine ifT hb' ?_
      refine ⟨_, rfl, hk hb _ _ sN ⟨_, e, p, rfl, hp i p _ hpi e _⟩⟩
    | false =>
      have hb' := hb
      unfold bitAt at hb'
      exact ifF hb' (hkn hb _ sN)
  · intro H1 ys s1 hD1 hp1
    refine k.go s1 ⟨D, ys, rfl, hD, hD1, ?_⟩
    have e : (ps.map V.ref).length = 4 := by rw [List.length_map, hps]
    rw [e] at hp1
    refine L2.Paired.mapP (Paired.over hp1 (pairs_idx m)) ?_
    rintro y xy ⟨i, ⟨xy', e1, r⟩, e2⟩
    rw [e1] at e2
    rw [← Option.some.inj e2]
    exact r
def spMarkOf (K : PySem.W.Frag) : Sp := fun vs H Q _ => ∃ (l : Addr) (ys : List V) (ps : List (Bool × Bool)), vs = [.ref l] ∧ H l = some (.lst ys) ∧ Paired (PairAt K H) ys ps ∧ Q (markV (Mark.of ps)) H
theorem or_add (m : Mark) (x y : Bool) : Builtin.bitOr m.val (1 * 2 ^ (2 * bi x + bi y).toNat) = (m.add x y).val := by
  obtain ⟨a, b, c, d⟩ := m
  cases a <;> cases b <;> cases c <;> cases d <;> cases x <;> cases y <;> decide +kernel
theorem ok_mark_of {f : Addr} {fd : FuncData} (T : Txt K mg A) (F : Fun K "mark_of" "mark_of" s_mark_of f fd) : FnOk P w K mg base CX0 1 f fd ["pairs"] (spMarkOf K) := by
  refine F.ok sc_mark_of (fun vs H Q E h => ?_) (fun cdv Ar outer s H vs Q E hr h => ?_)
  · obtain ⟨l, ys, ps, rfl, _⟩ := h
    rfl
  obtain ⟨l, ys, ps, rfl, h1, h2, k⟩ := h
  refine ⟨_, (pss_cons (ps_set (i := 1) sc_mark_of.nd rfl (Or.inl rfl) pe_int)
      (pss_cons (ps_for PassesOwn.never rfl (pi_list (pv 0)) (pg_tup rfl (pgs_cons (pg_name (i := 2) sc_mark_of.nd rfl (Or.inl rfl)) (pgs_cons (pg_name (i := 3) sc_mark_of.nd rfl (Or.inl rfl)) pgs_nil))) (pss_one (ps_aug (i := 1) sc_mark_of.nd rfl (Or.inl rfl) (pe_op op_shl pe_int (pe_op op_add (pe_op op_mul pe_int (pv 2)) (pv 3))) ip_or)))
      (pss_one (ps_ret (pv 1))))), ?_⟩
  decreasing_trivial
  refine ⟨⟨_, SqL.of h1⟩, ?_⟩
  refine for_it (walk_list (xs := ys)) (fun i σ H' => (∃ a b, σ = [some (.ref l), some (markV ((ps.take i).foldl (fun m p => m.add p.1 p.2) Mark.none)), a, b]) ∧ H' = H) ⟨⟨_, _, rfl⟩, rfl⟩ (fun _ _ _ _ q => by rw [q.2]; exact SqL.of h1) ?_ ?_
  · rintro i x σ H1 H2 hi ⟨⟨x0, x1, rfl⟩, rfl⟩ ⟨rfl, hx⟩
    obtain ⟨⟨p, q⟩, hp, ⟨a, rfl, ha⟩⟩ := Paired.at h2 hx
    refine ⟨_, _, rfl, ha, rfl, ?_⟩
    decreasing_trivial
    refine ⟨.inl ⟨by decide, by decide⟩, ?_⟩
    decreasing_trivial
    refine ⟨⟨?_, ?_, by decide⟩, ?_⟩
    · cases p <;> cases q <;> decide
    · cases p <;> cases q <;> decide
    decreasing_trivial
    refine ⟨⟨_, _, congrArg (fun z => [some (V.ref l), some z, some (bitV p), some (bitV q)]) (congrArg V.int ?_)⟩, rfl⟩
    rw [List.take_succ, hp, List.foldl_append]
    exact or_add _ p q
  · rintro σ H1 ⟨⟨_, _, rfl⟩, rfl⟩
    decreasing_trivial
    rw [h2.length, List.take_length]
    exact k
end
end Pw
namespace Pw
open PySem PySem.Spec PyProof.Rows L2
local macro_rules
  | `(tactic| decreasing_trivial) => `(tactic| repeat (first
    | refine ⟨_, rfl, ?_⟩
    | refine ⟨_, _, rfl, rfl, ?_⟩
    | refine ⟨rfl, ?_⟩
    | refine ⟨_, _, rfl, .inl (SqL.of (by assumption)), ?_⟩
    | refine ⟨_, _, rfl, .inr (SqT.of (by assumption)), ?_⟩
    | refine ⟨_, _, _, _, rfl, rfl, SqT.of (by assumption), rfl, ?_⟩
    | refine ⟨_, _, _, _, rfl, rfl, SqL.of (by assumption), rfl, ?_⟩
    | refine ⟨_, _, rfl, ?_⟩))
section
variable {P : Program} {w : World} {K : PySem.W.Frag} {mg : Str → Option Value} {base : Heap} {A : Ad}
def spWith : Sp := fun vs H Q _ => ∃ (m : Mark) (s : Nat) (b : Bool), vs = [markV m, .int s, bitV b] ∧ Ret (fun v _ => v = markV (m.withVal s b)) H Q
theorem pair_new {K : PySem.W.Frag} {H : Hp} {t : Addr} {x y : Bool} : PairAt K (upd H t (.tup [bitV x, bitV y])) (.ref t) (x, y) := ⟨t, rfl, in_up⟩
/-- what a pair's place becomes -/
theorem paired_map {α β γ : Type} {F : α → γ → Prop} {f : β → γ} : ∀ {ys : List α} {xs : List β}, Paired (fun y x => F y (f x)) ys xs → Paired F ys (xs.map f)
  | _, _, .nil => .nil
  | _, _, .cons h r => .cons h (paired_map r)
theorem flat_len {α β : Type} {l : List α} {f : α → List β} {c : Nat} (h : ∀ a ∈ l, (f a).length ≤ c) : (l.flatMap f).length ≤ l.length * c := by
  induction l with
  | nil => simp
  | cons a r ih =>
    have h1 := h a List.mem_cons_self
    have h2 := ih fun x hx => h x (List.mem_cons_of_mem _ hx)
    rw [List.flatMap_cons, List.length_append, List.length_cons, Nat.succ_mul]
    omega
theorem ok_with_value {f : Addr} {fd : FuncData} (T : Txt K mg A) (c_pairs_in : Cal P w K mg base 1 "pairs_in" (spPairs K)) (c_mark_of : Cal P w K mg base 1 "mark_of" (spMarkOf K)) (F : Fun K "with_value" "with_value" s_with_value f fd) : FnOk P w K mg base CX0 2 f fd ["mark", "side", "bit"] spWith := by
  refine F.ok sc_with_value (fun vs H Q E h => ?_) (fun cdv Ar outer s H vs Q E hr h => ?_)
  · obtain ⟨m, s, b, rfl, _⟩ := h
    rfl
  obtain ⟨m, sd, b, rfl, k⟩ := h
  refine ⟨_, (pss_cons (ps_if (pt_cmpR op_eq (pv 1) pe_int (nomark _)) (pss_one (ps_ret (pe_c c_mark_of hr (by omega) rfl (pa_cons (pe_lc (own := [("_", 4), ("other", 5)]) (g := (gTup K 2 (gCons (gName 4) (gCons (gName 5) gNil))))  rfl sc_with_value.nd (pi_list (pe_c c_pairs_in hr (by omega) rfl (pa_cons (pv 0) pa_nil))) (blkOk_by (own := [("_", 4), ("other", 5)]) (sc := defScope s_with_value) (N := ["mark", "side", "bit", "one", "_", "other"]) (by decide +kernel)) (fun _ _ _ _ _ => (pg_tup rfl (pgs_cons (pg_name (i := 4) sc_with_value.nd rfl (Or.inl rfl)) (pgs_cons (pg_name (i := 5) sc_with_value.nd rfl (Or.inl rfl)) pgs_nil)))) (fun _ _ _ _ _ => pts_nil) (fun _ _ _ _ _ => (pe_tup (pa_cons (pv 2) (pa_cons (pv 5) pa_nil))))) pa_nil)))) pss_nil)
      (pss_one (ps_ret (pe_c c_mark_of hr (by omega) rfl (pa_cons (pe_lc (own := [("one", 3), ("_", 4)]) (g := (gTup K 2 (gCons (gName 3) (gCons (gName 4) gNil))))  rfl sc_with_value.nd (pi_list (pe_c c_pairs_in hr (by omega) rfl (pa_cons (pv 0) pa_nil))) (blkOk_by (own := [("one", 3), ("_", 4)]) (sc := defScope s_with_value) (N := ["mark", "side", "bit", "one", "_", "other"]) (by decide +kernel)) (fun _ _ _ _ _ => (pg_tup rfl (pgs_cons (pg_name (i := 3) sc_with_value.nd rfl (Or.inl rfl)) (pgs_cons (pg_name (i := 4) sc_with_value.nd rfl (Or.inl rfl)) pgs_nil)))) (fun _ _ _ _ _ => pts_nil) (fun _ _ _ _ _ => (pe_tup (pa_cons (pv 3) (pa_cons (pv 2) pa_nil))))) pa_nil))))), ?_⟩
  decreasing_trivial
  by_cases h0 : sd = 0
  · subst h0
    refine iteT ?_
    refine ⟨_, rfl, m, rfl, ?_⟩
    rintro v H1 s1 ⟨l, ys, rfl, hl0, hl, hp⟩
    decreasing_trivial
    refine ⟨⟨_, SqL.of hl⟩, fun D hD => ?_⟩
    have hlen := pairs_len m
    refine lcM (walk_list (xs := ys)) m.pairs hp.length.symm (fun y p H => PairAt K H y (b, p.2)) (fun _ _ _ _ kp q => q.keep kp) (by rw [hp.length]; omega) hD (fun H' s' => s'.seq (SqL.of hl)) ?_ ?_
    · rintro i x H2 H3 p hpi s2 ⟨rfl, hx⟩ kk hk
      obtain ⟨a, rfl, ha⟩ := (Paired.both hp hx hpi).mono s2
      refine ⟨_, _, rfl, ha, rfl, ?_⟩
      decreasing_trivial
      exact ⟨by show 2 ≤ sizeLine; decide, fun t ht => hk _ _ (same_new ht _) pair_new⟩
    · intro H2 zs s2 hD2 hz
      refine ⟨D, zs, _, rfl, hD2, paired_map (f := fun p : Bool × Bool => (b, p.2)) hz, ?_⟩
      refine k.go (s1.trans s2) ?_
      unfold Mark.withVal
      rw [if_pos rfl]
  · refine ifF (decide_eq_false (by intro q; cases q; exact h0 rfl)) ?_
    decreasing_trivial
    rintro v H1 s1 ⟨l, ys, rfl, hl0, hl, hp⟩
    decreasing_trivial
    refine ⟨⟨_, SqL.of hl⟩, fun D hD => ?_⟩
    have hlen := pairs_len m
    refine lcM (walk_list (xs := ys)) m.pairs hp.length.symm (fun y p H => PairAt K H y (p.1, b)) (fun _ _ _ _ kp q => q.keep kp) (by rw [hp.length]; omega) hD (fun H' s' => s'.seq (SqL.of hl)) ?_ ?_
    · rintro i x H2 H3 p hpi s2 ⟨rfl, hx⟩ kk hk
      obtain ⟨a, rfl, ha⟩ := (Paired.both hp hx hpi).mono s2
      refine ⟨_, _, rfl, ha, rfl, ?_⟩
      decreasing_trivial
      exact ⟨by show 2 ≤ sizeLine; decide, fun t ht => hk _ _ (same_new ht _) pair_new⟩
    · intro H2 zs s2 hD2 hz
      refine ⟨D, zs, _, rfl, hD2, paired_map (f := fun p : Bool × Bool => (p.1, b)) hz, ?_⟩
      refine k.go (s1.trans s2) ?_
      unfold Mark.withVal
      rw [if_neg h0]
def spNegated : Sp := fun vs H Q _ => ∃ (m : Mark), vs = [markV m] ∧ Ret (fun v _ => v = markV m.negated) H Q
theorem ok_negated {f : Addr} {fd : FuncData} (T : Txt K mg A) (c_pairs_in : Cal P w K mg base 1 "pairs_in" (spPairs K)) (c_mark_of : Cal P w K mg base 1 "mark_of" (spMarkOf K)) (F : Fun K "negated" "negated" s_negated f fd) : FnOk P w K mg base CX0 2 f fd ["mark"] spNegated := by
  refine F.ok sc_negated (fun vs H Q E h => ?_) (fun cdv Ar outer s H vs Q E hr h => ?_)
  · obtain ⟨m, rfl, _⟩ := h
    rfl
  obtain ⟨m, rfl, k⟩ := h
  refine ⟨_, (pss_one (ps_ret (pe_c c_mark_of hr (by omega) rfl (pa_cons (pe_lc (own := [("one", 1), ("other", 2)]) (g := (gTup K 2 (gCons (gName 1) (gCons (gName 2) gNil))))  rfl sc_negated.nd (pi_list (pe_c c_pairs_in hr (by omega) rfl (pa_cons (pv 0) pa_nil))) (blkOk_by (own := [("one", 1), ("other", 2)]) (sc := defScope s_negated) (N := ["mark", "one", "other"]) (by decide +kernel)) (fun _ _ _ _ _ => (pg_tup rfl (pgs_cons (pg_name (i := 1) sc_negated.nd rfl (Or.inl rfl)) (pgs_cons (pg_name (i := 2) sc_negated.nd rfl (Or.inl rfl)) pgs_nil)))) (fun _ _ _ _ _ => pts_nil) (fun _ _ _ _ _ => (pe_tup (pa_cons (pe_op op_sub pe_int (pv 1)) (pa_cons (pe_op op_sub pe_int (pv 2)) pa_nil))))) pa_nil)))), ?_⟩
  decreasing_trivial
  rintro v H1 s1 ⟨l, ys, rfl, hl0, hl, hp⟩
  decreasing_trivial
  refine ⟨⟨_, SqL.of hl⟩, fun D hD => ?_⟩
  have hlen := pairs_len m
  refine lcM (walk_list (xs := ys)) m.pairs hp.length.symm (fun y p H => PairAt K H y (!p.1, !p.2)) (fun _ _ _ _ kp q => q.keep kp) (by rw [hp.length]; omega) hD (fun H' s' => s'.seq (SqL.of hl)) ?_ ?_
  · rintro i x H2 H3 ⟨p, q⟩ hpi s2 ⟨rfl, hx⟩ kk hk
    obtain ⟨a, rfl, ha⟩ := (Paired.both hp hx hpi).mono s2
    refine ⟨_, _, rfl, ha, rfl, ?_⟩
    decreasing_trivial
    refine ⟨by show 2 ≤ sizeLine; decide, fun t ht => hk _ _ (same_new ht _) ?_⟩
    cases p <;> cases q <;> exact ⟨t, rfl, in_up⟩
  · intro H2 zs s2 hD2 hz
    exact ⟨D, zs, _, rfl, hD2, paired_map (f := fun p : Bool × Bool => (!p.1, !p.2)) hz, k.go (s1.trans s2) rfl⟩
def spFolded : Sp := fun vs H Q _ => ∃ (k : Kind) (m n : Mark), (k = .and ∨ k = .or ∨ k = .xor) ∧ vs = [.str k.str, markV m, markV n] ∧ Ret (fun v _ => v = markV (Mark.fold2 k m n)) H Q
theorem ok_folded {f : Addr} {fd : FuncData} (T : Txt K mg A) (c_pairs_in : Cal P w K mg base 1 "pairs_in" (spPairs K)) (c_mark_of : Cal P w K mg base 1 "mark_of" (spMarkOf K)) (c_gate_value : Cal P w K mg base 1 "gate_value" spGateValue) (F : Fun K "folded" "folded" s_folded f fd) : FnOk P w K mg base CX0 2 f fd ["kind", "left", "right"] spFolded := by
  refine F.ok sc_folded (fun vs H Q E h => ?_) (fun cdv Ar outer s H vs Q E hr h => ?_)
  · obtain ⟨kd, m, n, _, rfl, _⟩ := h
    rfl
  obtain ⟨kd, m, n, hkd, rfl, k⟩ := h
  refine ⟨_, (pss_cons (ps_set (i := 3) sc_folded.nd rfl (Or.inl rfl) (pe_lst pa_nil))
      (pss_cons (ps_for PassesOwn.never rfl (pi_list (pe_c c_pairs_in hr (by omega) rfl (pa_cons (pv 1) pa_nil))) (pg_tup rfl (pgs_cons (pg_name (i := 4) sc_folded.nd rfl (Or.inr rfl)) (pgs_cons (pg_name (i := 5) sc_folded.nd rfl (Or.inr rfl)) pgs_nil))) (pss_one (ps_expr (pe_bm PySem.F.plainAttrs_list PySem.F.slot_list_extend PySem.F.type_list_extend mt_extend (pv 3) (pa_cons (pe_lc (own := [("c", 6), ("d", 7)]) (g := (gTup K 2 (gCons (gName 6) (gCons (gName 7) gNil))))  rfl sc_folded.nd (pi_list (pe_c c_pairs_in hr (by omega) rfl (pa_cons (pv 2) pa_nil))) (blkOk_by (own := [("c", 6), ("d", 7)]) (sc := defScope s_folded) (N := ["kind", "left", "right", "found", "a", "b", "c", "d"]) (by decide +kernel)) (fun _ _ _ _ _ => (pg_tup rfl (pgs_cons (pg_name (i := 6) sc_folded.nd rfl (Or.inl rfl)) (pgs_cons (pg_name (i := 7) sc_folded.nd rfl (Or.inl rfl)) pgs_nil)))) (fun _ _ _ _ _ => pts_nil) (fun _ _ _ _ _ => (pe_tup (pa_cons (pe_c c_gate_value hr (by omega) rfl (pa_cons (pv 0) (pa_cons (pe_lst (pa_cons (pv 4) (pa_cons (pv 6) pa_nil))) pa_nil))) (pa_cons (pe_c c_gate_value hr (by omega) rfl (pa_cons (pv 0) (pa_cons (pe_lst (pa_cons (pv 5) (pa_cons (pv 7) pa_nil))) pa_nil))) pa_nil))))) pa_nil)))))
      (pss_one (ps_ret (pe_c c_mark_of hr (by omega) rfl (pa_cons (pv 3) pa_nil)))))), ?_⟩
  refine ⟨Nat.zero_le _, fun F0 hF => ?_⟩
  decreasing_trivial
  rintro v H1 s1 ⟨l, ys, rfl, hl0, hl, hp⟩
  decreasing_trivial
  refine ⟨⟨_, SqL.of hl⟩, ?_⟩
  have hlen := pairs_len m
  have hlen2 := pairs_len n
  have hF1 : H1 F0 = some (.lst []) := s1 _ _ upd_same
  have hlF : l ≠ F0 := fun q => by
    rw [q, upd_same] at hl0
    cases hl0
  have sH : Same H H1 := (same_new hF _).trans s1
  refine for_it (walk_list (xs := ys)) (fun i σ H' => (∃ a b c d, σ = [some (.str kd.str), some (markV m), some (markV n), some (.ref F0), a, b, c, d]) ∧ Same H H' ∧ H' l = some (.lst ys) ∧ Paired (PairAt K H') ys m.pairs ∧ ∃ zs, H' F0 = some (.lst zs) ∧ Paired (PairAt K H') zs ((m.pairs.take i).flatMap fun p => n.pairs.map fun q => (kd.bin p.1 q.1, kd.bin p.2 q.2))) ⟨⟨_, _, _, _, rfl⟩, sH, hl, hp, [], hF1, .nil⟩ (fun _ _ _ _ q => SqL.of q.2.2.1) ?_ ?_
  · rintro i x σ H2 H2' hi ⟨⟨a0, b0, c0, d0, rfl⟩, sH2, hl2, hp2, zs, hF2, hz⟩ ⟨rfl, hx⟩
    have em : m.pairs[i]? = some (m.pairs[i]'(by rw [← hp.length]; exact hi)) := List.getElem?_eq_getElem _
    generalize m.pairs[i]'(by rw [← hp.length]; exact hi) = pq at em
    obtain ⟨p, q⟩ := pq
    obtain ⟨a, rfl, ha⟩ := Paired.both hp2 hx em
    refine ⟨_, _, rfl, ha, rfl, ?_⟩
    decreasing_trivial
    refine ⟨.inl ⟨rfl, _, SqL.of hF2⟩, ?_⟩
    decreasing_trivial
    rintro v H3 s3 ⟨l2, ys2, rfl, hn2, hl3, hp3⟩
    decreasing_trivial
    refine ⟨⟨_, SqL.of hl3⟩, fun D hD => ?_⟩
    refine lcM (walk_list (xs := ys2)) n.pairs hp3.length.symm (fun y r H => PairAt K H y (kd.bin p r.1, kd.bin q r.2)) (fun _ _ _ _ kp q => q.keep kp) (by rw [hp3.length]; omega) hD (fun H' s' => s'.seq (SqL.of hl3)) ?_ ?_
    · rintro j x H4 H4' ⟨r1, r2⟩ hpi s4 ⟨rfl, hx4⟩ kk hk
      obtain ⟨a4, rfl, ha4⟩ := (Paired.both hp3 hx4 hpi).mono s4
      refine ⟨_, _, rfl, ha4, rfl, ?_⟩
      decreasing_trivial
      refine ⟨by show 2 ≤ sizeLine; decide, fun u1 hu1 => ?_⟩
      refine ⟨kd, u1, p, r1, hkd, rfl, upd_same, ?_⟩
      rintro v5 H5 s5 rfl
      decreasing_trivial
      refine ⟨by show 2 ≤ sizeLine; decide, fun u2 hu2 => ?_⟩
      refine ⟨kd, u2, q, r2, hkd, rfl, upd_same, ?_⟩
      rintro v6 H6 s6 rfl
      exact ⟨by show 2 ≤ sizeLine; decide, fun t ht => hk _ _ ((((same_new hu1 _).trans s5).trans ((same_new hu2 _).trans s6)).trans (same_new ht _)) pair_new⟩
    · intro H4 ws s4 hD4 hw
      have hF4 := s4 _ _ (s3 _ _ hF2)
      have hl4 := s4 _ _ (s3 _ _ hl2)
      have kp : Keep H4 (upd H4 F0 (.lst (zs ++ ws))) := keep_lst hF4
      refine ⟨F0, D, zs, ws, rfl, rfl, hF4, hD4, ?_, ?_⟩
      · have q1 := hz.length
        have q2 := hw.length
        have q3 : ((m.pairs.take i).flatMap fun p => n.pairs.map fun q => (kd.bin p.1 q.1, kd.bin p.2 q.2)).length ≤ 16 := by
          have e4 : (m.pairs.take i).length ≤ 4 := Nat.le_trans (by rw [List.length_take]; exact Nat.min_le_right _ _) hlen
          have := flat_len (l := m.pairs.take i) (f := fun p => n.pairs.map fun q => (kd.bin p.1 q.1, kd.bin p.2 q.2)) (c := 4) fun a _ => by rw [List.length_map]; exact hlen2
          omega
        exact sz (by omega)
      · refine ⟨⟨_, _, _, _, rfl⟩, Same.mut ((sH2.trans s3).trans s4) hF, ?_, ?_, _, upd_same, ?_⟩
        · rw [upd_ne hlF]
          exact hl4
        · exact L2.Paired.mapP hp2 fun _ _ q => ((q.mono s3).mono s4).keep kp
        · rw [List.take_succ, em, List.flatMap_append]
          refine Paired.app (L2.Paired.mapP hz fun _ _ q => ((q.mono s3).mono s4).keep kp) ?_
          show Paired _ ws ([(p, q)].flatMap _)
          rw [List.flatMap_singleton]
          exact paired_map (f := fun r : Bool × Bool => (kd.bin p r.1, kd.bin q r.2)) (L2.Paired.mapP hw fun _ _ q => q.keep kp)
  · rintro σ H2 ⟨⟨a0, b0, c0, d0, rfl⟩, sH2, hl2, hp2, zs, hF2, hz⟩
    decreasing_trivial
    rw [hp.length, List.take_length] at hz
    exact ⟨F0, zs, _, rfl, hF2, hz, k.go sH2 rfl⟩
end
end Pw
namespace Pw
open PySem PySem.Spec PyProof.Rows L2
local macro_rules
  | `(tactic| decreasing_trivial) => `(tactic| repeat (first
    | refine ⟨_, rfl, ?_⟩
    | refine ⟨_, _, rfl, rfl, ?_⟩
    | refine ⟨rfl, ?_⟩
    | refine ⟨_, _, rfl, .inl (SqL.of (by assumption)), ?_⟩
    | refine ⟨_, _, rfl, .inr (SqT.of (by assumption)), ?_⟩
    | refine ⟨_, _, _, _, rfl, rfl, SqT.of (by assumption), rfl, ?_⟩
    | refine ⟨_, _, _, _, rfl, rfl, SqL.of (by assumption), rfl, ?_⟩
    | refine ⟨_, _, rfl, ?_⟩))
section
variable {P : Program} {w : World} {K : PySem.W.Frag} {mg : Str → Option Value} {base : Heap} {A : Ad}
def Kind.plain : Kind → Kind
  | .nand => .and
  | .nor => .or
  | .xnor => .xor
  | k => k
def plainTab : List (Key × V) := [(Sum.inr "nand", .str "and"), (Sum.inr "nor", .str "or"), (Sum.inr "xnor", .str "xor")]
theorem dget_plain (k : Kind) : (valV (mergeK [] plainTab) (Sum.inr k.str)).getD (.str k.str) = .str k.plain.str := by cases k <;> rfl
theorem in_const (k : Kind) : inV (.str k.str) [.str "low", .str "high"] = k.const.isSome := by cases k <;> decide +kernel
theorem in_neg (k : Kind) : inV (.str k.str) [.str "nand", .str "nor", .str "xnor", .str "not"] = k.neg := by cases k <;> decide +kernel
theorem plain_fold (k : Kind) (m n : Mark) : Mark.fold2 k.plain m n = Mark.fold2 k m n := by cases k <;> rfl
theorem cut1 {x : V} {xs : List V} : cutV (x :: xs) (some 1) none = xs := by
  simp [cutV, HT.sIx]
def spGateMark : Sp := fun vs H Q _ => ∃ (k : Kind) (l : Addr) (ms : List Mark), vs = [.str k.str, .ref l] ∧ H l = some (.lst (ms.map markV)) ∧ k.arity ms.length = true ∧ Ret (fun v _ => v = markV (gateMark k ms)) H Q
theorem ok_gate_mark {f : Addr} {fd : FuncData} (T : Txt K mg A) (c_folded : Cal P w K mg base 2 "folded" spFolded) (c_negated : Cal P w K mg base 2 "negated" spNegated) (F : Fun K "gate_mark" "gate_mark" s_gate_mark f fd) : FnOk P w K mg base CX0 3 f fd ["kind", "marks"] spGateMark := by
  refine F.ok sc_gate_mark (fun vs H Q E h => ?_) (fun cdv Ar outer s H vs Q E hr h => ?_)
  · obtain ⟨kd, l, ms, rfl, _⟩ := h
    rfl
  obtain ⟨kd, l, ms, rfl, hl, ha, k⟩ := h
  refine ⟨_, (pss_cons (ps_if (pt_cmpR op_in_seq (pv 0) (pe_tup (pa_cons pe_str (pa_cons pe_str pa_nil))) (by rfl)) (pss_one (ps_ret (pe_ifExp (pt_cmpR op_eq (pv 0) pe_str (nomark _)) pe_int pe_int))) pss_nil)
      (pss_cons (ps_set (i := 2) sc_gate_mark.nd rfl (Or.inl rfl) (pe_dget2 (hu_of hr) (pe_disp (pps_cons pe_str pe_str (pps_cons pe_str pe_str (pps_cons pe_str pe_str pps_nil))) (by rfl) (by rfl) (fun z => by cases z) (by decide)) (pv 0) (pv 0) ⟨by rfl, by rfl, by rfl, by rfl⟩))
      (pss_cons (ps_set (i := 3) sc_gate_mark.nd rfl (Or.inl rfl) (pe_ix ix_list (pv 1) pe_int (fun _ _ => rfl)))
      (pss_cons (ps_for PassesOwn.never rfl (pi_list (pe_slice sl_list (pv 1) (po_some pe_int) po_none)) (pg_name (i := 4) sc_gate_mark.nd rfl (Or.inl rfl)) (pss_one (ps_set (i := 3) sc_gate_mark.nd rfl (Or.inl rfl) (pe_c c_folded hr (by omega) rfl (pa_cons (pv 2) (pa_cons (pv 3) (pa_cons (pv 4) pa_nil)))))))
      (pss_one (ps_ret (pe_ifExp (pt_cmpR op_in_seq (pv 0) (pe_tup (pa_cons pe_str (pa_cons pe_str (pa_cons pe_str (pa_cons pe_str pa_nil))))) (by rfl)) (pe_c c_negated hr (by omega) rfl (pa_cons (pv 3) pa_nil)) (pv 3)))))))), ?_⟩
  refine ⟨_, rfl, rdIn (by decide) rfl rfl (in_const kd) fun t ht => ⟨_, rfl, ?_⟩⟩
  have s0 := same_new ht (.tup [.str "low", .str "high"])
  cases hc : kd.const with
  | some b =>
    refine iteT ?_
    cases kd <;> first | (cases hc; done) | skip
    · decreasing_trivial
      exact k.go s0 rfl
    · decreasing_trivial
      exact k.go s0 rfl
  | none =>
    refine iteF ?_
    obtain ⟨m0, r, rfl⟩ : ∃ m0 r, ms = m0 :: r := by
      cases ms with
      | nil => cases kd <;> first | (cases hc; done) | (cases ha; done)
      | cons m0 r => exact ⟨m0, r, rfl⟩
    have hr4 := arity_le ha
    rw [List.length_cons] at hr4
    have hcm : kd.constMark = none := by cases kd <;> first | (cases hc; done) | rfl
    refine fun p hp => ⟨upd_same, plainTab, rfl, by decide, _, rfl, .inl ⟨_, .inl upd_same⟩, _, rfl, _, rfl, _, DGet.k (k := Sum.inr kd.str) upd_same, ?_⟩
    rw [dget_plain]
    have s1 : Same H (upd (upd (upd H t (.tup [.str "low", .str "high"])) p (.dK [])) p (.dK (mergeK [] plainTab))) := s0.trans (Same.mut (same_new hp _) hp)
    have hl1 := s1 _ _ hl
    decreasing_trivial
    refine ⟨l, _, 0, _, rfl, rfl, SqL.of hl1, atI_nat (j := 0) rfl, ?_⟩
    decreasing_trivial
    refine ⟨_, _, rfl, SqL.of hl1, fun l2 hl2 => ?_⟩
    have s2 := s1.trans (same_new hl2 (.lst (cutV (markV m0 :: r.map markV) (some 1) none)))
    have hL : (upd (upd (upd (upd H t (.tup [.str "low", .str "high"])) p (.dK [])) p (.dK (mergeK [] plainTab))) l2 (.lst (cutV (markV m0 :: r.map markV) (some 1) none))) l2 = some (.lst (r.map markV)) := by rw [upd_same, cut1]
    decreasing_trivial
    refine ⟨⟨_, SqL.of hL⟩, ?_⟩
    refine for_it (walk_list (xs := r.map markV)) (fun i σ H' => (∃ x, σ = [some (.str kd.str), some (.ref l), some (.str kd.plain.str), some (markV ((r.take i).foldl (Mark.fold2 kd) m0)), x]) ∧ Same H H' ∧ H' l2 = some (.lst (r.map markV))) ⟨⟨_, rfl⟩, s2, hL⟩ (fun _ _ _ _ q => SqL.of q.2.2) ?_ ?_
    · rintro i x σ H2 H2' hi ⟨⟨x0, rfl⟩, sH2, hl2'⟩ ⟨rfl, hx⟩
      rw [List.getElem?_map, Option.map_eq_some_iff] at hx
      obtain ⟨m, hm, rfl⟩ := hx
      decreasing_trivial
      have hkp : kd.plain = .and ∨ kd.plain = .or ∨ kd.plain = .xor := by
        have h1 : 1 ≤ r.length := by have := (List.getElem?_eq_some_iff.mp hm).1; omega
        cases kd <;> first | (cases hc; done) | exact .inl rfl | exact .inr (.inl rfl) | exact .inr (.inr rfl) | (simp [Kind.arity] at ha; subst ha; simp at h1)
      refine ⟨kd.plain, _, _, hkp, rfl, ?_⟩
      rintro v H3 s3 rfl
      refine ⟨⟨_, congrArg (fun z => [some (V.str kd.str), some (V.ref l), some (V.str kd.plain.str), some z, some (markV m)]) (congrArg markV ?_)⟩, sH2.trans s3, s3 _ _ hl2'⟩
      rw [List.take_succ, hm, List.foldl_append, plain_fold]
      rfl
    · rintro σ H2 ⟨⟨x0, rfl⟩, sH2, hl2'⟩
      rw [List.length_map, List.take_length]
      refine ⟨_, rfl, rdIn (by decide) rfl rfl (in_neg kd) fun t2 ht2 => ⟨_, rfl, ?_⟩⟩
      have s3 := sH2.trans (same_new ht2 (.tup [.str "nand", .str "nor", .str "xnor", .str "not"]))
      cases hn : kd.neg with
      | true =>
        refine iteT ?_
        decreasing_trivial
        rintro v H3 s4 rfl
        refine k.go (s3.trans s4) ?_
        unfold gateMark
        rw [hcm, if_pos hn]
      | false =>
        refine iteF ?_
        decreasing_trivial
        refine k.go s3 ?_
        unfold gateMark
        rw [hcm, if_neg (by rw [hn]; decide)]
def spStuck : Sp := fun vs H Q _ => ∃ (v : V) (u : Ver Str) (g : Str) (i : Nat), vs = [v, .str g, .int i] ∧ VerAt H v u ∧ PyData.strOk g = true ∧ Ret (fun v _ => v = optV (u.stuck g i)) H Q
theorem ok_stem : PyData.strOk "stem" = true := by decide +kernel
theorem ok_pin : PyData.strOk "pin" = true := by decide +kernel
theorem ok_short : PyData.strOk "short" = true := by decide +kernel
/-- flat data -/
def flatD : PyData → Bool
  | .none => true
  | .bool _ => true
  | .int _ => true
  | .str x => PyData.strOk x
  | _ => false
theorem flat_lay : ∀ {xs : List PyData}, xs.all flatD = true → PyData.canLayAll0 xs = true ∧ PyData.depthAll xs ≤ 1
  | [], _ => by simp [PyData.canLayAll0, PyData.depthAll]
  | x :: r, h => by
    rw [List.all_cons, Bool.and_eq_true] at h
    obtain ⟨i1, i2⟩ := flat_lay h.2
    have h1 := h.1
    cases x <;> first | (cases h1; done) | skip
    all_goals
      simp [PyData.canLayAll0, PyData.depthAll, PyData.canLay0, PyData.depth, i1, i2]
      try (first | omega | exact h1)
theorem shp {xs : List PyData} (h : xs.all flatD = true) : SeqAt.shaped (.tuple xs) = true := by
  obtain ⟨h1, h2⟩ := flat_lay h
  unfold SeqAt.shaped
  simp only [PyData.canLay0, PyData.depth, h1, Bool.true_and, decide_eq_true_eq]
  apply decide_eq_true
  omega
theorem eqv3 (s l g : Str) (x : PyData) (i : Int) : PyData.eqv (.tuple [.str s, .str l, x]) (.tuple [.str "pin", .str g, .int i]) = (decide (s = "pin") && (decide (l = g) && PyData.eqv x (.int i))) := by
  simp [PyData.eqv, PyData.eqvAll, Bool.beq_eq_decide_eq]
theorem ok_stuck_pin {f : Addr} {fd : FuncData} (T : Txt K mg A) (F : Fun K "stuck_pin" "stuck_pin" s_stuck_pin f fd) : FnOk P w K mg base CX0 1 f fd ["version", "gate", "index"] spStuck := by
  refine F.ok sc_stuck_pin (fun vs H Q E h => ?_) (fun cdv Ar outer s H vs Q E hr h => ?_)
  · obtain ⟨v, u, g, i, rfl, _⟩ := h
    rfl
  obtain ⟨v, u, g, i, rfl, hu, hg, k⟩ := h
  refine ⟨_, (pss_cons (ps_if (PW.pt (pw_and (pt_cmp (pc_notN (pv 0))) (pw_and1 (pt_cmpR (op_eqD (hu64 hr)) (pe_slice sl_tupA (pv 0) po_none (po_some pe_int)) (pe_tup (pa_cons pe_str (pa_cons (pv 1) (pa_cons (pv 2) pa_nil)))) (nomark _))))) (pss_one (ps_ret (pe_ix ix_tup (pv 0) pe_int (fun _ _ => rfl)))) pss_nil)
      (pss_one (ps_ret pe_non))), ?_⟩
  cases u with
  | right =>
    obtain rfl : v = .non := hu
    decreasing_trivial
    exact k.go (Same.refl _) rfl
  | stem l b =>
    obtain ⟨a, rfl, h1, hso⟩ := hu
    have hso : PyData.strOk l = true := hso l (by simp [verStrs])
    decreasing_trivial
    refine ⟨_, _, rfl, SqT.of h1, fun _ => ?_, fun hn => absurd ⟨rfl, rfl⟩ hn⟩
    decreasing_trivial
    refine ⟨by show 3 ≤ sizeLine; decide, fun t ht => ?_⟩
    refine ⟨_, _, .tup (SqT.of (same_new ht _ _ _ h1)) (.cons (.str _) (.cons (.str _) (.cons (.int _) .nil))), .tup in_up (.cons (.str _) (.cons (.str _) (.cons (.int _) .nil))), shp (by simp [flatD, hso, ok_stem]), shp (by simp [flatD, hg, ok_pin]), ?_⟩
    rw [eqv3]
    decreasing_trivial
    exact k.go (same_new ht _) rfl
  | pin l j b =>
    obtain ⟨a, rfl, h1, hso⟩ := hu
    have hso : PyData.strOk l = true := hso l (by simp [verStrs])
    decreasing_trivial
    refine ⟨_, _, rfl, SqT.of h1, fun hn => absurd hn.2 (by show ¬ ((3 : Nat) = 4); decide), fun _ t0 ht0 => ?_⟩
    decreasing_trivial
    refine ⟨by show 3 ≤ sizeLine; decide, fun t ht => ?_⟩
    have s1 := (same_new ht0 (.tup (cutV (verTup (Ver.pin l j b)) none (some 3)))).trans (same_new ht (.tup [.str "pin", .str g, .int (i : Int)]))
    have h0 := (same_new ht (.tup [.str "pin", .str g, .int (i : Int)])) t0 _ upd_same
    refine ⟨_, _, .tup (SqT.of h0) (.cons (.str _) (.cons (.str _) (.cons (.int _) .nil))), .tup in_up (.cons (.str _) (.cons (.str _) (.cons (.int _) .nil))), shp (by simp [flatD, hso, ok_pin]), shp (by simp [flatD, hg, ok_pin]), ?_⟩
    rw [eqv3]
    have h1' := s1 _ _ h1
    refine ⟨_, rfl, ?_⟩
    by_cases e : l = g ∧ j = i
    · refine ifT (by simp [e.1, e.2, PyData.eqv]) ?_
      decreasing_trivial
      refine k.go s1 ?_
      show bitV b = optV (if l = g ∧ j = i then some b else none)
      rw [if_pos e]
      rfl
    · refine ifF ?_ ?_
      · by_cases e1 : l = g
        · have e2 : j ≠ i := fun q => e ⟨e1, q⟩
          simp [PyData.eqv, e1]
          omega
        · simp [e1]
      decreasing_trivial
      refine k.go s1 ?_
      show V.non = optV (if l = g ∧ j = i then some b else none)
      rw [if_neg e]
      rfl
  | short x y b =>
    obtain ⟨a, rfl, h1, hso'⟩ := hu
    have hso : PyData.strOk x = true := hso' x (by simp [verStrs])
    have hso2 : PyData.strOk y = true := hso' y (by simp [verStrs])
    decreasing_trivial
    refine ⟨_, _, rfl, SqT.of h1, fun hn => absurd hn.2 (by show ¬ ((3 : Nat) = 4); decide), fun _ t0 ht0 => ?_⟩
    decreasing_trivial
    refine ⟨by show 3 ≤ sizeLine; decide, fun t ht => ?_⟩
    have s1 := (same_new ht0 (.tup (cutV (verTup (Ver.short x y b)) none (some 3)))).trans (same_new ht (.tup [.str "pin", .str g, .int (i : Int)]))
    have h0 := (same_new ht (.tup [.str "pin", .str g, .int (i : Int)])) t0 _ upd_same
    refine ⟨_, _, .tup (SqT.of h0) (.cons (.str _) (.cons (.str _) (.cons (.str _) .nil))), .tup in_up (.cons (.str _) (.cons (.str _) (.cons (.int _) .nil))), shp (by simp [flatD, hso, hso2, ok_short]), shp (by simp [flatD, hg, ok_pin]), ?_⟩
    rw [eqv3]
    decreasing_trivial
    exact k.go s1 rfl
end
end Pw
namespace Pw
open PySem PySem.Spec PyProof.Rows L2
local macro_rules
  | `(tactic| decreasing_trivial) => `(tactic| repeat (first
    | refine ⟨_, rfl, ?_⟩
    | refine ⟨_, _, rfl, rfl, ?_⟩
    | refine ⟨rfl, ?_⟩
    | refine ⟨_, _, rfl, .inl (SqL.of (by assumption)), ?_⟩
    | refine ⟨_, _, rfl, .inr (SqT.of (by assumption)), ?_⟩
    | refine ⟨_, _, _, _, rfl, rfl, SqT.of (by assumption), rfl, ?_⟩
    | refine ⟨_, _, _, _, rfl, rfl, SqL.of (by assumption), rfl, ?_⟩
    | refine ⟨_, _, rfl, ?_⟩))
theorem oc_it {J : It} {n : Nat} {G : Hp → Prop} {Y : Nat → Hp → V → Hp → Prop} (w : Walk J n G Y) {g : TG} {tt : TT} {vs : List Nat} {σ : L2.St} {H0 : Hp} {Qd : Hp → Prop} {B : L2.St → Hp → (Hp → Prop) → Prop} (Pv : Nat → Hp → Prop) (h0 : Pv 0 H0) (hG : ∀ i H, i ≤ n → Pv i H → G H)
    (hs : ∀ i x H H', i < n → Pv i H → Y i H x H' → g x (wipe σ vs) H' fun σ2 H2 => wipe σ2 vs = wipe σ vs ∧ tt σ2 H2 fun b H3 => if b = true then B σ2 H3 (Pv (i + 1)) else Pv (i + 1) H3) (hd : ∀ H, Pv n H → Qd H) :
    ∃ W : Nat → Nat → Hp → Prop, (∃ m, W 0 m H0) ∧ ∀ i m H, W i m H →
      (J.stop i H ∧ Qd H) ∨ (J.go i H ∧ ∃ Nx : Hp → Prop, (∀ H', Nx H' → ∃ m', m' < m ∧ W (i + 1) m' H') ∧ ∀ x H', J.yld i H x H' → g x (wipe σ vs) H' fun σ2 H2 => wipe σ2 vs = wipe σ vs ∧ tt σ2 H2 fun b H3 =>
        if b = true then B σ2 H3 Nx else Nx H3) := by
  refine ⟨fun i m H => m = n - i ∧ i ≤ n ∧ Pv i H, ⟨n, by simp, Nat.zero_le _, h0⟩, ?_⟩
  rintro i m H ⟨rfl, hi, p⟩
  have q := hG i H hi p
  by_cases hlt : i < n
  · refine .inr ⟨w.goes i H hlt q, Pv (i + 1), fun H' p' => ⟨n - (i + 1), by omega, rfl, hlt, p'⟩, fun x H' y => hs i x H H' hlt p (w.yields i H x H' hlt q y)⟩
  · have e : i = n := by omega
    subst e
    exact .inl ⟨w.stops H q, hd H p⟩
theorem vals_eq {α : Type} {f : α → V} : ∀ {ys : List V} {xs : List α}, Paired (fun y x => y = f x) ys xs → ys = xs.map f
  | _, _, .nil => rfl
  | _, _, .cons h r => by rw [List.map_cons, h, vals_eq r]
theorem upd_upd {H : Hp} {p : Addr} {a b : HO} : upd (upd H p a) p b = upd H p b := by
  funext q
  by_cases e : q = p
  · rw [e, upd_same, upd_same]
  · rw [upd_ne e, upd_ne e, upd_ne e]
theorem sz2 {a b : Nat} (h : a + b ≤ 1000) : a + b ≤ sizeLine := Nat.le_of_lt (small1000 h)
section
variable {P : Program} {w : World} {K : PySem.W.Frag} {mg : Str → Option Value} {base : Heap} {A : Ad}
def spSources (A : Ad) : Sp := fun vs H Q _ => ∃ v C, vs = [v] ∧ CParts A H v C ∧ Ret (fun v H' => ∃ l, v = .ref l ∧ H l = none ∧ H' l = some (.lst (C.sources.map V.str))) H Q
theorem ok_sources {f : Addr} {fd : FuncData} (T : Txt K mg A) (F : Fun K "sources" "Circuit.sources" s_Circuit_sources f fd) : FnOk P w K mg base CX0 1 f fd ["self"] (spSources A) := by
  refine F.ok sc_Circuit_sources (fun vs H Q E h => ?_) (fun cdv Ar outer s H vs Q E hr h => ?_)
  · obtain ⟨v, C, rfl, _⟩ := h
    rfl
  obtain ⟨v, C, rfl, ⟨p, dx, fs, aI, aR, aG, aO, vR, vG, rfl, c⟩, k⟩ := h
  refine ⟨_, (pss_one (ps_ret (pe_op op_cat (pe_callTy call_list_of (by rfl) T.z_list bt_list (pa_cons (pe_fld (pv 0) rfl) pa_nil)) (pe_lc (own := [("cell", 1)])  rfl sc_Circuit_sources.nd (pi_tup (pe_fld (pv 0) rfl)) (blkOk_by (own := [("cell", 1)]) (sc := defScope s_Circuit_sources) (N := ["self", "cell"]) (by decide +kernel)) (fun _ _ _ _ _ => (pg_name (i := 1) sc_Circuit_sources.nd rfl (Or.inl rfl))) (fun _ _ _ _ _ => pts_nil) (fun _ _ _ _ _ => (pe_ix (ix_tupB (K := K) rfl) (pv 1) pe_int (fun _ _ => rfl))))))), ?_⟩
  refine ⟨_, rfl, _, _, _, _, _, rfl, c.ob, T.cC, T.nC_inputs, c.fI, ?_⟩
  refine ⟨_, _, rfl, .inr (SqT.of c.hI), fun l hl => ?_⟩
  have s1 := same_new hl (.lst (C.ins.map V.str))
  have c1 := c.mono s1
  refine ⟨_, rfl, _, _, _, _, _, rfl, c1.ob, T.cC, T.nC_registers, c1.fR, ?_⟩
  refine ⟨_, rfl, ⟨_, SqT.of c1.hR⟩, fun D hD => ?_⟩
  refine lcM (walk_tup (xs := vR)) C.regs c1.regs.length.symm (fun y r _ => y = V.str r.1) (fun _ _ _ _ _ q => q) (by rw [c1.regs.length]; have := c.sm.r; omega) hD (fun H' s' => s'.seqT (SqT.of c1.hR)) ?_ ?_
  · rintro i x H2 H3 r hr2 s2 ⟨rfl, hx⟩ kk hk
    obtain ⟨a, rfl, ha⟩ := (Paired.both c1.regs hx hr2).mono s2
    decreasing_trivial
    exact hk _ _ (Same.refl _) rfl
  · intro H2 zs s2 hD2 hz
    rw [vals_eq hz] at hD2
    refine ⟨_, _, _, _, rfl, rfl, s2 _ _ upd_same, hD2, ?_, fun q hq => ?_⟩
    · rw [List.length_map, List.length_map]
      have := c.sm.r
      have := c.sm.i
      exact sz2 (by omega)
    · refine k.go ((s1.trans s2).trans (same_new hq _)) ⟨q, rfl, (s1.trans s2).free hq, ?_⟩
      rw [upd_same]
      unfold Circ.sources
      rw [List.map_append, List.map_map]
      rfl
def spSinks (A : Ad) : Sp := fun vs H Q _ => ∃ v C, vs = [v] ∧ CParts A H v C ∧ Ret (fun v H' => ∃ l, v = .ref l ∧ H l = none ∧ H' l = some (.lst (C.sinks.map V.str))) H Q
theorem ok_sinks {f : Addr} {fd : FuncData} (T : Txt K mg A) (F : Fun K "sinks" "Circuit.sinks" s_Circuit_sinks f fd) : FnOk P w K mg base CX0 1 f fd ["self"] (spSinks A) := by
  refine F.ok sc_Circuit_sinks (fun vs H Q E h => ?_) (fun cdv Ar outer s H vs Q E hr h => ?_)
  · obtain ⟨v, C, rfl, _⟩ := h
    rfl
  obtain ⟨v, C, rfl, ⟨p, dx, fs, aI, aR, aG, aO, vR, vG, rfl, c⟩, k⟩ := h
  refine ⟨_, (pss_one (ps_ret (pe_op op_cat (pe_callTy call_list_of (by rfl) T.z_list bt_list (pa_cons (pe_fld (pv 0) rfl) pa_nil)) (pe_lc (own := [("cell", 1)])  rfl sc_Circuit_sinks.nd (pi_tup (pe_fld (pv 0) rfl)) (blkOk_by (own := [("cell", 1)]) (sc := defScope s_Circuit_sinks) (N := ["self", "cell"]) (by decide +kernel)) (fun _ _ _ _ _ => (pg_name (i := 1) sc_Circuit_sinks.nd rfl (Or.inl rfl))) (fun _ _ _ _ _ => pts_nil) (fun _ _ _ _ _ => (pe_ix (ix_tupB (K := K) rfl) (pv 1) pe_int (fun _ _ => rfl))))))), ?_⟩
  refine ⟨_, rfl, _, _, _, _, _, rfl, c.ob, T.cC, T.nC_outputs, c.fO, ?_⟩
  refine ⟨_, _, rfl, .inr (SqT.of c.hO), fun l hl => ?_⟩
  have s1 := same_new hl (.lst (C.outs.map V.str))
  have c1 := c.mono s1
  refine ⟨_, rfl, _, _, _, _, _, rfl, c1.ob, T.cC, T.nC_registers, c1.fR, ?_⟩
  refine ⟨_, rfl, ⟨_, SqT.of c1.hR⟩, fun D hD => ?_⟩
  refine lcM (walk_tup (xs := vR)) C.regs c1.regs.length.symm (fun y r _ => y = V.str r.2) (fun _ _ _ _ _ q => q) (by rw [c1.regs.length]; have := c.sm.r; omega) hD (fun H' s' => s'.seqT (SqT.of c1.hR)) ?_ ?_
  · rintro i x H2 H3 r hr2 s2 ⟨rfl, hx⟩ kk hk
    obtain ⟨a, rfl, ha⟩ := (Paired.both c1.regs hx hr2).mono s2
    decreasing_trivial
    exact hk _ _ (Same.refl _) rfl
  · intro H2 zs s2 hD2 hz
    rw [vals_eq hz] at hD2
    refine ⟨_, _, _, _, rfl, rfl, s2 _ _ upd_same, hD2, ?_, fun q hq => ?_⟩
    · rw [List.length_map, List.length_map]
      have := c.sm.r
      have := c.sm.o
      exact sz2 (by omega)
    · refine k.go ((s1.trans s2).trans (same_new hq _)) ⟨q, rfl, (s1.trans s2).free hq, ?_⟩
      rw [upd_same]
      unfold Circ.sinks
      rw [List.map_append, List.map_map]
      rfl
def spLines (A : Ad) : Sp := fun vs H Q _ => ∃ v C, vs = [v] ∧ CParts A H v C ∧ Ret (fun v H' => ∃ l, v = .ref l ∧ H l = none ∧ H' l = some (.lst (C.lines.map V.str))) H Q
theorem small_src {C : Circ Str} (h : Small C) : C.sources.length ≤ 20 := by
  unfold Circ.sources
  rw [List.length_append, List.length_map]
  have := h.i
  have := h.r
  omega
theorem small_snk {C : Circ Str} (h : Small C) : C.sinks.length ≤ 20 := by
  unfold Circ.sinks
  rw [List.length_append, List.length_map]
  have := h.o
  have := h.r
  omega
theorem small_lines {C : Circ Str} (h : Small C) : C.lines.length ≤ 30 := by
  unfold Circ.lines
  rw [List.length_append, List.length_map]
  have := small_src h
  have := h.g
  omega
theorem ok_lines {f : Addr} {fd : FuncData} (T : Txt K mg A) (c_Circuit_sources : Met P w K mg base 1 A.CC "sources" (spSources A)) (F : Fun K "lines" "Circuit.lines" s_Circuit_lines f fd) : FnOk P w K mg base CX0 2 f fd ["self"] (spLines A) := by
  refine F.ok sc_Circuit_lines (fun vs H Q E h => ?_) (fun cdv Ar outer s H vs Q E hr h => ?_)
  · obtain ⟨v, C, rfl, _⟩ := h
    rfl
  obtain ⟨v, C, rfl, ⟨p, dx, fs, aI, aR, aG, aO, vR, vG, rfl, c⟩, k⟩ := h
  refine ⟨_, (pss_one (ps_ret (pe_op op_cat (pe_mt0 c_Circuit_sources hr (by omega) (pv 0)) (pe_lc (own := [("gate", 1)])  rfl sc_Circuit_lines.nd (pi_tup (pe_fld (pv 0) rfl)) (blkOk_by (own := [("gate", 1)]) (sc := defScope s_Circuit_lines) (N := ["self", "gate"]) (by decide +kernel)) (fun _ _ _ _ _ => (pg_name (i := 1) sc_Circuit_lines.nd rfl (Or.inl rfl))) (fun _ _ _ _ _ => pts_nil) (fun _ _ _ _ _ => (pe_ix (ix_tupB (K := K) rfl) (pv 1) pe_int (fun _ _ => rfl))))))), ?_⟩
  refine ⟨_, rfl, p, dx, fs, rfl, c.ob, c.fN _ (by decide), _, C, rfl, ⟨p, dx, fs, aI, aR, aG, aO, vR, vG, rfl, c⟩, ?_⟩
  rintro v H1 s1 ⟨l, rfl, hl0, hl⟩
  have c1 := c.mono s1
  refine ⟨_, rfl, _, _, _, _, _, rfl, c1.ob, T.cC, T.nC_gates, c1.fG, ?_⟩
  refine ⟨_, rfl, ⟨_, SqT.of c1.hG⟩, fun D hD => ?_⟩
  refine lcM (walk_tup (xs := vG)) C.gates c1.gates.length.symm (fun y r _ => y = V.str r.line) (fun _ _ _ _ _ q => q) (by rw [c1.gates.length]; have := c.sm.g; omega) hD (fun H' s' => s'.seqT (SqT.of c1.hG)) ?_ ?_
  · rintro i x H2 H3 r hr2 s2 ⟨rfl, hx⟩ kk hk
    obtain ⟨a, b, rfl, ha, hb, _⟩ := (Paired.both c1.gates hx hr2).mono s2
    decreasing_trivial
    exact hk _ _ (Same.refl _) rfl
  · intro H2 zs s2 hD2 hz
    rw [vals_eq hz] at hD2
    refine ⟨_, _, _, _, rfl, rfl, s2 _ _ hl, hD2, ?_, fun q hq => ?_⟩
    · rw [List.length_map, List.length_map]
      have := small_src c.sm
      have := c.sm.g
      exact sz2 (by omega)
    · refine k.go ((s1.trans s2).trans (same_new hq _)) ⟨q, rfl, (s1.trans s2).free hq, ?_⟩
      rw [upd_same]
      unfold Circ.lines
      rw [List.map_append, List.map_map]
      rfl
def spUses (A : Ad) : Sp := fun vs H Q _ => ∃ v C, vs = [v] ∧ CParts A H v C ∧ Ret (fun v H' => ∃ l, v = .ref l ∧ H l = none ∧ H' l = some (.lst (C.uses.map V.str))) H Q
theorem ok_uses {f : Addr} {fd : FuncData} (T : Txt K mg A) (F : Fun K "uses" "Circuit.uses" s_Circuit_uses f fd) : FnOk P w K mg base CX0 1 f fd ["self"] (spUses A) := by
  refine F.ok sc_Circuit_uses (fun vs H Q E h => ?_) (fun cdv Ar outer s H vs Q E hr h => ?_)
  · obtain ⟨v, C, rfl, _⟩ := h
    rfl
  obtain ⟨v, C, rfl, ⟨p, dx, fs, aI, aR, aG, aO, vR, vG, rfl, c⟩, k⟩ := h
  refine ⟨_, (pss_cons (ps_setLc2 (i := 1) (own := [("gate", 2), ("pin", 3)]) (vs1 := [3]) rfl sc_Circuit_uses.nd rfl rfl (sw_true rfl rfl rfl (by decide +kernel)) (pi_tup (pe_fld (pv 0) rfl)) (blkOk_by (own := [("gate", 2), ("pin", 3)]) (sc := defScope s_Circuit_uses) (N := ["self", "names", "gate", "pin", "cell"]) (by decide +kernel)) (by decide) (fun _ _ _ _ _ => (pg_name (i := 2) sc_Circuit_uses.nd rfl (Or.inl rfl))) (fun _ _ _ _ _ => pts_nil) (fun _ _ _ _ _ => (pi_tupB (K := K) rfl (pe_ix (ix_tupB (K := K) rfl) (pv 2) pe_int (fun _ _ => rfl)))) (fun _ _ _ _ _ => (pg_name (i := 3) sc_Circuit_uses.nd rfl (Or.inl rfl))) (fun _ _ _ _ _ => pts_nil) (fun _ _ _ _ _ => (pv 3)))
      (pss_one (ps_ret (pe_op op_cat (pe_op op_cat (pv 1) (pe_lc (own := [("cell", 4)])  rfl sc_Circuit_uses.nd (pi_tup (pe_fld (pv 0) rfl)) (blkOk_by (own := [("cell", 4)]) (sc := defScope s_Circuit_uses) (N := ["self", "names", "gate", "pin", "cell"]) (by decide +kernel)) (fun _ _ _ _ _ => (pg_name (i := 4) sc_Circuit_uses.nd rfl (Or.inl rfl))) (fun _ _ _ _ _ => pts_nil) (fun _ _ _ _ _ => (pe_ix (ix_tupB (K := K) rfl) (pv 4) pe_int (fun _ _ => rfl))))) (pe_callTy call_list_of (by rfl) T.z_list bt_list (pa_cons (pe_fld (pv 0) rfl) pa_nil)))))), ?_⟩
  refine ⟨_, rfl, _, _, _, _, _, rfl, c.ob, T.cC, T.nC_gates, c.fG, ?_⟩
  refine ⟨_, rfl, ⟨_, SqT.of c.hG⟩, fun D hD => ?_⟩
  refine oc_it (walk_tup (xs := vG)) (fun i H' => Same H H' ∧ H' D = some (.lst (((C.gates.take i).flatMap (·.pins)).map V.str))) ⟨same_new hD _, upd_same⟩ (fun i H' _ q => q.1.seqT (SqT.of c.hG)) ?_ ?_
  · rintro i x H2 H3 hi ⟨s2, h2⟩ ⟨rfl, hx⟩
    obtain ⟨g, hg, hga⟩ := Paired.at c.gates hx
    obtain ⟨a, b, rfl, ha, hb, _⟩ := hga.mono s2
    refine ⟨rfl, ?_⟩
    decreasing_trivial
    refine ⟨⟨_, SqT.of hb⟩, ?_⟩
    have hgp := c.sm.p g (List.mem_of_getElem? hg)
    have hpl : ((C.gates.take i).flatMap (·.pins)).length ≤ 40 := by
      have := flat_len (l := C.gates.take i) (f := (·.pins)) (c := 4) fun a ha => c.sm.p a (List.mem_of_mem_take ha)
      have e4 : (C.gates.take i).length ≤ 10 := Nat.le_trans (by rw [List.length_take]; exact Nat.min_le_right _ _) c.sm.g
      omega
    refine oc_it (walk_tup (xs := g.pins.map V.str)) (fun j H' => Same H H' ∧ H' b = some (.tup (g.pins.map V.str)) ∧ H' D = some (.lst ((((C.gates.take i).flatMap (·.pins)) ++ g.pins.take j).map V.str))) ⟨s2, hb, by rw [List.take_zero, List.append_nil]; exact h2⟩ (fun j H' _ q => SqT.of q.2.1) ?_ ?_
    · rintro j y H4 H5 hj ⟨s4, hb4, h4⟩ ⟨rfl, hy⟩
      rw [List.getElem?_map, Option.map_eq_some_iff] at hy
      obtain ⟨z, hz, rfl⟩ := hy
      refine ⟨rfl, ?_⟩
      refine ⟨_, rfl, _, h4, ?_, ?_⟩
      · rw [List.length_map, List.length_append]
        have : (g.pins.take j).length ≤ 4 := Nat.le_trans (by rw [List.length_take]; exact Nat.min_le_right _ _) hgp
        exact small1000 (by omega)
      · refine ⟨Same.mut s4 hD, ?_, ?_⟩
        · rw [upd_ne (ne_of hb4 h4 (by intro z; cases z))]
          exact hb4
        · rw [upd_same, List.take_succ, hz, ← List.append_assoc]
          simp
    · rintro H4 ⟨s4, hb4, h4⟩
      refine ⟨s4, ?_⟩
      rw [h4, List.length_map, List.take_length, List.take_succ, hg, List.flatMap_append]
      simp
  · rintro H2 ⟨s2, h2⟩
    have c2 := c.mono s2
    rw [c.gates.length, List.take_length] at h2
    decreasing_trivial
    refine ⟨_, _, _, _, _, rfl, c2.ob, T.cC, T.nC_registers, c2.fR, ?_⟩
    decreasing_trivial
    refine ⟨⟨_, SqT.of c2.hR⟩, fun D2 hD2 => ?_⟩
    refine lcM (walk_tup (xs := vR)) C.regs c2.regs.length.symm (fun y r _ => y = V.str r.2) (fun _ _ _ _ _ q => q) (by rw [c2.regs.length]; have := c.sm.r; omega) hD2 (fun H' s' => s'.seqT (SqT.of c2.hR)) ?_ ?_
    · rintro i x H3 H4 r hr2 s3 ⟨rfl, hx⟩ kk hk
      obtain ⟨a, rfl, ha⟩ := (Paired.both c2.regs hx hr2).mono s3
      decreasing_trivial
      exact hk _ _ (Same.refl _) rfl
    · intro H3 zs s3 hD3 hz
      rw [vals_eq hz] at hD3
      have hpl : (C.gates.flatMap (·.pins)).length ≤ 40 := by
        have := flat_len (l := C.gates) (f := (·.pins)) (c := 4) fun a ha => c.sm.p a ha
        have := c.sm.g
        omega
      refine ⟨_, _, _, _, rfl, rfl, s3 _ _ h2, hD3, ?_, fun q hq => ?_⟩
      · rw [List.length_map, List.length_map]
        have := c.sm.r
        exact sz2 (by omega)
      · have s4 := (s2.trans s3).trans (same_new hq (.lst ((C.gates.flatMap (·.pins)).map V.str ++ C.regs.map fun r => V.str r.2)))
        have c4 := c.mono s4
        refine ⟨_, rfl, _, _, _, _, _, rfl, c4.ob, T.cC, T.nC_outputs, c4.fO, ?_⟩
        refine ⟨_, _, rfl, .inr (SqT.of c4.hO), fun l hl => ?_⟩
        have s5 := s4.trans (same_new hl (.lst (C.outs.map V.str)))
        refine ⟨_, _, _, _, rfl, rfl, (same_new hl _) _ _ upd_same, upd_same, ?_, fun q2 hq2 => ?_⟩
        · rw [List.length_map, List.length_append, List.length_map, List.length_map]
          have := c.sm.r
          have := c.sm.o
          exact sz2 (by omega)
        · refine k.go (s5.trans (same_new hq2 _)) ⟨q2, rfl, s5.free hq2, ?_⟩
          rw [upd_same]
          unfold Circ.uses
          rw [List.map_append, List.map_append, List.map_map]
          rfl
end
end Pw
namespace Pw
open PySem PySem.Spec PyProof.Rows L2
local macro_rules
  | `(tactic| decreasing_trivial) => `(tactic| repeat (first
    | refine ⟨_, rfl, ?_⟩
    | refine ⟨_, _, rfl, rfl, ?_⟩
    | refine ⟨rfl, ?_⟩
    | refine ⟨_, _, rfl, .inl (SqL.of (by assumption)), ?_⟩
    | refine ⟨_, _, rfl, .inr (SqT.of (by assumption)), ?_⟩
    | refine ⟨_, _, _, _, rfl, rfl, SqT.of (by assumption), rfl, ?_⟩
    | refine ⟨_, _, _, _, rfl, rfl, SqL.of (by assumption), rfl, ?_⟩
    | refine ⟨_, _, rfl, ?_⟩))
section
variable {P : Program} {w : World} {K : PySem.W.Frag} {mg : Str → Option Value} {base : Heap} {A : Ad}
theorem rdCat {H : Hp} {Q : VK} {a b : Addr} {xs ys : List V} (ha : SqT K H a xs) (hb : SqT K H b ys) (hl : xs.length + ys.length ≤ 1000) (k : ∀ t H', Same H H' → SqT K H' t (xs ++ ys) → Q (.ref t) H') : rCatA K (.ref a) (.ref b) H Q := by
  refine ⟨a, b, xs, ys, rfl, rfl, ha, hb, sz2 hl, fun e => ?_, fun _ e => ?_, fun _ _ p hp => k _ _ (same_new hp _) in_up⟩
  · subst e
    exact k _ _ (Same.refl _) hb
  · subst e
    exact k _ _ (Same.refl _) (by rw [List.append_nil]; exact ha)
/-- a set of texts as a dict -/
def SetAt (H : Hp) (v : V) (f : Str → Bool) : Prop := ∃ a kvs, v = .ref a ∧ H a = some (.dK kvs) ∧ kvs.length ≤ 500 ∧ ∀ x, (valV kvs (Sum.inr x)).isSome = f x
theorem SetAt.mono {H H' : Hp} (s : Same H H') {v : V} {f : Str → Bool} : SetAt H v f → SetAt H' v f := fun ⟨a, kvs, e, h, h2, h3⟩ => ⟨a, kvs, e, s _ _ h, h2, h3⟩
def spAbove (A : Ad) : Sp := fun vs H Q _ => ∃ v C l, vs = [v, .str l] ∧ CircAt A H v C ∧ WF C ∧ Ret (fun v H' => (∃ a, v = .ref a ∧ H a = none) ∧ SetAt H' v (above C l)) H Q
theorem aboveF_take {gs : List (Gate Str)} {s : Str → Bool} {i : Nat} {g : Gate Str} (h : gs[i]? = some g) : aboveF (gs.take (i + 1)) s = if aboveF (gs.take i) s g.line then fun x => aboveF (gs.take i) s x || decide (x ∈ g.pins) else aboveF (gs.take i) s := by
  unfold aboveF
  rw [List.take_succ, h, List.foldl_append]
  rfl
theorem put_in {kvs : List (Key × V)} {z : Str} {y : V} {f : Str → Bool} (h : ∀ x, (valV kvs (Sum.inr x)).isSome = f x) : ∀ x, (valV (putK kvs (Sum.inr z) y) (Sum.inr x)).isSome = (f x || decide (x = z)) := fun x => by
  rw [valV_put]
  by_cases e : x = z
  · rw [if_pos (by rw [e]), decide_eq_true e, Bool.or_true]
    rfl
  · rw [if_neg fun q => e (Sum.inr.inj q), decide_eq_false e, Bool.or_false]
    exact h x
theorem ok_above {f : Addr} {fd : FuncData} (T : Txt K mg A) (F : Fun K "above" "Circuit.above" s_Circuit_above f fd) : FnOk P w K mg base CX0 1 f fd ["self", "line"] (spAbove A) := by
  refine F.ok sc_Circuit_above (fun vs H Q E h => ?_) (fun cdv Ar outer s H vs Q E hr h => ?_)
  · obtain ⟨v, C, l, rfl, _⟩ := h
    rfl
  obtain ⟨v, C, l, rfl, ⟨p, dx, fs, aI, aR, aG, aO, vR, vG, aD, aL, vL, kvs0, rfl, c, g1, g2, g3, g4, g5, g6⟩, wf, k⟩ := h
  refine ⟨_, (pss_cons (ps_set (i := 2) sc_Circuit_above.nd rfl (Or.inl rfl) (pe_disp (pps_cons (pv 1) pe_bl pps_nil) (by rfl) (by rfl) (fun z => by cases z) (by decide)))
      (pss_cons (ps_for PassesOwn.never rfl (pi_list (pe_revL (pe_fld (pv 0) rfl))) (pg_name (i := 3) sc_Circuit_above.nd rfl (Or.inl rfl)) (pss_one (ps_if (pt_cmp (pc_din (hu_of hr) (pe_ix ix_tup (pv 3) pe_int (fun _ _ => rfl)) (pv 2))) (pss_one (ps_for PassesOwn.never rfl (pi_tup (pe_ix ix_tup (pv 3) pe_int (fun _ _ => rfl))) (pg_name (i := 4) sc_Circuit_above.nd rfl (Or.inl rfl)) (pss_one (ps_dput (hu_of hr) (pv 2) (pv 4) pe_bl rfl)))) pss_nil)))
      (pss_one (ps_ret (pv 2))))), ?_⟩
  refine fun d hd => ⟨_, rfl, upd_same, [(Sum.inr l, .bl true)], rfl, by show 1 ≤ 15; decide, ?_⟩
  have s1 : Same H (upd (upd H d (.dK [])) d (.dK (mergeK [] [(Sum.inr l, .bl true)]))) := Same.mut (same_new hd _) hd
  have hd1 : ∀ x, (valV (mergeK [] [(Sum.inr l, V.bl true)]) (Sum.inr x)).isSome = decide (x = l) := by
    intro x
    have := put_in (kvs := []) (z := l) (y := .bl true) (f := fun _ => false) (fun _ => rfl) x
    rw [Bool.false_or] at this
    exact this
  generalize hm : mergeK [] [(Sum.inr l, V.bl true)] = kv1 at s1 hd1
  have hk1 : kv1.length ≤ 1 := by rw [← hm]; exact length_mergeK _ []
  have c1 := c.mono s1
  decreasing_trivial
  refine ⟨_, _, _, _, _, rfl, c1.ob, T.cC, T.nC_order, g2, _, _, rfl, SqL.of (s1 _ _ g3), fun r hr0 => ?_⟩
  decreasing_trivial
  refine ⟨⟨_, SqL.of upd_same⟩, ?_⟩
  have s2 := s1.trans (same_new hr0 (.lst vL.reverse))
  have hrv := Paired.rev g4
  have hlen : C.order.length ≤ 7 := by rw [wf.perm.length_eq]; exact wf.ng
  have hrd : r ≠ d := fun e => by
    rw [e, upd_same] at hr0
    cases hr0
  refine for_it (walk_list (xs := vL.reverse)) (fun i σ H' => (∃ x y, σ = [some (.ref p), some (.str l), some (.ref d), x, y]) ∧ Same H H' ∧ H' r = some (.lst vL.reverse) ∧ ∃ kvs, H' d = some (.dK kvs) ∧ kvs.length ≤ 1 + 4 * i ∧ ∀ x, (valV kvs (Sum.inr x)).isSome = aboveF (C.order.reverse.take i) (fun x => decide (x = l)) x) ⟨⟨_, _, rfl⟩, s2, upd_same, kv1, by rw [upd_ne hrd.symm]; exact upd_same, hk1, hd1⟩ (fun i σ H' _ q => SqL.of q.2.2.1) ?_ ?_
  · rintro i x σ H2 H2' hi ⟨⟨x0, y0, rfl⟩, sH, hrr, kvs, hdd, hkl, hkf⟩ ⟨rfl, hx⟩
    obtain ⟨g, hg, hga⟩ := Paired.at hrv hx
    obtain ⟨a, b, rfl, ha, hb, _⟩ := hga.mono sH
    have hgm : g ∈ C.gates := wf.mem_order.mp (List.mem_reverse.mp (List.mem_of_getElem? hg))
    have hpl := arity_le (wf.arity g hgm)
    have hi7 : i < 7 := by
      have := (List.getElem?_eq_some_iff.mp hg).1
      rw [List.length_reverse] at this
      omega
    decreasing_trivial
    refine ⟨_, _, rfl, DGet.k (k := Sum.inr g.line) hdd, _, rfl, ?_⟩
    have eT := aboveF_take (s := fun x => decide (x = l)) hg
    cases hs : (valV kvs (Sum.inr g.line)).isSome with
    | false =>
      refine iteF ?_
      rw [hkf] at hs
      rw [if_neg (by rw [hs]; decide)] at eT
      exact ⟨⟨_, _, rfl⟩, sH, hrr, kvs, hdd, by omega, fun z => by rw [eT]; exact hkf z⟩
    | true =>
      refine iteT ?_
      rw [hkf] at hs
      rw [if_pos hs] at eT
      decreasing_trivial
      refine ⟨⟨_, SqT.of hb⟩, ?_⟩
      refine for_it (walk_tup (xs := g.pins.map V.str)) (fun j σ H' => (∃ y, σ = [some (.ref p), some (.str l), some (.ref d), some (.ref a), y]) ∧ Same H H' ∧ H' r = some (.lst vL.reverse) ∧ H' b = some (.tup (g.pins.map V.str)) ∧ ∃ kvs, H' d = some (.dK kvs) ∧ kvs.length ≤ 1 + 4 * i + j ∧ ∀ x, (valV kvs (Sum.inr x)).isSome = (aboveF (C.order.reverse.take i) (fun x => decide (x = l)) x || decide (x ∈ g.pins.take j))) ⟨⟨_, rfl⟩, sH, hrr, hb, kvs, hdd, hkl, fun z => by rw [hkf z]; simp⟩ (fun j σ H' _ q => SqT.of q.2.2.2.1) ?_ ?_
      · rintro j y σ H3 H3' hj ⟨⟨y1, rfl⟩, sH3, hr3, hb3, kvs3, hd3, hl3, hf3⟩ ⟨rfl, hy⟩
        rw [List.getElem?_map, Option.map_eq_some_iff] at hy
        obtain ⟨z, hz, rfl⟩ := hy
        have hj4 : j < 4 := by
          have := (List.getElem?_eq_some_iff.mp hz).1
          omega
        decreasing_trivial
        refine ⟨_, _, rfl, DPut.k (k := Sum.inr z) hd3 (small1000 (by omega)), ?_⟩
        have := length_putK kvs3 (Sum.inr z) (.bl true)
        refine ⟨⟨_, rfl⟩, Same.mut sH3 hd, by rw [upd_ne hrd]; exact hr3, ?_, _, upd_same, by omega, fun x => ?_⟩
        · rw [upd_ne (ne_of hb3 hd3 (by intro z; cases z))]
          exact hb3
        · rw [put_in hf3, List.take_succ, hz, Bool.or_assoc]
          simp [Bool.decide_or]
      · rintro σ H3 ⟨⟨y1, rfl⟩, sH3, hr3, hb3, kvs3, hd3, hl3, hf3⟩
        rw [List.length_map] at hl3 hf3
        refine ⟨⟨_, _, rfl⟩, sH3, hr3, kvs3, hd3, by omega, fun x => ?_⟩
        rw [hf3, eT, List.take_length]
  · rintro σ H2 ⟨⟨x0, y0, rfl⟩, sH, hrr, kvs, hdd, hkl, hkf⟩
    decreasing_trivial
    have e1 : vL.reverse.length = C.order.reverse.length := hrv.length
    have e2 : C.order.reverse.length = C.order.length := List.length_reverse
    refine k.go sH ⟨⟨d, rfl, hd⟩, d, kvs, rfl, hdd, by omega, fun x => ?_⟩
    rw [hkf, e1, List.take_length]
    rfl
/-- all names are right -/
def Named (C : Circ Str) : Prop := (∀ l ∈ C.lines, nameOk l = true) ∧ ∀ l ∈ C.uses, nameOk l = true
def spForms (A : Ad) : Sp := fun vs H Q _ => ∃ v C, vs = [v] ∧ CParts A H v C ∧ Named C ∧ (∀ g ∈ C.gates, g.kind.arity g.pins.length = true) ∧ Ret (fun v _ => v = .non) H Q
theorem ok_check_forms {f : Addr} {fd : FuncData} (T : Txt K mg A) (c_is_name : Cal P w K mg base 1 "is_name" spName) (c_is_row : Cal P w K mg base 2 "is_row" spRow) (c_is_gate : Cal P w K mg base 2 "is_gate" spGateOk) (F : Fun K "check_forms" "Circuit.check_forms" s_Circuit_check_forms f fd) : FnOk P w K mg base CX0 3 f fd ["self"] (spForms A) := by
  refine F.ok sc_Circuit_check_forms (fun vs H Q E h => ?_) (fun cdv Ar outer s H vs Q E hr h => ?_)
  · obtain ⟨v, C, rfl, _⟩ := h
    rfl
  obtain ⟨v, C, rfl, ⟨p, dx, fs, aI, aR, aG, aO, vR, vG, rfl, c⟩, hN, hA, k⟩ := h
  refine ⟨_, (pss_cons (ps_for PassesOwn.never rfl (pi_tup (pe_op op_catA (pe_fld (pv 0) rfl) (pe_fld (pv 0) rfl))) (pg_name (i := 1) sc_Circuit_check_forms.nd rfl (Or.inl rfl)) (pss_one (ps_if (pt_not (pt_val (pe_c c_is_name hr (by omega) rfl (pa_cons (pv 1) pa_nil)))) (pss_one ps_never) pss_nil)))
      (pss_cons (ps_for PassesOwn.never rfl (pi_tup (pe_fld (pv 0) rfl)) (pg_name (i := 2) sc_Circuit_check_forms.nd rfl (Or.inl rfl)) (pss_one (ps_if (pt_not (pt_val (pe_c c_is_row hr (by omega) rfl (pa_cons (pv 2) (pa_cons pe_int pa_nil))))) (pss_one ps_never) pss_nil)))
      (pss_one (ps_for PassesOwn.never rfl (pi_tup (pe_fld (pv 0) rfl)) (pg_name (i := 3) sc_Circuit_check_forms.nd rfl (Or.inl rfl)) (pss_one (ps_if (pt_not (pt_val (pe_c c_is_gate hr (by omega) rfl (pa_cons (pv 3) pa_nil)))) (pss_one ps_never) pss_nil)))))), ?_⟩
  have n1 : ∀ l ∈ C.ins ++ C.outs, nameOk l = true := fun l hl => by
    rcases List.mem_append.mp hl with h | h
    · exact hN.1 l (List.mem_append_left _ (List.mem_append_left _ h))
    · exact hN.2 l (List.mem_append_right _ h)
  have n2 : ∀ r ∈ C.regs, nameOk r.1 = true ∧ nameOk r.2 = true := fun r hr => ⟨hN.1 _ (List.mem_append_left _ (List.mem_append_right _ (List.mem_map.mpr ⟨r, hr, rfl⟩))), hN.2 _ (List.mem_append_left _ (List.mem_append_right _ (List.mem_map.mpr ⟨r, hr, rfl⟩)))⟩
  have n3 : ∀ g ∈ C.gates, nameOk g.line = true ∧ ∀ p ∈ g.pins, nameOk p = true := fun g hg => ⟨hN.1 _ (List.mem_append_right _ (List.mem_map.mpr ⟨g, hg, rfl⟩)), fun p hp => hN.2 _ (List.mem_append_left _ (List.mem_append_left _ (List.mem_flatMap.mpr ⟨g, hg, hp⟩)))⟩
  refine ⟨_, rfl, _, _, _, _, _, rfl, c.ob, T.cC, T.nC_inputs, c.fI, ?_⟩
  refine ⟨_, rfl, _, _, _, _, _, rfl, c.ob, T.cC, T.nC_outputs, c.fO, ?_⟩
  refine rdCat (SqT.of c.hI) (SqT.of c.hO) (by rw [List.length_map, List.length_map]; have := c.sm.i; have := c.sm.o; omega) fun t H1 s1 ht => ?_
  refine ⟨_, rfl, ⟨_, ht⟩, ?_⟩
  refine for_it (walk_tup (xs := C.ins.map V.str ++ C.outs.map V.str)) (fun _ σ H' => (∃ x y z, σ = [some (.ref p), x, y, z]) ∧ Same H1 H') ⟨⟨_, _, _, rfl⟩, Same.refl _⟩ (fun _ _ _ _ q => q.2.seqT ht) ?_ ?_
  · rintro i x σ H2 H2' hi ⟨⟨x0, y0, z0, rfl⟩, s2⟩ ⟨rfl, hx⟩
    rw [← List.map_append, List.getElem?_map, Option.map_eq_some_iff] at hx
    obtain ⟨z, hz, rfl⟩ := hx
    decreasing_trivial
    exact ⟨n1 z (List.mem_of_getElem? hz), _, rfl, iteF ⟨⟨_, _, _, rfl⟩, s2⟩⟩
  · rintro σ H2 ⟨⟨x0, y0, z0, rfl⟩, s2⟩
    have c2 := c.mono (s1.trans s2)
    refine ⟨_, rfl, _, _, _, _, _, rfl, c2.ob, T.cC, T.nC_registers, c2.fR, ?_⟩
    refine ⟨_, rfl, ⟨_, SqT.of c2.hR⟩, ?_⟩
    refine for_it (walk_tup (xs := vR)) (fun _ σ H' => (∃ x y z, σ = [some (.ref p), x, y, z]) ∧ Same H H') ⟨⟨_, _, _, rfl⟩, s1.trans s2⟩ (fun _ _ _ _ q => q.2.seqT (SqT.of c.hR)) ?_ ?_
    · rintro i x σ H3 H3' hi ⟨⟨x0, y0, z0, rfl⟩, s3⟩ ⟨rfl, hx⟩
      obtain ⟨r, hr2, hra⟩ := Paired.at c.regs hx
      obtain ⟨q1, q2⟩ := n2 r (List.mem_of_getElem? hr2)
      decreasing_trivial
      refine ⟨x, r, rfl, hra.mono s3, q1, q2, ?_⟩
      rintro v H4 s4 rfl
      exact ⟨_, rfl, iteF ⟨⟨_, _, _, rfl⟩, s3.trans s4⟩⟩
    · rintro σ H3 ⟨⟨x0, y0, z0, rfl⟩, s3⟩
      have c3 := c.mono s3
      refine ⟨_, rfl, _, _, _, _, _, rfl, c3.ob, T.cC, T.nC_gates, c3.fG, ?_⟩
      refine ⟨_, rfl, ⟨_, SqT.of c3.hG⟩, ?_⟩
      refine for_it (walk_tup (xs := vG)) (fun _ σ H' => (∃ x y z, σ = [some (.ref p), x, y, z]) ∧ Same H H') ⟨⟨_, _, _, rfl⟩, s3⟩ (fun _ _ _ _ q => q.2.seqT (SqT.of c.hG)) ?_ ?_
      · rintro i x σ H4 H4' hi ⟨⟨x0, y0, z0, rfl⟩, s4⟩ ⟨rfl, hx⟩
        obtain ⟨g, hg, hga⟩ := Paired.at c.gates hx
        have hgm := List.mem_of_getElem? hg
        obtain ⟨q1, q2⟩ := n3 g hgm
        decreasing_trivial
        refine ⟨x, g, rfl, hga.mono s4, q1, q2, hA g hgm, ?_⟩
        rintro v H5 s5 rfl
        exact ⟨_, rfl, iteF ⟨⟨_, _, _, rfl⟩, s4.trans s5⟩⟩
      · rintro σ H4 ⟨_, s4⟩
        exact k.go s4 rfl
def spNames (A : Ad) : Sp := fun vs H Q _ => ∃ v C, vs = [v] ∧ CParts A H v C ∧ C.lines.Nodup ∧ (∀ l ∈ C.uses, l ∈ C.lines) ∧ Ret (fun v _ => v = .non) H Q
theorem ok_check_names {f : Addr} {fd : FuncData} (T : Txt K mg A) (c_Circuit_sources : Met P w K mg base 1 A.CC "sources" (spSources A)) (c_Circuit_lines : Met P w K mg base 2 A.CC "lines" (spLines A)) (c_Circuit_uses : Met P w K mg base 1 A.CC "uses" (spUses A)) (F : Fun K "check_names" "Circuit.check_names" s_Circuit_check_names f fd) : FnOk P w K mg base CX0 3 f fd ["self"] (spNames A) := by
  refine F.ok sc_Circuit_check_names (fun vs H Q E h => ?_) (fun cdv Ar outer s H vs Q E hr h => ?_)
  · obtain ⟨v, C, rfl, _⟩ := h
    rfl
  obtain ⟨v, C, rfl, ⟨p, dx, fs, aI, aR, aG, aO, vR, vG, rfl, c⟩, hN, hU, k⟩ := h
  refine ⟨_, (pss_cons (ps_set (i := 1) sc_Circuit_check_names.nd rfl (Or.inl rfl) pe_dnewK)
      (pss_cons (ps_for PassesOwn.never rfl (pi_list (pe_mt0 c_Circuit_lines hr (by omega) (pv 0))) (pg_name (i := 2) sc_Circuit_check_names.nd rfl (Or.inl rfl)) (pss_cons (ps_if (pt_cmp (pc_din (hu_of hr) (pv 2) (pv 1))) (pss_one ps_never) pss_nil)
      (pss_one (ps_dput (hu_of hr) (pv 1) (pv 2) pe_bl rfl))))
      (pss_cons (ps_for PassesOwn.never rfl (pi_list (pe_mt0 c_Circuit_uses hr (by omega) (pv 0))) (pg_name (i := 2) sc_Circuit_check_names.nd rfl (Or.inl rfl)) (pss_one (ps_if (pt_cmp (pc_dnotin (hu_of hr) (pv 2) (pv 1))) (pss_one ps_never) pss_nil)))
      (pss_one (ps_if (PW.pt (pw_or (pt_cmpR op_gt (pe_callB call_len_seq (by rfl) T.z_len PySem.boot_len (pa_cons (pe_mt0 c_Circuit_lines hr (by omega) (pv 0)) pa_nil)) (pe_gc rfl T.g_MOST_LINES) (nomark _)) (pw_or1 (pt_cmpR op_gt (pe_callB call_len_seq (by rfl) T.z_len PySem.boot_len (pa_cons (pe_mt0 c_Circuit_sources hr (by omega) (pv 0)) pa_nil)) (pe_gc rfl T.g_MOST_SOURCES) (nomark _))))) (pss_one ps_never) pss_nil))))), ?_⟩
  refine fun D hD => ?_
  have s1 := same_new hD (.dK [])
  have c1 := c.mono s1
  refine ⟨_, rfl, p, dx, fs, rfl, c1.ob, c1.fN _ (by decide), _, C, rfl, ⟨p, dx, fs, aI, aR, aG, aO, vR, vG, rfl, c1⟩, ?_⟩
  rintro v H1 s2 ⟨l, rfl, hl0, hl⟩
  have hlD : l ≠ D := fun e => by
    rw [e, upd_same] at hl0
    cases hl0
  have hll := small_lines c.sm
  refine ⟨_, rfl, ⟨_, SqL.of hl⟩, ?_⟩
  refine for_it (walk_list (xs := C.lines.map V.str)) (fun i σ H' => (∃ x, σ = [some (.ref p), some (.ref D), x]) ∧ Same H H' ∧ H' l = some (.lst (C.lines.map V.str)) ∧ ∃ kvs, H' D = some (.dK kvs) ∧ kvs.length ≤ i ∧ ∀ x, (valV kvs (Sum.inr x)).isSome = decide (x ∈ C.lines.take i)) ⟨⟨_, rfl⟩, s1.trans s2, hl, [], s2 _ _ upd_same, Nat.le_refl _, fun _ => by simp [valV]⟩ (fun i σ H' _ q => SqL.of q.2.2.1) ?_ ?_
  · rintro i x σ H2 H2' hi ⟨⟨x0, rfl⟩, s3, h3, kvs, hdd, hkl, hkf⟩ ⟨rfl, hx⟩
    rw [List.getElem?_map, Option.map_eq_some_iff] at hx
    obtain ⟨z, hz, rfl⟩ := hx
    rw [List.length_map] at hi
    decreasing_trivial
    refine ⟨_, _, rfl, DGet.k (k := Sum.inr z) hdd, _, rfl, ?_⟩
    have hnot : z ∉ C.lines.take i := fun hm => by
      obtain ⟨j, hj, e⟩ := List.mem_iff_getElem.mp hm
      rw [List.getElem_take] at e
      rw [List.length_take] at hj
      obtain ⟨hi2, e2⟩ := List.getElem?_eq_some_iff.mp hz
      exact List.pairwise_iff_getElem.mp hN j i (by omega) hi2 (by omega) (e.trans e2.symm)
    rw [hkf, decide_eq_false hnot]
    refine iteF ?_
    decreasing_trivial
    refine ⟨_, _, rfl, DPut.k (k := Sum.inr z) hdd (small1000 (by omega)), ?_⟩
    have := length_putK kvs (Sum.inr z) (.bl true)
    refine ⟨⟨_, rfl⟩, Same.mut s3 hD, by rw [upd_ne hlD]; exact h3, _, upd_same, by omega, fun x => ?_⟩
    rw [put_in hkf, List.take_succ, hz]
    simp [Bool.decide_or]
  · rintro σ H2 ⟨⟨x0, rfl⟩, s3, h3, kvs, hdd, hkl, hkf⟩
    rw [List.length_map, List.take_length] at hkf
    have c2 := c.mono s3
    refine ⟨_, rfl, p, dx, fs, rfl, c2.ob, c2.fN _ (by decide), _, C, rfl, ⟨p, dx, fs, aI, aR, aG, aO, vR, vG, rfl, c2⟩, ?_⟩
    rintro v H3 s4 ⟨l2, rfl, _, hl2⟩
    refine ⟨_, rfl, ⟨_, SqL.of hl2⟩, ?_⟩
    refine for_it (walk_list (xs := C.uses.map V.str)) (fun i σ H' => (∃ x, σ = [some (.ref p), some (.ref D), x]) ∧ Same H3 H') ⟨⟨_, rfl⟩, Same.refl _⟩ (fun i σ H' _ q => SqL.of (q.2 _ _ hl2)) ?_ ?_
    · rintro i x σ H4 H4' hi ⟨⟨x0, rfl⟩, s5⟩ ⟨rfl, hx⟩
      rw [List.getElem?_map, Option.map_eq_some_iff] at hx
      obtain ⟨z, hz, rfl⟩ := hx
      decreasing_trivial
      refine ⟨_, _, rfl, DGet.k (k := Sum.inr z) (s5 _ _ (s4 _ _ hdd)), _, rfl, ?_⟩
      rw [hkf, decide_eq_true (hU z (List.mem_of_getElem? hz))]
      exact iteF ⟨⟨_, rfl⟩, s5⟩
    · rintro σ H4 ⟨⟨x0, rfl⟩, s5⟩
      have s6 := s3.trans (s4.trans s5)
      have c4 := c.mono s6
      refine ⟨_, rfl, p, dx, fs, rfl, c4.ob, c4.fN _ (by decide), _, C, rfl, ⟨p, dx, fs, aI, aR, aG, aO, vR, vG, rfl, c4⟩, ?_⟩
      rintro v H5 s7 ⟨l3, rfl, _, hl3⟩
      refine ⟨_, _, rfl, .inl (SqL.of hl3), ?_⟩
      decreasing_trivial
      refine ifF (decide_eq_false (by rw [List.length_map]; omega)) ?_
      have c5 := c.mono (s6.trans s7)
      refine ⟨_, rfl, p, dx, fs, rfl, c5.ob, c5.fN _ (by decide), _, C, rfl, ⟨p, dx, fs, aI, aR, aG, aO, vR, vG, rfl, c5⟩, ?_⟩
      rintro v H6 s8 ⟨l4, rfl, _, hl4⟩
      refine ⟨_, _, rfl, .inl (SqL.of hl4), ?_⟩
      decreasing_trivial
      have := small_src c.sm
      refine ifF (decide_eq_false (by rw [List.length_map]; omega)) ?_
      exact k.go ((s6.trans s7).trans s8) rfl
end
end Pw
namespace Pw
open PySem PySem.Spec PyProof.Rows L2
local macro_rules
  | `(tactic| decreasing_trivial) => `(tactic| repeat (first
    | refine ⟨_, rfl, ?_⟩
    | refine ⟨_, _, rfl, rfl, ?_⟩
    | refine ⟨rfl, ?_⟩
    | refine ⟨_, _, rfl, .inl (SqL.of (by assumption)), ?_⟩
    | refine ⟨_, _, rfl, .inr (SqT.of (by assumption)), ?_⟩
    | refine ⟨_, _, _, _, rfl, rfl, SqT.of (by assumption), rfl, ?_⟩
    | refine ⟨_, _, _, _, rfl, rfl, SqL.of (by assumption), rfl, ?_⟩
    | refine ⟨_, _, rfl, ?_⟩))
theorem next_gate {N : Type} {done rest : List (Gate N)} : ∀ (ord : List (Gate N)) (kn : List N), Topo kn ord → (∀ g ∈ ord, g ∈ done ∨ g ∈ rest) → (∃ r ∈ rest, r ∈ ord) → ∃ g ∈ rest, ∀ p ∈ g.pins, p ∈ kn ++ done.map (·.line)
  | [], _, _, _, ⟨_, _, h⟩ => by simp at h
  | g :: t, kn, ⟨h1, h2⟩, hd, ⟨r, hr, hro⟩ => by
    by_cases hg : g ∈ rest
    · exact ⟨g, hg, fun p hp => List.mem_append_left _ (h1 p hp)⟩
    · have hgd : g ∈ done := (hd g List.mem_cons_self).resolve_right hg
      have hrt : r ∈ t := by
        rcases List.mem_cons.mp hro with e | h
        · exact absurd (e ▸ hr) hg
        · exact h
      obtain ⟨x, hx, hp⟩ := next_gate t (kn ++ [g.line]) h2 (fun y hy => hd y (List.mem_cons_of_mem _ hy)) ⟨r, hr, hrt⟩
      refine ⟨x, hx, fun p hpp => ?_⟩
      rcases List.mem_append.mp (hp p hpp) with h | h
      · rcases List.mem_append.mp h with h | h
        · exact List.mem_append_left _ h
        · rw [List.mem_singleton.mp h]
          exact List.mem_append_right _ (List.mem_map.mpr ⟨g, hgd, rfl⟩)
      · exact List.mem_append_right _ h
theorem topo_snoc {N : Type} {g : Gate N} : ∀ {l : List (Gate N)} {kn : List N}, Topo kn l → (∀ p ∈ g.pins, p ∈ kn ++ l.map (·.line)) → Topo kn (l ++ [g])
  | [], kn, _, h => ⟨fun p hp => by simpa using h p hp, trivial⟩
  | a :: r, kn, ⟨h1, h2⟩, h => ⟨h1, topo_snoc (l := r) h2 fun p hp => by simpa using h p hp⟩
section
variable {P : Program} {w : World} {K : PySem.W.Frag} {mg : Str → Option Value} {base : Heap} {A : Ad}
def gateD (g : Gate Str) : PyData := .tuple [.str g.line, .str g.kind.str, .tuple (g.pins.map PyData.str)]
theorem strs_dp {H : Hp} : ∀ (l : List Str), DpAll K H (l.map V.str) (l.map PyData.str)
  | [] => .nil
  | _ :: r => .cons (.str _) (strs_dp r)
theorem gate_dp {H : Hp} {v : V} {g : Gate Str} (h : GateAt H v g) : Dp K H v (gateD g) := by
  obtain ⟨a, b, rfl, h1, h2, _⟩ := h
  exact .tup (SqT.of h1) (.cons (.str _) (.cons (.str _) (.cons (.tup (SqT.of h2) (strs_dp _)) .nil)))
theorem gates_dp {H : Hp} : ∀ {vs : List V} {gs : List (Gate Str)}, Paired (GateAt H) vs gs → DpAll K H vs (gs.map gateD)
  | _, _, .nil => .nil
  | _, _, .cons h r => .cons (gate_dp h) (gates_dp r)
theorem kind_ok (k : Kind) : PyData.strOk k.str = true := by cases k <;> decide +kernel
theorem gateD_ok {H : Hp} {v : V} {g : Gate Str} (h : GateAt H v g) : (gateD g).canLay0 = true ∧ (gateD g).depth ≤ 2 := by
  obtain ⟨a, b, rfl, h1, h2, h3⟩ := h
  have hp : (g.pins.map PyData.str).all flatD = true := by
    rw [List.all_map, List.all_eq_true]
    exact fun z hz => h3 z (List.mem_cons_of_mem _ hz)
  obtain ⟨q1, q2⟩ := flat_lay hp
  have q3 := h3 g.line List.mem_cons_self
  have q4 := kind_ok g.kind
  refine ⟨by simp [gateD, PyData.canLay0, PyData.canLayAll0, q1, q3, q4], ?_⟩
  have hz : ∀ n : Nat, n ≤ 1 → max 0 (max 0 (max n 0)) + 1 ≤ 2 := fun n h => by omega
  have hz2 : ∀ l : List Str, PyData.depthAll (l.map PyData.str) = 0 := fun l => by
    induction l with
    | nil => rfl
    | cons a r ih =>
      show max 0 (PyData.depthAll (r.map PyData.str)) = 0
      rw [ih]
      rfl
  refine hz (PyData.depthAll (g.pins.map PyData.str) + 1) ?_
  rw [hz2]
  decide
theorem gates_ok {H : Hp} : ∀ {vs : List V} {gs : List (Gate Str)}, Paired (GateAt H) vs gs → PyData.canLayAll0 (gs.map gateD) = true ∧ PyData.depthAll (gs.map gateD) ≤ 2
  | _, _, .nil => by simp [PyData.canLayAll0, PyData.depthAll]
  | _, _, .cons h r => by
    obtain ⟨a, b⟩ := gateD_ok h
    obtain ⟨c, d⟩ := gates_ok r
    simp only [List.map_cons, PyData.canLayAll0, PyData.depthAll, a, c, Bool.and_self, true_and]
    omega
theorem eqv_nil (ds : List PyData) : PyData.eqv (.list ds) (.list []) = decide (ds = []) := by
  cases ds <;> simp [PyData.eqv, PyData.eqvAll]
theorem shl {xs : List PyData} (h1 : PyData.canLayAll0 xs = true) (h2 : PyData.depthAll xs ≤ 60) : SeqAt.shaped (.list xs) = true := by
  unfold SeqAt.shaped
  simp only [PyData.canLay0, PyData.depth, h1, Bool.true_and]
  apply decide_eq_true
  omega
def spSorted (A : Ad) : Sp := fun vs H Q _ => ∃ v C, vs = [v] ∧ CParts A H v C ∧ (∃ ord, Topo C.sources ord ∧ ord.Perm C.gates) ∧
  Ret (fun v H' => ∃ l us ord, v = .ref l ∧ H l = none ∧ H' l = some (.lst us) ∧ Paired (GateAt H') us ord ∧ Topo C.sources ord ∧ ord.Perm C.gates) H Q
theorem ok_sorted_gates {f : Addr} {fd : FuncData} (T : Txt K mg A) (c_Circuit_sources : Met P w K mg base 1 A.CC "sources" (spSources A)) (F : Fun K "sorted_gates" "Circuit.sorted_gates" s_Circuit_sorted_gates f fd) : FnOk P w K mg base CX0 2 f fd ["self"] (spSorted A) := by
  refine F.ok sc_Circuit_sorted_gates (fun vs H Q E h => ?_) (fun cdv Ar outer s H vs Q E hr h => ?_)
  · obtain ⟨v, C, rfl, _⟩ := h
    rfl
  obtain ⟨v, C, rfl, ⟨p, dx, fs, aI, aR, aG, aO, vR, vG, rfl, c⟩, ⟨ord0, ht0, hp0⟩, k⟩ := h
  refine ⟨_, (pss_cons (ps_set (i := 1) sc_Circuit_sorted_gates.nd rfl (Or.inr rfl) (pe_dc (own := [("name", 6)]) rfl sc_Circuit_sorted_gates.nd  (pi_list (pe_mt0 c_Circuit_sources hr (by omega) (pv 0))) (blkOk_by (own := [("name", 6)]) (sc := defScope s_Circuit_sorted_gates) (N := ["self", "known", "order", "waiting", "later", "gate", "name", "pin"]) (by decide +kernel)) (fun _ _ _ _ _ => (pg_name (i := 6) sc_Circuit_sorted_gates.nd rfl (Or.inl rfl))) (fun _ _ _ _ _ => pts_nil) (fun _ _ _ _ _ => (pv 6)) (fun _ _ _ _ _ => pe_bl)))
      (pss_cons (ps_set (i := 2) sc_Circuit_sorted_gates.nd rfl (Or.inl rfl) (pe_lst pa_nil))
      (pss_cons (ps_set (i := 3) sc_Circuit_sorted_gates.nd rfl (Or.inl rfl) (pe_callTy call_list_of (by rfl) T.z_list bt_list (pa_cons (pe_fld (pv 0) rfl) pa_nil)))
      (pss_cons (ps_while PassesOwn.never (pt_cmpR (op_neD (hu64 hr)) (pv 3) (pe_lst pa_nil) (nomark _)) (pss_cons (ps_set (i := 4) sc_Circuit_sorted_gates.nd rfl (Or.inl rfl) (pe_lst pa_nil))
      (pss_cons (ps_for PassesOwn.never rfl (pi_list (pv 3)) (pg_name (i := 5) sc_Circuit_sorted_gates.nd rfl (Or.inl rfl)) (pss_one (ps_if (pt_val (pe_callB (cr_all rfl) (by rfl) T.z_all bt_all (pa_cons (pe_lc (own := [("pin", 7)])  rfl sc_Circuit_sorted_gates.nd (pi_tup (pe_ix ix_tup (pv 5) pe_int (fun _ _ => rfl))) (blkOk_by (own := [("pin", 7)]) (sc := defScope s_Circuit_sorted_gates) (N := ["self", "known", "order", "waiting", "later", "gate", "name", "pin"]) (by decide +kernel)) (fun _ _ _ _ _ => (pg_name (i := 7) sc_Circuit_sorted_gates.nd rfl (Or.inl rfl))) (fun _ _ _ _ _ => pts_nil) (fun _ _ _ _ _ => (pe_cmp (pc_din (hu_of hr) (pv 7) (pv 1)) rfl))) pa_nil))) (pss_cons (ps_dput (hu_of hr) (pv 1) (pe_ix ix_tup (pv 5) pe_int (fun _ _ => rfl)) pe_bl rfl)
      (pss_one (ps_expr (pe_bm PySem.F.plainAttrs_list PySem.F.slot_list_append PySem.F.type_list_append mt_append (pv 2) (pa_cons (pv 5) pa_nil))))) (pss_one (ps_expr (pe_bm PySem.F.plainAttrs_list PySem.F.slot_list_append PySem.F.type_list_append mt_append (pv 4) (pa_cons (pv 5) pa_nil)))))))
      (pss_cons (ps_if (pt_cmpR op_eq (pe_callB call_len_seq (by rfl) T.z_len PySem.boot_len (pa_cons (pv 4) pa_nil)) (pe_callB call_len_seq (by rfl) T.z_len PySem.boot_len (pa_cons (pv 3) pa_nil)) (nomark _)) (pss_one ps_never) pss_nil)
      (pss_one (ps_set (i := 3) sc_Circuit_sorted_gates.nd rfl (Or.inl rfl) (pv 4)))))))
      (pss_one (ps_ret (pv 2))))))), ?_⟩
  refine ⟨_, rfl, p, dx, fs, rfl, c.ob, c.fN _ (by decide), _, C, rfl, ⟨p, dx, fs, aI, aR, aG, aO, vR, vG, rfl, c⟩, ?_⟩
  rintro v H1 s1 ⟨l0, rfl, _, hl0⟩
  have hsl := small_src c.sm
  have hg10 := c.sm.g
  refine ⟨_, rfl, ⟨_, SqL.of hl0⟩, fun D hD => ?_⟩
  refine dcR (walk_list (xs := C.sources.map V.str)) (fun i => (C.sources[i]?).getD "") (fun _ y _ => y = .bl true) (fun _ _ _ _ _ q => q) (by rw [List.length_map]; omega) hD (fun H' s' => s'.seq (SqL.of hl0)) ?_ ?_
  · rintro i x H2 H3 hi s2 ⟨rfl, hx⟩ kk hk
    rw [List.getElem?_map, Option.map_eq_some_iff] at hx
    obtain ⟨z, hz, rfl⟩ := hx
    have e : (C.sources[i]?).getD "" = z := by rw [hz]; rfl
    rw [e] at hk
    refine ⟨rfl, ?_⟩
    decreasing_trivial
    exact hk _ _ (Same.refl _) rfl
  rintro H2 kv0 s2 hD2 hkl hkf
  have hkf0 : ∀ x, (valV kv0 (Sum.inr x)).isSome = decide (x ∈ C.sources) := by
    intro x
    rcases hkf x with ⟨i, hi, e, _, y, hy, _⟩ | ⟨hn, e⟩
    · rw [hy]
      rw [List.length_map] at hi
      have e1 : C.sources[i]? = some C.sources[i] := List.getElem?_eq_getElem hi
      rw [e1] at e
      rw [decide_eq_true (by rw [← e]; exact List.getElem_mem hi)]
      rfl
    · rw [e, decide_eq_false]
      · rfl
      · intro hx
        obtain ⟨i, hi, e2⟩ := List.mem_iff_getElem.mp hx
        refine hn i (by rw [List.length_map]; exact hi) ?_
        rw [List.getElem?_eq_getElem hi, e2]
        rfl
  rw [List.length_map] at hkl
  clear hkf
  have sD := s1.trans s2
  have hHD : H D = none := s1.free hD
  refine ⟨Nat.zero_le _, fun O hO => ?_⟩
  have s3 := sD.trans (same_new hO (.lst []))
  have c3 := c.mono s3
  have hHO : H O = none := sD.free hO
  have hDO : D ≠ O := ne_of_none hD2 hO
  refine ⟨_, rfl, _, _, _, _, _, rfl, c3.ob, T.cC, T.nC_gates, c3.fG, ?_⟩
  refine ⟨_, _, rfl, .inr (SqT.of c3.hG), fun W0 hW0 => ?_⟩
  have s4 := s3.trans (same_new hW0 (.lst vG))
  have hWO : W0 ≠ O := fun e => by
    rw [e, upd_same] at hW0
    cases hW0
  have hWD : D ≠ W0 := fun e => by
    rw [← e, upd_ne hDO, hD2] at hW0
    cases hW0
  refine ⟨fun m σ H' => ∃ Wd vW vO done rest kvs x4 x5 x6 x7, σ = [some (.ref p), some (.ref D), some (.ref O), some (.ref Wd), x4, x5, x6, x7] ∧ Same H H' ∧ H' D = some (.dK kvs) ∧ (∀ x, (valV kvs (Sum.inr x)).isSome = decide (x ∈ C.sources ++ done.map (·.line))) ∧ kvs.length ≤ 20 + done.length ∧ H' O = some (.lst vO) ∧ Paired (GateAt H) vO done ∧ H' Wd = some (.lst vW) ∧ Paired (GateAt H) vW rest ∧ Wd ≠ O ∧ Topo C.sources done ∧ (done ++ rest).Perm C.gates ∧ m = rest.length, ⟨_, W0, vG, [], [], C.gates, kv0, _, _, _, _, rfl, s4, ?_, ?_, ?_, ?_, .nil, upd_same, c.gates, hWO, trivial, List.Perm.refl _, rfl⟩, ?_⟩
  · rw [upd_ne hWD, upd_ne hDO]
    exact hD2
  · intro x
    rw [hkf0]
    simp
  · simp only [List.length_nil]
    omega
  · rw [upd_ne hWO.symm]
    exact upd_same
  rintro m σ H3 ⟨Wd, vW, vO, done, rest, kvs, x4, x5, x6, x7, rfl, sH, hd, hf, hkn, ho, hpo, hw, hpw, hne, htp, hpm, rfl⟩
  have hpw3 : Paired (GateAt H3) vW rest := gates_mono sH hpw
  refine ⟨_, rfl, Nat.zero_le _, fun e0 he0 => ?_⟩
  obtain ⟨ok1, ok2⟩ := gates_ok hpw3
  have se := same_new he0 (.lst [])
  refine ⟨_, _, .lst (SqL.of (se _ _ hw)) (gates_dp (gates_mono se hpw3)), .lst (SqL.of upd_same) .nil, shl ok1 (by omega), shl (by rfl) (by simp [PyData.depthAll]), _, rfl, ?_⟩
  rw [eqv_nil]
  cases hrest : rest with
  | nil =>
    subst hrest
    refine iteF ?_
    decreasing_trivial
    rw [List.append_nil] at hpm
    exact k.go (sH.trans se) ⟨O, vO, done, rfl, hHO, se _ _ ho, gates_mono (sH.trans se) hpo, htp, hpm⟩
  | cons r0 rs =>
    refine iteT ?_
    rw [← hrest]
    have hsum : done.length + rest.length = C.gates.length := by rw [← List.length_append, hpm.length_eq]
    refine ⟨fun σ' H' => ∃ m', m' < rest.length ∧ _, fun σ' H' q => q, ?_⟩
    refine ⟨Nat.zero_le _, fun L hL => ?_⟩
    decreasing_trivial
    have sL := se.trans (same_new hL (.lst []))
    have hwL := sL _ _ hw
    have hHL : H L = none := (sH.trans se).free hL
    have hLW : Wd ≠ L := ne_of_none (se _ _ hw) hL
    have hLO : O ≠ L := ne_of_none (se _ _ ho) hL
    have hLD : D ≠ L := ne_of_none (se _ _ hd) hL
    have hDW : D ≠ Wd := ne_of hd hw (by intro z; cases z)
    refine ⟨⟨_, SqL.of hwL⟩, ?_⟩
    refine for_it (walk_list (xs := vW)) (fun i σ H' => ∃ vO' vL done' later kvs' y5 y6 y7, σ = [some (.ref p), some (.ref D), some (.ref O), some (.ref Wd), some (.ref L), y5, y6, y7] ∧ Same H H' ∧ H' D = some (.dK kvs') ∧ (∀ x, (valV kvs' (Sum.inr x)).isSome = decide (x ∈ C.sources ++ done'.map (·.line))) ∧ kvs'.length ≤ 20 + done'.length ∧ H' O = some (.lst vO') ∧ Paired (GateAt H) vO' done' ∧ H' L = some (.lst vL) ∧ Paired (GateAt H) vL later ∧ H' Wd = some (.lst vW) ∧ Topo C.sources done' ∧ (done' ++ later ++ rest.drop i).Perm C.gates ∧ later.length ≤ i ∧ (∀ x ∈ done, x ∈ done') ∧ ((∃ (j : Nat) (g : Gate Str), j < i ∧ rest[j]? = some g ∧ ∀ p ∈ g.pins, p ∈ C.sources ++ done.map (·.line)) → later.length < i)) ?_ (fun i σ H' _ q => ?_) ?_ ?_
    · exact ⟨vO, [], done, [], kvs, _, _, _, rfl, sH.trans sL, sL _ _ hd, hf, hkn, sL _ _ ho, hpo, upd_same, .nil, hwL, htp, by rw [List.append_nil]; exact hpm, Nat.le_refl _, fun x h => h, fun ⟨j, _, h, _⟩ => absurd h (Nat.not_lt_zero _)⟩
    · obtain ⟨_, _, _, _, _, _, _, _, _, _, _, _, _, _, _, _, _, h, _⟩ := q
      exact SqL.of h
    · rintro i x σ H4 H4' hi ⟨vO', vL, done', later, kvs', y5, y6, y7, rfl, s5, hd5, hf5, hk5, ho5, hpo5, hl5, hpl5, hw5, ht5, hp5, hle, hmo, hpr⟩ ⟨rfl, hx⟩
      obtain ⟨g, hg, hga⟩ := Paired.at hpw hx
      have hga5 := hga.mono s5
      obtain ⟨a, b, rfl, ha, hb, _⟩ := hga5
      have hgm : g ∈ C.gates := hpm.mem_iff.mp (List.mem_append_right _ (List.mem_of_getElem? hg))
      have hpl := c.sm.p g hgm
      have hlen5 := hp5.length_eq
      rw [List.length_append, List.length_append, List.length_drop] at hlen5
      have hi2 := (List.getElem?_eq_some_iff.mp hg).1
      have hdrop : rest.drop i = g :: rest.drop (i + 1) := by
        rw [List.drop_eq_getElem_cons hi2]
        rw [(List.getElem?_eq_some_iff.mp hg).2]
      rw [hdrop] at hp5
      decreasing_trivial
      refine ⟨⟨_, SqT.of hb⟩, fun D2 hD2' => ?_⟩
      refine lcM (walk_tup (xs := g.pins.map V.str)) g.pins (by rw [List.length_map]) (fun y z _ => y = V.bl (decide (z ∈ C.sources ++ done'.map (·.line)))) (fun _ _ _ _ _ q => q) (by rw [List.length_map]; omega) hD2' (fun H' s' => s'.seqT (SqT.of hb)) ?_ ?_
      · rintro j x H5 H6 z hz s6 ⟨rfl, hx6⟩ kk hk
        rw [List.getElem?_map, hz] at hx6
        cases hx6
        refine ⟨rfl, ?_⟩
        decreasing_trivial
        refine ⟨_, _, rfl, DGet.k (k := Sum.inr z) (s6 _ _ hd5), ?_⟩
        rw [hf5]
        exact hk _ _ (Same.refl _) rfl
      · intro H5 ys s6 hD5 hz
        rw [vals_eq hz] at hD5
        refine ⟨_, g.pins.map fun z => decide (z ∈ C.sources ++ done'.map (·.line)), rfl, SqL.of (by rw [hD5, List.map_map]; rfl), _, rfl, ?_⟩
        have ha6 := s6 _ _ ha
        have hd6 := s6 _ _ hd5
        have ho6 := s6 _ _ ho5
        have hl6 := s6 _ _ hl5
        have hw6 := s6 _ _ hw5
        have hOD : O ≠ D := ne_of ho5 hd5 (by intro z; cases z)
        have hLD' : L ≠ D := ne_of hl5 hd5 (by intro z; cases z)
        cases hall : (g.pins.map fun z => decide (z ∈ C.sources ++ done'.map (·.line))).all id with
        | true =>
          have hpins : ∀ z ∈ g.pins, z ∈ C.sources ++ done'.map (·.line) := fun z hz => by
            rw [List.all_eq_true] at hall
            exact of_decide_eq_true (hall _ (List.mem_map.mpr ⟨z, hz, rfl⟩))
          refine iteT ?_
          decreasing_trivial
          refine ⟨_, _, rfl, DPut.k (k := Sum.inr g.line) hd6 (small1000 (by omega)), ?_⟩
          have hlk := length_putK kvs' (Sum.inr g.line) (.bl true)
          decreasing_trivial
          refine ⟨.inl ⟨rfl, _, SqL.of (by rw [upd_ne hOD]; exact ho6)⟩, ?_⟩
          decreasing_trivial
          have hvO := hpo5.length
          refine ⟨_, _, _, rfl, rfl, by rw [upd_ne hOD]; exact ho6, small1000 (by omega), ?_⟩
          refine ⟨vO' ++ [.ref a], vL, done' ++ [g], later, _, _, _, _, rfl, Same.mut (Same.mut (s5.trans s6) hHD) hHO, by rw [upd_ne hOD.symm]; exact upd_same, fun x => ?_, ?_, upd_same, hpo5.snoc hga, ?_, hpl5, ?_, topo_snoc ht5 hpins, ?_, by omega, fun x h => List.mem_append_left _ (hmo x h), fun _ => by omega⟩
          · rw [put_in hf5]
            simp [Bool.decide_or, Bool.or_assoc]
          · rw [List.length_append, List.length_singleton]
            omega
          · rw [upd_ne hLO.symm, upd_ne hLD']
            exact hl6
          · rw [upd_ne hne, upd_ne hDW.symm]
            exact hw6
          · refine List.Perm.trans ?_ hp5
            simp only [List.append_assoc, List.singleton_append]
            exact List.Perm.append_left _ List.perm_middle.symm
        | false =>
          refine iteF ?_
          decreasing_trivial
          refine ⟨.inl ⟨rfl, _, SqL.of hl6⟩, ?_⟩
          decreasing_trivial
          have hvL := hpl5.length
          refine ⟨_, _, _, rfl, rfl, hl6, small1000 (by omega), ?_⟩
          refine ⟨vO', vL ++ [.ref a], done', later ++ [g], kvs', _, _, _, rfl, Same.mut (s5.trans s6) hHL, by rw [upd_ne hLD'.symm]; exact hd6, hf5, hk5, by rw [upd_ne hLO]; exact ho6, hpo5, upd_same, hpl5.snoc hga, by rw [upd_ne hLW]; exact hw6, ht5, ?_, by rw [List.length_append, List.length_singleton]; omega, hmo, ?_⟩
          · refine List.Perm.trans ?_ hp5
            simp only [List.append_assoc, List.singleton_append]
            exact List.Perm.refl _
          · rintro ⟨j, g', hj, hg', hpp⟩
            rw [List.length_append, List.length_singleton]
            rcases Nat.lt_succ_iff_lt_or_eq.mp hj with hj | rfl
            · have := hpr ⟨j, g', hj, hg', hpp⟩
              omega
            · exfalso
              rw [hg] at hg'
              cases hg'
              rw [List.all_eq_false] at hall
              obtain ⟨b', hb', hb2⟩ := hall
              obtain ⟨z, hz, rfl⟩ := List.mem_map.mp hb'
              refine hb2 (decide_eq_true ?_)
              rcases List.mem_append.mp (hpp z hz) with h | h
              · exact List.mem_append_left _ h
              · obtain ⟨q, hq, e⟩ := List.mem_map.mp h
                exact List.mem_append_right _ (List.mem_map.mpr ⟨q, hmo q hq, e⟩)
    · rintro σ H4 ⟨vO', vL, done', later, kvs', y5, y6, y7, rfl, s5, hd5, hf5, hk5, ho5, hpo5, hl5, hpl5, hw5, ht5, hp5, hle, hmo, hpr⟩
      have hvW := hpw.length
      have hvL := hpl5.length
      rw [hvW] at hp5 hle hpr
      rw [List.drop_length, List.append_nil] at hp5
      have hlt : later.length < rest.length := by
        refine hpr ?_
        obtain ⟨g, hg, hpp⟩ := next_gate (done := done) (rest := rest) ord0 C.sources ht0 (fun g hg => List.mem_append.mp (hpm.mem_iff.mpr (hp0.mem_iff.mp hg))) ⟨r0, by rw [hrest]; exact List.mem_cons_self, hp0.mem_iff.mpr (hpm.mem_iff.mp (List.mem_append_right _ (by rw [hrest]; exact List.mem_cons_self)))⟩
        obtain ⟨j, hj, e⟩ := List.mem_iff_getElem.mp hg
        exact ⟨j, g, hj, by rw [List.getElem?_eq_getElem hj, e], hpp⟩
      refine ⟨_, rfl, _, _, rfl, .inl (SqL.of hl5), _, rfl, _, _, rfl, .inl (SqL.of hw5), rfl, _, rfl, ?_⟩
      refine ifF (decide_eq_false fun q => by have := V.int.inj q; omega) ?_
      decreasing_trivial
      refine ⟨_, hlt, ?_⟩
      exact ⟨L, vL, vO', done', later, kvs', _, _, _, _, rfl, s5, hd5, hf5, hk5, ho5, hpo5, hl5, hpl5, hLO.symm, ht5, hp5, rfl⟩
end
end Pw
namespace Pw
open PySem PySem.Spec PyProof.Rows L2
local macro_rules
  | `(tactic| decreasing_trivial) => `(tactic| repeat (first
    | refine ⟨_, rfl, ?_⟩
    | refine ⟨_, _, rfl, rfl, ?_⟩
    | refine ⟨rfl, ?_⟩
    | refine ⟨_, _, rfl, .inl (SqL.of (by assumption)), ?_⟩
    | refine ⟨_, _, rfl, .inr (SqT.of (by assumption)), ?_⟩
    | refine ⟨_, _, _, _, rfl, rfl, SqT.of (by assumption), rfl, ?_⟩
    | refine ⟨_, _, _, _, rfl, rfl, SqL.of (by assumption), rfl, ?_⟩
    | refine ⟨_, _, rfl, ?_⟩))
def But (p : Addr) (H H' : Hp) : Prop := ∀ b o, b ≠ p → H b = some o → H' b = some o
theorem But.refl (p : Addr) (H : Hp) : But p H H := fun _ _ _ h => h
theorem But.trans {p : Addr} {H H1 H2 : Hp} (a : But p H H1) (b : But p H1 H2) : But p H H2 := fun c o n h => b c o n (a c o n h)
theorem _root_.L2.Same.but {p : Addr} {H H' : Hp} (s : Same H H') : But p H H' := fun b o _ h => s b o h
theorem but_upd {p : Addr} {H : Hp} {o : HO} : But p H (upd H p o) := fun b u n h => by rw [upd_ne n]; exact h
section
variable {p : Addr} {H H' : Hp} {v : V} {C dx : Addr} {fs : List (Str × V)}
theorem But.tup (s : But p H H') (hp : H p = some (.ins C dx fs)) {a : Addr} {xs : List V} (h : H a = some (.tup xs)) : H' a = some (.tup xs) := s a _ (ne_of h hp (by intro z; cases z)) h
theorem But.lst (s : But p H H') (hp : H p = some (.ins C dx fs)) {a : Addr} {xs : List V} (h : H a = some (.lst xs)) : H' a = some (.lst xs) := s a _ (ne_of h hp (by intro z; cases z)) h
theorem But.dk (s : But p H H') (hp : H p = some (.ins C dx fs)) {a : Addr} {xs : List (Key × V)} (h : H a = some (.dK xs)) : H' a = some (.dK xs) := s a _ (ne_of h hp (by intro z; cases z)) h
theorem But.gate (s : But p H H') (hp : H p = some (.ins C dx fs)) {g : Gate Str} : GateAt H v g → GateAt H' v g := fun ⟨a, b, e, h1, h2, h3⟩ => ⟨a, b, e, s.tup hp h1, s.tup hp h2, h3⟩
theorem But.reg (s : But p H H') (hp : H p = some (.ins C dx fs)) {g : Str × Str} : RegAt H v g → RegAt H' v g := fun ⟨a, e, h1⟩ => ⟨a, e, s.tup hp h1⟩
theorem But.gates (s : But p H H') (hp : H p = some (.ins C dx fs)) {vs : List V} {gs : List (Gate Str)} (h : Paired (GateAt H) vs gs) : Paired (GateAt H') vs gs := L2.Paired.mapP h fun _ _ q => s.gate hp q
theorem But.regs (s : But p H H') (hp : H p = some (.ins C dx fs)) {vs : List V} {gs : List (Str × Str)} (h : Paired (RegAt H) vs gs) : Paired (RegAt H') vs gs := L2.Paired.mapP h fun _ _ q => s.reg hp q
end
theorem WF.small {C : Circ Str} (w : WF C) : Small C := by
  have h1 := w.ns
  unfold Circ.sources at h1
  rw [List.length_append, List.length_map] at h1
  have h2 := w.no
  unfold Circ.sinks at h2
  rw [List.length_append, List.length_map] at h2
  exact ⟨by omega, by omega, by have := w.ng; omega, by omega, fun g hg => arity_le (w.arity g hg)⟩
theorem WF.uses {C : Circ Str} (w : WF C) : ∀ l ∈ C.uses, l ∈ C.lines := fun l hl => by
  rcases List.mem_append.mp hl with h | h
  · rcases List.mem_append.mp h with h | h
    · obtain ⟨g, hg, hp⟩ := List.mem_flatMap.mp h
      exact w.pin hg hp
    · exact w.sinks l (List.mem_append_right _ h)
  · exact w.sinks l (List.mem_append_left _ h)
section
variable {P : Program} {w : World} {K : PySem.W.Frag} {mg : Str → Option Value} {base : Heap} {A : Ad}
theorem CPre.put {H : Hp} {p : Addr} {C : Circ Str} {dx : Addr} {fs : List (Str × V)} {aI aR aG aO : Addr} {vR vG : List V} {f : Str} {v : V} (c : CPre A H p C dx fs aI aR aG aO vR vG) (hf : f = "gate_of" ∨ f = "order") :
    CPre A (upd H p (.ins A.CC dx (putF f v fs))) p C dx (putF f v fs) aI aR aG aO vR vG := by
  have s : But p H (upd H p (.ins A.CC dx (putF f v fs))) := but_upd
  have lk : ∀ g : Str, g ≠ f → (putF f v fs).lookup g = fs.lookup g := fun g hg => by rw [lookup_putF, if_neg hg]
  refine ⟨upd_same, ?_, ?_, ?_, ?_, fun m hm => ?_, s.tup c.ob c.hI, s.tup c.ob c.hR, s.tup c.ob c.hG, s.tup c.ob c.hO, s.regs c.ob c.regs, s.gates c.ob c.gates, c.sm⟩
  · rw [lk _ (by rcases hf with rfl | rfl <;> decide)]; exact c.fI
  · rw [lk _ (by rcases hf with rfl | rfl <;> decide)]; exact c.fR
  · rw [lk _ (by rcases hf with rfl | rfl <;> decide)]; exact c.fG
  · rw [lk _ (by rcases hf with rfl | rfl <;> decide)]; exact c.fO
  · rw [lk _ (fun e => hm (by rw [e]; rcases hf with rfl | rfl <;> decide))]; exact c.fN m hm
theorem len_putF (f : Str) (v : V) : ∀ fs : List (Str × V), (putF f v fs).length ≤ fs.length + 1
  | [] => Nat.le_refl _
  | (g, x) :: r => by
    unfold putF
    split
    · simp
    · have := len_putF f v r
      simp
      omega
def Circ.withOrder (C : Circ Str) (ord : List (Gate Str)) : Circ Str := { C with order := ord }
def spInit (A : Ad) : Sp := fun vs H Q _ => ∃ p dx l1 l2 l3 l4 vR vG C, vs = [.ref p, .ref l1, .ref l2, .ref l3, .ref l4] ∧ H p = some (.ins A.CC dx []) ∧ H l1 = some (.lst (C.ins.map V.str)) ∧ H l2 = some (.lst vR) ∧ Paired (RegAt H) vR C.regs ∧
  H l3 = some (.lst vG) ∧ Paired (GateAt H) vG C.gates ∧ H l4 = some (.lst (C.outs.map V.str)) ∧ Named C ∧ WF C ∧
  (∀ H' ord, But p H H' → WF (C.withOrder ord) → CircAt A H' (.ref p) (C.withOrder ord) → Q .non H')
theorem ok_circuit {f : Addr} {fd : FuncData} (T : Txt K mg A) (c_Circuit_check_forms : Met P w K mg base 3 A.CC "check_forms" (spForms A)) (c_Circuit_check_names : Met P w K mg base 3 A.CC "check_names" (spNames A)) (c_Circuit_sorted_gates : Met P w K mg base 2 A.CC "sorted_gates" (spSorted A))
    (F : Fun K "__init__" "Circuit.__init__" s_Circuit_init f fd) : FnOk P w K mg base CX0 4 f fd ["self", "inputs", "registers", "gates", "outputs"] (spInit A) := by
  refine F.ok sc_Circuit_init (fun vs H Q E h => ?_) (fun cdv Ar outer s H vs Q E hr h => ?_)
  · obtain ⟨p, dx, l1, l2, l3, l4, vR, vG, C, rfl, _⟩ := h
    rfl
  obtain ⟨p, dx, l1, l2, l3, l4, vR, vG, C, rfl, hp, h1, h2, hR, h3, hG, h4, hN, wf, k⟩ := h
  refine ⟨_, (pss_cons (ps_fld (pv 0) (pe_callTy call_tuple_of (by rfl) T.z_tuple bt_tuple (pa_cons (pv 1) pa_nil)) rfl)
      (pss_cons (ps_fld (pv 0) (pe_callTy call_tuple_of (by rfl) T.z_tuple bt_tuple (pa_cons (pv 2) pa_nil)) rfl)
      (pss_cons (ps_fld (pv 0) (pe_callTy call_tuple_of (by rfl) T.z_tuple bt_tuple (pa_cons (pv 3) pa_nil)) rfl)
      (pss_cons (ps_fld (pv 0) (pe_callTy call_tuple_of (by rfl) T.z_tuple bt_tuple (pa_cons (pv 4) pa_nil)) rfl)
      (pss_cons (ps_expr (pe_mt0 c_Circuit_check_forms hr (by omega) (pv 0)))
      (pss_cons (ps_fld (pv 0) (pe_dc (own := [("gate", 5)]) rfl sc_Circuit_init.nd  (pi_tup (pe_fld (pv 0) rfl)) (blkOk_by (own := [("gate", 5)]) (sc := defScope s_Circuit_init) (N := ["self", "inputs", "registers", "gates", "outputs", "gate"]) (by decide +kernel)) (fun _ _ _ _ _ => (pg_name (i := 5) sc_Circuit_init.nd rfl (Or.inl rfl))) (fun _ _ _ _ _ => pts_nil) (fun _ _ _ _ _ => (pe_ix (ix_tupB (K := K) rfl) (pv 5) pe_int (fun _ _ => rfl))) (fun _ _ _ _ _ => (pv 5))) rfl)
      (pss_cons (ps_expr (pe_mt0 c_Circuit_check_names hr (by omega) (pv 0)))
      (pss_one (ps_fld (pv 0) (pe_mt0 c_Circuit_sorted_gates hr (by omega) (pv 0)) rfl))))))))), ?_⟩
  have sm := wf.small
  refine ⟨_, rfl, _, _, rfl, .inl ⟨SqL.of h1, fun t1 ht1 => ?_⟩⟩
  have b1 : But p H _ := (same_new ht1 (.tup (C.ins.map V.str))).but
  have p1 := (same_new ht1 (.tup (C.ins.map V.str))) _ _ hp
  refine ⟨_, rfl, p, _, dx, _, rfl, p1, T.cC, T.nC_inputs, by decide, ?_⟩
  have b2 := b1.trans (but_upd (o := .ins A.CC dx (putF "inputs" (.ref t1) [])))
  have e1 := (but_upd (p := p) (o := .ins A.CC dx (putF "inputs" (.ref t1) []))).tup p1 (upd_same (H := H) (a := t1) (o := .tup (C.ins.map V.str)))
  have p2 := upd_same (H := upd H t1 (.tup (C.ins.map V.str))) (a := p) (o := .ins A.CC dx (putF "inputs" (.ref t1) []))
  generalize upd (upd H t1 (.tup (C.ins.map V.str))) p (.ins A.CC dx (putF "inputs" (.ref t1) [])) = H2 at b2 e1 p2 ⊢
  refine ⟨_, rfl, _, _, rfl, .inl ⟨SqL.of (b2.lst hp h2), fun t2 ht2 => ?_⟩⟩
  have p2' := (same_new ht2 (.tup vR)) _ _ p2
  refine ⟨_, rfl, p, _, dx, _, rfl, p2', T.cC, T.nC_registers, by show 1 < 1000; decide, ?_⟩
  have q3 := ((same_new ht2 (.tup vR)).but (p := p)).trans (but_upd (o := .ins A.CC dx (putF "registers" (.ref t2) (putF "inputs" (.ref t1) []))))
  have b3 := b2.trans q3
  have e1 := q3.tup p2 e1
  have e2 := (but_upd (p := p) (o := .ins A.CC dx (putF "registers" (.ref t2) (putF "inputs" (.ref t1) [])))).tup p2' (upd_same (H := H2) (a := t2) (o := .tup vR))
  have p3 := upd_same (H := upd H2 t2 (.tup vR)) (a := p) (o := .ins A.CC dx (putF "registers" (.ref t2) (putF "inputs" (.ref t1) [])))
  generalize upd (upd H2 t2 (.tup vR)) p (.ins A.CC dx (putF "registers" (.ref t2) (putF "inputs" (.ref t1) []))) = H3 at b3 e1 e2 p3 ⊢
  clear q3
  refine ⟨_, rfl, _, _, rfl, .inl ⟨SqL.of (b3.lst hp h3), fun t3 ht3 => ?_⟩⟩
  have p3' := (same_new ht3 (.tup vG)) _ _ p3
  refine ⟨_, rfl, p, _, dx, _, rfl, p3', T.cC, T.nC_gates, by show 2 < 1000; decide, ?_⟩
  have q4 := ((same_new ht3 (.tup vG)).but (p := p)).trans (but_upd (o := .ins A.CC dx (putF "gates" (.ref t3) (putF "registers" (.ref t2) (putF "inputs" (.ref t1) [])))))
  have b4 := b3.trans q4
  have e1 := q4.tup p3 e1
  have e2 := q4.tup p3 e2
  have e3 := (but_upd (p := p) (o := .ins A.CC dx (putF "gates" (.ref t3) (putF "registers" (.ref t2) (putF "inputs" (.ref t1) []))))).tup p3' (upd_same (H := H3) (a := t3) (o := .tup vG))
  have p4 := upd_same (H := upd H3 t3 (.tup vG)) (a := p) (o := .ins A.CC dx (putF "gates" (.ref t3) (putF "registers" (.ref t2) (putF "inputs" (.ref t1) []))))
  generalize upd (upd H3 t3 (.tup vG)) p (.ins A.CC dx (putF "gates" (.ref t3) (putF "registers" (.ref t2) (putF "inputs" (.ref t1) [])))) = H4 at b4 e1 e2 e3 p4 ⊢
  clear q4
  refine ⟨_, rfl, _, _, rfl, .inl ⟨SqL.of (b4.lst hp h4), fun t4 ht4 => ?_⟩⟩
  have p4' := (same_new ht4 (.tup (C.outs.map V.str))) _ _ p4
  refine ⟨_, rfl, p, _, dx, _, rfl, p4', T.cC, T.nC_outputs, by show 3 < 1000; decide, ?_⟩
  have q5 := ((same_new ht4 (.tup (C.outs.map V.str))).but (p := p)).trans (but_upd (o := .ins A.CC dx (putF "outputs" (.ref t4) (putF "gates" (.ref t3) (putF "registers" (.ref t2) (putF "inputs" (.ref t1) []))))))
  have b5 := b4.trans q5
  have e1 := q5.tup p4 e1
  have e2 := q5.tup p4 e2
  have e3 := q5.tup p4 e3
  have e4 := (but_upd (p := p) (o := .ins A.CC dx (putF "outputs" (.ref t4) (putF "gates" (.ref t3) (putF "registers" (.ref t2) (putF "inputs" (.ref t1) [])))))).tup p4' (upd_same (H := H4) (a := t4) (o := .tup (C.outs.map V.str)))
  have p5 := upd_same (H := upd H4 t4 (.tup (C.outs.map V.str))) (a := p) (o := .ins A.CC dx (putF "outputs" (.ref t4) (putF "gates" (.ref t3) (putF "registers" (.ref t2) (putF "inputs" (.ref t1) [])))))
  generalize upd (upd H4 t4 (.tup (C.outs.map V.str))) p (.ins A.CC dx (putF "outputs" (.ref t4) (putF "gates" (.ref t3) (putF "registers" (.ref t2) (putF "inputs" (.ref t1) []))))) = H5 at b5 e1 e2 e3 e4 p5 ⊢
  clear q5
  have c : CPre A H5 p C dx _ t1 t2 t3 t4 vR vG := ⟨p5, rfl, rfl, rfl, rfl, fun m hm => by
    have n1 : m ≠ "inputs" := fun e => hm (by rw [e]; decide)
    have n2 : m ≠ "registers" := fun e => hm (by rw [e]; decide)
    have n3 : m ≠ "gates" := fun e => hm (by rw [e]; decide)
    have n4 : m ≠ "outputs" := fun e => hm (by rw [e]; decide)
    rw [lookup_putF, if_neg n4, lookup_putF, if_neg n3, lookup_putF, if_neg n2, lookup_putF, if_neg n1]
    rfl, e1, e2, e3, e4, b5.regs hp hR, b5.gates hp hG, sm⟩
  clear p1 p2 p3 p4 p2' p3' p4' b1 b2 b3 b4 e1 e2 e3 e4
  have hlf : (putF "outputs" (.ref t4) (putF "gates" (.ref t3) (putF "registers" (.ref t2) (putF "inputs" (.ref t1) [])))).length = 4 := rfl
  generalize putF "outputs" (.ref t4) (putF "gates" (.ref t3) (putF "registers" (.ref t2) (putF "inputs" (.ref t1) []))) = fs at p5 c hlf
  refine ⟨_, rfl, p, dx, fs, rfl, c.ob, c.fN _ (by decide), _, C, rfl, ⟨p, dx, fs, t1, t2, t3, t4, vR, vG, rfl, c⟩, hN, wf.arity, ?_⟩
  rintro v H6 s6 rfl
  have c6 := c.mono s6
  have b6 := b5.trans s6.but
  refine ⟨_, rfl, _, _, _, _, _, rfl, c6.ob, T.cC, T.nC_gates, c6.fG, ?_⟩
  refine ⟨_, rfl, ⟨_, SqT.of c6.hG⟩, fun D hD => ?_⟩
  have hgl := c.gates.length
  refine dcR (walk_tup (xs := vG)) (fun i => ((C.gates[i]?).map (·.line)).getD "") (fun i y _ => vG[i]? = some y) (fun _ _ _ _ _ q => q) (by rw [hgl]; have := sm.g; omega) hD (fun H' s' => s'.seqT (SqT.of c6.hG)) ?_ ?_
  · rintro i x H7 H8 hi s7 ⟨rfl, hx⟩ kk hk
    obtain ⟨g, hg, hga⟩ := Paired.at c6.gates hx
    obtain ⟨a, b, rfl, ha, hb, _⟩ := hga.mono s7
    have e : ((C.gates[i]?).map (·.line)).getD ("" : Str) = g.line := by rw [hg]; rfl
    rw [e] at hk
    refine ⟨rfl, ?_⟩
    decreasing_trivial
    exact hk _ _ (Same.refl _) hx
  rintro H7 kvs s7 hD7 hkl hkf
  have c7 := c6.mono s7
  have b7 := b6.trans s7.but
  refine ⟨_, rfl, p, _, dx, _, rfl, c7.ob, T.cC, T.nC_gate_of, by rw [hlf]; decide, ?_⟩
  have c8 := c7.put (f := "gate_of") (v := .ref D) (.inl rfl)
  have s8 : But p H7 (upd H7 p (.ins A.CC dx (putF "gate_of" (.ref D) fs))) := but_upd
  have hD8 := s8.dk c7.ob hD7
  have b8 := b7.trans s8
  have hlf8 : (putF "gate_of" (.ref D) fs).length ≤ 5 := by
    have := len_putF "gate_of" (.ref D) fs
    omega
  have hgo : (putF "gate_of" (.ref D) fs).lookup ("gate_of" : Str) = some (.ref D) := by rw [lookup_putF, if_pos rfl]
  generalize upd H7 p (.ins A.CC dx (putF "gate_of" (.ref D) fs)) = H8 at c8 s8 hD8 b8 ⊢
  generalize putF "gate_of" (.ref D) fs = fs8 at c8 hlf8 hgo
  refine ⟨_, rfl, p, dx, fs8, rfl, c8.ob, c8.fN _ (by decide), _, C, rfl, ⟨p, dx, fs8, t1, t2, t3, t4, vR, vG, rfl, c8⟩, wf.nodup, wf.uses, ?_⟩
  rintro v H9 s9 rfl
  have c9 := c8.mono s9
  refine ⟨_, rfl, p, dx, fs8, rfl, c9.ob, c9.fN _ (by decide), _, C, rfl, ⟨p, dx, fs8, t1, t2, t3, t4, vR, vG, rfl, c9⟩, ⟨C.order, wf.topo, wf.perm⟩, ?_⟩
  rintro v H10 s10 ⟨l, us, ord, rfl, _, hl, hus, hto, hpe⟩
  have c10 := c9.mono s10
  refine ⟨_, rfl, p, _, dx, _, rfl, c10.ob, T.cC, T.nC_order, by omega, ?_⟩
  have c11 := c10.put (f := "order") (v := .ref l) (.inr rfl)
  have s11 : But p H10 (upd H10 p (.ins A.CC dx (putF "order" (.ref l) fs8))) := but_upd
  have wf' : WF (C.withOrder ord) := ⟨wf.nodup, hto, hpe, wf.arity, wf.sinks, wf.ns, wf.ng, wf.no⟩
  refine k _ ord (((b8.trans s9.but).trans s10.but).trans s11) wf' ⟨p, dx, putF "order" (.ref l) fs8, t1, t2, t3, t4, vR, vG, D, l, us, kvs, rfl, ?_, ?_, ?_, s11.lst c10.ob hl, s11.gates c10.ob hus, s11.dk c10.ob (s10 _ _ (s9 _ _ hD8)), fun g hg => ?_⟩
  · exact ⟨c11.ob, c11.fI, c11.fR, c11.fG, c11.fO, c11.fN, c11.hI, c11.hR, c11.hG, c11.hO, c11.regs, c11.gates, wf'.small⟩
  · rw [lookup_putF, if_neg (by decide)]
    exact hgo
  · rw [lookup_putF, if_pos rfl]
  · rcases hkf g.line with ⟨i, hi, e, _, y, hy, hr2⟩ | ⟨hn, _⟩
    · obtain ⟨g', hg', hga⟩ := Paired.at c11.gates hr2
      rw [hg'] at e
      have : g' = g := wf.gate_inj (List.mem_of_getElem? hg') hg e
      rw [this] at hga
      exact ⟨y, hy, hga⟩
    · obtain ⟨i, hi, e⟩ := List.mem_iff_getElem.mp (show g ∈ C.gates from hg)
      refine absurd ?_ (hn i (by rw [hgl]; exact hi))
      rw [List.getElem?_eq_getElem hi, e]
      rfl
end
end Pw
namespace Pw
open PySem PySem.Spec PyProof.Rows L2
local macro_rules
  | `(tactic| decreasing_trivial) => `(tactic| repeat (first
    | refine ⟨_, rfl, ?_⟩
    | refine ⟨_, _, rfl, rfl, ?_⟩
    | refine ⟨rfl, ?_⟩
    | refine ⟨_, _, rfl, .inl (SqL.of (by assumption)), ?_⟩
    | refine ⟨_, _, rfl, .inr (SqT.of (by assumption)), ?_⟩
    | refine ⟨_, _, _, _, rfl, rfl, SqT.of (by assumption), rfl, ?_⟩
    | refine ⟨_, _, _, _, rfl, rfl, SqL.of (by assumption), rfl, ?_⟩
    | refine ⟨_, _, rfl, ?_⟩))
section
variable {P : Program} {w : World} {K : PySem.W.Frag} {mg : Str → Option Value} {base : Heap} {A : Ad}
/-! ### a Marks object -/
def mNames : List Str := ["circuit", "versions", "partial"]
structure MPre (A : Ad) (K : PySem.W.Frag) (H : Hp) (p : Addr) (C : Circ Str) (u1 u2 : Ver Str) (part : List (Option Bool)) (dx : Addr) (fs : List (Str × V)) (vc : V) (aV aP : Addr) (v1 v2 : V) : Prop where
  ob : H p = some (.ins A.CM dx fs)
  fC : fs.lookup ("circuit" : Str) = some vc
  fV : fs.lookup ("versions" : Str) = some (.ref aV)
  fP : fs.lookup ("partial" : Str) = some (.ref aP)
  fN : ∀ m : Str, m ∉ mNames → fs.lookup m = none
  hC : CircAt A H vc C
  hV : H aV = some (.tup [v1, v2])
  h1 : VerAt H v1 u1
  h2 : VerAt H v2 u2
  hP : H aP = some (.tup (part.map optV))
theorem MPre.mono {H H' : Hp} {p : Addr} {C : Circ Str} {u1 u2 : Ver Str} {part : List (Option Bool)} {dx : Addr} {fs : List (Str × V)} {vc : V} {aV aP : Addr} {v1 v2 : V} (s : Same H H') (h : MPre A K H p C u1 u2 part dx fs vc aV aP v1 v2) : MPre A K H' p C u1 u2 part dx fs vc aV aP v1 v2 :=
  ⟨s _ _ h.ob, h.fC, h.fV, h.fP, h.fN, h.hC.mono s, s _ _ h.hV, h.h1.mono s, h.h2.mono s, s _ _ h.hP⟩
def MkAt (A : Ad) (K : PySem.W.Frag) (H : Hp) (v : V) (C : Circ Str) (u1 u2 : Ver Str) (part : List (Option Bool)) : Prop := ∃ p dx fs vc aV aP v1 v2, v = .ref p ∧ MPre A K H p C u1 u2 part dx fs vc aV aP v1 v2
theorem MkAt.mono {H H' : Hp} {v : V} {C : Circ Str} {u1 u2 : Ver Str} {part : List (Option Bool)} (s : Same H H') : MkAt A K H v C u1 u2 part → MkAt A K H' v C u1 u2 part := fun ⟨p, dx, fs, vc, aV, aP, v1, v2, e, h⟩ => ⟨p, dx, fs, vc, aV, aP, v1, v2, e, h.mono s⟩
def spMInit (A : Ad) : Sp := fun vs H Q _ => ∃ p dx x y z, vs = [.ref p, x, y, z] ∧ H p = some (.ins A.CM dx []) ∧ ∀ H' fs, But p H H' → H' p = some (.ins A.CM dx fs) → fs.lookup ("circuit" : Str) = some x → fs.lookup ("versions" : Str) = some y → fs.lookup ("partial" : Str) = some z → (∀ m : Str, m ∉ mNames → fs.lookup m = none) → Q .non H'
theorem ok_marks_init {f : Addr} {fd : FuncData} (T : Txt K mg A) (F : Fun K "__init__" "Marks.__init__" s_Marks_init f fd) : FnOk P w K mg base CX0 1 f fd ["self", "circuit", "versions", "partial"] (spMInit A) := by
  refine F.ok sc_Marks_init (fun vs H Q E h => ?_) (fun cdv Ar outer s H vs Q E hr h => ?_)
  · obtain ⟨p, dx, x, y, z, rfl, _⟩ := h
    rfl
  obtain ⟨p, dx, x, y, z, rfl, hp, k⟩ := h
  refine ⟨_, (pss_cons (ps_fld (pv 0) (pv 1) rfl)
      (pss_cons (ps_fld (pv 0) (pv 2) rfl)
      (pss_one (ps_fld (pv 0) (pv 3) rfl)))), ?_⟩
  refine ⟨_, rfl, _, rfl, p, _, dx, _, rfl, hp, T.cM, T.nM_circuit, by decide, ?_⟩
  refine ⟨_, rfl, _, rfl, p, _, dx, _, rfl, upd_same, T.cM, T.nM_versions, by show 1 < 1000; decide, ?_⟩
  refine ⟨_, rfl, _, rfl, p, _, dx, _, rfl, upd_same, T.cM, T.nM_part, by show 2 < 1000; decide, ?_⟩
  refine k _ _ ((but_upd.trans but_upd).trans but_upd) upd_same rfl rfl rfl fun m hm => ?_
  have n1 : m ≠ "circuit" := fun e => hm (by rw [e]; decide)
  have n2 : m ≠ "versions" := fun e => hm (by rw [e]; decide)
  have n3 : m ≠ "partial" := fun e => hm (by rw [e]; decide)
  rw [lookup_putF, if_neg n3, lookup_putF, if_neg n2, lookup_putF, if_neg n1]
  rfl
/-- a new object of a class, seen from the heap before it -/
theorem make_same {H1 H' : Hp} {x dx : Addr} {o : HO} (hx : H1 x = none) (hdx : H1 dx = none) (b : But x (upd (upd H1 dx (.own x)) x o) H') : Same H1 H' := fun c u h => by
  have e1 : c ≠ x := ne_of_none h hx
  have e2 : c ≠ dx := ne_of_none h hdx
  exact b c u e1 (by rw [upd_ne e1, upd_ne e2]; exact h)
def spSeen (A : Ad) (K : PySem.W.Frag) : Sp := fun vs H Q _ => ∃ v gv i D C u1 u2 part g z kvs m, vs = [v, gv, .int ((i : Nat) : Int), .ref D] ∧ MkAt A K H v C u1 u2 part ∧ GateAt H gv g ∧ g.pins[i]? = some z ∧ H D = some (.dK kvs) ∧ valV kvs (Sum.inr z) = some (markV m) ∧ Ret (fun v _ => v = markV (seenM u1 u2 g.line i m)) H Q
def stepS (u : Ver Str) (l : Str) (i side : Nat) (m : Mark) : Mark := match u.stuck l i with
  | some b => m.withVal side b
  | none => m
theorem seenM_steps (u1 u2 : Ver Str) (l : Str) (i : Nat) (m : Mark) : seenM u1 u2 l i m = stepS u2 l i 1 (stepS u1 l i 0 m) := rfl
/-- two sides, one behind the other -/
def two {α : Type} (f : Ver Str → Nat → α → α) (u1 u2 : Ver Str) (m : α) : Nat → α
  | 0 => m
  | 1 => f u1 0 m
  | _ => f u2 1 (f u1 0 m)
theorem two_at {H : Hp} {v1 v2 x : V} {u1 u2 : Ver Str} {j : Nat} (h1 : VerAt H v1 u1) (h2 : VerAt H v2 u2) (hx : [v1, v2][j]? = some x) : ∃ u, (u = u1 ∨ u = u2) ∧ VerAt H x u ∧ ∀ {α : Type} (f : Ver Str → Nat → α → α) (m : α), two f u1 u2 m (j + 1) = f u j (two f u1 u2 m j) := by
  match j, hx with
  | 0, hx => exact ⟨u1, .inl rfl, (Option.some.inj hx) ▸ h1, fun _ _ => rfl⟩
  | 1, hx => exact ⟨u2, .inr rfl, (Option.some.inj hx) ▸ h2, fun _ _ => rfl⟩
theorem two_lt {v1 v2 x : V} {j : Nat} (hx : [v1, v2][j]? = some x) : j < 2 := (List.getElem?_eq_some_iff.mp hx).1
theorem ok_seen {f : Addr} {fd : FuncData} (T : Txt K mg A) (c_stuck_pin : Cal P w K mg base 1 "stuck_pin" spStuck) (c_with_value : Cal P w K mg base 2 "with_value" spWith) (F : Fun K "seen" "Marks.seen" s_Marks_seen f fd) : FnOk P w K mg base CX0 3 f fd ["self", "gate", "index", "known"] (spSeen A K) := by
  refine F.ok sc_Marks_seen (fun vs H Q E h => ?_) (fun cdv Ar outer s H vs Q E hr h => ?_)
  · obtain ⟨v, gv, i, D, C, u1, u2, part, g, z, kvs, m, rfl, _⟩ := h
    rfl
  obtain ⟨v, gv, i, D, C, u1, u2, part, g, z, kvs, m, rfl, ⟨p, dx, fs, vc, aV, aP, v1, v2, rfl, c⟩, ⟨a, b, rfl, ha, hb, hok⟩, hz, hD, hm, k⟩ := h
  refine ⟨_, (pss_cons (ps_set (i := 4) sc_Marks_seen.nd rfl (Or.inl rfl) (pe_dget (hu_of hr) (pv 3) (pe_ix ix_tup (pe_ix ix_tup (pv 1) pe_int (fun _ _ => rfl)) (pv 2) (fun _ _ => rfl)) (fun _ _ => rfl)))
      (pss_cons (ps_for PassesOwn.never rfl (pi_enumT (by rfl) T.z_enumerate (pa_cons (pe_fld (pv 0) rfl) pa_nil)) (pg_tup rfl (pgs_cons (pg_name (i := 5) sc_Marks_seen.nd rfl (Or.inl rfl)) (pgs_cons (pg_name (i := 6) sc_Marks_seen.nd rfl (Or.inl rfl)) pgs_nil))) (pss_cons (ps_set (i := 7) sc_Marks_seen.nd rfl (Or.inl rfl) (pe_c c_stuck_pin hr (by omega) rfl (pa_cons (pv 6) (pa_cons (pe_ix ix_tup (pv 1) pe_int (fun _ _ => rfl)) (pa_cons (pv 2) pa_nil)))))
      (pss_one (ps_if (pt_cmp (pc_notN (pv 7))) (pss_one (ps_set (i := 4) sc_Marks_seen.nd rfl (Or.inl rfl) (pe_c c_with_value hr (by omega) rfl (pa_cons (pv 4) (pa_cons (pv 5) (pa_cons (pv 7) pa_nil)))))) pss_nil))))
      (pss_one (ps_ret (pv 4))))), ?_⟩
  decreasing_trivial
  refine ⟨_, _, _, _, rfl, rfl, SqT.of hb, atI_nat (v := .str z) (by rw [List.getElem?_map, hz]; rfl), ?_⟩
  refine ⟨_, _, rfl, by rw [← hm]; exact DGet.k (k := Sum.inr z) hD, ?_⟩
  decreasing_trivial
  refine ⟨_, _, _, _, _, rfl, c.ob, T.cM, T.nM_versions, c.fV, ?_⟩
  refine ⟨_, _, rfl, SqT.of c.hV, ?_⟩
  refine for_it (walk_enumT (xs := [v1, v2])) (fun j σ H' => (∃ x5 x6 x7, σ = [some (.ref p), some (.ref a), some (.int (i : Int)), some (.ref D), some (markV (two (fun u side m => stepS u g.line i side m) u1 u2 m j)), x5, x6, x7]) ∧ Same H H') ⟨⟨_, _, _, rfl⟩, Same.refl _⟩ (fun j σ H' _ q => q.2.seqT (SqT.of c.hV)) ?_ ?_
  · rintro j x σ H2 H2' hj ⟨⟨x5, x6, x7, rfl⟩, s2⟩ ⟨t, y, rfl, ht, rfl, hy⟩
    obtain ⟨u, _, hu, hstep⟩ := two_at (c.h1.mono s2) (c.h2.mono s2) hy
    have sN := same_new ht (.tup [.int (j : Nat), y])
    refine ⟨_, _, rfl, SqT.of upd_same, rfl, ?_⟩
    have ha2 := (s2.trans sN) _ _ ha
    decreasing_trivial
    refine ⟨y, u, g.line, i, rfl, hu.mono sN, hok _ List.mem_cons_self, ?_⟩
    rintro v H3 s3 rfl
    have e := hstep (fun u side m => stepS u g.line i side m) m
    rw [e]
    unfold stepS
    cases hst : u.stuck g.line i with
    | none =>
      decreasing_trivial
      exact ⟨⟨_, _, _, rfl⟩, (s2.trans sN).trans s3⟩
    | some bb =>
      decreasing_trivial
      refine ⟨_, j, bb, rfl, ?_⟩
      rintro v H4 s4 rfl
      exact ⟨⟨_, _, _, rfl⟩, ((s2.trans sN).trans s3).trans s4⟩
  · rintro σ H2 ⟨⟨x5, x6, x7, rfl⟩, s2⟩
    decreasing_trivial
    exact k.go s2 rfl
def PL : Type := Circ Str → List (Option Bool) → Str → Mark
def spForced (A : Ad) (K : PySem.W.Frag) (R : Ver Str → Ver Str → Prop) (pl : PL) : Sp := fun vs H Q _ => ∃ v line m d C u1 u2 part, vs = [v, .str line, markV m, d] ∧ R u1 u2 ∧ MkAt A K H v C u1 u2 part ∧ WF C ∧ part.length = C.sources.length ∧ VerOk C u1 ∧ VerOk C u2 ∧ Ret (fun v _ => v = markV (forceM u1 u2 (pl C part) line m)) H Q
def R0 (u1 u2 : Ver Str) : Prop := u1 = .right ∧ u2 = .right
def R1 (_ _ : Ver Str) : Prop := True
def pl0 : PL := fun _ _ _ => default
def pl1 : PL := fun C part => plainM C part
def spNo : Sp := fun _ _ _ _ => False
def spShorted (A : Ad) (K : PySem.W.Frag) : Sp := fun vs H Q _ => ∃ v m side x C u1 u2 part a b k, vs = [v, markV m, .int ((side : Nat) : Int), x] ∧ MkAt A K H v C u1 u2 part ∧ WF C ∧ part.length = C.sources.length ∧ VerAt H x (.short a b k) ∧ a ∈ C.lines ∧ b ∈ C.lines ∧ Ret (fun v _ => v = markV (shortM m side k (plainM C part a) (plainM C part b))) H Q
theorem ok_shorted_no {f : Addr} {fd : FuncData} (F : Fun K "shorted" "Marks.shorted" s_Marks_shorted f fd) : FnOk P w K mg base CX0 1 f fd ["self", "mark", "side", "version"] spNo := by
  refine F.ok sc_Marks_shorted (fun vs H Q E h => h.elim) (fun cdv Ar outer s H vs Q E hr h => h.elim)
theorem in_pair (l a b : Str) : inV (.str l) [.str a, .str b] = decide (l = a ∨ l = b) := by
  simp [inV, eqV, Bool.decide_or, eq_comm, Bool.beq_eq_decide_eq]
theorem ok_forced0 {f : Addr} {fd : FuncData} (T : Txt K mg A) (c_with_value : Cal P w K mg base 2 "with_value" spWith) (c_Marks_shorted : Met P w K mg base 1 A.CM "shorted" spNo) (F : Fun K "forced" "Marks.forced" s_Marks_forced f fd) : FnOk P w K mg base CX0 3 f fd ["self", "line", "mark", "known"] (spForced A K R0 pl0) := by
  refine F.ok sc_Marks_forced (fun vs H Q E h => ?_) (fun cdv Ar outer s H vs Q E hr h => ?_)
  · obtain ⟨v, line, m, d, C, u1, u2, part, rfl, _⟩ := h
    rfl
  obtain ⟨v, line, m, d, C, u1, u2, part, rfl, ⟨rfl, rfl⟩, ⟨p, dx, fs, vc, aV, aP, v1, v2, rfl, c⟩, wf, hlp, _, _, k⟩ := h
  refine ⟨_, (pss_cons (ps_for PassesOwn.never rfl (pi_enumT (by rfl) T.z_enumerate (pa_cons (pe_fld (pv 0) rfl) pa_nil)) (pg_tup rfl (pgs_cons (pg_name (i := 4) sc_Marks_forced.nd rfl (Or.inl rfl)) (pgs_cons (pg_name (i := 5) sc_Marks_forced.nd rfl (Or.inl rfl)) pgs_nil))) (pss_cons (ps_if (PW.pt (pw_and (pt_cmp (pc_notN (pv 5))) (pw_and (pt_cmpR op_eq (pe_ix ix_tup (pv 5) pe_int (fun _ _ => rfl)) pe_str (nomark _)) (pw_and1 (pt_cmpR op_eq (pe_ix ix_tup (pv 5) pe_int (fun _ _ => rfl)) (pv 1) (nomark _)))))) (pss_one (ps_set (i := 2) sc_Marks_forced.nd rfl (Or.inl rfl) (pe_c c_with_value hr (by omega) rfl (pa_cons (pv 2) (pa_cons (pv 4) (pa_cons (pe_ix ix_tup (pv 5) pe_int (fun _ _ => rfl)) pa_nil)))))) pss_nil)
      (pss_one (ps_if (PW.pt (pw_and (pt_cmp (pc_notN (pv 5))) (pw_and (pt_cmpR op_eq (pe_ix ix_tup (pv 5) pe_int (fun _ _ => rfl)) pe_str (nomark _)) (pw_and1 (pt_cmpR op_in_seq (pv 1) (pe_slice sl_tupA (pv 5) (po_some pe_int) (po_some pe_int)) (by rfl)))))) (pss_one (ps_set (i := 2) sc_Marks_forced.nd rfl (Or.inl rfl) (pe_mt c_Marks_shorted hr (by omega) (pv 0) (pa_cons (pv 2) (pa_cons (pv 4) (pa_cons (pv 5) pa_nil)))))) pss_nil))))
      (pss_one (ps_ret (pv 2)))), ?_⟩
  decreasing_trivial
  refine ⟨_, _, _, _, _, rfl, c.ob, T.cM, T.nM_versions, c.fV, ?_⟩
  refine ⟨_, _, rfl, SqT.of c.hV, ?_⟩
  refine for_it (walk_enumT (xs := [v1, v2])) (fun j σ H' => (∃ x4 x5, σ = [some (.ref p), some (.str line), some (markV m), some d, x4, x5]) ∧ Same H H') ⟨⟨_, _, rfl⟩, Same.refl _⟩ (fun j σ H' _ q => q.2.seqT (SqT.of c.hV)) ?_ ?_
  · rintro j x σ H2 H2' hj ⟨⟨x5, x6, rfl⟩, s2⟩ ⟨t, y, rfl, ht, rfl, hy⟩
    obtain ⟨u, hu0, hu, hstep⟩ := two_at (c.h1.mono s2) (c.h2.mono s2) hy
    have sN := same_new ht (.tup [.int (j : Nat), y])
    have hur : u = .right := by rcases hu0 with h | h <;> exact h
    subst hur
    obtain rfl : y = .non := hu
    refine ⟨_, _, rfl, SqT.of upd_same, rfl, ?_⟩
    decreasing_trivial
    exact ⟨⟨_, _, rfl⟩, s2.trans sN⟩
  · rintro σ H2 ⟨⟨x5, x6, rfl⟩, s2⟩
    decreasing_trivial
    exact k.go s2 rfl
theorem ok_forced {f : Addr} {fd : FuncData} (T : Txt K mg A) (c_with_value : Cal P w K mg base 2 "with_value" spWith) (c_Marks_shorted : Met P w K mg base 5 A.CM "shorted" (spShorted A K)) (F : Fun K "forced" "Marks.forced" s_Marks_forced f fd) : FnOk P w K mg base CX0 6 f fd ["self", "line", "mark", "known"] (spForced A K R1 pl1) := by
  refine F.ok sc_Marks_forced (fun vs H Q E h => ?_) (fun cdv Ar outer s H vs Q E hr h => ?_)
  · obtain ⟨v, line, m, d, C, u1, u2, part, rfl, _⟩ := h
    rfl
  obtain ⟨v, line, m, d, C, u1, u2, part, rfl, _, ⟨p, dx, fs, vc, aV, aP, v1, v2, rfl, c⟩, wf, hlp, ok1, ok2, k⟩ := h
  refine ⟨_, (pss_cons (ps_for PassesOwn.never rfl (pi_enumT (by rfl) T.z_enumerate (pa_cons (pe_fld (pv 0) rfl) pa_nil)) (pg_tup rfl (pgs_cons (pg_name (i := 4) sc_Marks_forced.nd rfl (Or.inl rfl)) (pgs_cons (pg_name (i := 5) sc_Marks_forced.nd rfl (Or.inl rfl)) pgs_nil))) (pss_cons (ps_if (PW.pt (pw_and (pt_cmp (pc_notN (pv 5))) (pw_and (pt_cmpR op_eq (pe_ix ix_tup (pv 5) pe_int (fun _ _ => rfl)) pe_str (nomark _)) (pw_and1 (pt_cmpR op_eq (pe_ix ix_tup (pv 5) pe_int (fun _ _ => rfl)) (pv 1) (nomark _)))))) (pss_one (ps_set (i := 2) sc_Marks_forced.nd rfl (Or.inl rfl) (pe_c c_with_value hr (by omega) rfl (pa_cons (pv 2) (pa_cons (pv 4) (pa_cons (pe_ix ix_tup (pv 5) pe_int (fun _ _ => rfl)) pa_nil)))))) pss_nil)
      (pss_one (ps_if (PW.pt (pw_and (pt_cmp (pc_notN (pv 5))) (pw_and (pt_cmpR op_eq (pe_ix ix_tup (pv 5) pe_int (fun _ _ => rfl)) pe_str (nomark _)) (pw_and1 (pt_cmpR op_in_seq (pv 1) (pe_slice sl_tupA (pv 5) (po_some pe_int) (po_some pe_int)) (by rfl)))))) (pss_one (ps_set (i := 2) sc_Marks_forced.nd rfl (Or.inl rfl) (pe_mt c_Marks_shorted hr (by omega) (pv 0) (pa_cons (pv 2) (pa_cons (pv 4) (pa_cons (pv 5) pa_nil)))))) pss_nil))))
      (pss_one (ps_ret (pv 2)))), ?_⟩
  decreasing_trivial
  refine ⟨_, _, _, _, _, rfl, c.ob, T.cM, T.nM_versions, c.fV, ?_⟩
  refine ⟨_, _, rfl, SqT.of c.hV, ?_⟩
  refine for_it (walk_enumT (xs := [v1, v2])) (fun j σ H' => (∃ x4 x5, σ = [some (.ref p), some (.str line), some (markV (two (fun u side m => force1 u side (pl1 C part) line m) u1 u2 m j)), some d, x4, x5]) ∧ Same H H') ⟨⟨_, _, rfl⟩, Same.refl _⟩ (fun j σ H' _ q => q.2.seqT (SqT.of c.hV)) ?_ ?_
  · rintro j x σ H2 H2' hj ⟨⟨x5, x6, rfl⟩, s2⟩ ⟨t, y, rfl, ht, rfl, hy⟩
    obtain ⟨u, hu0, hu, hstep⟩ := two_at (c.h1.mono s2) (c.h2.mono s2) hy
    have huk : VerOk C u := by rcases hu0 with rfl | rfl <;> assumption
    have sN := same_new ht (.tup [.int (j : Nat), y])
    refine ⟨_, _, rfl, SqT.of upd_same, rfl, ?_⟩
    have e := hstep (fun u side m => force1 u side (pl1 C part) line m) m
    rw [e]
    generalize two (fun u side m => force1 u side (pl1 C part) line m) u1 u2 m j = mj
    have hu := hu.mono sN
    have s3 := s2.trans sN
    clear e hstep hy
    generalize upd H2 t (.tup [.int (j : Nat), y]) = H3 at hu s3
    cases u with
    | right =>
      obtain rfl : y = .non := hu
      decreasing_trivial
      exact ⟨⟨_, _, rfl⟩, s3⟩
    | pin g' i' b' =>
      obtain ⟨a, rfl, h1, _⟩ := hu
      decreasing_trivial
      exact ⟨⟨_, _, rfl⟩, s3⟩
    | stem l b =>
      obtain ⟨a, rfl, h1, _⟩ := hu
      decreasing_trivial
      by_cases hl : l = line
      · refine ifT (by rw [hl]; exact decide_eq_true rfl) ?_
        decreasing_trivial
        refine ⟨mj, j, b, rfl, ?_⟩
        rintro v H4 s4 rfl
        have h1 := s4 _ _ h1
        decreasing_trivial
        refine ⟨⟨_, _, congrArg (fun z => [some (V.ref p), some (.str line), some (markV z), some d, some (.int (j : Nat)), some (V.ref a)]) ?_⟩, s3.trans s4⟩
        show _ = (if l = line then _ else _)
        rw [if_pos hl]
      · refine ifF (decide_eq_false fun q => hl (V.str.inj q)) ?_
        decreasing_trivial
        refine ⟨⟨_, _, congrArg (fun z => [some (V.ref p), some (.str line), some (markV z), some d, some (.int (j : Nat)), some (V.ref a)]) ?_⟩, s3⟩
        show _ = (if l = line then _ else _)
        rw [if_neg hl]
    | short a' b' k' =>
      obtain ⟨a, rfl, h1, hso⟩ := hu
      decreasing_trivial
      refine ⟨_, _, rfl, SqT.of h1, fun hn => absurd hn.1 (by show ¬ ((1 : Nat) = 0); decide), fun _ t0 ht0 => ?_⟩
      have s5 := s3.trans (same_new ht0 (.tup (cutV (verTup (Ver.short a' b' k')) (some 1) (some 3))))
      have hu5 : VerAt (upd H3 t0 (.tup (cutV (verTup (Ver.short a' b' k')) (some 1) (some 3)))) (.ref a) (.short a' b' k') := ⟨a, rfl, (same_new ht0 _) _ _ h1, hso⟩
      refine ⟨t0, [.str a', .str b'], rfl, .inr (SqT.of upd_same), rfl, rfl, ?_⟩
      rw [in_pair]
      refine ⟨_, rfl, ?_⟩
      by_cases hl : line = a' ∨ line = b'
      · refine ifT (by rw [if_neg Bool.false_ne_true]; exact decide_eq_true hl) ?_
        have c5 := c.mono s5
        refine ⟨_, rfl, p, dx, fs, rfl, c5.ob, c5.fN _ (by decide), _, rfl, _, rfl, _, rfl, ?_⟩
        refine ⟨_, mj, j, _, C, u1, u2, part, a', b', k', rfl, ⟨p, dx, fs, vc, aV, aP, v1, v2, rfl, c5⟩, wf, hlp, hu5, huk.1, huk.2, ?_⟩
        rintro v H6 s6 rfl
        refine ⟨⟨_, _, congrArg (fun z => [some (V.ref p), some (.str line), some (markV z), some d, some (.int (j : Nat)), some (V.ref a)]) ?_⟩, s5.trans s6⟩
        show _ = (if line = a' ∨ line = b' then _ else _)
        rw [if_pos hl]
        rfl
      · refine ifF (by rw [if_neg Bool.false_ne_true]; exact decide_eq_false hl) ?_
        refine ⟨⟨_, _, congrArg (fun z => [some (V.ref p), some (.str line), some (markV z), some d, some (.int (j : Nat)), some (V.ref a)]) ?_⟩, s5⟩
        show _ = (if line = a' ∨ line = b' then _ else _)
        rw [if_neg hl]
  · rintro σ H2 ⟨⟨x5, x6, rfl⟩, s2⟩
    decreasing_trivial
    exact k.go s2 rfl
end
end Pw
namespace Pw
open PySem PySem.Spec PyProof.Rows L2
local macro_rules
  | `(tactic| decreasing_trivial) => `(tactic| repeat (first
    | refine ⟨_, rfl, ?_⟩
    | refine ⟨_, _, rfl, rfl, ?_⟩
    | refine ⟨rfl, ?_⟩
    | refine ⟨_, _, rfl, .inl (SqL.of (by assumption)), ?_⟩
    | refine ⟨_, _, rfl, .inr (SqT.of (by assumption)), ?_⟩
    | refine ⟨_, _, _, _, rfl, rfl, SqT.of (by assumption), rfl, ?_⟩
    | refine ⟨_, _, _, _, rfl, rfl, SqL.of (by assumption), rfl, ?_⟩
    | refine ⟨_, _, rfl, ?_⟩))
/-- the keys of S hold what F says -/
def Tab (kvs : List (Key × V)) (S : List Str) (F : Str → V) : Prop := ∀ x ∈ S, valV kvs (Sum.inr x) = some (F x)
theorem Tab.put {kvs : List (Key × V)} {S : List Str} {F : Str → V} (h : Tab kvs S F) (z : Str) : Tab (putK kvs (Sum.inr z) (F z)) (S ++ [z]) F := fun x hx => by
  rw [valV_put]
  by_cases e : x = z
  · rw [if_pos (by rw [e]), e]
  · rw [if_neg fun q => e (Sum.inr.inj q)]
    rcases List.mem_append.mp hx with h' | h'
    · exact h x h'
    · exact absurd (List.mem_singleton.mp h') e
theorem topo_at {N : Type} {g : Gate N} : ∀ {l : List (Gate N)} {kn : List N} {i : Nat}, Topo kn l → l[i]? = some g → ∀ p ∈ g.pins, p ∈ kn ++ (l.take i).map (·.line)
  | [], _, _, _, h => by simp at h
  | a :: r, kn, 0, ⟨h1, _⟩, h => fun p hp => by
    have e : a = g := by simpa using h
    rw [← e] at hp
    exact List.mem_append_left _ (h1 p hp)
  | a :: r, kn, i + 1, ⟨_, h2⟩, h => fun p hp => by
    have := topo_at (i := i) h2 (by simpa using h) p hp
    simpa using this
section
variable {P : Program} {w : World} {K : PySem.W.Frag} {mg : Str → Option Value} {base : Heap} {A : Ad}
def spKnown (A : Ad) (K : PySem.W.Frag) (R : Ver Str → Ver Str → Prop) (pl : PL) : Sp := fun vs H Q _ => ∃ v C u1 u2 part, vs = [v] ∧ R u1 u2 ∧ MkAt A K H v C u1 u2 part ∧ WF C ∧ part.length = C.sources.length ∧ VerOk C u1 ∧ VerOk C u2 ∧
  Ret (fun v H' => ∃ D kvs, v = .ref D ∧ H D = none ∧ H' D = some (.dK kvs) ∧ Tab kvs C.lines fun l => markV (marksP C u1 u2 (pl C part) part l)) H Q
theorem mapIdx_range {α β : Type} [Inhabited α] (l : List α) (h : Nat → α → β) : l.mapIdx h = (List.range l.length).map fun i => h i (l.getD i default) := by
  apply List.ext_getElem?
  intro i
  rw [List.getElem?_mapIdx, List.getElem?_map]
  by_cases hi : i < l.length
  · rw [List.getElem?_eq_getElem hi, List.getElem?_range hi]
    simp [hi]
  · rw [List.getElem?_eq_none (by omega), List.getElem?_eq_none (by simpa using hi)]
    rfl
theorem ok_known {f : Addr} {fd : FuncData} {R : Ver Str → Ver Str → Prop} {pl : PL} {kf : Nat} (hkf : 3 ≤ kf) (T : Txt K mg A) (c_Circuit_sources : Met P w K mg base 1 A.CC "sources" (spSources A)) (c_Marks_forced : Met P w K mg base kf A.CM "forced" (spForced A K R pl)) (c_Marks_seen : Met P w K mg base 3 A.CM "seen" (spSeen A K))
    (c_gate_mark : Cal P w K mg base 3 "gate_mark" spGateMark) (F : Fun K "known" "Marks.known" s_Marks_known f fd) : FnOk P w K mg base CX0 (kf + 1) f fd ["self"] (spKnown A K R pl) := by
  refine F.ok sc_Marks_known (fun vs H Q E h => ?_) (fun cdv Ar outer s H vs Q E hr h => ?_)
  · obtain ⟨v, C, u1, u2, part, rfl, _⟩ := h
    rfl
  obtain ⟨v, C, u1, u2, part, rfl, hR, ⟨p, dx, fs, vc, aV, aP, v1, v2, rfl, c⟩, wf, hlp, ok1, ok2, k⟩ := h
  refine ⟨_, (pss_cons (ps_set (i := 1) sc_Marks_known.nd rfl (Or.inr rfl) pe_dnewK)
      (pss_cons (ps_for PassesOwn.never rfl (pi_zipLT (by rfl) T.z_zip (pa_cons (pe_mt0 c_Circuit_sources hr (by omega) (pe_fld (pv 0) rfl)) (pa_cons (pe_fld (pv 0) rfl) pa_nil))) (pg_tup rfl (pgs_cons (pg_name (i := 2) sc_Marks_known.nd rfl (Or.inl rfl)) (pgs_cons (pg_name (i := 3) sc_Marks_known.nd rfl (Or.inl rfl)) pgs_nil))) (pss_cons (ps_set (i := 4) sc_Marks_known.nd rfl (Or.inl rfl) (pe_ifExp (pt_cmp (pc_isN (pv 3))) (pe_gc rfl T.g_EQUAL) (pe_op op_add pe_int (pe_op op_mul pe_int (pv 3)))))
      (pss_one (ps_dput (hu_of hr) (pv 1) (pv 2) (pe_mt c_Marks_forced hr (by omega) (pv 0) (pa_cons (pv 2) (pa_cons (pv 4) (pa_cons (pv 1) pa_nil)))) rfl))))
      (pss_cons (ps_for PassesOwn.never rfl (pi_list (pe_fld (pe_fld (pv 0) rfl) rfl)) (pg_name (i := 5) sc_Marks_known.nd rfl (Or.inr rfl)) (pss_cons (ps_setLc (i := 6) (own := [("index", 7)]) rfl sc_Marks_known.nd rfl rfl (sw_true rfl rfl rfl (by decide +kernel)) (pi_range1 rfl T.z_range (pa_cons (pe_callB call_len_seq (by rfl) T.z_len PySem.boot_len (pa_cons (pe_ix ix_tup (pv 5) pe_int (fun _ _ => rfl)) pa_nil)) pa_nil)) (blkOk_by (own := [("index", 7)]) (sc := defScope s_Marks_known) (N := ["self", "known", "line", "bit", "mark", "gate", "marks", "index"]) (by decide +kernel)) (fun _ _ _ _ _ => (pg_name (i := 7) sc_Marks_known.nd rfl (Or.inl rfl))) (fun _ _ _ _ _ => pts_nil) (fun _ _ _ _ _ => (pe_mt c_Marks_seen hr (by omega) (pv 0) (pa_cons (pv 5) (pa_cons (pv 7) (pa_cons (pv 1) pa_nil))))))
      (pss_one (ps_dput (hu_of hr) (pv 1) (pe_ix ix_tup (pv 5) pe_int (fun _ _ => rfl)) (pe_mt c_Marks_forced hr (by omega) (pv 0) (pa_cons (pe_ix ix_tup (pv 5) pe_int (fun _ _ => rfl)) (pa_cons (pe_c c_gate_mark hr (by omega) rfl (pa_cons (pe_ix ix_tup (pv 5) pe_int (fun _ _ => rfl)) (pa_cons (pv 6) pa_nil))) (pa_cons (pv 1) pa_nil)))) rfl))))
      (pss_one (ps_ret (pv 1)))))), ?_⟩
  obtain ⟨pc, dxc, fsc, aI, aR, aG, aO, vR, vG, aD, aL, vL, kv0, rfl, cc, g1, g2, g3, g4, g5, g6⟩ := c.hC
  have hns := wf.ns
  have hng := wf.ng
  have hno : C.order.length ≤ 7 := by rw [wf.perm.length_eq]; exact hng
  refine fun D hD => ?_
  have s1 := same_new hD (.dK [])
  have c1 := c.mono s1
  decreasing_trivial
  refine ⟨_, _, _, _, _, rfl, c1.ob, T.cM, T.nM_circuit, c1.fC, ?_⟩
  have cc1 := cc.mono s1
  refine ⟨pc, dxc, fsc, rfl, cc1.ob, cc1.fN _ (by decide), _, C, rfl, c1.hC.parts, ?_⟩
  rintro v H1 s2 ⟨l, rfl, hl0, hl⟩
  have s12 := s1.trans s2
  have c2 := c.mono s12
  refine ⟨_, rfl, _, _, _, _, _, rfl, c2.ob, T.cM, T.nM_part, c2.fP, ?_⟩
  refine ⟨_, _, _, _, rfl, SqL.of hl, c2.hP, ?_⟩
  have hlD : l ≠ D := fun e => by
    rw [e, upd_same] at hl0
    cases hl0
  refine for_it (walk_zipM (xs := C.sources.map V.str) (ys := part.map optV) (by rw [List.length_map, List.length_map, hlp])) (fun i σ H' => (∃ x2 x3 x4 x5 x6 x7, σ = [some (.ref p), some (.ref D), x2, x3, x4, x5, x6, x7]) ∧ Same H H' ∧ H' l = some (.lst (C.sources.map V.str)) ∧ ∃ kvs, H' D = some (.dK kvs) ∧ kvs.length ≤ i ∧ Tab kvs (C.sources.take i) fun l => markV (marksP C u1 u2 (pl C part) part l)) ⟨⟨_, _, _, _, _, _, rfl⟩, s12, hl, [], s2 _ _ upd_same, Nat.le_refl _, fun x hx => by simp at hx⟩ (fun i σ H' _ q => ⟨SqL.of q.2.2.1, q.2.1 _ _ c.hP⟩) ?_ ?_
  · rintro i x σ H2 H2' hi ⟨⟨x2, x3, x4, x5, x6, x7, rfl⟩, s3, hl3, kvs, hd3, hk3, hf3⟩ ⟨t, x, y, rfl, ht, rfl, hx, hy⟩
    rw [List.length_map] at hi
    rw [List.getElem?_map, Option.map_eq_some_iff] at hx hy
    obtain ⟨z, hz, rfl⟩ := hx
    obtain ⟨o, ho, rfl⟩ := hy
    have sN := same_new ht (.tup [.str z, optV o])
    have s4 := s3.trans sN
    have c4 := c.mono s4
    have hsrc := marksP_src wf (v1 := u1) (v2 := u2) (pl := pl C part) hlp hz ho
    refine ⟨_, _, rfl, SqT.of upd_same, rfl, ?_⟩
    have fin : ∀ (x4 : Option V) (H4 : Hp), Same (upd H2 t (.tup [.str z, optV o])) H4 → (∃ y2 y3 y4 y5 y6 y7, [some (V.ref p), some (.ref D), some (.str z), some (optV o), x4, x5, x6, x7] = [some (V.ref p), some (.ref D), y2, y3, y4, y5, y6, y7]) ∧ Same H (upd H4 D (.dK (putK kvs (Sum.inr z) (markV (forceM u1 u2 (pl C part) z (srcMark o)))))) ∧ (upd H4 D (.dK (putK kvs (Sum.inr z) (markV (forceM u1 u2 (pl C part) z (srcMark o)))))) l = some (.lst (C.sources.map V.str)) ∧ ∃ kvs', (upd H4 D (.dK (putK kvs (Sum.inr z) (markV (forceM u1 u2 (pl C part) z (srcMark o)))))) D = some (.dK kvs') ∧ kvs'.length ≤ i + 1 ∧ Tab kvs' (C.sources.take (i + 1)) fun l => markV (marksP C u1 u2 (pl C part) part l) := by
      intro x4 H4 s5
      have := length_putK kvs (Sum.inr z) (markV (forceM u1 u2 (pl C part) z (srcMark o)))
      refine ⟨⟨_, _, _, _, _, _, rfl⟩, Same.mut (s4.trans s5) hD, by rw [upd_ne hlD]; exact s5 _ _ (sN _ _ hl3), _, upd_same, by omega, ?_⟩
      rw [← hsrc, List.take_succ, hz]
      exact hf3.put z
    have hd4 := sN _ _ hd3
    cases o with
    | none =>
      decreasing_trivial
      refine ⟨p, dx, fs, rfl, c4.ob, c4.fN _ (by decide), ?_⟩
      decreasing_trivial
      refine ⟨_, z, srcMark none, _, C, u1, u2, part, rfl, hR, ⟨p, dx, fs, _, aV, aP, v1, v2, rfl, c4⟩, wf, hlp, ok1, ok2, ?_⟩
      rintro v H4 s5 rfl
      decreasing_trivial
      refine ⟨_, _, rfl, DPut.k (k := Sum.inr z) (s5 _ _ hd4) (small1000 (by omega)), ?_⟩
      exact fin _ H4 s5
    | some b =>
      decreasing_trivial
      refine ⟨.inl ⟨by decide, by decide⟩, ?_⟩
      decreasing_trivial
      refine ⟨p, dx, fs, rfl, c4.ob, c4.fN _ (by decide), ?_⟩
      decreasing_trivial
      refine ⟨_, z, srcMark (some b), _, C, u1, u2, part, by cases b <;> rfl, hR, ⟨p, dx, fs, _, aV, aP, v1, v2, rfl, c4⟩, wf, hlp, ok1, ok2, ?_⟩
      rintro v H4 s5 rfl
      decreasing_trivial
      refine ⟨_, _, rfl, DPut.k (k := Sum.inr z) (s5 _ _ hd4) (small1000 (by omega)), ?_⟩
      exact fin _ H4 s5
  · rintro σ H2 ⟨⟨x2, x3, x4, x5, x6, x7, rfl⟩, s3, hl3, kvs, hd3, hk3, hf3⟩
    rw [List.length_map] at hk3 hf3
    rw [List.take_length] at hf3
    have c3 := c.mono s3
    have cc3 := cc.mono s3
    decreasing_trivial
    refine ⟨_, _, _, _, _, rfl, c3.ob, T.cM, T.nM_circuit, c3.fC, ?_⟩
    refine ⟨_, _, _, _, _, rfl, cc3.ob, T.cC, T.nC_order, g2, ?_⟩
    refine ⟨_, rfl, ⟨_, SqL.of (s3 _ _ g3)⟩, ?_⟩
    have hDL : aL ≠ D := ne_of_none g3 hD
    refine for_it (walk_list (xs := vL)) (fun i σ H' => (∃ x2 x3 x4 x5 x6 x7, σ = [some (.ref p), some (.ref D), x2, x3, x4, x5, x6, x7]) ∧ Same H H' ∧ ∃ kvs, H' D = some (.dK kvs) ∧ kvs.length ≤ 6 + i ∧ Tab kvs (C.sources ++ (C.order.take i).map (·.line)) fun l => markV (marksP C u1 u2 (pl C part) part l)) ⟨⟨_, _, _, _, _, _, rfl⟩, s3, kvs, hd3, by omega, by simpa using hf3⟩ (fun i σ H' _ q => SqL.of (q.2.1 _ _ g3)) ?_ ?_
    · rintro i x σ H4 H4' hi ⟨⟨x2, x3, x4, x5, x6, x7, rfl⟩, s4, kvs4, hd4, hk4, hf4⟩ ⟨rfl, hx⟩
      obtain ⟨g, hg, hga⟩ := Paired.at g4 hx
      have hga4 := hga.mono s4
      have hgm : g ∈ C.gates := wf.mem_order.mp (List.mem_of_getElem? hg)
      have har := wf.arity g hgm
      have hpl := arity_le har
      have hi2 := (List.getElem?_eq_some_iff.mp hg).1
      have hpins := topo_at wf.topo hg
      obtain ⟨a, b, rfl, ha, hb, hok⟩ := id hga4
      have c4 := c.mono s4
      decreasing_trivial
      refine ⟨by rw [List.length_map]; omega, by rw [List.length_map]; omega, fun M hM => ?_⟩
      refine lcV (n := g.pins.length) (by rw [List.length_map]; exact walk_range) (fun j => markV (seenM u1 u2 g.line j (marksP C u1 u2 (pl C part) part (g.pins.getD j "")))) (by omega) hM (fun _ _ => trivial) ?_ ?_
      · rintro j x H5 H6 hj s5 ⟨rfl, rfl⟩ kk hk
        refine ⟨rfl, ?_⟩
        have c5 := c4.mono s5
        have ep : g.pins[j]? = some (g.pins.getD j "") := by
          rw [List.getD_eq_getElem?_getD, List.getElem?_eq_getElem hj]
          rfl
        refine ⟨_, rfl, p, dx, fs, rfl, c5.ob, c5.fN _ (by decide), _, rfl, _, rfl, _, rfl, ?_⟩
        refine ⟨_, _, j, D, C, u1, u2, part, g, g.pins.getD j "", kvs4, _, by show [V.ref p, V.ref a, V.int (0 + (j : Int)), V.ref D] = _; rw [Int.zero_add], ⟨p, dx, fs, _, aV, aP, v1, v2, rfl, c5⟩, hga4.mono s5, ep, s5 _ _ hd4, hf4 _ (hpins _ (List.mem_of_getElem? ep)), ?_⟩
        rintro v H7 s7 rfl
        exact hk _ s7
      · intro H5 s5 hM5
        have em : (List.range g.pins.length).map (fun j => markV (seenM u1 u2 g.line j (marksP C u1 u2 (pl C part) part (g.pins.getD j "")))) = (g.pins.mapIdx fun j z => seenM u1 u2 g.line j (marksP C u1 u2 (pl C part) part z)).map markV := by
          rw [mapIdx_range, List.map_map]
          rfl
        rw [em] at hM5
        have ha5 := s5 _ _ ha
        have c5 := c4.mono s5
        decreasing_trivial
        refine ⟨p, dx, fs, rfl, c5.ob, c5.fN _ (by decide), ?_⟩
        decreasing_trivial
        refine ⟨g.kind, M, _, rfl, hM5, by rw [List.length_mapIdx]; exact har, ?_⟩
        rintro v H6 s6 rfl
        have s56 := s5.trans s6
        have c6 := c4.mono s56
        decreasing_trivial
        refine ⟨_, g.line, _, _, C, u1, u2, part, rfl, hR, ⟨p, dx, fs, _, aV, aP, v1, v2, rfl, c6⟩, wf, hlp, ok1, ok2, ?_⟩
        rintro v H7 s7 rfl
        have ha7 := (s6.trans s7) _ _ ha5
        decreasing_trivial
        have hgate := marksP_gate wf (v1 := u1) (v2 := u2) (pl := pl C part) (part := part) hgm
        unfold gfM at hgate
        rw [← hgate]
        have := length_putK kvs4 (Sum.inr g.line) (markV (marksP C u1 u2 (pl C part) part g.line))
        refine ⟨_, _, rfl, DPut.k (k := Sum.inr g.line) ((s56.trans s7) _ _ hd4) (small1000 (by omega)), ?_⟩
        refine ⟨⟨_, _, _, _, _, _, rfl⟩, Same.mut ((s4.trans s56).trans s7) hD, _, upd_same, by omega, ?_⟩
        rw [List.take_succ, hg, List.map_append, ← List.append_assoc]
        exact hf4.put g.line
    · rintro σ H4 ⟨⟨x2, x3, x4, x5, x6, x7, rfl⟩, s4, kvs4, hd4, hk4, hf4⟩
      decreasing_trivial
      refine k.go s4 ⟨D, kvs4, rfl, hD, hd4, fun l hl => hf4 l ?_⟩
      rw [g4.length, List.take_length]
      exact wf.mem_linesO.mpr hl
end
end Pw
namespace Pw
open PySem PySem.Spec PyProof.Rows L2
local macro_rules
  | `(tactic| decreasing_trivial) => `(tactic| repeat (first
    | refine ⟨_, rfl, ?_⟩
    | refine ⟨_, _, rfl, rfl, ?_⟩
    | refine ⟨rfl, ?_⟩
    | refine ⟨_, _, rfl, .inl (SqL.of (by assumption)), ?_⟩
    | refine ⟨_, _, rfl, .inr (SqT.of (by assumption)), ?_⟩
    | refine ⟨_, _, _, _, rfl, rfl, SqT.of (by assumption), rfl, ?_⟩
    | refine ⟨_, _, _, _, rfl, rfl, SqL.of (by assumption), rfl, ?_⟩
    | refine ⟨_, _, rfl, ?_⟩))
/-! ### versions as data -/
def verD : Ver Str → PyData
  | .right => .none
  | .stem l b => .tuple [.str "stem", .str l, .int (bi b)]
  | .pin g i b => .tuple [.str "pin", .str g, .int (i : Int), .int (bi b)]
  | .short a b k => .tuple [.str "short", .str a, .str b, .str (andOr k)]
theorem andOr_inj {a b : Bool} : andOr a = andOr b ↔ a = b := by
  cases a <;> cases b <;> first | exact ⟨fun _ => rfl, fun _ => rfl⟩ | exact ⟨fun h => absurd h (by decide +kernel), fun h => by cases h⟩
theorem bi_inj {a b : Bool} : bi a = bi b ↔ a = b := by cases a <;> cases b <;> decide
theorem sp_ss : (("stem" : Str) == "pin") = false := by decide +kernel
theorem sp_sp : (("stem" : Str) == "short") = false := by decide +kernel
theorem sp_ps : (("pin" : Str) == "stem") = false := by decide +kernel
theorem sp_pp : (("pin" : Str) == "short") = false := by decide +kernel
theorem sp_hs : (("short" : Str) == "stem") = false := by decide +kernel
theorem sp_hp : (("short" : Str) == "pin") = false := by decide +kernel
theorem ver_eqv (u u' : Ver Str) : PyData.eqv (verD u) (verD u') = decide (u = u') := by
  cases u <;> cases u' <;> simp [verD, PyData.eqv, PyData.eqvAll, sp_ss, sp_sp, sp_ps, sp_pp, sp_hs, sp_hp, andOr_inj, bi_inj, Int.ofNat_inj, Int.natCast_inj, Bool.decide_and, Bool.beq_eq_decide_eq]
theorem ok_andOr (k : Bool) : PyData.strOk (andOr k) = true := by cases k <;> decide +kernel
/-- what the program takes -/
def VerGood (C : Circ Str) (u : Ver Str) : Prop := VerOk C u ∧ match u with
  | .short a b _ => ltCps a.cps.toList b.cps.toList = true ∧ above C b a = false ∧ above C a b = false
  | _ => True
theorem in_strs (l : Str) (xs : List Str) : inV (.str l) (xs.map V.str) = decide (l ∈ xs) := by
  induction xs with
  | nil => rfl
  | cons a r ih =>
    show (eqV (.str a) (.str l) || inV (.str l) (r.map V.str)) = _
    rw [ih]
    show ((a == l) || decide (l ∈ r)) = decide (l ∈ a :: r)
    by_cases e : l = a
    · subst e; simp
    · have : ¬ a = l := fun q => e q.symm
      simp [e, this]
theorem flat_strs (xs : List Str) : (xs.map V.str).all flatV = true := by
  rw [List.all_map, List.all_eq_true]
  exact fun _ _ => rfl
section
variable {P : Program} {w : World} {K : PySem.W.Frag} {mg : Str → Option Value} {base : Heap} {A : Ad}
theorem ver_dp {H : Hp} {v : V} {u : Ver Str} (h : VerAt H v u) : Dp K H v (verD u) := by
  cases u with
  | right => obtain rfl : v = .non := h; exact .non
  | stem l b =>
    obtain ⟨a, rfl, h1, _⟩ := h
    exact .tup (SqT.of h1) (.cons (.str _) (.cons (.str _) (.cons (.int _) .nil)))
  | pin g i b =>
    obtain ⟨a, rfl, h1, _⟩ := h
    exact .tup (SqT.of h1) (.cons (.str _) (.cons (.str _) (.cons (.int _) (.cons (.int _) .nil))))
  | short x y k =>
    obtain ⟨a, rfl, h1, _⟩ := h
    exact .tup (SqT.of h1) (.cons (.str _) (.cons (.str _) (.cons (.str _) (.cons (.str _) .nil))))
theorem ver_lay {H : Hp} {v : V} {u : Ver Str} (h : VerAt H v u) : (verD u).canLay0 = true ∧ (verD u).depth ≤ 2 := by
  have key : ∀ xs : List PyData, xs.all flatD = true → (PyData.tuple xs).canLay0 = true ∧ (PyData.tuple xs).depth ≤ 2 := fun xs hx => by
    obtain ⟨a, b⟩ := flat_lay hx
    exact ⟨a, by show PyData.depthAll xs + 1 ≤ 2; omega⟩
  cases u with
  | right => exact ⟨rfl, by decide⟩
  | stem l b =>
    obtain ⟨a, rfl, h1, h2⟩ := h
    exact key _ (by simp [flatD, ok_stem, h2 l (by simp [verStrs])])
  | pin g i b =>
    obtain ⟨a, rfl, h1, h2⟩ := h
    exact key _ (by simp [flatD, ok_pin, h2 g (by simp [verStrs])])
  | short x y k =>
    obtain ⟨a, rfl, h1, h2⟩ := h
    exact key _ (by simp [flatD, ok_short, ok_andOr, h2 x (by simp [verStrs]), h2 y (by simp [verStrs])])
theorem ver_shaped {H : Hp} {v : V} {u : Ver Str} (h : VerAt H v u) : SeqAt.shaped (verD u) = true := by
  obtain ⟨a, b⟩ := ver_lay h
  unfold SeqAt.shaped
  rw [a, Bool.true_and]
  exact decide_eq_true (by omega)
def spStem (A : Ad) : Sp := fun vs H Q _ => ∃ v C a l b, vs = [v, .ref a] ∧ CircAt A H v C ∧ H a = some (.tup (verTup (.stem l b))) ∧ l ∈ C.lines ∧ Ret (fun v _ => v = .bl true) H Q
theorem ok_is_stem {f : Addr} {fd : FuncData} (T : Txt K mg A) (c_Circuit_lines : Met P w K mg base 2 A.CC "lines" (spLines A)) (c_is_bit : Cal P w K mg base 2 "is_bit" spBit) (F : Fun K "is_stem" "is_stem" s_is_stem f fd) : FnOk P w K mg base CX0 3 f fd ["circuit", "value"] (spStem A) := by
  refine F.ok sc_is_stem (fun vs H Q E h => ?_) (fun cdv Ar outer s H vs Q E hr h => ?_)
  · obtain ⟨v, C, a, l, b, rfl, _⟩ := h
    rfl
  obtain ⟨v, C, a, l, b, rfl, hc, h1, hl, k⟩ := h
  refine ⟨_, (pss_one (ps_ret (pe_and (pe_cmpR op_eq (pe_callB call_len_seq (by rfl) T.z_len PySem.boot_len (pa_cons (pv 1) pa_nil)) pe_int (nomark _)) (pe_and (pe_cmpR op_in_seq (pe_ix ix_tup (pv 1) pe_int (fun _ _ => rfl)) (pe_mt0 c_Circuit_lines hr (by omega) (pv 0)) (by rfl)) (pe_one (pe_c c_is_bit hr (by omega) rfl (pa_cons (pe_ix ix_tup (pv 1) pe_int (fun _ _ => rfl)) pa_nil))))))), ?_⟩
  obtain ⟨pc, dxc, fsc, rfl, obc, fnc⟩ := hc.ins
  decreasing_trivial
  refine ⟨pc, dxc, fsc, rfl, obc, fnc _ (by decide), _, C, rfl, hc.parts, ?_⟩
  rintro v H1 s1 ⟨z, rfl, _, hz⟩
  have h1 := s1 _ _ h1
  refine ⟨z, _, rfl, .inl (SqL.of hz), rfl, flat_strs _, ?_⟩
  rw [if_neg Bool.false_ne_true, in_strs, decide_eq_true hl]
  decreasing_trivial
  exact k.go s1 rfl
def spPin (A : Ad) : Sp := fun vs H Q _ => ∃ v C a g i b, vs = [v, .ref a] ∧ CircAt A H v C ∧ H a = some (.tup (verTup (.pin g i b))) ∧ (∃ x ∈ C.gates, x.line = g ∧ i < x.pins.length) ∧ Q (.bl true) H
theorem ok_is_pin {f : Addr} {fd : FuncData} (T : Txt K mg A) (c_is_bit : Cal P w K mg base 2 "is_bit" spBit) (c_is_integer : Cal P w K mg base 1 "is_integer" spInteger) (F : Fun K "is_pin" "is_pin" s_is_pin f fd) : FnOk P w K mg base CX0 3 f fd ["circuit", "value"] (spPin A) := by
  refine F.ok sc_is_pin (fun vs H Q E h => ?_) (fun cdv Ar outer s H vs Q E hr h => ?_)
  · obtain ⟨v, C, a, g, i, b, rfl, _⟩ := h
    rfl
  obtain ⟨v, C, a, g, i, b, rfl, hc, h1, ⟨x, hx, rfl, hi⟩, k⟩ := h
  refine ⟨_, (pss_cons (ps_if (PW.pt (pw_or (pt_cmpR op_ne (pe_callB call_len_seq (by rfl) T.z_len PySem.boot_len (pa_cons (pv 1) pa_nil)) pe_int (nomark _)) (pw_or (pt_not (pt_val (pe_callB call_isi (by rfl) T.z_isinstance bt_isinstance (pa_cons (pe_ix ix_tup (pv 1) pe_int (fun _ _ => rfl)) (pa_cons (pe_bltn (v := .ty "str") (by rfl) T.z_str bt_str rfl) pa_nil))))) (pw_or (pt_cmp (pc_dnotin (hu_of hr) (pe_ix ix_tup (pv 1) pe_int (fun _ _ => rfl)) (pe_fld (pv 0) rfl))) (pw_or1 (pt_not (pt_val (pe_c c_is_bit hr (by omega) rfl (pa_cons (pe_ix ix_tup (pv 1) pe_int (fun _ _ => rfl)) pa_nil))))))))) (pss_one (ps_ret pe_bl)) pss_nil)
      (pss_one (ps_ret (pe_c c_is_integer hr (by omega) rfl (pa_cons (pe_ix ix_tup (pv 1) pe_int (fun _ _ => rfl)) (pa_cons pe_int (pa_cons (pe_op op_sub (pe_callB call_len_seq (by rfl) T.z_len PySem.boot_len (pa_cons (pe_ix ix_tup (pe_dget (hu_of hr) (pe_fld (pv 0) rfl) (pe_ix ix_tup (pv 1) pe_int (fun _ _ => rfl)) (fun _ _ => rfl)) pe_int (fun _ _ => rfl)) pa_nil)) pe_int) pa_nil))))))), ?_⟩
  obtain ⟨pc, dxc, fsc, aI, aR, aG, aO, vR, vG, aD, aL, vL, kv0, rfl, cc, g1, g2, g3, g4, g5, g6⟩ := hc
  obtain ⟨xv, hxv, ax, bx, rfl, hax, hbx, _⟩ := g6 x hx
  decreasing_trivial
  refine ⟨_, _, _, _, true, rfl, .ty _, .base (.str _), kit_ty (by decide +kernel), _, rfl, iteF ?_⟩
  decreasing_trivial
  refine ⟨_, _, _, _, _, rfl, cc.ob, T.cC, T.nC_gate_of, g1, ?_⟩
  refine ⟨aD, some (.ref ax), rfl, by rw [← hxv]; exact DGet.k (k := Sum.inr x.line) g5, _, rfl, iteF ?_⟩
  decreasing_trivial
  refine ⟨_, _, _, _, _, rfl, cc.ob, T.cC, T.nC_gate_of, g1, ?_⟩
  decreasing_trivial
  refine ⟨_, _, rfl, by rw [← hxv]; exact DGet.k (k := Sum.inr x.line) g5, ?_⟩
  decreasing_trivial
  exact ⟨_, _, _, rfl, by omega, by rw [List.length_map]; omega, k⟩
def spShort (A : Ad) : Sp := fun vs H Q _ => ∃ v C p a b k, vs = [v, .ref p] ∧ CircAt A H v C ∧ WF C ∧ H p = some (.tup (verTup (.short a b k))) ∧ VerGood C (.short a b k) ∧ Ret (fun v _ => v = .bl true) H Q
theorem in_andor (k : Bool) : inV (.str (andOr k)) [.str "and", .str "or"] = true := by cases k <;> decide +kernel
theorem ok_is_short {f : Addr} {fd : FuncData} (T : Txt K mg A) (c_Circuit_lines : Met P w K mg base 2 A.CC "lines" (spLines A)) (c_Circuit_above : Met P w K mg base 1 A.CC "above" (spAbove A)) (F : Fun K "is_short" "is_short" s_is_short f fd) : FnOk P w K mg base CX0 3 f fd ["circuit", "value"] (spShort A) := by
  refine F.ok sc_is_short (fun vs H Q E h => ?_) (fun cdv Ar outer s H vs Q E hr h => ?_)
  · obtain ⟨v, C, a, l, b, k, rfl, _⟩ := h
    rfl
  obtain ⟨v, C, p, a, b, kd, rfl, hc, wf, h1, ⟨⟨ha, hb⟩, hlt, hab, hba⟩, k⟩ := h
  refine ⟨_, (pss_cons (ps_if (PW.pt (pw_or (pt_cmpR op_ne (pe_callB call_len_seq (by rfl) T.z_len PySem.boot_len (pa_cons (pv 1) pa_nil)) pe_int (nomark _)) (pw_or1 (pt_cmpR op_notIn_seq (pe_ix ix_tup (pv 1) pe_int (fun _ _ => rfl)) (pe_tup (pa_cons pe_str (pa_cons pe_str pa_nil))) (by rfl))))) (pss_one (ps_ret pe_bl)) pss_nil)
      (pss_cons (ps_set (i := 2) sc_is_short.nd rfl (Or.inl rfl) (pe_mt0 c_Circuit_lines hr (by omega) (pv 0)))
      (pss_cons (ps_if (PW.pt (pw_or (pt_cmpR op_notIn_seq (pe_ix ix_tup (pv 1) pe_int (fun _ _ => rfl)) (pv 2) (by rfl)) (pw_or (pt_cmpR op_notIn_seq (pe_ix ix_tup (pv 1) pe_int (fun _ _ => rfl)) (pv 2) (by rfl)) (pw_or1 (pt_cmpR op_ge_str (pe_ix ix_tup (pv 1) pe_int (fun _ _ => rfl)) (pe_ix ix_tup (pv 1) pe_int (fun _ _ => rfl)) (nomark _)))))) (pss_one (ps_ret pe_bl)) pss_nil)
      (pss_one (ps_ret (pe_and (pe_cmp (pc_dnotin (hu_of hr) (pe_ix ix_tup (pv 1) pe_int (fun _ _ => rfl)) (pe_mt c_Circuit_above hr (by omega) (pv 0) (pa_cons (pe_ix ix_tup (pv 1) pe_int (fun _ _ => rfl)) pa_nil))) rfl) (pe_one (pe_cmp (pc_dnotin (hu_of hr) (pe_ix ix_tup (pv 1) pe_int (fun _ _ => rfl)) (pe_mt c_Circuit_above hr (by omega) (pv 0) (pa_cons (pe_ix ix_tup (pv 1) pe_int (fun _ _ => rfl)) pa_nil))) rfl)))))))), ?_⟩
  decreasing_trivial
  refine ⟨by show 2 ≤ sizeLine; decide, fun t0 ht0 => ?_⟩
  refine ⟨t0, _, rfl, .inr in_up, rfl, rfl, _, rfl, ?_⟩
  rw [if_pos rfl]
  have s0 := same_new ht0 (.tup [.str "and", .str "or"])
  refine ifF (by show (!inV (.str (andOr kd)) [.str "and", .str "or"]) = false; rw [in_andor]; rfl) ?_
  have hc0 := hc.mono s0
  obtain ⟨pc, dxc, fsc, rfl, obc, fnc⟩ := hc0.ins
  decreasing_trivial
  refine ⟨pc, dxc, fsc, rfl, obc, fnc _ (by decide), _, C, rfl, hc0.parts, ?_⟩
  rintro v H1 s1 ⟨z, rfl, _, hz⟩
  have s2 := s0.trans s1
  have h2 := s2 _ _ h1
  decreasing_trivial
  refine ⟨flat_strs _, ?_⟩
  rw [if_pos rfl, in_strs, decide_eq_true ha]
  decreasing_trivial
  refine ⟨flat_strs _, ?_⟩
  rw [if_pos rfl, in_strs, decide_eq_true hb]
  decreasing_trivial
  rw [ltCps_eq] at hlt
  refine ifF (by rw [hlt]; rfl) ?_
  have hc2 := hc.mono s2
  obtain ⟨pc', dxc, fsc, e, obc, fnc⟩ := hc2.ins
  cases e
  decreasing_trivial
  refine ⟨pc, dxc, fsc, rfl, obc, fnc _ (by decide), ?_⟩
  decreasing_trivial
  refine ⟨_, C, b, rfl, hc2, wf, ?_⟩
  rintro v H3 s3 ⟨⟨d, rfl, _⟩, d', kvs, e, hd, _, hf⟩
  cases e
  have s4 := s2.trans s3
  have h4 := s4 _ _ h1
  refine ⟨_, _, rfl, DGet.k (k := Sum.inr a) hd, ?_⟩
  rw [hf, hab]
  have hc4 := hc.mono s4
  obtain ⟨pc', dxc, fsc, e, obc, fnc⟩ := hc4.ins
  cases e
  decreasing_trivial
  refine ⟨pc, dxc, fsc, rfl, obc, fnc _ (by decide), ?_⟩
  decreasing_trivial
  refine ⟨_, C, a, rfl, hc4, wf, ?_⟩
  rintro v H5 s5 ⟨⟨d, rfl, _⟩, d', kvs, e, hd, _, hf⟩
  cases e
  refine ⟨_, _, rfl, DGet.k (k := Sum.inr b) hd, ?_⟩
  rw [hf, hba]
  exact k.go (s4.trans s5) rfl
def spBreak (A : Ad) : Sp := fun vs H Q _ => ∃ v C x u, vs = [v, x] ∧ CircAt A H v C ∧ WF C ∧ u ≠ .right ∧ VerAt H x u ∧ VerGood C u ∧ Ret (fun v _ => v = .bl true) H Q
theorem ver_ref {H : Hp} {x : V} {u : Ver Str} (h : VerAt H x u) (hu : u ≠ .right) : ∃ a s r, x = .ref a ∧ H a = some (.tup (.str s :: r)) ∧ verTup u = .str s :: r := by
  cases u with
  | right => exact absurd rfl hu
  | stem l b => obtain ⟨a, rfl, h1, _⟩ := h; exact ⟨a, _, _, rfl, h1, rfl⟩
  | pin l i b => obtain ⟨a, rfl, h1, _⟩ := h; exact ⟨a, _, _, rfl, h1, rfl⟩
  | short l i b => obtain ⟨a, rfl, h1, _⟩ := h; exact ⟨a, _, _, rfl, h1, rfl⟩
theorem eqv_unit (u : Ver Str) : PyData.eqv (verD u) (.tuple []) = false := by
  cases u <;> simp [verD, PyData.eqv, PyData.eqvAll]
theorem ok_is_break {f : Addr} {fd : FuncData} (T : Txt K mg A) (c_is_stem : Cal P w K mg base 3 "is_stem" (spStem A)) (c_is_pin : Cal P w K mg base 3 "is_pin" (spPin A)) (c_is_short : Cal P w K mg base 3 "is_short" (spShort A)) (F : Fun K "is_break" "is_break" s_is_break f fd) : FnOk P w K mg base CX0 4 f fd ["circuit", "value"] (spBreak A) := by
  refine F.ok sc_is_break (fun vs H Q E h => ?_) (fun cdv Ar outer s H vs Q E hr h => ?_)
  · obtain ⟨v, C, a, l, rfl, _⟩ := h
    rfl
  obtain ⟨v, C, x, u, rfl, hc, wf, hu, hx, hg, k⟩ := h
  refine ⟨_, (pss_cons (ps_if (PW.pt (pw_or (pt_not (pt_val (pe_callB call_isi (by rfl) T.z_isinstance bt_isinstance (pa_cons (pv 1) (pa_cons (pe_bltn (v := .ty "tuple") (by rfl) T.z_tuple bt_tuple rfl) pa_nil))))) (pw_or (pt_cmpR (op_eqD (hu64 hr)) (pv 1) (pe_tup pa_nil) (nomark _)) (pw_or1 (pt_not (pt_val (pe_callB call_isi (by rfl) T.z_isinstance bt_isinstance (pa_cons (pe_ix ix_tup (pv 1) pe_int (fun _ _ => rfl)) (pa_cons (pe_bltn (v := .ty "str") (by rfl) T.z_str bt_str rfl) pa_nil))))))))) (pss_one (ps_ret pe_bl)) pss_nil)
      (pss_cons (ps_if (pt_cmpR op_eq (pe_ix ix_tup (pv 1) pe_int (fun _ _ => rfl)) pe_str (nomark _)) (pss_one (ps_ret (pe_c c_is_stem hr (by omega) rfl (pa_cons (pv 0) (pa_cons (pv 1) pa_nil))))) pss_nil)
      (pss_cons (ps_if (pt_cmpR op_eq (pe_ix ix_tup (pv 1) pe_int (fun _ _ => rfl)) pe_str (nomark _)) (pss_one (ps_ret (pe_c c_is_pin hr (by omega) rfl (pa_cons (pv 0) (pa_cons (pv 1) pa_nil))))) pss_nil)
      (pss_one (ps_ret (pe_and (pe_cmpR op_eq (pe_ix ix_tup (pv 1) pe_int (fun _ _ => rfl)) pe_str (nomark _)) (pe_one (pe_c c_is_short hr (by omega) rfl (pa_cons (pv 0) (pa_cons (pv 1) pa_nil)))))))))), ?_⟩
  obtain ⟨a, z, r, rfl, h1, e⟩ := ver_ref hx hu
  refine ⟨_, rfl, _, _, _, _, true, rfl, .ty _, .base (.tup h1), kit_ty (by decide +kernel), _, rfl, iteF ?_⟩
  refine ⟨_, rfl, Nat.zero_le _, fun t0 ht0 => ?_⟩
  have s0 := same_new ht0 (.tup [])
  have hx0 := hx.mono s0
  refine ⟨_, _, ver_dp hx0, .tup in_up .nil, ver_shaped hx0, by decide, _, rfl, ?_⟩
  rw [eqv_unit]
  have h1' := s0 _ _ h1
  refine iteF ?_
  refine ⟨_, rfl, a, _, 0, .str z, rfl, rfl, SqT.of h1', atI_nat (j := 0) rfl, ?_⟩
  decreasing_trivial
  refine ⟨_, _, _, _, true, rfl, .ty _, .base (.str _), kit_ty (by decide +kernel), _, rfl, iteF ?_⟩
  have hc0 := hc.mono s0
  cases u with
  | right => exact absurd rfl hu
  | stem l b =>
    cases e
    decreasing_trivial
    refine ⟨_, C, a, l, b, rfl, hc0, h1', hg.1, fun v H' s' q => k.go (s0.trans s') q⟩
  | pin g i b =>
    cases e
    decreasing_trivial
    exact ⟨_, C, a, g, i, b, rfl, hc0, h1', hg.1, k.go s0 rfl⟩
  | short l m b =>
    cases e
    decreasing_trivial
    exact ⟨_, C, a, l, m, b, rfl, hc0, wf, h1', hg, fun v H' s' q => k.go (s0.trans s') q⟩
def spCkVersion (A : Ad) : Sp := fun vs H Q _ => ∃ v C x u, vs = [v, x] ∧ CircAt A H v C ∧ WF C ∧ VerAt H x u ∧ VerGood C u ∧ Ret (fun v _ => v = .non) H Q
theorem ok_check_version {f : Addr} {fd : FuncData} (T : Txt K mg A) (c_is_break : Cal P w K mg base 4 "is_break" (spBreak A)) (F : Fun K "check_version" "check_version" s_check_version f fd) : FnOk P w K mg base CX0 5 f fd ["circuit", "version"] (spCkVersion A) := by
  refine F.ok sc_check_version (fun vs H Q E h => ?_) (fun cdv Ar outer s H vs Q E hr h => ?_)
  · obtain ⟨v, C, a, l, rfl, _⟩ := h
    rfl
  obtain ⟨v, C, x, u, rfl, hc, wf, hx, hg, k⟩ := h
  refine ⟨_, (pss_one (ps_if (PW.pt (pw_and (pt_cmp (pc_notN (pv 1))) (pw_and1 (pt_not (pt_val (pe_c c_is_break hr (by omega) rfl (pa_cons (pv 0) (pa_cons (pv 1) pa_nil)))))))) (pss_one ps_never) pss_nil)), ?_⟩
  by_cases hu : u = .right
  · subst hu
    obtain rfl : x = .non := hx
    decreasing_trivial
    exact k.go (Same.refl _) rfl
  · obtain ⟨a, z, r, rfl, h1, e⟩ := ver_ref hx hu
    decreasing_trivial
    refine ⟨_, C, _, u, rfl, hc, wf, hu, hx, hg, ?_⟩
    rintro v H1 s1 rfl
    exact ⟨_, rfl, iteF (k.go s1 rfl)⟩
def spCkPartial (A : Ad) : Sp := fun vs H Q _ => ∃ v C x part, vs = [v, x] ∧ CircAt A H v C ∧ PartAt H x part ∧ part.length = C.sources.length ∧ Ret (fun v _ => v = .non) H Q
theorem ok_check_partial {f : Addr} {fd : FuncData} (T : Txt K mg A) (c_Circuit_sources : Met P w K mg base 1 A.CC "sources" (spSources A)) (c_is_bit : Cal P w K mg base 2 "is_bit" spBit) (F : Fun K "check_partial" "check_partial" s_check_partial f fd) : FnOk P w K mg base CX0 3 f fd ["circuit", "partial"] (spCkPartial A) := by
  refine F.ok sc_check_partial (fun vs H Q E h => ?_) (fun cdv Ar outer s H vs Q E hr h => ?_)
  · obtain ⟨v, C, a, l, rfl, _⟩ := h
    rfl
  obtain ⟨v, C, x, part, rfl, hc, ⟨a, rfl, h1⟩, hl, k⟩ := h
  refine ⟨_, (pss_cons (ps_if (PW.pt (pw_or (pt_not (pt_val (pe_callB call_isi (by rfl) T.z_isinstance bt_isinstance (pa_cons (pv 1) (pa_cons (pe_bltn (v := .ty "tuple") (by rfl) T.z_tuple bt_tuple rfl) pa_nil))))) (pw_or1 (pt_cmpR op_ne (pe_callB call_len_seq (by rfl) T.z_len PySem.boot_len (pa_cons (pv 1) pa_nil)) (pe_callB call_len_seq (by rfl) T.z_len PySem.boot_len (pa_cons (pe_mt0 c_Circuit_sources hr (by omega) (pv 0)) pa_nil)) (nomark _))))) (pss_one ps_never) pss_nil)
      (pss_one (ps_for PassesOwn.never rfl (pi_tup (pv 1)) (pg_name (i := 2) sc_check_partial.nd rfl (Or.inl rfl)) (pss_one (ps_if (PW.pt (pw_and (pt_cmp (pc_notN (pv 2))) (pw_and1 (pt_not (pt_val (pe_c c_is_bit hr (by omega) rfl (pa_cons (pv 2) pa_nil))))))) (pss_one ps_never) pss_nil))))), ?_⟩
  refine ⟨_, rfl, _, _, _, _, true, rfl, .ty _, .base (.tup h1), kit_ty (by decide +kernel), _, rfl, iteF ?_⟩
  obtain ⟨pc, dxc, fsc, rfl, obc, fnc⟩ := hc.ins
  decreasing_trivial
  refine ⟨pc, dxc, fsc, rfl, obc, fnc _ (by decide), _, C, rfl, hc.parts, ?_⟩
  rintro v H1 s1 ⟨z, rfl, _, hz⟩
  decreasing_trivial
  refine ifF (by rw [List.length_map, List.length_map, hl]; simp) ?_
  have h2 := s1 _ _ h1
  decreasing_trivial
  refine ⟨⟨_, SqT.of h2⟩, ?_⟩
  refine for_it (walk_tup (xs := part.map optV)) (fun _ σ H' => (∃ x, σ = [some (.ref pc), some (.ref a), x]) ∧ H' = H1) ⟨⟨_, rfl⟩, rfl⟩ (fun _ _ _ _ q => by rw [q.2]; exact SqT.of h2) ?_ ?_
  · rintro i x σ H2 H2' hi ⟨⟨x0, rfl⟩, rfl⟩ ⟨rfl, hx⟩
    rw [List.getElem?_map, Option.map_eq_some_iff] at hx
    obtain ⟨o, ho, rfl⟩ := hx
    cases o with
    | none =>
      decreasing_trivial
      exact ⟨⟨_, rfl⟩, rfl⟩
    | some b =>
      decreasing_trivial
      exact ⟨⟨_, rfl⟩, rfl⟩
  · rintro σ H2 ⟨⟨x0, rfl⟩, rfl⟩
    exact k.go s1 rfl
end
end Pw
namespace Pw
open PySem PySem.Spec PyProof.Rows L2
local macro_rules
  | `(tactic| decreasing_trivial) => `(tactic| repeat (first
    | refine ⟨_, rfl, ?_⟩
    | refine ⟨_, _, rfl, rfl, ?_⟩
    | refine ⟨rfl, ?_⟩
    | refine ⟨_, _, rfl, .inl (SqL.of (by assumption)), ?_⟩
    | refine ⟨_, _, rfl, .inr (SqT.of (by assumption)), ?_⟩
    | refine ⟨_, _, _, _, rfl, rfl, SqT.of (by assumption), rfl, ?_⟩
    | refine ⟨_, _, _, _, rfl, rfl, SqL.of (by assumption), rfl, ?_⟩
    | refine ⟨_, _, rfl, ?_⟩))
section
variable {P : Program} {w : World} {K : PySem.W.Frag} {mg : Str → Option Value} {base : Heap} {A : Ad}
theorem or_val0 : ∀ a b c d e f g h : Bool, Builtin.bitOr (Mark.val ⟨a, b, c, d⟩) (Mark.val ⟨e, f, g, h⟩) = ((Mark.mk a b c d).or ⟨e, f, g, h⟩).val := by decide +kernel
theorem or_val (m n : Mark) : Builtin.bitOr m.val n.val = (m.or n).val := by
  cases m; cases n; exact or_val0 ..
theorem ok_shorted {f : Addr} {fd : FuncData} (T : Txt K mg A) (c_Marks : Mak P w K mg base 1 "Marks" A.CM (spMInit A)) (c_Marks_known : Met P w K mg base 4 A.CM "known" (spKnown A K R0 pl0)) (c_joined : Cal P w K mg base 1 "joined" spJoined) (c_pairs_in : Cal P w K mg base 1 "pairs_in" (spPairs K)) (c_with_value : Cal P w K mg base 2 "with_value" spWith)
    (F : Fun K "shorted" "Marks.shorted" s_Marks_shorted f fd) : FnOk P w K mg base CX0 5 f fd ["self", "mark", "side", "version"] (spShorted A K) := by
  refine F.ok sc_Marks_shorted (fun vs H Q E h => ?_) (fun cdv Ar outer s H vs Q E hr h => ?_)
  · obtain ⟨v, m, side, x, C, u1, u2, part, a, b, kd, rfl, _⟩ := h
    rfl
  obtain ⟨v, m, side, x, C, u1, u2, part, a, b, kd, rfl, ⟨p, dx, fs, vc, aV, aP, v1, v2, rfl, c⟩, wf, hlp, hx, ha, hb, k⟩ := h
  refine ⟨_, (pss_cons (ps_set (i := 4) sc_Marks_shorted.nd rfl (Or.inl rfl) (pe_mt0 c_Marks_known hr (by omega) (pe_mk c_Marks hr (by omega) rfl (pa_cons (pe_fld (pv 0) rfl) (pa_cons (pe_tup (pa_cons pe_non (pa_cons pe_non pa_nil))) (pa_cons (pe_fld (pv 0) rfl) pa_nil))))))
      (pss_cons (ps_set (i := 5) sc_Marks_shorted.nd rfl (Or.inl rfl) pe_int)
      (pss_cons (ps_for PassesOwn.never rfl (pi_list (pe_c c_pairs_in hr (by omega) rfl (pa_cons (pe_dget (hu_of hr) (pv 4) (pe_ix ix_tup (pv 3) pe_int (fun _ _ => rfl)) (fun _ _ => rfl)) pa_nil))) (pg_tup rfl (pgs_cons (pg_name (i := 6) sc_Marks_shorted.nd rfl (Or.inl rfl)) (pgs_cons (pg_name (i := 7) sc_Marks_shorted.nd rfl (Or.inl rfl)) pgs_nil))) (pss_one (ps_for PassesOwn.never rfl (pi_list (pe_c c_pairs_in hr (by omega) rfl (pa_cons (pe_dget (hu_of hr) (pv 4) (pe_ix ix_tup (pv 3) pe_int (fun _ _ => rfl)) (fun _ _ => rfl)) pa_nil))) (pg_tup rfl (pgs_cons (pg_name (i := 8) sc_Marks_shorted.nd rfl (Or.inl rfl)) (pgs_cons (pg_name (i := 7) sc_Marks_shorted.nd rfl (Or.inl rfl)) pgs_nil))) (pss_one (ps_aug (i := 5) sc_Marks_shorted.nd rfl (Or.inl rfl) (pe_c c_with_value hr (by omega) rfl (pa_cons (pv 1) (pa_cons (pv 2) (pa_cons (pe_c c_joined hr (by omega) rfl (pa_cons (pe_ix ix_tup (pv 3) pe_int (fun _ _ => rfl)) (pa_cons (pv 6) (pa_cons (pv 8) pa_nil)))) pa_nil)))) ip_or)))))
      (pss_one (ps_ret (pv 5)))))), ?_⟩
  obtain ⟨av, rfl, hv, _⟩ := hx
  refine ⟨_, rfl, _, _, _, _, _, rfl, c.ob, T.cM, T.nM_circuit, c.fC, ?_⟩
  refine ⟨by show 2 ≤ sizeLine; decide, fun t ht => ?_⟩
  have s1 := same_new ht (.tup [.non, .non])
  have c1 := c.mono s1
  refine ⟨_, rfl, _, _, _, _, _, rfl, c1.ob, T.cM, T.nM_part, c1.fP, ?_⟩
  refine fun q dq hq hdq hne => ⟨q, dq, _, _, _, rfl, upd_same, ?_⟩
  intro H2 fs2 b2 ob2 l1 l2 l3 l4
  have s2 := make_same hq hdq b2
  have s3 := s1.trans s2
  have c3 := c.mono s3
  refine ⟨rfl, q, dq, fs2, rfl, ob2, l4 _ (by decide), _, C, .right, .right, part, rfl, ⟨rfl, rfl⟩, ⟨q, dq, fs2, vc, t, aP, .non, .non, rfl, ob2, l1, l2, l3, l4, c3.hC, s2 _ _ upd_same, rfl, rfl, c3.hP⟩, wf, hlp, trivial, trivial, ?_⟩
  rintro v H4 s4 ⟨D, kvs, rfl, hD0, hD, hT⟩
  have s34 := s3.trans s4
  have hv4 := s34 _ _ hv
  have hga := hT a ha
  have hgb := hT b hb
  decreasing_trivial
  refine ⟨D, _, rfl, by rw [← hga]; exact DGet.k (k := Sum.inr a) hD, ?_⟩
  refine ⟨plainM C part a, rfl, ?_⟩
  rintro v H5 s5 ⟨l, ys, rfl, hl0, hl, hp⟩
  have s35 := s34.trans s5
  decreasing_trivial
  refine ⟨⟨_, SqL.of hl⟩, ?_⟩
  generalize hpa : plainM C part a = pa at hp k
  generalize hpb : plainM C part b = pb at k
  refine for_it (walk_list (xs := ys)) (fun i σ H' => (∃ x6 x7 x8, σ = [some (.ref p), some (markV m), some (.int (side : Int)), some (.ref av), some (.ref D), some (markV ((pa.pairs.take i).foldl (fun f p => pb.pairs.foldl (fun f q => f.or (m.withVal side (joinB kd p.1 q.1))) f) Mark.none)), x6, x7, x8]) ∧ Same H5 H') ⟨⟨_, _, _, rfl⟩, Same.refl _⟩ (fun i σ H' _ q => SqL.of (q.2 _ _ hl)) ?_ ?_
  · rintro i x σ H6 H6' hi ⟨⟨x6, x7, x8, rfl⟩, s6⟩ ⟨rfl, hx⟩
    obtain ⟨⟨z1, z2⟩, hz, hza⟩ := Paired.at hp hx
    obtain ⟨az, rfl, haz⟩ := hza.mono s6
    refine ⟨_, _, rfl, haz, rfl, ?_⟩
    have hv6 := (s5.trans s6) _ _ hv4
    have hD6 := (s5.trans s6) _ _ hD
    generalize hacc : (pa.pairs.take i).foldl (fun f p => pb.pairs.foldl (fun f q => f.or (m.withVal side (joinB kd p.1 q.1))) f) Mark.none = acc
    decreasing_trivial
    refine ⟨D, _, rfl, by rw [← hgb]; exact DGet.k (k := Sum.inr b) hD6, ?_⟩
    refine ⟨plainM C part b, rfl, ?_⟩
    rintro v H7 s7 ⟨l2, ys2, rfl, hl20, hl2, hp2⟩
    rw [hpb] at hp2
    decreasing_trivial
    refine ⟨⟨_, SqL.of hl2⟩, ?_⟩
    refine for_it (walk_list (xs := ys2)) (fun j σ H' => (∃ x7 x8, σ = [some (.ref p), some (markV m), some (.int (side : Int)), some (.ref av), some (.ref D), some (markV ((pb.pairs.take j).foldl (fun f q => f.or (m.withVal side (joinB kd z1 q.1))) acc)), some (bitV z1), x7, x8]) ∧ Same H7 H') ⟨⟨_, _, rfl⟩, Same.refl _⟩ (fun i σ H' _ q => SqL.of (q.2 _ _ hl2)) ?_ ?_
    · rintro j x σ H8 H8' hj ⟨⟨x7, x8, rfl⟩, s8⟩ ⟨rfl, hx8⟩
      obtain ⟨⟨w1, w2⟩, hw, hwa⟩ := Paired.at hp2 hx8
      obtain ⟨aw, rfl, haw⟩ := hwa.mono s8
      refine ⟨_, _, rfl, haw, rfl, ?_⟩
      have hv8 := (s7.trans s8) _ _ hv6
      decreasing_trivial
      refine ⟨kd, z1, w1, rfl, ?_⟩
      decreasing_trivial
      refine ⟨m, side, joinB kd z1 w1, rfl, ?_⟩
      rintro v H9 s9 rfl
      decreasing_trivial
      refine ⟨⟨_, _, congrArg (fun z => [some (V.ref p), some (markV m), some (.int (side : Int)), some (.ref av), some (.ref D), some z, some (bitV z1), some (bitV w2), some (bitV w1)]) (congrArg V.int ?_)⟩, s8.trans s9⟩
      rw [List.take_succ, hw, List.foldl_append]
      exact or_val _ _
    · rintro σ H8 ⟨⟨x7, x8, rfl⟩, s8⟩
      rw [hp2.length, List.take_length]
      refine ⟨⟨_, _, _, congrArg (fun z => [some (V.ref p), some (markV m), some (.int (side : Int)), some (.ref av), some (.ref D), some (markV z), some (bitV z1), x7, x8]) ?_⟩, (s6.trans s7).trans s8⟩
      rw [List.take_succ, hz, List.foldl_append, hacc]
      rfl
  · rintro σ H6 ⟨⟨x6, x7, x8, rfl⟩, s6⟩
    decreasing_trivial
    rw [hp.length, List.take_length]
    exact k.go (s35.trans s6) rfl
def spMarksOf (A : Ad) : Sp := fun vs H Q _ => ∃ v x1 x2 xp C u1 u2 part, vs = [v, x1, x2, xp] ∧ CircAt A H v C ∧ WF C ∧ VerAt H x1 u1 ∧ VerAt H x2 u2 ∧ VerGood C u1 ∧ VerGood C u2 ∧ PartAt H xp part ∧ part.length = C.sources.length ∧
  Ret (fun v H' => ∃ D kvs, v = .ref D ∧ H D = none ∧ H' D = some (.dK kvs) ∧ Tab kvs C.lines fun l => markV (marks C u1 u2 part l)) H Q
theorem ok_marks_of {f : Addr} {fd : FuncData} (T : Txt K mg A) (c_check_version : Cal P w K mg base 5 "check_version" (spCkVersion A)) (c_check_partial : Cal P w K mg base 3 "check_partial" (spCkPartial A)) (c_Marks : Mak P w K mg base 1 "Marks" A.CM (spMInit A)) (c_Marks_known : Met P w K mg base 7 A.CM "known" (spKnown A K R1 pl1))
    (F : Fun K "marks_of" "marks_of" s_marks_of f fd) : FnOk P w K mg base CX0 8 f fd ["circuit", "one", "other", "partial"] (spMarksOf A) := by
  refine F.ok sc_marks_of (fun vs H Q E h => ?_) (fun cdv Ar outer s H vs Q E hr h => ?_)
  · obtain ⟨v, x1, x2, xp, C, u1, u2, part, rfl, _⟩ := h
    rfl
  obtain ⟨v, x1, x2, xp, C, u1, u2, part, rfl, hc, wf, h1, h2, g1, g2, hp, hl, k⟩ := h
  refine ⟨_, (pss_cons (ps_expr (pe_c c_check_version hr (by omega) rfl (pa_cons (pv 0) (pa_cons (pv 1) pa_nil))))
      (pss_cons (ps_expr (pe_c c_check_version hr (by omega) rfl (pa_cons (pv 0) (pa_cons (pv 2) pa_nil))))
      (pss_cons (ps_expr (pe_c c_check_partial hr (by omega) rfl (pa_cons (pv 0) (pa_cons (pv 3) pa_nil))))
      (pss_one (ps_ret (pe_mt0 c_Marks_known hr (by omega) (pe_mk c_Marks hr (by omega) rfl (pa_cons (pv 0) (pa_cons (pe_tup (pa_cons (pv 1) (pa_cons (pv 2) pa_nil))) (pa_cons (pv 3) pa_nil)))))))))), ?_⟩
  refine ⟨_, rfl, _, rfl, _, C, _, u1, rfl, hc, wf, h1, g1, ?_⟩
  rintro v H1 s1 rfl
  refine ⟨_, rfl, _, rfl, _, C, _, u2, rfl, hc.mono s1, wf, h2.mono s1, g2, ?_⟩
  rintro v H2 s2 rfl
  have s12 := s1.trans s2
  refine ⟨_, rfl, _, rfl, _, C, _, part, rfl, hc.mono s12, hp.mono s12, hl, ?_⟩
  rintro v H3 s3 rfl
  have s13 := s12.trans s3
  decreasing_trivial
  refine ⟨by show 2 ≤ sizeLine; decide, fun t ht => ?_⟩
  have s4 := s13.trans (same_new ht (.tup [x1, x2]))
  refine ⟨_, rfl, fun q dq hq hdq hne => ⟨q, dq, _, _, _, rfl, upd_same, ?_⟩⟩
  intro H5 fs2 b2 ob2 l1 l2 l3 l4
  have s5 := make_same hq hdq b2
  have s45 := s4.trans s5
  obtain ⟨ap, rfl, hap⟩ := hp
  refine ⟨rfl, q, dq, fs2, rfl, ob2, l4 _ (by decide), _, C, u1, u2, part, rfl, trivial, ⟨q, dq, fs2, _, t, ap, x1, x2, rfl, ob2, l1, l2, l3, l4, hc.mono s45, s5 _ _ upd_same, h1.mono s45, h2.mono s45, s45 _ _ hap⟩, wf, hl, g1.1, g2.1, ?_⟩
  rintro v H6 s6 ⟨D, kvs, rfl, hD0, hD, hT⟩
  exact k.go (s45.trans s6) ⟨D, kvs, rfl, s45.free hD0, hD, hT⟩
def spSinkMarks (A : Ad) : Sp := fun vs H Q _ => ∃ v x1 x2 xp C u1 u2 part, vs = [v, x1, x2, xp] ∧ CircAt A H v C ∧ WF C ∧ VerAt H x1 u1 ∧ VerAt H x2 u2 ∧ VerGood C u1 ∧ VerGood C u2 ∧ PartAt H xp part ∧ part.length = C.sources.length ∧
  Ret (fun v H' => ∃ l, v = .ref l ∧ H l = none ∧ H' l = some (.lst ((sinkM C u1 u2 part).map markV))) H Q
theorem ok_sink_marks {f : Addr} {fd : FuncData} (T : Txt K mg A) (c_marks_of : Cal P w K mg base 8 "marks_of" (spMarksOf A)) (c_Circuit_sinks : Met P w K mg base 1 A.CC "sinks" (spSinks A)) (F : Fun K "sink_marks" "sink_marks" s_sink_marks f fd) : FnOk P w K mg base CX0 9 f fd ["circuit", "one", "other", "partial"] (spSinkMarks A) := by
  refine F.ok sc_sink_marks (fun vs H Q E h => ?_) (fun cdv Ar outer s H vs Q E hr h => ?_)
  · obtain ⟨v, x1, x2, xp, C, u1, u2, part, rfl, _⟩ := h
    rfl
  obtain ⟨v, x1, x2, xp, C, u1, u2, part, rfl, hc, wf, h1, h2, g1, g2, hp, hl, k⟩ := h
  refine ⟨_, (pss_cons (ps_set (i := 4) sc_sink_marks.nd rfl (Or.inr rfl) (pe_c c_marks_of hr (by omega) rfl (pa_cons (pv 0) (pa_cons (pv 1) (pa_cons (pv 2) (pa_cons (pv 3) pa_nil))))))
      (pss_one (ps_ret (pe_lc (own := [("line", 5)])  rfl sc_sink_marks.nd (pi_list (pe_mt0 c_Circuit_sinks hr (by omega) (pv 0))) (blkOk_by (own := [("line", 5)]) (sc := defScope s_sink_marks) (N := ["circuit", "one", "other", "partial", "known", "line"]) (by decide +kernel)) (fun _ _ _ _ _ => (pg_name (i := 5) sc_sink_marks.nd rfl (Or.inl rfl))) (fun _ _ _ _ _ => pts_nil) (fun _ _ _ _ _ => (pe_dget (hu_of hr) (pv 4) (pv 5) (fun _ _ => rfl))))))), ?_⟩
  refine ⟨_, rfl, _, rfl, _, rfl, _, rfl, _, _, _, _, C, u1, u2, part, rfl, hc, wf, h1, h2, g1, g2, hp, hl, ?_⟩
  rintro v H1 s1 ⟨D, kvs, rfl, hD0, hD, hT⟩
  have hc1 := hc.mono s1
  obtain ⟨pc, dxc, fsc, rfl, obc, fnc⟩ := hc1.ins
  decreasing_trivial
  refine ⟨pc, dxc, fsc, rfl, obc, fnc _ (by decide), _, C, rfl, hc1.parts, ?_⟩
  rintro v H2 s2 ⟨z, rfl, _, hz⟩
  refine ⟨_, rfl, ⟨_, SqL.of hz⟩, fun L hL => ?_⟩
  refine lcM (walk_list (xs := C.sinks.map V.str)) C.sinks (by rw [List.length_map]) (fun y l _ => y = markV (marks C u1 u2 part l)) (fun _ _ _ _ _ q => q) (by rw [List.length_map]; have := wf.no; omega) hL (fun H' s' => s'.seq (SqL.of hz)) ?_ ?_
  · rintro i x H3 H4 l hl3 s3 ⟨rfl, hx⟩ kk hk
    rw [List.getElem?_map, hl3] at hx
    cases hx
    refine ⟨rfl, ?_⟩
    decreasing_trivial
    refine ⟨D, _, rfl, by rw [← hT l (wf.sinks l (List.mem_of_getElem? hl3))]; exact DGet.k (k := Sum.inr l) ((s2.trans s3) _ _ hD), ?_⟩
    exact hk _ _ (Same.refl _) rfl
  · intro H3 ys s3 hL3 hy
    rw [vals_eq hy] at hL3
    refine k.go ((s1.trans s2).trans s3) ⟨L, rfl, (s1.trans s2).free hL, ?_⟩
    rw [hL3]
    unfold sinkM
    rw [List.map_map]
    rfl
end
end Pw
namespace Pw
open PySem PySem.Spec PyProof.Rows L2
local macro_rules
  | `(tactic| decreasing_trivial) => `(tactic| repeat (first
    | refine ⟨_, rfl, ?_⟩
    | refine ⟨_, _, rfl, rfl, ?_⟩
    | refine ⟨rfl, ?_⟩
    | refine ⟨_, _, rfl, .inl (SqL.of (by assumption)), ?_⟩
    | refine ⟨_, _, rfl, .inr (SqT.of (by assumption)), ?_⟩
    | refine ⟨_, _, _, _, rfl, rfl, SqT.of (by assumption), rfl, ?_⟩
    | refine ⟨_, _, _, _, rfl, rfl, SqL.of (by assumption), rfl, ?_⟩
    | refine ⟨_, _, rfl, ?_⟩))
theorem cut_to {xs : List V} {i : Nat} (h : i ≤ xs.length) : cutV xs none (some (i : Int)) = xs.take i := by
  unfold cutV
  rw [HT.sIx_none, HT.sIx_nat, Nat.min_eq_left h]
  rfl
theorem cut_from {xs : List V} {i : Nat} (h : i ≤ xs.length) : cutV xs (some (i : Int)) none = xs.drop i := by
  unfold cutV
  rw [HT.sIx_none, HT.sIx_nat, Nat.min_eq_left h, ← List.length_drop, List.take_length]
section
variable {P : Program} {w : World} {K : PySem.W.Frag} {mg : Str → Option Value} {base : Heap} {A : Ad}
theorem rdCatH {H : Hp} {Q : VK} {a b : Addr} {xs ys : List V} (ha : H a = some (.tup xs)) (hb : H b = some (.tup ys)) (hl : xs.length + ys.length ≤ 1000) (k : ∀ t H', Same H H' → H' t = some (.tup (xs ++ ys)) → Q (.ref t) H') : rCatA K (.ref a) (.ref b) H Q := by
  refine ⟨a, b, xs, ys, rfl, rfl, SqT.of ha, SqT.of hb, sz2 hl, fun e => ?_, fun _ e => ?_, fun _ _ p hp => k _ _ (same_new hp _) upd_same⟩
  · subst e
    exact k _ _ (Same.refl _) hb
  · subst e
    exact k _ _ (Same.refl _) (by rw [List.append_nil]; exact ha)
def spWithBit : Sp := fun vs H Q _ => ∃ (a : Addr) (part : List (Option Bool)) (i : Nat) (b : Bool), vs = [.ref a, .int i, bitV b] ∧ H a = some (.tup (part.map optV)) ∧ i < part.length ∧ part.length ≤ 100 ∧ Ret (fun v H' => PartAt H' v (part.set i (some b))) H Q
theorem ok_with_bit {f : Addr} {fd : FuncData} (T : Txt K mg A) (F : Fun K "with_bit" "with_bit" s_with_bit f fd) : FnOk P w K mg base CX0 1 f fd ["partial", "index", "bit"] spWithBit := by
  refine F.ok sc_with_bit (fun vs H Q E h => ?_) (fun cdv Ar outer s H vs Q E hr h => ?_)
  · obtain ⟨a, part, i, b, rfl, _⟩ := h
    rfl
  obtain ⟨a, part, i, b, rfl, h1, hi, hl, k⟩ := h
  refine ⟨_, (pss_one (ps_ret (pe_op op_catA (pe_op op_catA (pe_slice sl_tupA (pv 0) po_none (po_some (pv 1))) (pe_tup (pa_cons (pv 2) pa_nil))) (pe_slice sl_tupA (pv 0) (po_some (pe_op op_add (pv 1) pe_int)) po_none)))), ?_⟩
  have hlen : (part.map optV).length = part.length := List.length_map _
  refine ⟨_, rfl, _, rfl, _, rfl, _, _, rfl, SqT.of h1, fun hn => absurd hn.2 (by rw [HT.sIx_nat, hlen]; omega), fun _ p hp => ?_⟩
  have s1 := same_new hp (.tup (cutV (part.map optV) none (some (i : Int))))
  have e1 : cutV (part.map optV) none (some (i : Int)) = (part.map optV).take i := cut_to (by omega)
  refine ⟨_, rfl, by show 1 ≤ sizeLine; decide, fun t ht => ?_⟩
  have s2 := s1.trans (same_new ht (.tup [bitV b]))
  have hp2 := (same_new ht (.tup [bitV b])) _ _ (upd_same (H := H) (a := p) (o := .tup (cutV (part.map optV) none (some (i : Int)))))
  refine rdCatH hp2 upd_same (by rw [e1, List.length_take, hlen]; simp; omega) fun t2 H2 s3 ht2 => ?_
  have s23 := s2.trans s3
  have h2 := s23 _ _ h1
  decreasing_trivial
  refine ⟨_, _, rfl, SqT.of h2, fun hn => absurd hn.1 (by show ¬ HT.sIx _ 0 (some ((i : Int) + 1)) = 0; rw [show ((i : Int) + 1) = ((i + 1 : Nat) : Int) by omega, HT.sIx_nat, hlen]; omega), fun _ q hq => ?_⟩
  have e2 : cutV (part.map optV) (some ((i : Int) + 1)) none = (part.map optV).drop (i + 1) := by
    rw [show ((i : Int) + 1) = ((i + 1 : Nat) : Int) by omega]
    exact cut_from (by omega)
  have s4 := same_new hq (.tup (cutV (part.map optV) (some ((i : Int) + 1)) none))
  refine rdCatH (s4 _ _ ht2) upd_same (by rw [e1, e2, List.length_append, List.length_take, List.length_drop, hlen]; simp; omega) fun t3 H3 s5 ht3 => ?_
  refine k.go ((s23.trans s4).trans s5) ⟨t3, rfl, ?_⟩
  rw [ht3, e1, e2, List.set_eq_take_append_cons_drop, if_pos hi, List.map_append, List.map_take, List.map_cons, List.map_drop, List.append_assoc]
  rfl
def spEmpty (A : Ad) : Sp := fun vs H Q _ => ∃ v C, vs = [v] ∧ CircAt A H v C ∧ WF C ∧ Ret (fun v H' => PartAt H' v (emptyP C)) H Q
theorem ok_empty_partial {f : Addr} {fd : FuncData} (T : Txt K mg A) (c_Circuit_sources : Met P w K mg base 1 A.CC "sources" (spSources A)) (F : Fun K "empty_partial" "empty_partial" s_empty_partial f fd) : FnOk P w K mg base CX0 2 f fd ["circuit"] (spEmpty A) := by
  refine F.ok sc_empty_partial (fun vs H Q E h => ?_) (fun cdv Ar outer s H vs Q E hr h => ?_)
  · obtain ⟨v, C, rfl, _⟩ := h
    rfl
  obtain ⟨v, C, rfl, hc, wf, k⟩ := h
  refine ⟨_, (pss_one (ps_ret (pe_callTy call_tuple_of (by rfl) T.z_tuple bt_tuple (pa_cons (pe_lc (own := [("_", 1)])  rfl sc_empty_partial.nd (pi_list (pe_mt0 c_Circuit_sources hr (by omega) (pv 0))) (blkOk_by (own := [("_", 1)]) (sc := defScope s_empty_partial) (N := ["circuit", "_"]) (by decide +kernel)) (fun _ _ _ _ _ => (pg_name (i := 1) sc_empty_partial.nd rfl (Or.inl rfl))) (fun _ _ _ _ _ => pts_nil) (fun _ _ _ _ _ => pe_non)) pa_nil)))), ?_⟩
  obtain ⟨pc, dxc, fsc, rfl, obc, fnc⟩ := hc.ins
  refine ⟨_, rfl, pc, dxc, fsc, rfl, obc, fnc _ (by decide), _, C, rfl, hc.parts, ?_⟩
  rintro v H2 s2 ⟨z, rfl, _, hz⟩
  refine ⟨_, rfl, ⟨_, SqL.of hz⟩, fun L hL => ?_⟩
  refine lcM (walk_list (xs := C.sources.map V.str)) C.sources (by rw [List.length_map]) (fun y l _ => y = V.non) (fun _ _ _ _ _ q => q) (by rw [List.length_map]; have := wf.ns; omega) hL (fun H' s' => s'.seq (SqL.of hz)) ?_ ?_
  · rintro i x H3 H4 l hl3 s3 ⟨rfl, hx⟩ kk hk
    refine ⟨rfl, ?_⟩
    exact hk _ _ (Same.refl _) rfl
  · intro H3 ys s3 hL3 hy
    rw [vals_eq hy] at hL3
    refine ⟨_, _, rfl, .inl ⟨SqL.of hL3, fun t ht => ?_⟩⟩
    refine k.go ((s2.trans s3).trans (same_new ht _)) ⟨t, rfl, ?_⟩
    rw [upd_same]
    unfold emptyP
    rw [List.map_map]
    rfl
theorem and_uneq (m : Mark) : decide (V.int (Builtin.bitAnd m.val 6) = V.int 0) = !m.uneq := by
  obtain ⟨a, b, c, d⟩ := m
  cases a <;> cases b <;> cases c <;> cases d <;> decide +kernel
theorem and_eqs (m : Mark) : decide (V.int (Builtin.bitAnd m.val 9) = V.int 0) = !m.eqs := by
  obtain ⟨a, b, c, d⟩ := m
  cases a <;> cases b <;> cases c <;> cases d <;> decide +kernel
theorem all_map {α : Type} {l : List α} {f : α → Bool} : (l.map f).all id = l.all f := by rw [List.all_map]; rfl
theorem any_map {α : Type} {l : List α} {f : α → Bool} : (l.map f).any id = l.any f := by rw [List.any_map]; rfl
theorem sinkM_len {C : Circ Str} (wf : WF C) (u1 u2 : Ver Str) (part : List (Option Bool)) : (sinkM C u1 u2 part).length ≤ 6 := by
  unfold sinkM
  rw [List.length_map]
  exact wf.no
def spLeaf (A : Ad) : Sp := fun vs H Q _ => ∃ v x1 x2 xp C u1 u2 part, vs = [v, x1, x2, xp] ∧ CircAt A H v C ∧ WF C ∧ VerAt H x1 u1 ∧ VerAt H x2 u2 ∧ VerGood C u1 ∧ VerGood C u2 ∧ PartAt H xp part ∧ part.length = C.sources.length ∧
  Ret (fun v H' => v = .bl ((sinkM C u1 u2 part).all fun m => !m.uneq)) H Q
theorem ok_is_leaf_right {f : Addr} {fd : FuncData} (T : Txt K mg A) (c_sink_marks : Cal P w K mg base 9 "sink_marks" (spSinkMarks A)) (F : Fun K "is_leaf_right" "is_leaf_right" s_is_leaf_right f fd) : FnOk P w K mg base CX0 10 f fd ["circuit", "one", "other", "partial"] (spLeaf A) := by
  refine F.ok sc_is_leaf_right (fun vs H Q E h => ?_) (fun cdv Ar outer s H vs Q E hr h => ?_)
  · obtain ⟨v, x1, x2, xp, C, u1, u2, part, rfl, _⟩ := h
    rfl
  obtain ⟨v, x1, x2, xp, C, u1, u2, part, rfl, hc, wf, h1, h2, g1, g2, hp, hl, k⟩ := h
  refine ⟨_, (pss_one (ps_ret (pe_callB (cr_all rfl) (by rfl) T.z_all bt_all (pa_cons (pe_lc (own := [("mark", 4)])  rfl sc_is_leaf_right.nd (pi_list (pe_c c_sink_marks hr (by omega) rfl (pa_cons (pv 0) (pa_cons (pv 1) (pa_cons (pv 2) (pa_cons (pv 3) pa_nil)))))) (blkOk_by (own := [("mark", 4)]) (sc := defScope s_is_leaf_right) (N := ["circuit", "one", "other", "partial", "mark"]) (by decide +kernel)) (fun _ _ _ _ _ => (pg_name (i := 4) sc_is_leaf_right.nd rfl (Or.inl rfl))) (fun _ _ _ _ _ => pts_nil) (fun _ _ _ _ _ => (pe_cmpR op_eq (pe_op op_and (pv 4) (pe_gc rfl T.g_UNEQUAL)) pe_int (nomark _)))) pa_nil)))), ?_⟩
  have hls := sinkM_len wf u1 u2 part
  refine ⟨_, rfl, _, rfl, _, rfl, _, rfl, _, _, _, _, C, u1, u2, part, rfl, hc, wf, h1, h2, g1, g2, hp, hl, ?_⟩
  rintro v H1 s1 ⟨z, rfl, _, hz⟩
  refine ⟨_, rfl, ⟨_, SqL.of hz⟩, fun L hL => ?_⟩
  refine lcM (walk_list (xs := (sinkM C u1 u2 part).map markV)) (sinkM C u1 u2 part) (by rw [List.length_map]) (fun y m _ => y = V.bl (!m.uneq)) (fun _ _ _ _ _ q => q) (by rw [List.length_map]; omega) hL (fun H' s' => s'.seq (SqL.of hz)) ?_ ?_
  · rintro i x H3 H4 m hm3 s3 ⟨rfl, hx⟩ kk hk
    rw [List.getElem?_map, hm3] at hx
    cases hx
    refine ⟨rfl, ?_⟩
    decreasing_trivial
    exact hk _ _ (Same.refl _) (congrArg V.bl (and_uneq m))
  · intro H3 ys s3 hL3 hy
    rw [vals_eq hy] at hL3
    refine ⟨_, (sinkM C u1 u2 part).map fun m => !m.uneq, rfl, SqL.of (by rw [hL3, List.map_map]; rfl), ?_⟩
    rw [all_map]
    exact k.go (s1.trans s3) rfl
def spFilled (A : Ad) : Sp := fun vs H Q _ => ∃ v x C part b, vs = [v, x, bitV b] ∧ CircAt A H v C ∧ PartAt H x part ∧ part.length = C.sources.length ∧ WF C ∧ Ret (fun v H' => BitsAt H' v (fillB part b)) H Q
theorem ok_filled {f : Addr} {fd : FuncData} (T : Txt K mg A) (c_check_partial : Cal P w K mg base 3 "check_partial" (spCkPartial A)) (F : Fun K "filled" "filled" s_filled f fd) : FnOk P w K mg base CX0 4 f fd ["circuit", "partial", "bit"] (spFilled A) := by
  refine F.ok sc_filled (fun vs H Q E h => ?_) (fun cdv Ar outer s H vs Q E hr h => ?_)
  · obtain ⟨v, C, a, b, c, rfl, _⟩ := h
    rfl
  obtain ⟨v, x, C, part, b, rfl, hc, hp, hl, wf, k⟩ := h
  refine ⟨_, (pss_cons (ps_expr (pe_c c_check_partial hr (by omega) rfl (pa_cons (pv 0) (pa_cons (pv 1) pa_nil))))
      (pss_one (ps_ret (pe_callTy call_tuple_of (by rfl) T.z_tuple bt_tuple (pa_cons (pe_lc (own := [("item", 3)])  rfl sc_filled.nd (pi_tup (pv 1)) (blkOk_by (own := [("item", 3)]) (sc := defScope s_filled) (N := ["circuit", "partial", "bit", "item"]) (by decide +kernel)) (fun _ _ _ _ _ => (pg_name (i := 3) sc_filled.nd rfl (Or.inl rfl))) (fun _ _ _ _ _ => pts_nil) (fun _ _ _ _ _ => (pe_ifExp (pt_cmp (pc_isN (pv 3))) (pv 2) (pv 3)))) pa_nil))))), ?_⟩
  refine ⟨_, rfl, _, rfl, _, C, _, part, rfl, hc, hp, hl, ?_⟩
  rintro v H1 s1 rfl
  obtain ⟨a, rfl, ha⟩ := hp
  have ha1 := s1 _ _ ha
  refine ⟨_, rfl, _, rfl, ⟨_, SqT.of ha1⟩, fun L hL => ?_⟩
  refine lcM (walk_tup (xs := part.map optV)) part (by rw [List.length_map]) (fun y o _ => y = bitV (o.getD b)) (fun _ _ _ _ _ q => q) (by rw [List.length_map]; have := wf.ns; omega) hL (fun H' s' => s'.seqT (SqT.of ha1)) ?_ ?_
  · rintro i x H3 H4 o ho s3 ⟨rfl, hx⟩ kk hk
    rw [List.getElem?_map, ho] at hx
    cases hx
    refine ⟨rfl, ?_⟩
    cases o with
    | none =>
      decreasing_trivial
      exact hk _ _ (Same.refl _) rfl
    | some c =>
      decreasing_trivial
      exact hk _ _ (Same.refl _) rfl
  · intro H3 ys s3 hL3 hy
    rw [vals_eq hy] at hL3
    refine ⟨_, _, rfl, .inl ⟨SqL.of hL3, fun t ht => ?_⟩⟩
    refine k.go ((s1.trans s3).trans (same_new ht _)) ⟨t, rfl, ?_⟩
    rw [upd_same]
    unfold fillB
    rw [List.map_map]
    rfl
/-! ### papers as data -/
def paperD : Paper → PyData
  | .leaf => .tuple [.str "leaf"]
  | .case i z o => .tuple [.str "case", .int (i : Int), paperD z, paperD o]
theorem paper_dp {H : Hp} : ∀ {q : Paper} {v : V}, PaperAt H v q → Dp K H v (paperD q)
  | .leaf, _, ⟨a, e, h⟩ => by subst e; exact .tup (SqT.of h) (.cons (.str _) .nil)
  | .case i z o, _, ⟨a, vz, vo, e, h, hz, ho⟩ => by
    subst e
    exact .tup (SqT.of h) (.cons (.str _) (.cons (.int _) (.cons (paper_dp hz) (.cons (paper_dp ho) .nil))))
def Paper.deep : Paper → Nat
  | .leaf => 1
  | .case _ z o => max z.deep o.deep + 1
theorem ok_leaf : PyData.strOk "leaf" = true := by decide +kernel
theorem ok_case : PyData.strOk "case" = true := by decide +kernel
theorem paper_lay : ∀ q : Paper, (paperD q).canLay0 = true ∧ (paperD q).depth ≤ q.deep
  | .leaf => ⟨by simp [paperD, PyData.canLay0, PyData.canLayAll0, ok_leaf], by decide⟩
  | .case i z o => by
    obtain ⟨a, b⟩ := paper_lay z
    obtain ⟨c, d⟩ := paper_lay o
    refine ⟨by simp [paperD, PyData.canLay0, PyData.canLayAll0, ok_case, a, c], ?_⟩
    show max 0 (max 0 (max (paperD z).depth (max (paperD o).depth 0))) + 1 ≤ max z.deep o.deep + 1
    omega
theorem right_deep {C : Circ Str} {u1 u2 : Ver Str} : ∀ (q : Paper) (part : List (Option Bool)), Right C u1 u2 part q → q.deep ≤ opens part + 1
  | .leaf, part, _ => by show 1 ≤ _; omega
  | .case i z o, part, ⟨h, hz, ho⟩ => by
    have o0 := opens_set (b := false) h
    have o1 := opens_set (b := true) h
    have a := right_deep z _ hz
    have b := right_deep o _ ho
    show max z.deep o.deep + 1 ≤ _
    omega
theorem paper_shaped {q : Paper} (h : q.deep ≤ 60) : SeqAt.shaped (paperD q) = true := by
  obtain ⟨a, b⟩ := paper_lay q
  unfold SeqAt.shaped
  rw [a, Bool.true_and]
  exact decide_eq_true (by omega)
theorem paper_eqv0 (q : Paper) : PyData.eqv (paperD q) (.tuple []) = false := by
  cases q <;> simp [paperD, PyData.eqv, PyData.eqvAll]
theorem opens_le (part : List (Option Bool)) : opens part ≤ part.length := by
  unfold opens
  exact List.countP_le_length
theorem paper_ref {H : Hp} {x : V} {q : Paper} (h : PaperAt H x q) : ∃ a s r, x = .ref a ∧ H a = some (.tup (.str s :: r)) := by
  cases q with
  | leaf => obtain ⟨a, rfl, h⟩ := h; exact ⟨a, _, _, rfl, h⟩
  | case i z o => obtain ⟨a, vz, vo, rfl, h, _⟩ := h; exact ⟨a, _, _, rfl, h⟩
def spCheckFrom (A : Ad) (n : Nat) : Sp := fun vs H Q _ => ∃ v x1 x2 xp xq C u1 u2 part q, vs = [v, x1, x2, xp, xq] ∧ CircAt A H v C ∧ WF C ∧ VerAt H x1 u1 ∧ VerAt H x2 u2 ∧ VerGood C u1 ∧ VerGood C u2 ∧ PartAt H xp part ∧ part.length = C.sources.length ∧ PaperAt H xq q ∧ Right C u1 u2 part q ∧ opens part < n ∧
  Ret (fun v H' => v = .non) H Q
theorem ok_check_from {f : Addr} {fd : FuncData} (T : Txt K mg A) (c_is_integer : Cal P w K mg base 1 "is_integer" spInteger) (c_is_leaf_right : Cal P w K mg base 10 "is_leaf_right" (spLeaf A)) (c_with_bit : Cal P w K mg base 1 "with_bit" spWithBit) (F : At K mg "check_from" s_check_from f fd ["circuit", "one", "other", "partial", "paper"]) :
    ∀ n, FnOk P w K mg base CX0 (n + 12) f fd ["circuit", "one", "other", "partial", "paper"] (spCheckFrom A n)
  | 0 => by
    refine F.fn.ok sc_check_from (fun vs H Q E h => ?_) (fun cdv Ar outer s H vs Q E hr h => ?_)
    · obtain ⟨v, x1, x2, xp, xq, C, u1, u2, part, q, _, _, _, _, _, _, _, _, _, _, _, h, _⟩ := h
      exact absurd h (Nat.not_lt_zero _)
    · obtain ⟨v, x1, x2, xp, xq, C, u1, u2, part, q, _, _, _, _, _, _, _, _, _, _, _, h, _⟩ := h
      exact absurd h (Nat.not_lt_zero _)
  | n + 1 => by
    have c_check_from : Cal P w K mg base (n + 12) "check_from" (spCheckFrom A n) := F.cal (ok_check_from T c_is_integer c_is_leaf_right c_with_bit F n)
    refine F.fn.ok sc_check_from (fun vs H Q E h => ?_) (fun cdv Ar outer s H vs Q E hr h => ?_)
    · obtain ⟨v, x1, x2, xp, xq, C, u1, u2, part, q, rfl, _⟩ := h
      rfl
    obtain ⟨v, x1, x2, xp, xq, C, u1, u2, part, q, rfl, hc, wf, h1, h2, g1, g2, hp, hl, hq, hR, hn, k⟩ := h
    refine ⟨_, (pss_cons (ps_if (PW.pt (pw_or (pt_not (pt_val (pe_callB call_isi (by rfl) T.z_isinstance bt_isinstance (pa_cons (pv 4) (pa_cons (pe_bltn (v := .ty "tuple") (by rfl) T.z_tuple bt_tuple rfl) pa_nil))))) (pw_or (pt_cmpR (op_eqD (hu64 hr)) (pv 4) (pe_tup pa_nil) (nomark _)) (pw_or1 (pt_not (pt_val (pe_callB call_isi (by rfl) T.z_isinstance bt_isinstance (pa_cons (pe_ix ix_tup (pv 4) pe_int (fun _ _ => rfl)) (pa_cons (pe_bltn (v := .ty "str") (by rfl) T.z_str bt_str rfl) pa_nil))))))))) (pss_one ps_never) pss_nil)
      (pss_cons (ps_if (pt_cmpR (op_eqD (hu64 hr)) (pv 4) (pe_tup (pa_cons pe_str pa_nil)) (nomark _)) (pss_cons (ps_if (pt_not (pt_val (pe_c c_is_leaf_right hr (by omega) rfl (pa_cons (pv 0) (pa_cons (pv 1) (pa_cons (pv 2) (pa_cons (pv 3) pa_nil))))))) (pss_one ps_never) pss_nil)
      (pss_one ps_retN)) pss_nil)
      (pss_cons (ps_if (PW.pt (pw_or (pt_cmpR op_ne (pe_ix ix_tup (pv 4) pe_int (fun _ _ => rfl)) pe_str (nomark _)) (pw_or (pt_cmpR op_ne (pe_callB call_len_seq (by rfl) T.z_len PySem.boot_len (pa_cons (pv 4) pa_nil)) pe_int (nomark _)) (pw_or1 (pt_not (pt_val (pe_c c_is_integer hr (by omega) rfl (pa_cons (pe_ix ix_tup (pv 4) pe_int (fun _ _ => rfl)) (pa_cons pe_int (pa_cons (pe_op op_sub (pe_callB call_len_seq (by rfl) T.z_len PySem.boot_len (pa_cons (pv 3) pa_nil)) pe_int) pa_nil)))))))))) (pss_one ps_never) pss_nil)
      (pss_cons (ps_if (pt_cmp (pc_notN (pe_ix ix_tup (pv 3) (pe_ix ix_tup (pv 4) pe_int (fun _ _ => rfl)) (fun _ _ => rfl)))) (pss_one ps_never) pss_nil)
      (pss_one (ps_for PassesOwn.never rfl (pi_tup (pe_tup (pa_cons pe_int (pa_cons pe_int pa_nil)))) (pg_name (i := 5) sc_check_from.nd rfl (Or.inl rfl)) (pss_one (ps_expr (pe_c c_check_from hr (by omega) rfl (pa_cons (pv 0) (pa_cons (pv 1) (pa_cons (pv 2) (pa_cons (pe_c c_with_bit hr (by omega) rfl (pa_cons (pv 3) (pa_cons (pe_ix ix_tup (pv 4) pe_int (fun _ _ => rfl)) (pa_cons (pv 5) pa_nil)))) (pa_cons (pe_ix ix_tup (pv 4) (pe_op op_add pe_int (pv 5)) (fun _ _ => rfl)) pa_nil)))))))))))))), ?_⟩
    have hdeep : q.deep ≤ 60 := by
      have a := right_deep q part hR
      have b := opens_le part
      have c := wf.ns
      omega
    obtain ⟨a, z, r, rfl, ha⟩ := paper_ref hq
    refine ⟨_, rfl, _, _, _, _, true, rfl, .ty _, .base (.tup ha), kit_ty (by decide +kernel), _, rfl, iteF ?_⟩
    refine ⟨_, rfl, Nat.zero_le _, fun t0 ht0 => ?_⟩
    have s0 := same_new ht0 (.tup [])
    refine ⟨_, _, paper_dp (hq.mono s0), .tup in_up .nil, paper_shaped hdeep, by decide, _, rfl, ?_⟩
    rw [paper_eqv0]
    have ha0 := s0 _ _ ha
    refine iteF ?_
    refine ⟨_, rfl, a, _, 0, .str z, rfl, rfl, SqT.of ha0, atI_nat (j := 0) rfl, ?_⟩
    decreasing_trivial
    refine ⟨_, _, _, _, true, rfl, .ty _, .base (.str _), kit_ty (by decide +kernel), _, rfl, iteF ?_⟩
    refine ⟨_, rfl, by show 1 ≤ sizeLine; decide, fun t1 ht1 => ?_⟩
    have s1 := s0.trans (same_new ht1 (.tup [.str "leaf"]))
    have hq1 := hq.mono s1
    refine ⟨_, _, paper_dp hq1, .tup in_up (.cons (.str _) .nil), paper_shaped hdeep, shp (by simp [flatD, ok_leaf]), _, rfl, ?_⟩
    have hc1 := hc.mono s1
    cases q with
    | leaf =>
      refine ifT (by decide +kernel) ?_
      refine ⟨_, rfl, _, rfl, _, rfl, _, rfl, ?_⟩
      refine ⟨_, _, _, _, C, u1, u2, part, rfl, hc1, wf, h1.mono s1, h2.mono s1, g1, g2, hp.mono s1, hl, ?_⟩
      rintro v H2 s2 rfl
      have : ((sinkM C u1 u2 part).all fun m => !m.uneq) = true := by
        rw [List.all_eq_true]
        exact fun m hm => by rw [hR m hm]; rfl
      rw [this]
      refine ⟨_, rfl, iteF ?_⟩
      exact k.go (s1.trans s2) rfl
    | case i zz oo =>
      have ene : PyData.eqv (paperD (.case i zz oo)) (.tuple [.str "leaf"]) = false := by simp [paperD, PyData.eqv, PyData.eqvAll]
      rw [ene]
      refine iteF ?_
      obtain ⟨a', vz, vo, e, hh, hz, ho⟩ := hq1
      cases e
      obtain ⟨hi, hRz, hRo⟩ := hR
      have hip := (List.getElem?_eq_some_iff.mp hi).1
      obtain ⟨ap, rfl, hap⟩ := hp.mono s1
      decreasing_trivial
      refine ⟨_, _, _, rfl, by omega, by rw [List.length_map]; omega, _, rfl, iteF ?_⟩
      decreasing_trivial
      refine ⟨ap, _, i, .non, rfl, rfl, SqT.of hap, atI_nat (by rw [List.getElem?_map, hi]; rfl), ?_⟩
      decreasing_trivial
      refine ⟨by show 2 ≤ sizeLine; decide, fun t2 ht2 => ?_⟩
      have s2 := s1.trans (same_new ht2 (.tup [.int 0, .int 1]))
      refine ⟨_, rfl, ⟨_, SqT.of upd_same⟩, ?_⟩
      have o0 := opens_set (b := false) hi
      have o1 := opens_set (b := true) hi
      have hh2 := (same_new ht2 (.tup [.int 0, .int 1])) _ _ hh
      have hap2 := (same_new ht2 (.tup [.int 0, .int 1])) _ _ hap
      have hz2 := hz.mono (same_new ht2 (.tup [.int 0, .int 1]))
      have ho2 := ho.mono (same_new ht2 (.tup [.int 0, .int 1]))
      refine for_it (walk_tup (xs := [.int 0, .int 1])) (fun j σ H' => (∃ x, σ = [some v, some x1, some x2, some (.ref ap), some (.ref a), x]) ∧ Same (upd _ t2 (.tup [.int 0, .int 1])) H') ⟨⟨_, rfl⟩, Same.refl _⟩ (fun j σ H' _ q => q.2.seqT (SqT.of upd_same)) ?_ ?_
      · rintro j x σ H3 H3' hj ⟨⟨x5, rfl⟩, s3⟩ ⟨rfl, hx⟩
        have s23 := s2.trans s3
        have hap3 := s3 _ _ hap2
        have hh3 := s3 _ _ hh2
        clear hip
        have hip := (List.getElem?_eq_some_iff.mp hi).1
        obtain ⟨b, xb, rfl, hatb, hqb, hRb, hob⟩ : ∃ (b : Bool) (xb : V), x = bitV b ∧ atI [V.str "case", .int (i : Int), vz, vo] (2 + bi b) = some xb ∧ (∃ qb, PaperAt H3' xb qb ∧ Right C u1 u2 (part.set i (some b)) qb) ∧ True ∧ opens (part.set i (some b)) < n := by
          match j, hx with
          | 0, hx =>
            refine ⟨false, vz, (Option.some.inj hx).symm, rfl, ⟨zz, hz2.mono s3, hRz⟩, trivial, by omega⟩
          | 1, hx =>
            refine ⟨true, vo, (Option.some.inj hx).symm, rfl, ⟨oo, ho2.mono s3, hRo⟩, trivial, by omega⟩
        obtain ⟨qb, hqb, hRb'⟩ := hqb
        decreasing_trivial
        refine ⟨ap, part, i, b, rfl, hap3, hip, by have := wf.ns; omega, ?_⟩
        rintro v' H4 s4 hpb
        have hh4 := s4 _ _ hh3
        decreasing_trivial
        refine ⟨a, _, 2 + bi b, xb, rfl, rfl, SqT.of hh4, hatb, ?_⟩
        have s24 := s23.trans s4
        refine ⟨_, _, _, _, _, C, u1, u2, part.set i (some b), qb, rfl, hc.mono s24, wf, h1.mono s24, h2.mono s24, g1, g2, hpb, by rw [List.length_set]; exact hl, hqb.mono s4, hRb', hob, ?_⟩
        rintro v5 H5 s5 rfl
        exact ⟨⟨_, rfl⟩, (s3.trans s4).trans s5⟩
      · rintro σ H3 ⟨⟨x5, rfl⟩, s3⟩
        exact k.go (s2.trans s3) rfl
def spCheckPaper (A : Ad) : Sp := fun vs H Q _ => ∃ v x1 x2 xq C u1 u2 q, vs = [v, x1, x2, xq] ∧ CircAt A H v C ∧ WF C ∧ VerAt H x1 u1 ∧ VerAt H x2 u2 ∧ VerGood C u1 ∧ VerGood C u2 ∧ PaperAt H xq q ∧ Right C u1 u2 (emptyP C) q ∧ Ret (fun v H' => v = .non) H Q
theorem ok_check_paper {f : Addr} {fd : FuncData} (T : Txt K mg A) (c_check_version : Cal P w K mg base 5 "check_version" (spCkVersion A)) (c_check_from : Cal P w K mg base 19 "check_from" (spCheckFrom A 7)) (c_empty_partial : Cal P w K mg base 2 "empty_partial" (spEmpty A)) (F : Fun K "check_paper" "check_paper" s_check_paper f fd) :
    FnOk P w K mg base CX0 20 f fd ["circuit", "one", "other", "paper"] (spCheckPaper A) := by
  refine F.ok sc_check_paper (fun vs H Q E h => ?_) (fun cdv Ar outer s H vs Q E hr h => ?_)
  · obtain ⟨v, x1, x2, xq, C, u1, u2, q, rfl, _⟩ := h
    rfl
  obtain ⟨v, x1, x2, xq, C, u1, u2, q, rfl, hc, wf, h1, h2, g1, g2, hq, hR, k⟩ := h
  refine ⟨_, (pss_cons (ps_expr (pe_c c_check_version hr (by omega) rfl (pa_cons (pv 0) (pa_cons (pv 1) pa_nil))))
      (pss_cons (ps_expr (pe_c c_check_version hr (by omega) rfl (pa_cons (pv 0) (pa_cons (pv 2) pa_nil))))
      (pss_one (ps_expr (pe_c c_check_from hr (by omega) rfl (pa_cons (pv 0) (pa_cons (pv 1) (pa_cons (pv 2) (pa_cons (pe_c c_empty_partial hr (by omega) rfl (pa_cons (pv 0) pa_nil)) (pa_cons (pv 3) pa_nil)))))))))), ?_⟩
  refine ⟨_, rfl, _, rfl, _, C, _, u1, rfl, hc, wf, h1, g1, ?_⟩
  rintro v H1 s1 rfl
  refine ⟨_, rfl, _, rfl, _, C, _, u2, rfl, hc.mono s1, wf, h2.mono s1, g2, ?_⟩
  rintro v H2 s2 rfl
  have s12 := s1.trans s2
  refine ⟨_, rfl, _, rfl, _, rfl, _, rfl, _, C, rfl, hc.mono s12, wf, ?_⟩
  rintro v H3 s3 hp
  have s13 := s12.trans s3
  refine ⟨_, rfl, _, _, _, _, _, C, u1, u2, emptyP C, q, rfl, hc.mono s13, wf, h1.mono s13, h2.mono s13, g1, g2, hp, emptyP_len, hq.mono s13, hR, by rw [opens_empty]; have := wf.ns; omega, ?_⟩
  rintro v H4 s4 rfl
  exact k.go (s13.trans s4) rfl
end
end Pw
namespace Pw
open PySem PySem.Spec PyProof.Rows L2
local macro_rules
  | `(tactic| decreasing_trivial) => `(tactic| repeat (first
    | refine ⟨_, rfl, ?_⟩
    | refine ⟨_, _, rfl, rfl, ?_⟩
    | refine ⟨rfl, ?_⟩
    | refine ⟨_, _, rfl, .inl (SqL.of (by assumption)), ?_⟩
    | refine ⟨_, _, rfl, .inr (SqT.of (by assumption)), ?_⟩
    | refine ⟨_, _, _, _, rfl, rfl, SqT.of (by assumption), rfl, ?_⟩
    | refine ⟨_, _, _, _, rfl, rfl, SqL.of (by assumption), rfl, ?_⟩
    | refine ⟨_, _, rfl, ?_⟩))
theorem merge_some : ∀ (more kvs : List (Key × V)) (k : Key), (valV (mergeK kvs more) k).isSome = ((valV kvs k).isSome || (valV more k).isSome)
  | [], kvs, k => by
    show (valV kvs k).isSome = _
    rw [valV_nil]
    simp
  | p :: r, kvs, k => by
    show (valV (mergeK (putK kvs p.1 p.2) r) k).isSome = _
    rw [merge_some r, valV_put]
    by_cases e : k = p.1
    · rw [if_pos e, valV_pos e.symm]
      simp
    · rw [if_neg e]
      have : valV (p :: r) k = valV r k := by
        unfold valV
        rw [List.find?_cons, decide_eq_false fun q => e q.symm]
      rw [this]
section
variable {P : Program} {w : World} {K : PySem.W.Frag} {mg : Str → Option Value} {base : Heap} {A : Ad}
theorem SetAt.keep {H H' : Hp} (s : Keep H H') {v : V} {f : Str → Bool} : SetAt H v f → SetAt H' v f := fun ⟨a, kvs, e, h, h2, h3⟩ => ⟨a, kvs, e, s.dk h, h2, h3⟩
def sNames : List Str := ["circuit", "one", "other", "above", "shorted"]
structure SPre (A : Ad) (H : Hp) (p : Addr) (C : Circ Str) (u1 u2 : Ver Str) (dx : Addr) (fs : List (Str × V)) (vc v1 v2 : V) (aA aS : Addr) (vA : List V) (kS : List (Key × V)) : Prop where
  ob : H p = some (.ins A.CS dx fs)
  fC : fs.lookup ("circuit" : Str) = some vc
  f1 : fs.lookup ("one" : Str) = some v1
  f2 : fs.lookup ("other" : Str) = some v2
  fA : fs.lookup ("above" : Str) = some (.ref aA)
  fS : fs.lookup ("shorted" : Str) = some (.ref aS)
  fN : ∀ m : Str, m ∉ sNames → fs.lookup m = none
  hC : CircAt A H vc C
  h1 : VerAt H v1 u1
  h2 : VerAt H v2 u2
  hA : H aA = some (.lst vA)
  hA2 : Paired (fun y l => SetAt H y (above C l)) vA C.sinks
  hS : H aS = some (.dK kS)
  hS2 : ∀ x, (valV kS (Sum.inr x)).isSome = shortedB C u1 u2 x
theorem SPre.mono {H H' : Hp} {p : Addr} {C : Circ Str} {u1 u2 : Ver Str} {dx : Addr} {fs : List (Str × V)} {vc v1 v2 : V} {aA aS : Addr} {vA : List V} {kS : List (Key × V)} (s : Same H H') (h : SPre A H p C u1 u2 dx fs vc v1 v2 aA aS vA kS) : SPre A H' p C u1 u2 dx fs vc v1 v2 aA aS vA kS :=
  ⟨s _ _ h.ob, h.fC, h.f1, h.f2, h.fA, h.fS, h.fN, h.hC.mono s, h.h1.mono s, h.h2.mono s, s _ _ h.hA, L2.Paired.mapP h.hA2 fun _ _ q => q.mono s, s _ _ h.hS, h.hS2⟩
def SrAt (A : Ad) (H : Hp) (v : V) (C : Circ Str) (u1 u2 : Ver Str) : Prop := ∃ p dx fs vc v1 v2 aA aS vA kS, v = .ref p ∧ SPre A H p C u1 u2 dx fs vc v1 v2 aA aS vA kS
theorem SrAt.mono {H H' : Hp} {v : V} {C : Circ Str} {u1 u2 : Ver Str} (s : Same H H') : SrAt A H v C u1 u2 → SrAt A H' v C u1 u2 := fun ⟨p, dx, fs, vc, v1, v2, aA, aS, vA, kS, e, h⟩ => ⟨p, dx, fs, vc, v1, v2, aA, aS, vA, kS, e, h.mono s⟩
def spSInit (A : Ad) : Sp := fun vs H Q _ => ∃ Hb p dx v x1 x2 C u1 u2, vs = [.ref p, v, x1, x2] ∧ Hb p = none ∧ Same Hb H ∧ H p = some (.ins A.CS dx []) ∧ CircAt A Hb v C ∧ WF C ∧ VerAt Hb x1 u1 ∧ VerAt Hb x2 u2 ∧ ∀ H', Same Hb H' → SrAt A H' (.ref p) C u1 u2 → Q .non H'
theorem two_or {f : Ver Str → Str → Bool} {u1 u2 : Ver Str} : two (fun u _ (s : Str → Bool) => fun x => s x || f u x) u1 u2 (fun _ => false) 2 = fun x => f u1 x || f u2 x := by
  funext x
  show ((false || f u1 x) || f u2 x) = _
  rw [Bool.false_or]
theorem ok_search_init {f : Addr} {fd : FuncData} (T : Txt K mg A) (c_Circuit_above : Met P w K mg base 1 A.CC "above" (spAbove A)) (c_Circuit_sinks : Met P w K mg base 1 A.CC "sinks" (spSinks A)) (F : Fun K "__init__" "Search.__init__" s_Search_init f fd) :
    FnOk P w K mg base CX0 2 f fd ["self", "circuit", "one", "other"] (spSInit A) := by
  refine F.ok sc_Search_init (fun vs H Q E h => ?_) (fun cdv Ar outer s H vs Q E hr h => ?_)
  · obtain ⟨Hb, p, dx, v, x1, x2, C, u1, u2, rfl, _⟩ := h
    rfl
  obtain ⟨Hb, p, dx, v, x1, x2, C, u1, u2, rfl, hbp, sb, hp, hc, wf, h1, h2, k⟩ := h
  refine ⟨_, (pss_cons (ps_fld (pv 0) (pv 1) rfl)
      (pss_cons (ps_fld (pv 0) (pv 2) rfl)
      (pss_cons (ps_fld (pv 0) (pv 3) rfl)
      (pss_cons (ps_fld (pv 0) (pe_lc (own := [("line", 5)])  rfl sc_Search_init.nd (pi_list (pe_mt0 c_Circuit_sinks hr (by omega) (pv 1))) (blkOk_by (own := [("line", 5)]) (sc := defScope s_Search_init) (N := ["self", "circuit", "one", "other", "version", "line"]) (by decide +kernel)) (fun _ _ _ _ _ => (pg_name (i := 5) sc_Search_init.nd rfl (Or.inl rfl))) (fun _ _ _ _ _ => pts_nil) (fun _ _ _ _ _ => (pe_mt c_Circuit_above hr (by omega) (pv 1) (pa_cons (pv 5) pa_nil)))) rfl)
      (pss_cons (ps_fld (pv 0) pe_dnewK rfl)
      (pss_one (ps_for PassesOwn.never rfl (pi_tup (pe_tup (pa_cons (pv 2) (pa_cons (pv 3) pa_nil)))) (pg_name (i := 4) sc_Search_init.nd rfl (Or.inl rfl)) (pss_one (ps_if (PW.pt (pw_and (pt_cmp (pc_notN (pv 4))) (pw_and1 (pt_cmpR op_eq (pe_ix ix_tup (pv 4) pe_int (fun _ _ => rfl)) pe_str (nomark _))))) (pss_cons (ps_expr (pe_bm PySem.F.plainAttrs_dict PySem.F.slot_dict_update PySem.F.type_dict_update mt_update (pe_fld (pv 0) rfl) (pa_cons (pe_mt c_Circuit_above hr (by omega) (pv 1) (pa_cons (pe_ix ix_tup (pv 4) pe_int (fun _ _ => rfl)) pa_nil)) pa_nil)))
      (pss_one (ps_expr (pe_bm PySem.F.plainAttrs_dict PySem.F.slot_dict_update PySem.F.type_dict_update mt_update (pe_fld (pv 0) rfl) (pa_cons (pe_mt c_Circuit_above hr (by omega) (pv 1) (pa_cons (pe_ix ix_tup (pv 4) pe_int (fun _ _ => rfl)) pa_nil)) pa_nil))))) pss_nil))))))))), ?_⟩
  refine ⟨_, rfl, _, rfl, p, _, dx, _, rfl, hp, T.cS, T.nS_circuit, by decide, ?_⟩
  refine ⟨_, rfl, _, rfl, p, _, dx, _, rfl, upd_same, T.cS, T.nS_one, by show 1 < 1000; decide, ?_⟩
  refine ⟨_, rfl, _, rfl, p, _, dx, _, rfl, upd_same, T.cS, T.nS_other, by show 2 < 1000; decide, ?_⟩
  generalize hf3 : putF "other" x2 (putF "one" x1 (putF "circuit" v [])) = fs3
  have hl3 : fs3.length = 3 := by rw [← hf3]; rfl
  have sb3 : Same Hb (upd (upd (upd H p (.ins A.CS dx (putF "circuit" v []))) p (.ins A.CS dx (putF "one" x1 (putF "circuit" v [])))) p (.ins A.CS dx fs3)) := Same.mut (Same.mut (Same.mut sb hbp) hbp) hbp
  have hp3 := upd_same (H := (upd (upd H p (.ins A.CS dx (putF "circuit" v []))) p (.ins A.CS dx (putF "one" x1 (putF "circuit" v []))))) (a := p) (o := .ins A.CS dx fs3)
  generalize upd (upd (upd H p (.ins A.CS dx (putF "circuit" v []))) p (.ins A.CS dx (putF "one" x1 (putF "circuit" v [])))) p (.ins A.CS dx fs3) = H3 at sb3 hp3 ⊢
  have hc3 := hc.mono sb3
  obtain ⟨pc, dxc, fsc, rfl, obc, fnc⟩ := hc3.ins
  refine ⟨_, rfl, pc, dxc, fsc, rfl, obc, fnc _ (by decide), _, C, rfl, hc3.parts, ?_⟩
  rintro v H4 s4 ⟨z, rfl, _, hz⟩
  refine ⟨_, rfl, ⟨_, SqL.of hz⟩, fun L hL => ?_⟩
  refine lcM (walk_list (xs := C.sinks.map V.str)) C.sinks (by rw [List.length_map]) (fun y l H => SetAt H y (above C l)) (fun _ _ _ _ kp q => q.keep kp) (by rw [List.length_map]; have := wf.no; omega) hL (fun H' s' => s'.seq (SqL.of hz)) ?_ ?_
  · rintro i x H5 H6 l hl5 s5 ⟨rfl, hx⟩ kk hk
    rw [List.getElem?_map, hl5] at hx
    cases hx
    have hc5 := hc.mono ((sb3.trans s4).trans s5)
    obtain ⟨pc', dxc', fsc', e, obc', fnc'⟩ := hc5.ins
    cases e
    refine ⟨rfl, ?_⟩
    decreasing_trivial
    refine ⟨pc, dxc', fsc', rfl, obc', fnc' _ (by decide), ?_⟩
    decreasing_trivial
    refine ⟨_, C, l, rfl, hc5, wf, ?_⟩
    rintro v H7 s7 ⟨_, hset⟩
    exact hk _ _ s7 hset
  intro H5 ys s5 hL5 hy
  have sb5 := (sb3.trans s4).trans s5
  have hp5 := s5 _ _ (s4 _ _ hp3)
  refine ⟨_, rfl, p, _, dx, _, rfl, hp5, T.cS, T.nS_above, by rw [hl3]; decide, ?_⟩
  have hpL : L ≠ p := fun e => by
    rw [e, s4 _ _ hp3] at hL
    cases hL
  have hbL : Hb L = none := (sb3.trans s4).free hL
  generalize hf4 : putF "above" (.ref L) fs3 = fs4
  have hl4 : fs4.length ≤ 4 := by have := len_putF "above" (.ref L) fs3; rw [← hf4]; omega
  have sb6 : Same Hb (upd H5 p (.ins A.CS dx fs4)) := Same.mut sb5 hbp
  have hp6 := upd_same (H := H5) (a := p) (o := .ins A.CS dx fs4)
  have hL6 : (upd H5 p (.ins A.CS dx fs4)) L = some (.lst ys) := by rw [upd_ne hpL]; exact hL5
  have hy6 : Paired (fun y l => SetAt (upd H5 p (.ins A.CS dx fs4)) y (above C l)) ys C.sinks := L2.Paired.mapP hy fun _ _ ⟨a, kvs, e, h, q1, q2⟩ => ⟨a, kvs, e, by rw [upd_ne (ne_of h hp5 (by intro z; cases z))]; exact h, q1, q2⟩
  generalize upd H5 p (.ins A.CS dx fs4) = H6 at sb6 hp6 hL6 hy6 ⊢
  refine fun D hD => ?_
  have s7 := same_new hD (.dK [])
  have hp7 := s7 _ _ hp6
  refine ⟨_, rfl, p, _, dx, _, rfl, hp7, T.cS, T.nS_shorted, by omega, ?_⟩
  have hpD : D ≠ p := fun e => by
    rw [e, hp6] at hD
    cases hD
  have hbD : Hb D = none := sb6.free hD
  generalize hf5 : putF "shorted" (.ref D) fs4 = fs5
  have sb8 : Same Hb (upd (upd H6 D (.dK [])) p (.ins A.CS dx fs5)) := Same.mut (sb6.trans s7) hbp
  have hp8 := upd_same (H := upd H6 D (.dK [])) (a := p) (o := .ins A.CS dx fs5)
  have hL8 : (upd (upd H6 D (.dK [])) p (.ins A.CS dx fs5)) L = some (.lst ys) := by rw [upd_ne hpL]; exact s7 _ _ hL6
  have hD8 : (upd (upd H6 D (.dK [])) p (.ins A.CS dx fs5)) D = some (.dK []) := by rw [upd_ne hpD]; exact upd_same
  have hy8 : Paired (fun y l => ∃ a kvs, a ≠ D ∧ y = .ref a ∧ (upd (upd H6 D (.dK [])) p (.ins A.CS dx fs5)) a = some (.dK kvs) ∧ kvs.length ≤ 500 ∧ ∀ x, (valV kvs (Sum.inr x)).isSome = above C l x) ys C.sinks := L2.Paired.mapP hy6 fun _ _ ⟨a, kvs, e, h, q1, q2⟩ => ⟨a, kvs, ne_of_none h hD, e, by rw [upd_ne (ne_of h hp6 (by intro z; cases z))]; exact s7 _ _ h, q1, q2⟩
  generalize upd (upd H6 D (.dK [])) p (.ins A.CS dx fs5) = H8 at sb8 hp8 hL8 hy8 hD8 ⊢
  refine ⟨_, rfl, _, rfl, by show 2 ≤ sizeLine; decide, fun t ht => ?_⟩
  have s9 := same_new ht (.tup [x1, x2])
  refine ⟨_, rfl, ⟨_, SqT.of upd_same⟩, ?_⟩
  have htD : t ≠ D := fun e => by
    rw [e, hD8] at ht
    cases ht
  have hbt : Hb t = none := sb8.free ht
  have lk1 : fs5.lookup ("shorted" : Str) = some (.ref D) := by rw [← hf5, lookup_putF, if_pos rfl]
  have lk2 : fs5.lookup ("above" : Str) = some (.ref L) := by rw [← hf5, lookup_putF, if_neg (by decide), ← hf4, lookup_putF, if_pos rfl]
  have lk3 : fs5.lookup ("circuit" : Str) = some (.ref pc) := by rw [← hf5, lookup_putF, if_neg (by decide), ← hf4, lookup_putF, if_neg (by decide), ← hf3]; rfl
  have lk4 : fs5.lookup ("one" : Str) = some x1 := by rw [← hf5, lookup_putF, if_neg (by decide), ← hf4, lookup_putF, if_neg (by decide), ← hf3]; rfl
  have lk5 : fs5.lookup ("other" : Str) = some x2 := by rw [← hf5, lookup_putF, if_neg (by decide), ← hf4, lookup_putF, if_neg (by decide), ← hf3]; rfl
  have lkN : ∀ m : Str, m ∉ sNames → fs5.lookup m = none := fun m hm => by
    have n1 : m ≠ "circuit" := fun e => hm (by rw [e]; decide)
    have n2 : m ≠ "one" := fun e => hm (by rw [e]; decide)
    have n3 : m ≠ "other" := fun e => hm (by rw [e]; decide)
    have n4 : m ≠ "above" := fun e => hm (by rw [e]; decide)
    have n5 : m ≠ "shorted" := fun e => hm (by rw [e]; decide)
    rw [← hf5, lookup_putF, if_neg n5, ← hf4, lookup_putF, if_neg n4, ← hf3, lookup_putF, if_neg n3, lookup_putF, if_neg n2, lookup_putF, if_neg n1]
    rfl
  refine for_it (walk_tup (xs := [x1, x2])) (fun j σ H' => (∃ x4 x5, σ = [some (.ref p), some (.ref pc), some x1, some x2, x4, x5]) ∧ Same Hb H' ∧ H' p = some (.ins A.CS dx fs5) ∧ H' L = some (.lst ys) ∧ H' t = some (.tup [x1, x2]) ∧ Paired (fun y l => ∃ a kvs, a ≠ D ∧ y = .ref a ∧ H' a = some (.dK kvs) ∧ kvs.length ≤ 500 ∧ ∀ x, (valV kvs (Sum.inr x)).isSome = above C l x) ys C.sinks ∧ ∃ kvs, H' D = some (.dK kvs) ∧ kvs.length ≤ 1000 * j ∧ ∀ x, (valV kvs (Sum.inr x)).isSome = two (fun u _ (s : Str → Bool) => fun x => s x || shortedOne C u x) u1 u2 (fun _ => false) j x)
    ⟨⟨_, _, rfl⟩, sb8.trans s9, s9 _ _ hp8, s9 _ _ hL8, upd_same, L2.Paired.mapP hy8 fun _ _ ⟨a, kvs, n, e, h, q⟩ => ⟨a, kvs, n, e, s9 _ _ h, q⟩, [], s9 _ _ hD8, Nat.le_refl _, fun x => rfl⟩ (fun j σ H' _ q => SqT.of q.2.2.2.2.1) ?_ ?_
  · rintro j x σ H9 H9' hj ⟨⟨x4, x5, rfl⟩, sb9, hp9, hL9, ht9, hy9, kvs, hD9, hk9, hf9⟩ ⟨rfl, hx⟩
    obtain ⟨u, hu0, hu, hstep⟩ := two_at (h1.mono sb9) (h2.mono sb9) hx
    have hj2 := two_lt hx
    have e := hstep (fun u _ (s : Str → Bool) => fun x => s x || shortedOne C u x) (fun _ => false)
    have keepit : (∀ x, shortedOne C u x = false) → ∀ x5' , ((∃ x4 x5, [some (V.ref p), some (.ref pc), some x1, some x2, some x, x5'] = [some (.ref p), some (.ref pc), some x1, some x2, x4, x5]) ∧ Same Hb H9' ∧ H9' p = some (.ins A.CS dx fs5) ∧ H9' L = some (.lst ys) ∧ H9' t = some (.tup [x1, x2]) ∧ Paired (fun y l => ∃ a kvs, a ≠ D ∧ y = .ref a ∧ H9' a = some (.dK kvs) ∧ kvs.length ≤ 500 ∧ ∀ x, (valV kvs (Sum.inr x)).isSome = above C l x) ys C.sinks ∧ ∃ kvs, H9' D = some (.dK kvs) ∧ kvs.length ≤ 1000 * (j + 1) ∧ ∀ x, (valV kvs (Sum.inr x)).isSome = two (fun u _ (s : Str → Bool) => fun x => s x || shortedOne C u x) u1 u2 (fun _ => false) (j + 1) x) := by
      intro hz x5'
      refine ⟨⟨_, _, rfl⟩, sb9, hp9, hL9, ht9, hy9, kvs, hD9, by omega, fun x => ?_⟩
      rw [e, hf9]
      show _ = (_ || shortedOne C u x)
      rw [hz, Bool.or_false]
    cases u with
    | right =>
      obtain rfl : x = .non := hu
      decreasing_trivial
      exact keepit (fun _ => rfl) _
    | stem l b =>
      obtain ⟨a, rfl, ha, _⟩ := hu
      decreasing_trivial
      exact keepit (fun _ => rfl) _
    | pin l i b =>
      obtain ⟨a, rfl, ha, _⟩ := hu
      decreasing_trivial
      exact keepit (fun _ => rfl) _
    | short a b kd =>
      obtain ⟨av, rfl, ha, _⟩ := hu
      clear keepit
      have hc9 := hc.mono sb9
      obtain ⟨pc', dxc', fsc', e', obc', fnc'⟩ := hc9.ins
      cases e'
      decreasing_trivial
      refine ⟨_, _, _, _, _, rfl, hp9, T.cS, T.nS_shorted, lk1, ?_⟩
      refine ⟨.inr (.inr (.inl ⟨rfl, .inl ⟨_, hD9⟩⟩)), ?_⟩
      decreasing_trivial
      refine ⟨pc, dxc', fsc', rfl, obc', fnc' _ (by decide), ?_⟩
      decreasing_trivial
      refine ⟨_, C, a, rfl, hc9, wf, ?_⟩
      rintro v Ha sa ⟨⟨d, rfl, hd0⟩, d', kva, e2, hda, hka, hfa⟩
      cases e2
      have hdD : D ≠ d := ne_of_none hD9 hd0
      have hpA : D ≠ p := hpD
      refine ⟨D, d, kvs, kva, rfl, rfl, hdD, sa _ _ hD9, hda, by rw [PySem.sizeLine_eq]; omega, ?_⟩
      have sbA : Same Hb (upd Ha D (.dK (mergeK kvs kva))) := Same.mut (sb9.trans sa) hbD
      have hpAA : (upd Ha D (.dK (mergeK kvs kva))) p = some (.ins A.CS dx fs5) := by rw [upd_ne hpD.symm]; exact sa _ _ hp9
      have hDA := upd_same (H := Ha) (a := D) (o := .dK (mergeK kvs kva))
      have hLD : L ≠ D := ne_of hL9 hD9 (by intro z; cases z)
      have hLA : (upd Ha D (.dK (mergeK kvs kva))) L = some (.lst ys) := by rw [upd_ne hLD]; exact sa _ _ hL9
      have htA : (upd Ha D (.dK (mergeK kvs kva))) t = some (.tup [x1, x2]) := by rw [upd_ne htD]; exact sa _ _ ht9
      have havA : (upd Ha D (.dK (mergeK kvs kva))) av = some (.tup (verTup (.short a b kd))) := by rw [upd_ne (ne_of ha hD9 (by intro z; cases z))]; exact sa _ _ ha
      have hyA : Paired (fun y l => ∃ a kvs', a ≠ D ∧ y = .ref a ∧ (upd Ha D (.dK (mergeK kvs kva))) a = some (.dK kvs') ∧ kvs'.length ≤ 500 ∧ ∀ x, (valV kvs' (Sum.inr x)).isSome = above C l x) ys C.sinks := L2.Paired.mapP hy9 fun _ _ ⟨a, kvs', n, e, h, q⟩ => ⟨a, kvs', n, e, by rw [upd_ne n]; exact sa _ _ h, q⟩
      have hkA : (mergeK kvs kva).length ≤ 1000 * j + 500 := by have := length_mergeK kva kvs; omega
      have hfA : ∀ x, (valV (mergeK kvs kva) (Sum.inr x)).isSome = (two (fun u _ (s : Str → Bool) => fun x => s x || shortedOne C u x) u1 u2 (fun _ => false) j x || above C a x) := fun x => by rw [merge_some, hf9, hfa]
      generalize upd Ha D (.dK (mergeK kvs kva)) = HA at sbA hpAA hDA hLA htA hyA havA ⊢
      generalize mergeK kvs kva = kvA at hDA hkA hfA
      have hcA := hc.mono sbA
      obtain ⟨pc', dxc', fsc', e', obc', fnc'⟩ := hcA.ins
      cases e'
      decreasing_trivial
      refine ⟨_, _, _, _, _, rfl, hpAA, T.cS, T.nS_shorted, lk1, ?_⟩
      refine ⟨.inr (.inr (.inl ⟨rfl, .inl ⟨_, hDA⟩⟩)), ?_⟩
      decreasing_trivial
      refine ⟨pc, dxc', fsc', rfl, obc', fnc' _ (by decide), ?_⟩
      decreasing_trivial
      refine ⟨_, C, b, rfl, hcA, wf, ?_⟩
      rintro v HB sB ⟨⟨d2, rfl, hd20⟩, d', kvb, e2, hdb, hkb, hfb⟩
      cases e2
      have hdD2 : D ≠ d2 := ne_of_none hDA hd20
      refine ⟨D, d2, kvA, kvb, rfl, rfl, hdD2, sB _ _ hDA, hdb, by rw [PySem.sizeLine_eq]; omega, ?_⟩
      refine ⟨⟨_, _, rfl⟩, Same.mut (sbA.trans sB) hbD, by rw [upd_ne hpD.symm]; exact sB _ _ hpAA, by rw [upd_ne hLD]; exact sB _ _ hLA, by rw [upd_ne htD]; exact sB _ _ htA, L2.Paired.mapP hyA fun _ _ ⟨a, kvs', n, e, h, q⟩ => ⟨a, kvs', n, e, by rw [upd_ne n]; exact sB _ _ h, q⟩, _, upd_same, ?_, fun x => ?_⟩
      · have := length_mergeK kvb kvA
        omega
      · rw [merge_some, hfA, hfb, e, Bool.or_assoc]
        rfl
  · rintro σ H9 ⟨⟨x4, x5, rfl⟩, sb9, hp9, hL9, ht9, hy9, kvs, hD9, hk9, hf9⟩
    refine k _ sb9 ⟨p, dx, fs5, _, x1, x2, L, D, ys, kvs, rfl, hp9, lk3, lk4, lk5, lk2, lk1, lkN, hc.mono sb9, h1.mono sb9, h2.mono sb9, hL9, L2.Paired.mapP hy9 fun _ _ ⟨a, kvs', n, e, h, q⟩ => ⟨a, kvs', e, h, q⟩, hD9, fun x => ?_⟩
    rw [hf9]
    exact congrFun (two_or (f := shortedOne C)) x
end
end Pw
namespace Pw
open PySem PySem.Spec PyProof.Rows L2
local macro_rules
  | `(tactic| decreasing_trivial) => `(tactic| repeat (first
    | refine ⟨_, rfl, ?_⟩
    | refine ⟨_, _, rfl, rfl, ?_⟩
    | refine ⟨rfl, ?_⟩
    | refine ⟨_, _, rfl, .inl (SqL.of (by assumption)), ?_⟩
    | refine ⟨_, _, rfl, .inr (SqT.of (by assumption)), ?_⟩
    | refine ⟨_, _, _, _, rfl, rfl, SqT.of (by assumption), rfl, ?_⟩
    | refine ⟨_, _, _, _, rfl, rfl, SqL.of (by assumption), rfl, ?_⟩
    | refine ⟨_, _, rfl, ?_⟩))
section
variable {α β : Type} {l : List α} {i : Nat} {p : α}
theorem take_split (h : l[i]? = some p) : l = l.take i ++ p :: l.drop (i + 1) := by
  obtain ⟨hi, e⟩ := List.getElem?_eq_some_iff.mp h
  rw [← e, ← List.drop_eq_getElem_cons hi, List.take_append_drop]
theorem fs_at {g : α → Option β} {y : β} (h0 : (l.take i).findSome? g = none) (h : l[i]? = some p) (hy : g p = some y) : l.findSome? g = some y := by
  rw [take_split h, List.findSome?_append, h0, List.findSome?_cons, hy]
  rfl
theorem fs_step {g : α → Option β} (h0 : (l.take i).findSome? g = none) (h : l[i]? = some p) (hy : g p = none) : (l.take (i + 1)).findSome? g = none := by
  rw [List.take_succ, h, List.findSome?_append, h0]
  simp [hy]
theorem fd_at {g : α → Bool} (h0 : (l.take i).find? g = none) (h : l[i]? = some p) (hy : g p = true) : l.find? g = some p := by
  rw [take_split h, List.find?_append, h0, List.find?_cons, hy]
  rfl
theorem fd_step {g : α → Bool} (h0 : (l.take i).find? g = none) (h : l[i]? = some p) (hy : g p = false) : (l.take (i + 1)).find? g = none := by
  rw [List.take_succ, h, List.find?_append, h0]
  simp [hy]
end
section
variable {P : Program} {w : World} {K : PySem.W.Frag} {mg : Str → Option Value} {base : Heap} {A : Ad}
def natV (n : Nat) : V := .int (n : Int)
def inSink (C : Circ Str) (u1 u2 : Ver Str) (sk : Str) (i : Nat) : Bool := match C.sources[i]? with
  | some s => above C sk s || shortedB C u1 u2 s
  | none => false
theorem findIn_eq (C : Circ Str) (u1 u2 : Ver Str) (free : List Nat) (sk : Str) : findIn C u1 u2 free sk = free.find? (inSink C u1 u2 sk) := by
  unfold findIn
  congr 1
  funext i
  unfold inSink
  cases C.sources[i]? <;> rfl
theorem inSink_at {C : Circ Str} {u1 u2 : Ver Str} {sk s : Str} {i : Nat} (h : C.sources[i]? = some s) : inSink C u1 u2 sk i = (above C sk s || shortedB C u1 u2 s) := by
  unfold inSink
  rw [h]
def spChoice (A : Ad) : Sp := fun vs H Q _ => ∃ v ap l C u1 u2 part ms, vs = [v, .ref ap, .ref l] ∧ SrAt A H v C u1 u2 ∧ WF C ∧ H ap = some (.tup (part.map optV)) ∧ part.length = C.sources.length ∧ H l = some (.lst ((ms : List Mark).map markV)) ∧ ms.length = C.sinks.length ∧ freeAt part ≠ [] ∧
  Ret (fun v _ => v = natV (choiceM C u1 u2 part ms)) H Q
theorem ok_choice {f : Addr} {fd : FuncData} (T : Txt K mg A) (c_Circuit_sources : Met P w K mg base 1 A.CC "sources" (spSources A)) (F : Fun K "choice" "Search.choice" s_Search_choice f fd) : FnOk P w K mg base CX0 2 f fd ["self", "partial", "marks"] (spChoice A) := by
  refine F.ok sc_Search_choice (fun vs H Q E h => ?_) (fun cdv Ar outer s H vs Q E hr h => ?_)
  · obtain ⟨v, ap, l, C, u1, u2, part, ms, rfl, _⟩ := h
    rfl
  obtain ⟨v, ap, l, C, u1, u2, part, ms, rfl, ⟨p, dx, fs, vc, v1, v2, aA, aS, vA, kS, rfl, c⟩, wf, hap, hl, hms, hmsl, hfr, k⟩ := h
  refine ⟨_, (pss_cons (ps_setLc (i := 3) (own := [("index", 7), ("item", 8)]) (g := (gTup K 2 (gCons (gName 7) (gCons (gName 8) gNil)))) rfl sc_Search_choice.nd rfl rfl (sw_true rfl rfl rfl (by decide +kernel)) (pi_enumT (by rfl) T.z_enumerate (pa_cons (pv 1) pa_nil)) (blkOk_by (own := [("index", 7), ("item", 8)]) (sc := defScope s_Search_choice) (N := ["self", "partial", "marks", "free", "sources", "mark", "above", "index", "item"]) (by decide +kernel)) (fun _ _ _ _ _ => (pg_tup rfl (pgs_cons (pg_name (i := 7) sc_Search_choice.nd rfl (Or.inl rfl)) (pgs_cons (pg_name (i := 8) sc_Search_choice.nd rfl (Or.inl rfl)) pgs_nil)))) (fun _ _ _ _ _ => (pts_one (pt_cmp (pc_isN (pv 8))))) (fun _ _ _ _ _ => (pv 7)))
      (pss_cons (ps_set (i := 4) sc_Search_choice.nd rfl (Or.inl rfl) (pe_mt0 c_Circuit_sources hr (by omega) (pe_fld (pv 0) rfl)))
      (pss_cons (ps_for PassesOwn.never rfl (pi_zip (by rfl) T.z_zip (pa_cons (pv 2) (pa_cons (pe_fld (pv 0) rfl) pa_nil))) (pg_tup rfl (pgs_cons (pg_name (i := 5) sc_Search_choice.nd rfl (Or.inl rfl)) (pgs_cons (pg_name (i := 6) sc_Search_choice.nd rfl (Or.inl rfl)) pgs_nil))) (pss_one (ps_if (pt_cmpR op_ne (pe_op op_and (pv 5) (pe_gc rfl T.g_UNEQUAL)) pe_int (nomark _)) (pss_one (ps_for PassesOwn.never rfl (pi_list (pv 3)) (pg_name (i := 7) sc_Search_choice.nd rfl (Or.inl rfl)) (pss_one (ps_if (PW.pt (pw_or (pt_cmp (pc_din (hu_of hr) (pe_ix ix_list (pv 4) (pv 7) (fun _ _ => rfl)) (pv 6))) (pw_or1 (pt_cmp (pc_din (hu_of hr) (pe_ix ix_list (pv 4) (pv 7) (fun _ _ => rfl)) (pe_fld (pv 0) rfl)))))) (pss_one (ps_ret (pv 7))) pss_nil)))) pss_nil)))
      (pss_one (ps_ret (pe_ix ix_list (pv 3) pe_int (fun _ _ => rfl))))))), ?_⟩
  have hns := wf.ns
  have hno := wf.no
  refine ⟨_, rfl, ap, _, rfl, SqT.of hap, fun L hL => ?_⟩
  refine lcF (walk_enumT (xs := part.map optV)) (fun i => decide (part[i]? = some none)) (fun i y H => y = natV i) (fun _ _ _ _ _ q => q) (by rw [List.length_map]; omega) hL (fun H' s' => s'.seqT (SqT.of hap)) ?_ ?_
  · rintro i x H1 H2 hi s1 ⟨t, z, rfl, ht, rfl, hz⟩ kk kn hk hkn
    rw [List.getElem?_map, Option.map_eq_some_iff] at hz
    obtain ⟨o, ho, rfl⟩ := hz
    have sN := same_new ht (.tup [.int (i : Nat), optV o])
    refine ⟨_, _, rfl, SqT.of upd_same, rfl, ?_⟩
    cases o with
    | none =>
      have hd : decide (part[i]? = some none) = true := decide_eq_true ho
      decreasing_trivial
      exact hk hd _ _ sN rfl
    | some b =>
      have hd : decide (part[i]? = some none) = false := decide_eq_false (by rw [ho]; intro q; cases q)
      decreasing_trivial
      exact hkn hd _ sN
  rintro H1 ys s1 hL1 hy
  rw [List.length_map] at hy
  have hL1 : H1 L = some (.lst ((freeAt part).map natV)) := by
    have : ys = (freeAt part).map natV := by
      have go : ∀ {a : List Nat} {b : List V}, Paired (fun i y => y = natV i) a b → b = a.map natV := by
        intro a b h
        induction h with
        | nil => rfl
        | cons h1 _ ih => rw [List.map_cons, h1, ih]
      exact go hy
    rw [← this]
    exact hL1
  have c1 := c.mono s1
  obtain ⟨pc, dxc, fsc, rfl, obc, fnc⟩ := c1.hC.ins
  decreasing_trivial
  refine ⟨_, _, _, _, _, rfl, c1.ob, T.cS, T.nS_circuit, c1.fC, ?_⟩
  refine ⟨pc, dxc, fsc, rfl, obc, fnc _ (by decide), _, C, rfl, c1.hC.parts, ?_⟩
  rintro v H2 s2 ⟨z, rfl, _, hz⟩
  have s12 := s1.trans s2
  have c2 := c.mono s12
  refine ⟨_, rfl, _, rfl, _, _, _, _, _, rfl, c2.ob, T.cS, T.nS_above, c2.fA, ?_⟩
  have hml := s12 _ _ hms
  have hAl := c2.hA2.length
  refine ⟨_, _, _, _, rfl, SqL.of hml, SqL.of c2.hA, ?_⟩
  have hzl : (ms.zip C.sinks).length = ms.length := by rw [List.length_zip, hmsl, Nat.min_self]
  refine for_it (walk_zip (xs := ms.map markV) (ys := vA) (n := ms.length) (by rw [List.length_map, hAl, hmsl, Nat.min_self])) (fun i σ H' => (∃ x5 x6 x7 x8, σ = [some (.ref p), some (.ref ap), some (.ref l), some (.ref L), some (.ref z), x5, x6, x7, x8]) ∧ Same H2 H' ∧ ((ms.zip C.sinks).take i).findSome? (fun p => if p.1.uneq then findIn C u1 u2 (freeAt part) p.2 else none) = none) ⟨⟨_, _, _, _, rfl⟩, Same.refl _, rfl⟩ (fun i σ H' _ q => ⟨SqL.of (q.2.1 _ _ hml), SqL.of (q.2.1 _ _ c2.hA)⟩) ?_ ?_
  · rintro i x σ H3 H3' hi ⟨⟨x5, x6, x7, x8, rfl⟩, s3, hnone⟩ ⟨t, x, y, rfl, ht, rfl, hx, hy⟩
    have hx : (ms.map markV)[i]? = some x := hx
    have hy : vA[i]? = some y := hy
    rw [List.getElem?_map, Option.map_eq_some_iff] at hx
    obtain ⟨m, hm, rfl⟩ := hx
    obtain ⟨sk, hsk, hset⟩ := Paired.at c2.hA2 hy
    have hzip : (ms.zip C.sinks)[i]? = some (m, sk) := by
      rw [List.getElem?_zip_eq_some]
      exact ⟨hm, hsk⟩
    have sN := same_new ht (.tup [markV m, y])
    have s4 := s3.trans sN
    refine ⟨_, _, rfl, SqT.of upd_same, rfl, ?_⟩
    decreasing_trivial
    have hbit : (!decide (V.int (Builtin.bitAnd m.val 6) = V.int 0)) = m.uneq := by rw [and_uneq, Bool.not_not]
    cases hu : m.uneq with
    | false =>
      refine ifF (hbit.trans hu) ?_
      refine ⟨⟨_, _, _, _, rfl⟩, s4, fs_step hnone hzip ?_⟩
      show (if m.uneq = true then _ else _) = _
      rw [hu]
      rfl
    | true =>
      refine ifT (hbit.trans hu) ?_
      have hL4 := s4 _ _ (s2 _ _ hL1)
      have hset4 := hset.mono s4
      obtain ⟨ay, kvy, rfl, hay, _, hfy⟩ := hset4
      decreasing_trivial
      refine ⟨⟨_, SqL.of hL4⟩, ?_⟩
      refine for_it (walk_list (xs := (freeAt part).map natV)) (fun j σ H' => (∃ x7, σ = [some (.ref p), some (.ref ap), some (.ref l), some (.ref L), some (.ref z), some (markV m), some (.ref ay), x7, x8]) ∧ Same (upd H3 t (.tup [markV m, .ref ay])) H' ∧ ((freeAt part).take j).find? (inSink C u1 u2 sk) = none) ⟨⟨_, rfl⟩, Same.refl _, rfl⟩ (fun j σ H' _ q => SqL.of (q.2.1 _ _ hL4)) ?_ ?_
      · rintro j x σ H5 H5' hj ⟨⟨x7, rfl⟩, s5, hno2⟩ ⟨rfl, hx⟩
        rw [List.getElem?_map, Option.map_eq_some_iff] at hx
        obtain ⟨ix, hix, rfl⟩ := hx
        have hpi := mem_freeAt.mp (List.mem_of_getElem? hix)
        have hlt : ix < C.sources.length := by
          rw [← hl]
          exact (List.getElem?_eq_some_iff.mp hpi).1
        have hsrc : C.sources[ix]? = some C.sources[ix] := List.getElem?_eq_getElem hlt
        generalize C.sources[ix] = sx at hsrc
        have s25 := s4.trans s5
        have hz5 := s25 _ _ hz
        have hay5 := s5 _ _ hay
        have c5 := c2.mono s25
        decreasing_trivial
        refine ⟨z, _, ix, .str sx, rfl, rfl, SqL.of hz5, atI_nat (by rw [List.getElem?_map, hsrc]; rfl), ?_⟩
        decreasing_trivial
        refine ⟨_, _, rfl, DGet.k (k := Sum.inr sx) hay5, _, rfl, ?_⟩
        rw [hfy]
        have fin : (above C sk sx || shortedB C u1 u2 sx) = true → Q (natV ix) H5' := by
          intro hb
          have h1 : findIn C u1 u2 (freeAt part) sk = some ix := by
            rw [findIn_eq]
            exact fd_at hno2 hix (by rw [inSink_at hsrc]; exact hb)
          have h2 := fs_at (y := ix) hnone hzip (by
            show (if m.uneq = true then findIn C u1 u2 (freeAt part) sk else none) = some ix
            rw [hu, h1]
            rfl)
          refine k.go (s12.trans s25) ?_
          unfold choiceM
          rw [h2]
          rfl
        cases hab : above C sk sx with
        | true =>
          refine iteT (iteT ?_)
          decreasing_trivial
          exact fin (by rw [hab]; rfl)
        | false =>
          refine iteF ?_
          decreasing_trivial
          refine ⟨z, _, ix, .str sx, rfl, rfl, SqL.of hz5, atI_nat (by rw [List.getElem?_map, hsrc]; rfl), ?_⟩
          decreasing_trivial
          refine ⟨_, _, _, _, _, rfl, c5.ob, T.cS, T.nS_shorted, c5.fS, ?_⟩
          refine ⟨_, _, rfl, DGet.k (k := Sum.inr sx) c5.hS, _, rfl, ?_⟩
          rw [c5.hS2]
          cases hsb : shortedB C u1 u2 sx with
          | true =>
            refine iteT ?_
            decreasing_trivial
            exact fin (by rw [hab, hsb]; rfl)
          | false =>
            refine iteF ?_
            refine ⟨⟨_, rfl⟩, s5, fd_step hno2 hix ?_⟩
            rw [inSink_at hsrc, hab, hsb]
            rfl
      · rintro σ H5 ⟨⟨x7, rfl⟩, s5, hno2⟩
        rw [List.length_map, List.take_length] at hno2
        refine ⟨⟨_, _, _, _, rfl⟩, s4.trans s5, fs_step hnone hzip ?_⟩
        show (if m.uneq = true then findIn C u1 u2 (freeAt part) sk else none) = none
        rw [findIn_eq, hno2]
        split <;> rfl
  · rintro σ H3 ⟨⟨x5, x6, x7, x8, rfl⟩, s3, hnone⟩
    rw [← hzl, List.take_length] at hnone
    have hL3 := s3 _ _ (s2 _ _ hL1)
    cases hfe : freeAt part with
    | nil => exact absurd hfe hfr
    | cons a r =>
      rw [hfe] at hL3
      decreasing_trivial
      refine ⟨L, _, 0, natV a, rfl, rfl, SqL.of hL3, atI_nat (j := 0) rfl, ?_⟩
      refine k.go (s12.trans s3) ?_
      unfold choiceM
      rw [hnone, hfe]
      rfl
end
end Pw
namespace Pw
open PySem PySem.Spec PyProof.Rows L2
local macro_rules
  | `(tactic| decreasing_trivial) => `(tactic| repeat (first
    | refine ⟨_, rfl, ?_⟩
    | refine ⟨_, _, rfl, rfl, ?_⟩
    | refine ⟨rfl, ?_⟩
    | refine ⟨_, _, rfl, .inl (SqL.of (by assumption)), ?_⟩
    | refine ⟨_, _, rfl, .inr (SqT.of (by assumption)), ?_⟩
    | refine ⟨_, _, _, _, rfl, rfl, SqT.of (by assumption), rfl, ?_⟩
    | refine ⟨_, _, _, _, rfl, rfl, SqL.of (by assumption), rfl, ?_⟩
    | refine ⟨_, _, rfl, ?_⟩))
section
variable {P : Program} {w : World} {K : PySem.W.Frag} {mg : Str → Option Value} {base : Heap} {A : Ad}
theorem PaperAt.keep {H H' : Hp} (s : Keep H H') : ∀ {q : Paper} {v : V}, PaperAt H v q → PaperAt H' v q
  | .leaf, _, ⟨a, e, h1⟩ => ⟨a, e, s.tup h1⟩
  | .case i z o, _, ⟨a, vz, vo, e, h1, h2, h3⟩ => ⟨a, vz, vo, e, s.tup h1, PaperAt.keep s h2, PaperAt.keep s h3⟩
def spSAns (A : Ad) (N : Nat) : Sp := fun vs H Q _ => ∃ v xp C u1 u2 part n, vs = [v, xp] ∧ SrAt A H v C u1 u2 ∧ WF C ∧ VerGood C u1 ∧ VerGood C u2 ∧ PartAt H xp part ∧ part.length = C.sources.length ∧ opens part < n ∧ n ≤ N ∧
  Ret (fun v H' => AnsAt H' v (answerM C u1 u2 n part)) H Q
/-- the papers so far -/
def Stg (C : Circ Str) (u1 u2 : Ver Str) (part : List (Option Bool)) (ix n : Nat) (H : Hp) (ps : List V) : Nat → Prop
  | 0 => ps = []
  | 1 => ∃ z p, ps = [z] ∧ PaperAt H z p ∧ answerM C u1 u2 n (part.set ix (some false)) = .alike p
  | _ => ∃ z p z' p', ps = [z, z'] ∧ PaperAt H z p ∧ answerM C u1 u2 n (part.set ix (some false)) = .alike p ∧ PaperAt H z' p' ∧ answerM C u1 u2 n (part.set ix (some true)) = .alike p'
theorem Stg.keep {C : Circ Str} {u1 u2 : Ver Str} {part : List (Option Bool)} {ix n : Nat} {H H' : Hp} {ps : List V} (s : Keep H H') : ∀ {j : Nat}, Stg C u1 u2 part ix n H ps j → Stg C u1 u2 part ix n H' ps j
  | 0, h => h
  | 1, ⟨z, p, a, b, c⟩ => ⟨z, p, a, b.keep s, c⟩
  | _ + 2, ⟨z, p, z', p', a, b, c, d, e⟩ => ⟨z, p, z', p', a, b.keep s, c, d.keep s, e⟩
theorem ok_sanswer {f : Addr} {fd : FuncData} (T : Txt K mg A) (c_sink_marks : Cal P w K mg base 9 "sink_marks" (spSinkMarks A)) (c_Search_choice : Met P w K mg base 2 A.CS "choice" (spChoice A)) (c_with_bit : Cal P w K mg base 1 "with_bit" spWithBit) (F : AtM K A.CS "answer" "Search.answer" s_Search_answer f fd ["self", "partial"]) :
    ∀ N, FnOk P w K mg base CX0 (N + 12) f fd ["self", "partial"] (spSAns A N)
  | 0 => by
    refine F.fn.ok sc_Search_answer (fun vs H Q E h => ?_) (fun cdv Ar outer s H vs Q E hr h => ?_)
    · obtain ⟨v, xp, C, u1, u2, part, n, _, _, _, _, _, _, _, h, hn, _⟩ := h
      omega
    · obtain ⟨v, xp, C, u1, u2, part, n, _, _, _, _, _, _, _, h, hn, _⟩ := h
      omega
  | N + 1 => by
    have c_Search_answer : Met P w K mg base (N + 12) A.CS "answer" (spSAns A N) := F.met (ok_sanswer T c_sink_marks c_Search_choice c_with_bit F N)
    refine F.fn.ok sc_Search_answer (fun vs H Q E h => ?_) (fun cdv Ar outer s H vs Q E hr h => ?_)
    · obtain ⟨v, xp, C, u1, u2, part, n, rfl, _⟩ := h
      rfl
    obtain ⟨v, xp, C, u1, u2, part, n, rfl, ⟨p, dx, fs, vc, v1, v2, aA, aS, vA, kS, rfl, c⟩, wf, g1, g2, hp, hl, hop, hnN, k⟩ := h
    refine ⟨_, (pss_cons (ps_set (i := 2) sc_Search_answer.nd rfl (Or.inl rfl) (pe_c c_sink_marks hr (by omega) rfl (pa_cons (pe_fld (pv 0) rfl) (pa_cons (pe_fld (pv 0) rfl) (pa_cons (pe_fld (pv 0) rfl) (pa_cons (pv 1) pa_nil))))))
      (pss_cons (ps_if (pt_val (pe_callB (cr_all rfl) (by rfl) T.z_all bt_all (pa_cons (pe_lc (own := [("mark", 7)])  rfl sc_Search_answer.nd (pi_list (pv 2)) (blkOk_by (own := [("mark", 7)]) (sc := defScope s_Search_answer) (N := ["self", "partial", "marks", "index", "papers", "bit", "found", "mark"]) (by decide +kernel)) (fun _ _ _ _ _ => (pg_name (i := 7) sc_Search_answer.nd rfl (Or.inl rfl))) (fun _ _ _ _ _ => pts_nil) (fun _ _ _ _ _ => (pe_cmpR op_eq (pe_op op_and (pv 7) (pe_gc rfl T.g_UNEQUAL)) pe_int (nomark _)))) pa_nil))) (pss_one (ps_ret (pe_tup (pa_cons pe_str (pa_cons (pe_tup (pa_cons pe_str pa_nil)) pa_nil))))) pss_nil)
      (pss_cons (ps_if (pt_val (pe_callB (cr_any rfl) (by rfl) T.z_any bt_any (pa_cons (pe_lc (own := [("mark", 7)])  rfl sc_Search_answer.nd (pi_list (pv 2)) (blkOk_by (own := [("mark", 7)]) (sc := defScope s_Search_answer) (N := ["self", "partial", "marks", "index", "papers", "bit", "found", "mark"]) (by decide +kernel)) (fun _ _ _ _ _ => (pg_name (i := 7) sc_Search_answer.nd rfl (Or.inl rfl))) (fun _ _ _ _ _ => pts_nil) (fun _ _ _ _ _ => (pe_cmpR op_eq (pe_op op_and (pv 7) (pe_gc rfl T.g_EQUAL)) pe_int (nomark _)))) pa_nil))) (pss_one (ps_ret (pe_tup (pa_cons pe_str (pa_cons (pv 1) pa_nil))))) pss_nil)
      (pss_cons (ps_set (i := 3) sc_Search_answer.nd rfl (Or.inl rfl) (pe_mt c_Search_choice hr (by omega) (pv 0) (pa_cons (pv 1) (pa_cons (pv 2) pa_nil))))
      (pss_cons (ps_set (i := 4) sc_Search_answer.nd rfl (Or.inl rfl) (pe_lst pa_nil))
      (pss_cons (ps_for PassesOwn.never rfl (pi_tup (pe_tup (pa_cons pe_int (pa_cons pe_int pa_nil)))) (pg_name (i := 5) sc_Search_answer.nd rfl (Or.inl rfl)) (pss_cons (ps_set (i := 6) sc_Search_answer.nd rfl (Or.inl rfl) (pe_mt c_Search_answer hr (by omega) (pv 0) (pa_cons (pe_c c_with_bit hr (by omega) rfl (pa_cons (pv 1) (pa_cons (pv 3) (pa_cons (pv 5) pa_nil)))) pa_nil)))
      (pss_cons (ps_if (pt_cmpR op_eq (pe_ix ix_tup (pv 6) pe_int (fun _ _ => rfl)) pe_str (nomark _)) (pss_one (ps_ret (pv 6))) pss_nil)
      (pss_one (ps_expr (pe_bm PySem.F.plainAttrs_list PySem.F.slot_list_append PySem.F.type_list_append mt_append (pv 4) (pa_cons (pe_ix ix_tup (pv 6) pe_int (fun _ _ => rfl)) pa_nil)))))))
      (pss_one (ps_ret (pe_tup (pa_cons pe_str (pa_cons (pe_tup (pa_cons pe_str (pa_cons (pv 3) (pa_cons (pe_ix ix_list (pv 4) pe_int (fun _ _ => rfl)) (pa_cons (pe_ix ix_list (pv 4) pe_int (fun _ _ => rfl)) pa_nil))))) pa_nil))))))))))), ?_⟩
    obtain ⟨n, rfl⟩ : ∃ m, n = m + 1 := ⟨n - 1, by omega⟩
    have hns := wf.ns
    have hls := sinkM_len wf u1 u2 part
    obtain ⟨ap, rfl, hap⟩ := hp
    refine ⟨_, rfl, _, _, _, _, _, rfl, c.ob, T.cS, T.nS_circuit, c.fC, ?_⟩
    refine ⟨_, rfl, _, _, _, _, _, rfl, c.ob, T.cS, T.nS_one, c.f1, ?_⟩
    refine ⟨_, rfl, _, _, _, _, _, rfl, c.ob, T.cS, T.nS_other, c.f2, ?_⟩
    refine ⟨_, rfl, _, _, _, _, C, u1, u2, part, rfl, c.hC, wf, c.h1, c.h2, g1, g2, ⟨ap, rfl, hap⟩, hl, ?_⟩
    rintro v H1 s1 ⟨l, rfl, _, hlm⟩
    refine ⟨_, rfl, _, rfl, ⟨_, SqL.of hlm⟩, fun L hL => ?_⟩
    refine lcM (walk_list (xs := (sinkM C u1 u2 part).map markV)) (sinkM C u1 u2 part) (by rw [List.length_map]) (fun y m _ => y = V.bl (!m.uneq)) (fun _ _ _ _ _ q => q) (by rw [List.length_map]; omega) hL (fun H' s' => s'.seq (SqL.of hlm)) ?_ ?_
    · rintro i x H3 H4 m hm3 s3 ⟨rfl, hx⟩ kk hk
      rw [List.getElem?_map, hm3] at hx
      cases hx
      refine ⟨rfl, ?_⟩
      decreasing_trivial
      exact hk _ _ (Same.refl _) (congrArg V.bl (and_uneq m))
    intro H2 ys s2 hL2 hy
    rw [vals_eq hy] at hL2
    refine ⟨_, (sinkM C u1 u2 part).map fun m => !m.uneq, rfl, SqL.of (by rw [hL2, List.map_map]; rfl), _, rfl, ?_⟩
    rw [all_map]
    have s12 := s1.trans s2
    cases hall : (sinkM C u1 u2 part).all fun m => !m.uneq with
    | true =>
      refine iteT ?_
      refine ⟨by show 1 ≤ sizeLine; decide, fun t ht => ⟨by show 2 ≤ sizeLine; decide, fun t2 ht2 => ?_⟩⟩
      refine k.go ((s12.trans (same_new ht _)).trans (same_new ht2 _)) ?_
      unfold answerM
      rw [if_pos hall]
      exact ⟨t2, .ref t, rfl, upd_same, t, rfl, (same_new ht2 _) _ _ upd_same⟩
    | false =>
      refine iteF ?_
      have hlm2 := s2 _ _ hlm
      refine ⟨_, rfl, _, rfl, ⟨_, SqL.of hlm2⟩, fun L2 hL2 => ?_⟩
      refine lcM (walk_list (xs := (sinkM C u1 u2 part).map markV)) (sinkM C u1 u2 part) (by rw [List.length_map]) (fun y m _ => y = V.bl (!m.eqs)) (fun _ _ _ _ _ q => q) (by rw [List.length_map]; omega) hL2 (fun H' s' => s'.seq (SqL.of hlm2)) ?_ ?_
      · rintro i x H3 H4 m hm3 s3 ⟨rfl, hx⟩ kk hk
        rw [List.getElem?_map, hm3] at hx
        cases hx
        refine ⟨rfl, ?_⟩
        decreasing_trivial
        exact hk _ _ (Same.refl _) (congrArg V.bl (and_eqs m))
      intro H3 ys3 s3 hL3 hy3
      rw [vals_eq hy3] at hL3
      refine ⟨_, (sinkM C u1 u2 part).map fun m => !m.eqs, rfl, SqL.of (by rw [hL3, List.map_map]; rfl), _, rfl, ?_⟩
      rw [any_map]
      have s13 := s12.trans s3
      cases hany : (sinkM C u1 u2 part).any fun m => !m.eqs with
      | true =>
        refine iteT ?_
        refine ⟨_, rfl, by show 2 ≤ sizeLine; decide, fun t ht => ?_⟩
        refine k.go (s13.trans (same_new ht _)) ?_
        unfold answerM
        rw [if_neg (by rw [hall]; decide), if_pos hany]
        exact ⟨t, .ref ap, rfl, upd_same, ap, rfl, (s13.trans (same_new ht _)) _ _ hap⟩
      | false =>
        refine iteF ?_
        have hfr := open_of wf g1.1 g2.1 hl hall hany
        have c3 := c.mono s13
        have hap3 := s13 _ _ hap
        have hlm3 := s3 _ _ hlm2
        refine ⟨_, rfl, p, dx, fs, rfl, c3.ob, c3.fN _ (by decide), _, rfl, _, rfl, ?_⟩
        refine ⟨_, ap, l, C, u1, u2, part, _, rfl, ⟨p, dx, fs, vc, v1, v2, aA, aS, vA, kS, rfl, c3⟩, wf, hap3, hl, hlm3, by unfold sinkM; rw [List.length_map], hfr, ?_⟩
        rintro v H4 s4 rfl
        have hix := choice_free (C := C) (v1 := u1) (v2 := u2) (ms := sinkM C u1 u2 part) hfr
        generalize hixe : choiceM C u1 u2 part (sinkM C u1 u2 part) = ix at hix
        have s14 := s13.trans s4
        refine ⟨Nat.zero_le _, fun Pp hPp => ?_⟩
        refine ⟨by show 2 ≤ sizeLine; decide, fun t ht => ?_⟩
        have s6 := (s14.trans (same_new hPp (.lst []))).trans (same_new ht (.tup [.int 0, .int 1]))
        have hHP : H Pp = none := s14.free hPp
        have hP6 := (same_new ht (.tup [.int 0, .int 1])) _ _ (upd_same (H := H4) (a := Pp) (o := .lst []))
        have ht6 := upd_same (H := upd H4 Pp (.lst [])) (a := t) (o := .tup [.int 0, .int 1])
        generalize upd (upd H4 Pp (.lst [])) t (.tup [.int 0, .int 1]) = H6 at s6 hP6 ht6 ⊢
        refine ⟨_, rfl, ⟨_, SqT.of ht6⟩, ?_⟩
        have o0 := opens_set (b := false) hix
        have o1 := opens_set (b := true) hix
        have hixl := (List.getElem?_eq_some_iff.mp hix).1
        have hHt : ∀ H', Same H H' → True := fun _ _ => trivial
        refine for_it (walk_tup (xs := [.int 0, .int 1])) (fun j σ H' => (∃ x5 x6 x7, σ = [some (.ref p), some (.ref ap), some (.ref l), some (natV ix), some (.ref Pp), x5, x6, x7]) ∧ Same H H' ∧ H' t = some (.tup [.int 0, .int 1]) ∧ ∃ ps, H' Pp = some (.lst ps) ∧ Stg C u1 u2 part ix n H' ps j) ⟨⟨_, _, _, rfl⟩, s6, ht6, [], hP6, rfl⟩ (fun j σ H' _ q => SqT.of q.2.2.1) ?_ ?_
        · rintro j x σ H7 H7' hj ⟨⟨x5, x6, x7, rfl⟩, s7, ht7, ps, hP7, hst⟩ ⟨rfl, hx⟩
          obtain ⟨b, rfl, hob, hjb⟩ : ∃ b : Bool, x = bitV b ∧ opens (part.set ix (some b)) < n ∧ ((j = 0 ∧ b = false) ∨ (j = 1 ∧ b = true)) := by
            match j, hx with
            | 0, hx => exact ⟨false, (Option.some.inj hx).symm, by omega, .inl ⟨rfl, rfl⟩⟩
            | 1, hx => exact ⟨true, (Option.some.inj hx).symm, by omega, .inr ⟨rfl, rfl⟩⟩
          have c7 := c.mono s7
          have hap7 := s7 _ _ hap
          have htP : t ≠ Pp := ne_of ht7 hP7 (by intro z; cases z)
          refine ⟨_, rfl, p, dx, fs, rfl, c7.ob, c7.fN _ (by decide), _, rfl, _, rfl, _, rfl, ?_⟩
          refine ⟨ap, part, ix, b, rfl, hap7, hixl, by omega, ?_⟩
          rintro vb H8 s8 hpb
          have s78 := s7.trans s8
          refine ⟨_, _, C, u1, u2, part.set ix (some b), n, rfl, ⟨p, dx, fs, vc, v1, v2, aA, aS, vA, kS, rfl, c.mono s78⟩, wf, g1, g2, hpb, by rw [List.length_set]; exact hl, hob, by omega, ?_⟩
          rintro vf H9 s9 hans
          have s79 := s78.trans s9
          have hP9 := s9 _ _ (s8 _ _ hP7)
          have ht9 := s9 _ _ (s8 _ _ ht7)
          cases hA : answerM C u1 u2 n (part.set ix (some b)) with
          | parted pp =>
            rw [hA] at hans
            obtain ⟨af, xf, rfl, haf, hxf⟩ := hans
            decreasing_trivial
            refine k.go s79 ?_
            have e : answerM C u1 u2 (n + 1) part = .parted pp := by
              unfold answerM
              rw [if_neg (by rw [hall]; decide), if_neg (by rw [hany]; decide), hixe]
              rcases hjb with ⟨rfl, rfl⟩ | ⟨rfl, rfl⟩
              · rw [hA]
              · obtain ⟨z, p0, _, _, e0⟩ := hst
                rw [e0, hA]
            rw [e]
            exact ⟨af, xf, rfl, haf, hxf⟩
          | alike pq =>
            rw [hA] at hans
            obtain ⟨af, xf, rfl, haf, hxf⟩ := hans
            decreasing_trivial
            refine ⟨.inl ⟨rfl, _, SqL.of hP9⟩, ?_⟩
            decreasing_trivial
            have hpsl : ps.length ≤ 2 := by
              rcases hjb with ⟨rfl, rfl⟩ | ⟨rfl, rfl⟩
              · have : ps = [] := hst
                rw [this]; decide
              · obtain ⟨z, p0, e, _⟩ := hst
                rw [e]; show 1 ≤ 2; decide
            refine ⟨_, _, _, rfl, rfl, hP9, small1000 (by omega), ?_⟩
            have kp : Keep H9 (upd H9 Pp (.lst (ps ++ [xf]))) := keep_lst hP9
            refine ⟨⟨_, _, _, rfl⟩, Same.mut s79 hHP, by rw [upd_ne htP]; exact ht9, _, upd_same, ?_⟩
            rcases hjb with ⟨rfl, rfl⟩ | ⟨rfl, rfl⟩
            · have : ps = [] := hst
              subst this
              exact ⟨xf, pq, rfl, hxf.keep kp, hA⟩
            · obtain ⟨z, p0, e, hz, e0⟩ := hst
              subst e
              exact ⟨z, p0, xf, pq, rfl, ((hz.mono s8).mono s9).keep kp, e0, hxf.keep kp, hA⟩
        · rintro σ H7 ⟨⟨x5, x6, x7, rfl⟩, s7, ht7, ps, hP7, hst⟩
          obtain ⟨z, p0, z', p1, rfl, hz, e0, hz', e1⟩ := hst
          decreasing_trivial
          refine ⟨by show 4 ≤ sizeLine; decide, fun t2 ht2 => ⟨by show 2 ≤ sizeLine; decide, fun t3 ht3 => ?_⟩⟩
          have s8 := same_new ht2 (.tup [.str "case", natV ix, z, z'])
          have s9 := s8.trans (same_new ht3 (.tup [.str "alike", .ref t2]))
          refine k.go (s7.trans s9) ?_
          have e : answerM C u1 u2 (n + 1) part = .alike (.case ix p0 p1) := by
            unfold answerM
            rw [if_neg (by rw [hall]; decide), if_neg (by rw [hany]; decide), hixe, e0, e1]
          rw [e]
          exact ⟨t3, .ref t2, rfl, upd_same, t2, z, z', rfl, (same_new ht3 _) _ _ upd_same, hz.mono s9, hz'.mono s9⟩
def spAnswer (A : Ad) : Sp := fun vs H Q _ => ∃ v x1 x2 C u1 u2, vs = [v, x1, x2] ∧ CircAt A H v C ∧ WF C ∧ VerAt H x1 u1 ∧ VerAt H x2 u2 ∧ VerGood C u1 ∧ VerGood C u2 ∧ Ret (fun v H' => AnsAt H' v (ans C u1 u2)) H Q
theorem ok_answer {f : Addr} {fd : FuncData} (T : Txt K mg A) (c_check_version : Cal P w K mg base 5 "check_version" (spCkVersion A)) (c_Search : Mak P w K mg base 2 "Search" A.CS (spSInit A)) (c_Search_answer : Met P w K mg base 19 A.CS "answer" (spSAns A 7)) (c_empty_partial : Cal P w K mg base 2 "empty_partial" (spEmpty A))
    (F : Fun K "answer" "answer" s_answer f fd) : FnOk P w K mg base CX0 20 f fd ["circuit", "one", "other"] (spAnswer A) := by
  refine F.ok sc_answer (fun vs H Q E h => ?_) (fun cdv Ar outer s H vs Q E hr h => ?_)
  · obtain ⟨v, x1, x2, C, u1, u2, rfl, _⟩ := h
    rfl
  obtain ⟨v, x1, x2, C, u1, u2, rfl, hc, wf, h1, h2, g1, g2, k⟩ := h
  refine ⟨_, (pss_cons (ps_expr (pe_c c_check_version hr (by omega) rfl (pa_cons (pv 0) (pa_cons (pv 1) pa_nil))))
      (pss_cons (ps_expr (pe_c c_check_version hr (by omega) rfl (pa_cons (pv 0) (pa_cons (pv 2) pa_nil))))
      (pss_one (ps_ret (pe_mt c_Search_answer hr (by omega) (pe_mk c_Search hr (by omega) rfl (pa_cons (pv 0) (pa_cons (pv 1) (pa_cons (pv 2) pa_nil)))) (pa_cons (pe_c c_empty_partial hr (by omega) rfl (pa_cons (pv 0) pa_nil)) pa_nil)))))), ?_⟩
  refine ⟨_, rfl, _, rfl, _, C, _, u1, rfl, hc, wf, h1, g1, ?_⟩
  rintro v H1 s1 rfl
  refine ⟨_, rfl, _, rfl, _, C, _, u2, rfl, hc.mono s1, wf, h2.mono s1, g2, ?_⟩
  rintro v H2 s2 rfl
  have s12 := s1.trans s2
  refine ⟨_, rfl, _, rfl, _, rfl, fun q dq hq hdq hne => ?_⟩
  have sq : Same H2 (upd (upd H2 dq (.own q)) q (.ins A.CS dq [])) := make_same hq hdq (But.refl _ _)
  refine ⟨H2, q, dq, _, _, _, C, u1, u2, rfl, hq, sq, upd_same, hc.mono s12, wf, h1.mono s12, h2.mono s12, ?_⟩
  rintro H3 s3 hS
  have s13 := s12.trans s3
  obtain ⟨p, dx, fs, vc, v1, v2, aA, aS, vA, kS, e, cS⟩ := hS
  cases e
  refine ⟨rfl, q, dx, fs, rfl, cS.ob, cS.fN _ (by decide), _, rfl, _, C, rfl, hc.mono s13, wf, ?_⟩
  rintro v H4 s4 hp
  have hns := wf.ns
  refine ⟨_, _, C, u1, u2, emptyP C, C.sources.length + 1, rfl, ⟨q, dx, fs, vc, v1, v2, aA, aS, vA, kS, rfl, cS.mono s4⟩, wf, g1, g2, hp, emptyP_len, by rw [opens_empty]; omega, by omega, ?_⟩
  rintro v H5 s5 hans
  exact k.go ((s13.trans s4).trans s5) hans
end
end Pw
namespace Pw
open PySem PySem.Spec PyProof.Rows L2
local macro_rules
  | `(tactic| decreasing_trivial) => `(tactic| repeat (first
    | refine ⟨_, rfl, ?_⟩
    | refine ⟨_, _, rfl, rfl, ?_⟩
    | refine ⟨rfl, ?_⟩
    | refine ⟨_, _, rfl, .inl (SqL.of (by assumption)), ?_⟩
    | refine ⟨_, _, rfl, .inr (SqT.of (by assumption)), ?_⟩
    | refine ⟨_, _, _, _, rfl, rfl, SqT.of (by assumption), rfl, ?_⟩
    | refine ⟨_, _, _, _, rfl, rfl, SqL.of (by assumption), rfl, ?_⟩
    | refine ⟨_, _, rfl, ?_⟩))
section
variable {P : Program} {w : World} {K : PySem.W.Frag} {mg : Str → Option Value} {base : Heap} {A : Ad}
theorem rdPut {H : Hp} {p C dx : Addr} {fs : List (Str × V)} {f : Str} {y : V} {N : Hp → Prop} (h : H p = some (.ins C dx fs)) (hc : Cls K C) (hn : NoAttr K C f) (hl : fs.length < 1000) (k : ∀ H', H' = upd H p (.ins C dx (putF f y fs)) → N H') :
    ∃ (a C : Addr) (dx : Addr) (fs : List (Str × V)), V.ref p = .ref a ∧ H a = some (.ins C dx fs) ∧ Cls K C ∧ NoAttr K C f ∧ fs.length < 1000 ∧ N (upd H a (.ins C dx (putF f y fs))) := ⟨p, C, dx, fs, rfl, h, hc, hn, hl, k _ rfl⟩
def spCkPattern (A : Ad) : Sp := fun vs H Q _ => ∃ v x C pat, vs = [v, x] ∧ CircAt A H v C ∧ WF C ∧ BitsAt H x pat ∧ pat.length = C.sources.length ∧ Ret (fun v _ => v = .non) H Q
theorem ok_check_pattern {f : Addr} {fd : FuncData} (T : Txt K mg A) (c_Circuit_sources : Met P w K mg base 1 A.CC "sources" (spSources A)) (c_are_bits : Cal P w K mg base 3 "are_bits" spBits) (F : Fun K "check_pattern" "check_pattern" s_check_pattern f fd) : FnOk P w K mg base CX0 4 f fd ["circuit", "pattern"] (spCkPattern A) := by
  refine F.ok sc_check_pattern (fun vs H Q E h => ?_) (fun cdv Ar outer s H vs Q E hr h => ?_)
  · obtain ⟨v, x, C, pat, rfl, _⟩ := h
    rfl
  obtain ⟨v, x, C, pat, rfl, hc, wf, ⟨a, rfl, ha⟩, hl, k⟩ := h
  refine ⟨_, (pss_one (ps_if (pt_not (pt_val (pe_c c_are_bits hr (by omega) rfl (pa_cons (pv 1) (pa_cons (pe_callB call_len_seq (by rfl) T.z_len PySem.boot_len (pa_cons (pe_mt0 c_Circuit_sources hr (by omega) (pv 0)) pa_nil)) pa_nil))))) (pss_one ps_never) pss_nil)), ?_⟩
  obtain ⟨pc, dxc, fsc, rfl, obc, fnc⟩ := hc.ins
  decreasing_trivial
  refine ⟨pc, dxc, fsc, rfl, obc, fnc _ (by decide), _, C, rfl, hc.parts, ?_⟩
  rintro v H1 s1 ⟨z, rfl, _, hz⟩
  decreasing_trivial
  have := wf.ns
  refine ⟨a, pat, C.sources.length, by rw [List.length_map]; rfl, s1 _ _ ha, hl, by omega, ?_⟩
  rintro v H2 s2 rfl
  exact ⟨_, rfl, iteF (k.go (s1.trans s2) rfl)⟩
def spWordOf : Sp := fun vs H Q _ => ∃ l b, vs = [.ref l] ∧ H l = some (.lst [bitV b]) ∧ Ret (fun v _ => v = bitV b) H Q
theorem ok_word_of {f : Addr} {fd : FuncData} (T : Txt K mg A) (F : Fun K "word_of" "word_of" s_word_of f fd) : FnOk P w K mg base CX0 1 f fd ["bits"] spWordOf := by
  refine F.ok sc_word_of (fun vs H Q E h => ?_) (fun cdv Ar outer s H vs Q E hr h => ?_)
  · obtain ⟨l, b, rfl, _⟩ := h
    rfl
  obtain ⟨l, b, rfl, hl, k⟩ := h
  refine ⟨_, (pss_cons (ps_set (i := 1) sc_word_of.nd rfl (Or.inl rfl) pe_int)
      (pss_cons (ps_for PassesOwn.never rfl (pi_enum (by rfl) T.z_enumerate (pa_cons (pv 0) pa_nil)) (pg_tup rfl (pgs_cons (pg_name (i := 2) sc_word_of.nd rfl (Or.inl rfl)) (pgs_cons (pg_name (i := 3) sc_word_of.nd rfl (Or.inl rfl)) pgs_nil))) (pss_one (ps_aug (i := 1) sc_word_of.nd rfl (Or.inl rfl) (pe_op op_shl (pv 3) (pv 2)) ip_or)))
      (pss_one (ps_ret (pv 1))))), ?_⟩
  decreasing_trivial
  refine ⟨l, _, rfl, SqL.of hl, ?_⟩
  refine for_it (walk_enum (xs := [bitV b])) (fun i σ H' => (∃ x2 x3, σ = [some (.ref l), some (.int (if i = 0 then 0 else bi b)), x2, x3]) ∧ Same H H') ⟨⟨_, _, rfl⟩, Same.refl _⟩ (fun i σ H' _ q => SqL.of (q.2 _ _ hl)) ?_ ?_
  · rintro i x σ H2 H2' hi ⟨⟨x2, x3, rfl⟩, s2⟩ ⟨t, x, y, rfl, ht, rfl, hx, hy⟩
    have hi0 : i = 0 := by simpa using hi
    subst hi0
    have hx : V.int ((0 : Nat) : Int) = x := Option.some.inj hx
    have hy : bitV b = y := Option.some.inj hy
    subst hx hy
    have sN := same_new ht (.tup [.int ((0 : Nat) : Int), bitV b])
    refine ⟨_, _, rfl, SqT.of upd_same, rfl, ?_⟩
    decreasing_trivial
    refine ⟨⟨by decide, by decide, ?_⟩, ?_⟩
    · cases b <;> decide
    decreasing_trivial
    refine ⟨⟨_, _, congrArg (fun z => [some (V.ref l), some (V.int z), some (.int ((0 : Nat) : Int)), some (bitV b)]) ?_⟩, s2.trans sN⟩
    cases b <;> decide +kernel
  · rintro σ H2 ⟨⟨x2, x3, rfl⟩, s2⟩
    decreasing_trivial
    exact k.go s2 rfl
theorem w_and (a b : Bool) : Builtin.bitAnd (bi a) (bi b) = bi (a && b) := by cases a <;> cases b <;> decide +kernel
theorem w_or (a b : Bool) : Builtin.bitOr (bi a) (bi b) = bi (a || b) := by cases a <;> cases b <;> decide +kernel
theorem w_xor (a b : Bool) : Builtin.bitXor (bi a) (bi b) = bi (a != b) := by cases a <;> cases b <;> decide +kernel
def isAnd : Kind → Bool
  | .and => true
  | .nand => true
  | _ => false
def isOr : Kind → Bool
  | .or => true
  | .nor => true
  | _ => false
theorem in_and (k : Kind) : inV (.str k.str) [.str "and", .str "nand"] = isAnd k := by cases k <;> decide +kernel
theorem in_or (k : Kind) : inV (.str k.str) [.str "or", .str "nor"] = isOr k := by cases k <;> decide +kernel
def spGateWord : Sp := fun vs H Q _ => ∃ (k : Kind) (l : Addr) (bs : List Bool), vs = [.str k.str, .ref l, .int 1] ∧ H l = some (.lst (bs.map bitV)) ∧ k.arity bs.length = true ∧ Ret (fun v _ => v = bitV (gateVal k bs)) H Q
theorem ok_gate_word {f : Addr} {fd : FuncData} (T : Txt K mg A) (F : Fun K "gate_word" "gate_word" s_gate_word f fd) : FnOk P w K mg base CX0 1 f fd ["kind", "words", "mask"] spGateWord := by
  refine F.ok sc_gate_word (fun vs H Q E h => ?_) (fun cdv Ar outer s H vs Q E hr h => ?_)
  · obtain ⟨kd, l, ms, rfl, _⟩ := h
    rfl
  obtain ⟨kd, l, ms, rfl, hl, ha, k⟩ := h
  refine ⟨_, (pss_cons (ps_if (pt_cmpR op_in_seq (pv 0) (pe_tup (pa_cons pe_str (pa_cons pe_str pa_nil))) (by rfl)) (pss_one (ps_ret (pe_ifExp (pt_cmpR op_eq (pv 0) pe_str (nomark _)) (pv 2) pe_int))) pss_nil)
      (pss_cons (ps_set (i := 3) sc_gate_word.nd rfl (Or.inl rfl) (pe_ix ix_list (pv 1) pe_int (fun _ _ => rfl)))
      (pss_cons (ps_for PassesOwn.never rfl (pi_list (pe_slice sl_list (pv 1) (po_some pe_int) po_none)) (pg_name (i := 4) sc_gate_word.nd rfl (Or.inl rfl)) (pss_one (ps_if (pt_cmpR op_in_seq (pv 0) (pe_tup (pa_cons pe_str (pa_cons pe_str pa_nil))) (by rfl)) (pss_one (ps_aug (i := 3) sc_gate_word.nd rfl (Or.inl rfl) (pv 4) ip_and)) (pss_one (ps_if (pt_cmpR op_in_seq (pv 0) (pe_tup (pa_cons pe_str (pa_cons pe_str pa_nil))) (by rfl)) (pss_one (ps_aug (i := 3) sc_gate_word.nd rfl (Or.inl rfl) (pv 4) ip_or)) (pss_one (ps_aug (i := 3) sc_gate_word.nd rfl (Or.inl rfl) (pv 4) ip_xor)))))))
      (pss_cons (ps_if (pt_cmpR op_in_seq (pv 0) (pe_tup (pa_cons pe_str (pa_cons pe_str (pa_cons pe_str (pa_cons pe_str pa_nil))))) (by rfl)) (pss_one (ps_aug (i := 3) sc_gate_word.nd rfl (Or.inl rfl) (pv 2) ip_xor)) pss_nil)
      (pss_one (ps_ret (pv 3))))))), ?_⟩
  refine ⟨_, rfl, rdIn (by decide) rfl rfl (in_const kd) fun t ht => ⟨_, rfl, ?_⟩⟩
  have s0 := same_new ht (.tup [.str "low", .str "high"])
  cases hc : kd.const with
  | some b =>
    refine iteT ?_
    cases kd <;> first | (cases hc; done) | skip
    · decreasing_trivial
      exact k.go s0 rfl
    · decreasing_trivial
      exact k.go s0 rfl
  | none =>
    refine iteF ?_
    obtain ⟨m0, r, rfl⟩ : ∃ m0 r, ms = m0 :: r := by
      cases ms with
      | nil => cases kd <;> first | (cases hc; done) | (cases ha; done)
      | cons m0 r => exact ⟨m0, r, rfl⟩
    have hl1 := s0 _ _ hl
    decreasing_trivial
    refine ⟨l, _, 0, _, rfl, rfl, SqL.of hl1, atI_nat (j := 0) rfl, ?_⟩
    decreasing_trivial
    refine ⟨_, _, rfl, SqL.of hl1, fun l2 hl2 => ?_⟩
    have s2 := s0.trans (same_new hl2 (.lst (cutV (bitV m0 :: r.map bitV) (some 1) none)))
    have hL : (upd (upd H t (.tup [.str "low", .str "high"])) l2 (.lst (cutV (bitV m0 :: r.map bitV) (some 1) none))) l2 = some (.lst (r.map bitV)) := by rw [upd_same, cut1]
    decreasing_trivial
    refine ⟨⟨_, SqL.of hL⟩, ?_⟩
    refine for_it (walk_list (xs := r.map bitV)) (fun i σ H' => (∃ x, σ = [some (.str kd.str), some (.ref l), some (.int 1), some (bitV ((r.take i).foldl kd.bin m0)), x]) ∧ Same H H' ∧ H' l2 = some (.lst (r.map bitV))) ⟨⟨_, rfl⟩, s2, hL⟩ (fun _ _ _ _ q => SqL.of q.2.2) ?_ ?_
    · rintro i x σ H2 H2' hi ⟨⟨x0, rfl⟩, sH2, hl2'⟩ ⟨rfl, hx⟩
      rw [List.getElem?_map, Option.map_eq_some_iff] at hx
      obtain ⟨m, hm, rfl⟩ := hx
      have htk : (r.take (i + 1)).foldl kd.bin m0 = kd.bin ((r.take i).foldl kd.bin m0) m := by
        rw [List.take_succ, hm, List.foldl_append]
        rfl
      rw [htk]
      generalize (r.take i).foldl kd.bin m0 = acc
      refine ⟨_, rfl, rdIn (by decide) rfl rfl (in_and kd) fun t2 ht2 => ⟨_, rfl, ?_⟩⟩
      have s3 := same_new ht2 (.tup [.str "and", .str "nand"])
      cases h1 : isAnd kd with
      | true =>
        refine iteT ?_
        decreasing_trivial
        rw [show kd.bin acc m = (acc && m) by cases kd <;> first | (cases h1; done) | rfl]
        exact ⟨⟨_, congrArg (fun z => [some (V.str kd.str), some (.ref l), some (.int 1), some (V.int z), some (bitV m)]) (w_and acc m)⟩, sH2.trans s3, s3 _ _ hl2'⟩
      | false =>
        refine iteF ?_
        refine ⟨_, rfl, rdIn (by decide) rfl rfl (in_or kd) fun t3 ht3 => ⟨_, rfl, ?_⟩⟩
        have s4 := s3.trans (same_new ht3 (.tup [.str "or", .str "nor"]))
        cases h2 : isOr kd with
        | true =>
          refine iteT ?_
          decreasing_trivial
          rw [show kd.bin acc m = (acc || m) by cases kd <;> first | (cases h2; done) | rfl]
          exact ⟨⟨_, congrArg (fun z => [some (V.str kd.str), some (.ref l), some (.int 1), some (V.int z), some (bitV m)]) (w_or acc m)⟩, sH2.trans s4, s4 _ _ hl2'⟩
        | false =>
          refine iteF ?_
          decreasing_trivial
          rw [show kd.bin acc m = (acc != m) by cases kd <;> first | (cases h1; done) | (cases h2; done) | rfl]
          exact ⟨⟨_, congrArg (fun z => [some (V.str kd.str), some (.ref l), some (.int 1), some (V.int z), some (bitV m)]) (w_xor acc m)⟩, sH2.trans s4, s4 _ _ hl2'⟩
    · rintro σ H2 ⟨⟨x0, rfl⟩, sH2, hl2'⟩
      rw [List.length_map, List.take_length]
      refine ⟨_, rfl, rdIn (by decide) rfl rfl (in_neg kd) fun t2 ht2 => ⟨_, rfl, ?_⟩⟩
      have s3 := sH2.trans (same_new ht2 (.tup [.str "nand", .str "nor", .str "xnor", .str "not"]))
      have ev : gateVal kd (m0 :: r) = (r.foldl kd.bin m0 != kd.neg) := by unfold gateVal; rw [hc]
      cases hn : kd.neg with
      | true =>
        refine iteT ?_
        decreasing_trivial
        refine k.go s3 ?_
        rw [ev, hn]
        show V.int (Builtin.bitXor (bi (r.foldl kd.bin m0)) (bi true)) = _
        rw [w_xor]
        rfl
      | false =>
        refine iteF ?_
        decreasing_trivial
        refine k.go s3 ?_
        rw [ev, hn]
        cases r.foldl kd.bin m0 <;> rfl
/-! ### a Many object, for one pattern -/
def nNames : List Str := ["circuit", "version", "mask", "given"]
def givenK (C : Circ Str) (pat : List Bool) : List (Key × V) := (C.sources.zip pat).map fun p => (Sum.inr p.1, bitV p.2)
structure NPre (A : Ad) (H : Hp) (p : Addr) (C : Circ Str) (u : Ver Str) (pat : List Bool) (dx : Addr) (fs : List (Str × V)) (vc xv : V) (dG : Addr) : Prop where
  ob : H p = some (.ins A.CN dx fs)
  fC : fs.lookup ("circuit" : Str) = some vc
  fV : fs.lookup ("version" : Str) = some xv
  fM : fs.lookup ("mask" : Str) = some (.int 1)
  fG : fs.lookup ("given" : Str) = some (.ref dG)
  fN : ∀ m : Str, m ∉ nNames → fs.lookup m = none
  hC : CircAt A H vc C
  hV : VerAt H xv u
  hG : H dG = some (.dK (givenK C pat))
theorem NPre.mono {H H' : Hp} {p : Addr} {C : Circ Str} {u : Ver Str} {pat : List Bool} {dx : Addr} {fs : List (Str × V)} {vc xv : V} {dG : Addr} (s : Same H H') (h : NPre A H p C u pat dx fs vc xv dG) : NPre A H' p C u pat dx fs vc xv dG :=
  ⟨s _ _ h.ob, h.fC, h.fV, h.fM, h.fG, h.fN, h.hC.mono s, h.hV.mono s, s _ _ h.hG⟩
def MnAt (A : Ad) (H : Hp) (v : V) (C : Circ Str) (u : Ver Str) (pat : List Bool) : Prop := ∃ p dx fs vc xv dG, v = .ref p ∧ NPre A H p C u pat dx fs vc xv dG
theorem MnAt.mono {H H' : Hp} {v : V} {C : Circ Str} {u : Ver Str} {pat : List Bool} (s : Same H H') : MnAt A H v C u pat → MnAt A H' v C u pat := fun ⟨p, dx, fs, vc, xv, dG, e, h⟩ => ⟨p, dx, fs, vc, xv, dG, e, h.mono s⟩
def spNInit (A : Ad) : Sp := fun vs H Q _ => ∃ Hb p dx v x lp y C u pat, vs = [.ref p, v, x, .ref lp] ∧ Hb p = none ∧ Same Hb H ∧ H p = some (.ins A.CN dx []) ∧ CircAt A Hb v C ∧ WF C ∧ VerAt Hb x u ∧ Hb lp = some (.lst [y]) ∧ BitsAt Hb y pat ∧ pat.length = C.sources.length ∧ ∀ H', Same Hb H' → MnAt A H' (.ref p) C u pat → Q .non H'
theorem put_new {kvs : List (Key × V)} {k : Key} {y : V} (h : ∀ p ∈ kvs, p.1 ≠ k) : putK kvs k y = kvs ++ [(k, y)] := by
  unfold putK
  rw [if_neg]
  intro q
  rw [List.any_eq_true] at q
  obtain ⟨p, hp, e⟩ := q
  exact h p hp (of_decide_eq_true e)
theorem ok_many_init {f : Addr} {fd : FuncData} (T : Txt K mg A) (c_Circuit_sources : Met P w K mg base 1 A.CC "sources" (spSources A)) (c_word_of : Cal P w K mg base 1 "word_of" spWordOf) (F : Fun K "__init__" "Many.__init__" s_Many_init f fd) :
    FnOk P w K mg base CX0 2 f fd ["self", "circuit", "version", "patterns"] (spNInit A) := by
  refine F.ok sc_Many_init (fun vs H Q E h => ?_) (fun cdv Ar outer s H vs Q E hr h => ?_)
  · obtain ⟨Hb, p, dx, v, x, lp, y, C, u, pat, rfl, _⟩ := h
    rfl
  obtain ⟨Hb, p, dx, v, x, lp, y, C, u, pat, rfl, hbp, sb, hp, hc, wf, hx, hlp, ⟨ay, rfl, hy⟩, hpl, k⟩ := h
  refine ⟨_, (pss_cons (ps_fld (pv 0) (pv 1) rfl)
      (pss_cons (ps_fld (pv 0) (pv 2) rfl)
      (pss_cons (ps_fld (pv 0) (pe_op op_sub (pe_op op_shl pe_int (pe_callB call_len_seq (by rfl) T.z_len PySem.boot_len (pa_cons (pv 3) pa_nil))) pe_int) rfl)
      (pss_cons (ps_fld (pv 0) pe_dnewK rfl)
      (pss_one (ps_for PassesOwn.never rfl (pi_enum (by rfl) T.z_enumerate (pa_cons (pe_mt0 c_Circuit_sources hr (by omega) (pv 1)) pa_nil)) (pg_tup rfl (pgs_cons (pg_name (i := 4) sc_Many_init.nd rfl (Or.inr rfl)) (pgs_cons (pg_name (i := 5) sc_Many_init.nd rfl (Or.inl rfl)) pgs_nil))) (pss_one (ps_dput (hu_of hr) (pe_fld (pv 0) rfl) (pv 5) (pe_c c_word_of hr (by omega) rfl (pa_cons (pe_lc (own := [("pattern", 6)])  rfl sc_Many_init.nd (pi_list (pv 3)) (blkOk_by (own := [("pattern", 6)]) (sc := defScope s_Many_init) (N := ["self", "circuit", "version", "patterns", "index", "line", "pattern"]) (by decide +kernel)) (fun _ _ _ _ _ => (pg_name (i := 6) sc_Many_init.nd rfl (Or.inl rfl))) (fun _ _ _ _ _ => pts_nil) (fun _ _ _ _ _ => (pe_ix (ix_tupB (K := K) rfl) (pv 6) (pv 4) (fun _ _ => rfl)))) pa_nil)) rfl)))))))), ?_⟩
  have hns := wf.ns
  refine ⟨_, rfl, _, rfl, p, _, dx, _, rfl, hp, T.cN, T.nN_circuit, by decide, ?_⟩
  refine ⟨_, rfl, _, rfl, p, _, dx, _, rfl, upd_same, T.cN, T.nN_version, by show 1 < 1000; decide, ?_⟩
  have sb2 : Same Hb (upd (upd H p (.ins A.CN dx (putF "circuit" v []))) p (.ins A.CN dx (putF "version" x (putF "circuit" v [])))) := Same.mut (Same.mut sb hbp) hbp
  have hlp2 := sb2 _ _ hlp
  decreasing_trivial
  refine ⟨⟨by show (0 : Int) ≤ 1; decide, by show (1 : Int) ≤ 1000000; decide, by decide⟩, ?_⟩
  decreasing_trivial
  refine rdPut upd_same T.cN T.nN_mask (by show 2 < 1000; decide) fun H3 hH3 => ?_
  have sb3 : Same Hb H3 := by rw [hH3]; exact Same.mut sb2 hbp
  have hp3 : H3 p = some (.ins A.CN dx (putF "mask" (.int 1) (putF "version" x (putF "circuit" v [])))) := by rw [hH3]; exact upd_same
  clear hH3
  refine fun D hD => ?_
  have hbD : Hb D = none := sb3.free hD
  have hpD : D ≠ p := fun e => by
    rw [e, hp3] at hD
    cases hD
  refine ⟨_, rfl, p, _, dx, _, rfl, (same_new hD (.dK [])) _ _ hp3, T.cN, T.nN_given, by show 3 < 1000; decide, ?_⟩
  generalize hfs : putF "given" (V.ref D) (putF "mask" (.int 1) (putF "version" x (putF "circuit" v []))) = fs
  have lk1 : fs.lookup ("circuit" : Str) = some v := by rw [← hfs]; rfl
  have lk2 : fs.lookup ("version" : Str) = some x := by rw [← hfs]; rfl
  have lk3 : fs.lookup ("mask" : Str) = some (.int 1) := by rw [← hfs]; rfl
  have lk4 : fs.lookup ("given" : Str) = some (.ref D) := by rw [← hfs]; rfl
  have lkN : ∀ m : Str, m ∉ nNames → fs.lookup m = none := fun m hm => by
    have n1 : m ≠ "circuit" := fun e => hm (by rw [e]; decide)
    have n2 : m ≠ "version" := fun e => hm (by rw [e]; decide)
    have n3 : m ≠ "mask" := fun e => hm (by rw [e]; decide)
    have n4 : m ≠ "given" := fun e => hm (by rw [e]; decide)
    rw [← hfs, lookup_putF, if_neg n4, lookup_putF, if_neg n3, lookup_putF, if_neg n2, lookup_putF, if_neg n1]
    rfl
  have sb4 : Same Hb (upd (upd H3 D (.dK [])) p (.ins A.CN dx fs)) := Same.mut (sb3.trans (same_new hD _)) hbp
  have hp4 := upd_same (H := upd H3 D (.dK [])) (a := p) (o := .ins A.CN dx fs)
  have hD4 : (upd (upd H3 D (.dK [])) p (.ins A.CN dx fs)) D = some (.dK []) := by rw [upd_ne hpD]; exact upd_same
  generalize upd (upd H3 D (.dK [])) p (.ins A.CN dx fs) = H4 at sb4 hp4 hD4 ⊢
  have hc4 := hc.mono sb4
  obtain ⟨pc, dxc, fsc, rfl, obc, fnc⟩ := hc4.ins
  decreasing_trivial
  refine ⟨pc, dxc, fsc, rfl, obc, fnc _ (by decide), _, C, rfl, hc4.parts, ?_⟩
  rintro v H5 s5 ⟨z, rfl, hz0, hz⟩
  have hzD : z ≠ D := fun e => by
    rw [e, hD4] at hz0
    cases hz0
  have hzp : z ≠ p := fun e => by
    rw [e, hp4] at hz0
    cases hz0
  refine ⟨z, _, rfl, SqL.of hz, ?_⟩
  have hzl : (C.sources.zip pat).length = C.sources.length := by rw [List.length_zip, hpl, Nat.min_self]
  refine for_it (walk_enum (xs := C.sources.map V.str)) (fun i σ H' => (∃ x4 x5 x6, σ = [some (.ref p), some (.ref pc), some x, some (.ref lp), x4, x5, x6]) ∧ Same Hb H' ∧ H' p = some (.ins A.CN dx fs) ∧ H' z = some (.lst (C.sources.map V.str)) ∧ H' D = some (.dK ((givenK C pat).take i))) ⟨⟨_, _, _, rfl⟩, sb4.trans s5, s5 _ _ hp4, hz, s5 _ _ hD4⟩ (fun i σ H' _ q => SqL.of q.2.2.2.1) ?_ ?_
  · rintro i x' σ H6 H6' hi ⟨⟨x4, x5, x6, rfl⟩, sb6, hp6, hz6, hD6⟩ ⟨t, xi, xn, rfl, ht, rfl, hxi, hxn⟩
    have hxi : V.int ((i : Nat) : Int) = xi := Option.some.inj hxi
    have hxn : (C.sources.map V.str)[i]? = some xn := hxn
    subst hxi
    rw [List.getElem?_map, Option.map_eq_some_iff] at hxn
    obtain ⟨sn, hsn, rfl⟩ := hxn
    have hil := (List.getElem?_eq_some_iff.mp hsn).1
    have hpat : pat[i]? = some (pat[i]'(by omega)) := List.getElem?_eq_getElem _
    generalize pat[i]'(by omega) = b at hpat
    have sN := same_new ht (.tup [.int ((i : Nat) : Int), .str sn])
    have sb7 := sb6.trans sN
    have hlp7 := sb7 _ _ hlp
    have hy7 := sb7 _ _ hy
    refine ⟨_, _, rfl, SqT.of upd_same, rfl, ?_⟩
    decreasing_trivial
    refine ⟨⟨_, SqL.of hlp7⟩, fun L hL => ?_⟩
    refine lcM (walk_list (xs := [V.ref ay])) [b] rfl (fun y b _ => y = bitV b) (fun _ _ _ _ _ q => q) (by show 1 ≤ 1000; decide) hL (fun H' s' => s'.seq (SqL.of hlp7)) ?_ ?_
    · rintro j x' H8 H9 b' hb' s8 ⟨rfl, hx8⟩ kk hk
      have hj0 : j = 0 := by have := (List.getElem?_eq_some_iff.mp hb').1; simpa using this
      subst hj0
      have hb' : b = b' := Option.some.inj hb'
      have hx8 : V.ref ay = x' := Option.some.inj hx8
      subst hb' hx8
      refine ⟨rfl, ?_⟩
      decreasing_trivial
      refine ⟨ay, _, i, bitV b, rfl, rfl, SqT.of (s8 _ _ hy7), atI_nat (by rw [List.getElem?_map, hpat]; rfl), ?_⟩
      exact hk _ _ (Same.refl _) rfl
    · intro H8 ys s8 hL8 hys
      rw [vals_eq hys] at hL8
      refine ⟨L, b, rfl, hL8, ?_⟩
      rintro v H9 s9 rfl
      have s79 := sN.trans (s8.trans s9)
      have hp9 := s79 _ _ hp6
      have hD9 := s79 _ _ hD6
      decreasing_trivial
      refine ⟨_, _, _, _, _, rfl, hp9, T.cN, T.nN_given, lk4, ?_⟩
      decreasing_trivial
      have hgl : ((givenK C pat).take i).length ≤ 6 := by
        rw [List.length_take]
        unfold givenK
        rw [List.length_map]
        omega
      refine ⟨_, _, rfl, DPut.k (k := Sum.inr sn) hD9 (small1000 (by omega)), ?_⟩
      have hgi : (givenK C pat)[i]? = some (Sum.inr sn, bitV b) := by
        unfold givenK
        have hz2 : (C.sources.zip pat)[i]? = some (sn, b) := by
          rw [List.getElem?_zip_eq_some]
          exact ⟨hsn, hpat⟩
        rw [List.getElem?_map, hz2]
        rfl
      have hput : putK ((givenK C pat).take i) (Sum.inr sn) (bitV b) = (givenK C pat).take (i + 1) := by
        rw [put_new, List.take_succ, hgi]
        · rfl
        · intro q hq e
          obtain ⟨j, hj, e2⟩ := List.mem_iff_getElem.mp hq
          rw [List.length_take] at hj
          rw [List.getElem_take] at e2
          have hj2 : j < (C.sources.zip pat).length := by
            have : j < (givenK C pat).length := by omega
            unfold givenK at this
            rwa [List.length_map] at this
          have e3 : q.1 = Sum.inr (C.sources[j]'(by omega)) := by
            rw [← e2]
            simp [givenK]
          rw [e3] at e
          have e4 := Sum.inr.inj e
          obtain ⟨hi2, e5⟩ := List.getElem?_eq_some_iff.mp hsn
          exact List.pairwise_iff_getElem.mp wf.nodupS j i (by omega) hi2 (by omega) (e4.trans e5.symm)
      rw [hput]
      refine ⟨⟨_, _, _, rfl⟩, Same.mut (sb6.trans s79) hbD, by rw [upd_ne hpD.symm]; exact hp9, by rw [upd_ne hzD]; exact s79 _ _ hz6, upd_same⟩
  · rintro σ H6 ⟨⟨x4, x5, x6, rfl⟩, sb6, hp6, hz6, hD6⟩
    have hgl : (givenK C pat).length = C.sources.length := by unfold givenK; rw [List.length_map, hzl]
    rw [List.length_map, ← hgl, List.take_length] at hD6
    exact k _ sb6 ⟨p, dx, fs, _, x, D, rfl, hp6, lk1, lk2, lk3, lk4, lkN, hc.mono sb6, hx.mono sb6, hD6⟩
end
end Pw
namespace Pw
open PySem PySem.Spec PyProof.Rows L2
local macro_rules
  | `(tactic| decreasing_trivial) => `(tactic| repeat (first
    | refine ⟨_, rfl, ?_⟩
    | refine ⟨_, _, rfl, rfl, ?_⟩
    | refine ⟨rfl, ?_⟩
    | refine ⟨_, _, rfl, .inl (SqL.of (by assumption)), ?_⟩
    | refine ⟨_, _, rfl, .inr (SqT.of (by assumption)), ?_⟩
    | refine ⟨_, _, _, _, rfl, rfl, SqT.of (by assumption), rfl, ?_⟩
    | refine ⟨_, _, _, _, rfl, rfl, SqL.of (by assumption), rfl, ?_⟩
    | refine ⟨_, _, rfl, ?_⟩))
section
variable {P : Program} {w : World} {K : PySem.W.Frag} {mg : Str → Option Value} {base : Heap} {A : Ad}
def spFull (A : Ad) : Sp := fun vs H Q _ => ∃ v b C u pat, vs = [v, bitV b] ∧ MnAt A H v C u pat ∧ Q (bitV b) H
theorem ok_full {f : Addr} {fd : FuncData} (T : Txt K mg A) (F : Fun K "full" "Many.full" s_Many_full f fd) : FnOk P w K mg base CX0 1 f fd ["self", "bit"] (spFull A) := by
  refine F.ok sc_Many_full (fun vs H Q E h => ?_) (fun cdv Ar outer s H vs Q E hr h => ?_)
  · obtain ⟨v, b, C, u, pat, rfl, _⟩ := h
    rfl
  obtain ⟨v, b, C, u, pat, rfl, ⟨p, dx, fs, vc, xv, dG, rfl, c⟩, k⟩ := h
  refine ⟨_, (pss_one (ps_ret (pe_ifExp (pt_cmpR op_eq (pv 1) pe_int (nomark _)) (pe_fld (pv 0) rfl) pe_int))), ?_⟩
  cases b with
  | true =>
    decreasing_trivial
    exact ⟨_, _, _, _, _, rfl, c.ob, T.cN, T.nN_mask, c.fM, k⟩
  | false =>
    decreasing_trivial
    exact k
def spNPin (A : Ad) : Sp := fun vs H Q _ => ∃ v gv i D x C u0 u pat g z kvs b, vs = [v, gv, .int ((i : Nat) : Int), .ref D, x] ∧ MnAt A H v C u0 pat ∧ GateAt H gv g ∧ g.pins[i]? = some z ∧ H D = some (.dK kvs) ∧ valV kvs (Sum.inr z) = some (bitV b) ∧ VerAt H x u ∧ Ret (fun v _ => v = bitV ((u.stuck g.line i).getD b)) H Q
theorem ok_npin {f : Addr} {fd : FuncData} (T : Txt K mg A) (c_stuck_pin : Cal P w K mg base 1 "stuck_pin" spStuck) (c_Many_full : Met P w K mg base 1 A.CN "full" (spFull A)) (F : Fun K "pin" "Many.pin" s_Many_pin f fd) : FnOk P w K mg base CX0 2 f fd ["self", "gate", "index", "known", "version"] (spNPin A) := by
  refine F.ok sc_Many_pin (fun vs H Q E h => ?_) (fun cdv Ar outer s H vs Q E hr h => ?_)
  · obtain ⟨v, gv, i, D, x, C, u0, u, pat, g, z, kvs, b, rfl, _⟩ := h
    rfl
  obtain ⟨v, gv, i, D, x, C, u0, u, pat, g, z, kvs, b, rfl, hm, hg, hz, hD, hb, hx, k⟩ := h
  refine ⟨_, (pss_cons (ps_set (i := 5) sc_Many_pin.nd rfl (Or.inl rfl) (pe_c c_stuck_pin hr (by omega) rfl (pa_cons (pv 4) (pa_cons (pe_ix ix_tup (pv 1) pe_int (fun _ _ => rfl)) (pa_cons (pv 2) pa_nil)))))
      (pss_one (ps_ret (pe_ifExp (pt_cmp (pc_isN (pv 5))) (pe_dget (hu_of hr) (pv 3) (pe_ix ix_tup (pe_ix ix_tup (pv 1) pe_int (fun _ _ => rfl)) (pv 2) (fun _ _ => rfl)) (fun _ _ => rfl)) (pe_mt c_Many_full hr (by omega) (pv 0) (pa_cons (pv 5) pa_nil)))))), ?_⟩
  obtain ⟨a, ap, rfl, ha, hap, hok⟩ := hg
  obtain ⟨p, dx, fs, vc, xv, dG, rfl, c⟩ := hm
  decreasing_trivial
  refine ⟨_, u, g.line, i, rfl, hx, hok _ List.mem_cons_self, ?_⟩
  rintro v H1 s1 rfl
  have ha1 := s1 _ _ ha
  have hap1 := s1 _ _ hap
  have c1 := c.mono s1
  cases hst : u.stuck g.line i with
  | none =>
    decreasing_trivial
    refine ⟨_, _, _, _, rfl, rfl, SqT.of hap1, atI_nat (v := .str z) (by rw [List.getElem?_map, hz]; rfl), ?_⟩
    refine ⟨D, _, rfl, by rw [← hb]; exact DGet.k (k := Sum.inr z) (s1 _ _ hD), ?_⟩
    exact k.go s1 (by rw [hst]; rfl)
  | some bb =>
    decreasing_trivial
    refine ⟨p, dx, fs, rfl, c1.ob, c1.fN _ (by decide), ?_⟩
    decreasing_trivial
    refine ⟨_, bb, C, u0, pat, rfl, ⟨p, dx, fs, vc, xv, dG, rfl, c1⟩, ?_⟩
    exact k.go s1 (by rw [hst]; rfl)
def FTab (kvs : List (Key × V)) (f : Str → Option Bool) : Prop := ∀ x, valV kvs (Sum.inr x) = (f x).map bitV
def spThrough (A : Ad) : Sp := fun vs H Q _ => ∃ v x dF C u0 u pat f kF, vs = [v, x, .ref dF] ∧ MnAt A H v C u0 pat ∧ WF C ∧ pat.length = C.sources.length ∧ VerAt H x u ∧ H dF = some (.dK kF) ∧ FTab kF f ∧
  Ret (fun v H' => ∃ D kvs, v = .ref D ∧ H D = none ∧ H' D = some (.dK kvs) ∧ Tab kvs C.lines fun l => bitV (through C u f pat l)) H Q
theorem rd_mono {H H' : Hp} (s : Same H H') {a : Addr} {o : HO} (h : Rd H a o) : Rd H' a o := by
  rcases h with h | ⟨q, h⟩
  · exact .inl (s _ _ h)
  · exact .inr ⟨q, s _ _ h⟩
theorem getD_map (o : Option Bool) (b : Bool) : (o.map bitV).getD (bitV b) = bitV (o.getD b) := by cases o <;> rfl
theorem ok_through {f : Addr} {fd : FuncData} (T : Txt K mg A) (c_Many_pin : Met P w K mg base 2 A.CN "pin" (spNPin A)) (c_gate_word : Cal P w K mg base 1 "gate_word" spGateWord) (F : Fun K "through" "Many.through" s_Many_through f fd) : FnOk P w K mg base CX0 3 f fd ["self", "version", "forced"] (spThrough A) := by
  refine F.ok sc_Many_through (fun vs H Q E h => ?_) (fun cdv Ar outer s H vs Q E hr h => ?_)
  · obtain ⟨v, x, dF, C, u0, u, pat, f, kF, rfl, _⟩ := h
    rfl
  obtain ⟨v, x, dF, C, u0, u, pat, ff, kF, rfl, ⟨p, dx, fs, vc, xv, dG, rfl, c⟩, wf, hpl, hx, hF, hfF, k⟩ := h
  refine ⟨_, (pss_cons (ps_set (i := 3) sc_Many_through.nd rfl (Or.inr rfl) (pe_lock (pe_dc (own := [("line", 6), ("word", 7)]) (g := (gTup K 2 (gCons (gName 6) (gCons (gName 7) gNil)))) rfl sc_Many_through.nd  (pi_items (pe_fld (pv 0) rfl)) (blkOk_by (own := [("line", 6), ("word", 7)]) (sc := defScope s_Many_through) (N := ["self", "version", "forced", "known", "gate", "words", "line", "word", "index"]) (by decide +kernel)) (fun _ _ _ _ _ => (pg_tup rfl (pgs_cons (pg_name (i := 6) sc_Many_through.nd rfl (Or.inl rfl)) (pgs_cons (pg_name (i := 7) sc_Many_through.nd rfl (Or.inl rfl)) pgs_nil)))) (fun _ _ _ _ _ => pts_nil) (fun _ _ _ _ _ => (pv 6)) (fun _ _ _ _ _ => (pe_dget2 (hu_of hr) (pv 2) (pv 6) (pv 7) ⟨by rfl, by rfl, by rfl, by rfl⟩)))))
      (pss_cons (ps_for PassesOwn.never rfl (pi_list (pe_fld (pe_fld (pv 0) rfl) rfl)) (pg_name (i := 4) sc_Many_through.nd rfl (Or.inr rfl)) (pss_cons (ps_setLc (i := 5) (own := [("index", 8)]) rfl sc_Many_through.nd rfl rfl (sw_true rfl rfl rfl (by decide +kernel)) (pi_range1 rfl T.z_range (pa_cons (pe_callB call_len_seq (by rfl) T.z_len PySem.boot_len (pa_cons (pe_ix ix_tup (pv 4) pe_int (fun _ _ => rfl)) pa_nil)) pa_nil)) (blkOk_by (own := [("index", 8)]) (sc := defScope s_Many_through) (N := ["self", "version", "forced", "known", "gate", "words", "line", "word", "index"]) (by decide +kernel)) (fun _ _ _ _ _ => (pg_name (i := 8) sc_Many_through.nd rfl (Or.inl rfl))) (fun _ _ _ _ _ => pts_nil) (fun _ _ _ _ _ => (pe_mt c_Many_pin hr (by omega) (pv 0) (pa_cons (pv 4) (pa_cons (pv 8) (pa_cons (pv 3) (pa_cons (pv 1) pa_nil)))))))
      (pss_one (ps_dput (hu_of hr) (pv 3) (pe_ix ix_tup (pv 4) pe_int (fun _ _ => rfl)) (pe_dget2 (hu_of hr) (pv 2) (pe_ix ix_tup (pv 4) pe_int (fun _ _ => rfl)) (pe_c c_gate_word hr (by omega) rfl (pa_cons (pe_ix ix_tup (pv 4) pe_int (fun _ _ => rfl)) (pa_cons (pv 5) (pa_cons (pe_fld (pv 0) rfl) pa_nil)))) ⟨by rfl, by rfl, by rfl, by rfl⟩) rfl))))
      (pss_one (ps_ret (pv 3))))), ?_⟩
  have hns := wf.ns
  have hno : C.order.length ≤ 7 := by rw [wf.perm.length_eq]; exact wf.ng
  have hzl : (C.sources.zip pat).length = C.sources.length := by rw [List.length_zip, hpl, Nat.min_self]
  have hgl : (givenK C pat).length = C.sources.length := by unfold givenK; rw [List.length_map, hzl]
  refine ⟨dG, _, c.hG, trivial, fun od => ?_⟩
  have hpG : p ≠ dG := ne_of c.ob c.hG (by intro z; cases z)
  refine ⟨_, rfl, _, _, _, _, _, rfl, by rw [upd_ne hpG]; exact c.ob, T.cN, T.nN_given, c.fG, ?_⟩
  have hfz := upd_same (H := H) (a := dG) (o := .frz od (.dK (givenK C pat)))
  have hrd : Rd (upd H dG (.frz od (.dK (givenK C pat)))) dF (.dK kF) := by
    by_cases e : dF = dG
    · subst e
      have := c.hG.symm.trans hF
      have e2 : givenK C pat = kF := by injection this with q; injection q
      rw [← e2]
      exact .inr ⟨od, upd_same⟩
    · exact .inl (by rw [upd_ne e]; exact hF)
  refine ⟨dG, od, _, rfl, hfz, fun D hD => ?_⟩
  refine dcR walk_items (fun i => (C.sources[i]?).getD "") (fun i y _ => ∃ s, C.sources[i]? = some s ∧ y = bitV (through C u ff pat s)) (fun _ _ _ _ _ q => q) (by omega) hD (fun H' s' => s' _ _ hfz) ?_ ?_
  · rintro i x H2 H3 hi s2 ⟨t, kx, vx, rfl, ht, rfl, hkx, hvx⟩ kk hk
    have hi2 : i < C.sources.length := by omega
    have hsn : C.sources[i]? = some C.sources[i] := List.getElem?_eq_getElem hi2
    have hpat : pat[i]? = some (pat[i]'(by omega)) := List.getElem?_eq_getElem _
    generalize C.sources[i] = sn at hsn
    generalize pat[i]'(by omega) = b at hpat
    have hgi : (givenK C pat)[i]? = some (Sum.inr sn, bitV b) := by
      unfold givenK
      have hz2 : (C.sources.zip pat)[i]? = some (sn, b) := by
        rw [List.getElem?_zip_eq_some]
        exact ⟨hsn, hpat⟩
      rw [List.getElem?_map, hz2]
      rfl
    have hkx : ((givenK C pat)[i]?).map (fun kv => kV kv.1) = some kx := hkx
    have hvx : ((givenK C pat)[i]?).map Prod.snd = some vx := hvx
    rw [hgi] at hkx hvx
    cases hkx
    cases hvx
    have e : (C.sources[i]?).getD ("" : Str) = sn := by rw [hsn]; rfl
    rw [e] at hk
    have sN := same_new ht (.tup [kV (Sum.inr sn), bitV b])
    refine ⟨_, _, rfl, SqT.of upd_same, rfl, ?_⟩
    refine ⟨_, _, rfl, _, _, rfl, rfl, rfl, ?_⟩
    refine ⟨_, rfl, _, rfl, _, rfl, ?_⟩
    have hrd2 := rd_mono (s2.trans sN) hrd
    refine ⟨.inl ⟨_, hrd2⟩, _, rfl, _, rfl, _, .inl ⟨kF, Sum.inr sn, hrd2, rfl, rfl⟩, ?_⟩
    rw [hfF, getD_map]
    refine hk _ _ sN ⟨sn, hsn, ?_⟩
    rw [through_src wf hpl hsn hpat]
  intro H2 kv0 s2 hD2 hkl hkf
  refine ⟨s2 _ _ hfz, ?_⟩
  have hDG : D ≠ dG := fun e => by
    rw [e, hfz] at hD
    cases hD
  have hHD : H D = none := by rw [upd_ne hDG] at hD; exact hD
  have s3 : Same H (upd H2 dG (.dK (givenK C pat))) := fun b o hb => by
    by_cases e : b = dG
    · rw [e, upd_same, ← hb, e, c.hG]
    · rw [upd_ne e]
      exact s2 _ _ (by rw [upd_ne e]; exact hb)
  have hD3 : (upd H2 dG (.dK (givenK C pat))) D = some (.dK kv0) := by rw [upd_ne hDG]; exact hD2
  have hT0 : Tab kv0 C.sources fun l => bitV (through C u ff pat l) := fun x hx => by
    rcases hkf x with ⟨i, hi, e, _, y, hy, z, hz, e2⟩ | ⟨hn, _⟩
    · rw [hz] at e
      have e : z = x := e
      rw [hy, e2, e]
    · obtain ⟨i, hi, e⟩ := List.mem_iff_getElem.mp hx
      refine absurd ?_ (hn i (by omega))
      rw [List.getElem?_eq_getElem hi, e]
      rfl
  generalize upd H2 dG (.dK (givenK C pat)) = H3 at s3 hD3 ⊢
  have c3 := c.mono s3
  obtain ⟨pc, dxc, fsc, aI, aR, aG, aO, vR, vG, aD, aL, vL, kvc, rfl, cc, g1, g2, g3, g4, g5, g6⟩ := c3.hC
  refine ⟨_, rfl, _, _, _, _, _, rfl, c3.ob, T.cN, T.nN_circuit, c3.fC, ?_⟩
  refine ⟨_, _, _, _, _, rfl, cc.ob, T.cC, T.nC_order, g2, ?_⟩
  refine ⟨_, rfl, ⟨_, SqL.of g3⟩, ?_⟩
  refine for_it (walk_list (xs := vL)) (fun i σ H' => (∃ x4 x5 x6 x7 x8, σ = [some (.ref p), some x, some (.ref dF), some (.ref D), x4, x5, x6, x7, x8]) ∧ Same H H' ∧ H' aL = some (.lst vL) ∧ Paired (GateAt H') vL C.order ∧ ∃ kvs, H' D = some (.dK kvs) ∧ kvs.length ≤ 6 + i ∧ Tab kvs (C.sources ++ (C.order.take i).map (·.line)) fun l => bitV (through C u ff pat l)) ⟨⟨_, _, _, _, _, rfl⟩, s3, g3, g4, kv0, hD3, by omega, by simpa using hT0⟩ (fun i σ H' _ q => SqL.of q.2.2.1) ?_ ?_
  · rintro i x' σ H4 H4' hi ⟨⟨x4, x5, x6, x7, x8, rfl⟩, s4, hL4, hP4, kvs4, hd4, hk4, hf4⟩ ⟨rfl, hx'⟩
    obtain ⟨g, hg, hga⟩ := Paired.at hP4 hx'
    have hgm : g ∈ C.gates := wf.mem_order.mp (List.mem_of_getElem? hg)
    have har := wf.arity g hgm
    have hplg := arity_le har
    have hi2 := (List.getElem?_eq_some_iff.mp hg).1
    have hpins := topo_at wf.topo hg
    have hga0 := hga
    obtain ⟨a, b, rfl, ha, hb, hok⟩ := hga
    have c4 := c.mono s4
    decreasing_trivial
    refine ⟨by rw [List.length_map]; omega, by rw [List.length_map]; omega, fun M hM => ?_⟩
    refine lcV (n := g.pins.length) (by rw [List.length_map]; exact walk_range) (fun j => bitV ((u.stuck g.line j).getD (through C u ff pat (g.pins.getD j "")))) (by omega) hM (fun _ _ => trivial) ?_ ?_
    · rintro j xx H5 H6 hj s5 ⟨rfl, rfl⟩ kk hk
      refine ⟨rfl, ?_⟩
      have c5 := c4.mono s5
      have ep : g.pins[j]? = some (g.pins.getD j "") := by
        rw [List.getD_eq_getElem?_getD, List.getElem?_eq_getElem hj]
        rfl
      refine ⟨_, rfl, p, dx, fs, rfl, c5.ob, c5.fN _ (by decide), _, rfl, _, rfl, _, rfl, _, rfl, ?_⟩
      refine ⟨_, _, j, D, _, C, u0, u, pat, g, g.pins.getD j "", kvs4, _, by show [V.ref p, V.ref a, V.int (0 + (j : Int)), V.ref D, x] = _; rw [Int.zero_add], ⟨p, dx, fs, _, xv, dG, rfl, c5⟩, hga0.mono s5, ep, s5 _ _ hd4, hf4 _ (hpins _ (List.mem_of_getElem? ep)), (hx.mono s4).mono s5, ?_⟩
      rintro v H7 s7 rfl
      exact hk _ s7
    · intro H5 s5 hM5
      have em : (List.range g.pins.length).map (fun j => bitV ((u.stuck g.line j).getD (through C u ff pat (g.pins.getD j "")))) = (pinVals u g (through C u ff pat)).map bitV := by
        unfold pinVals
        rw [mapIdx_range, List.map_map]
        rfl
      rw [em] at hM5
      have ha5 := s5 _ _ ha
      have c5 := c4.mono s5
      have hF5 := s5 _ _ (s4 _ _ hF)
      decreasing_trivial
      refine ⟨.inl ⟨_, .inl hF5⟩, ?_⟩
      decreasing_trivial
      refine ⟨_, _, _, _, _, rfl, c5.ob, T.cN, T.nN_mask, c5.fM, ?_⟩
      refine ⟨g.kind, M, _, rfl, hM5, by unfold pinVals; rw [List.length_mapIdx]; exact har, ?_⟩
      rintro v H6 s6 rfl
      have s56 := s5.trans s6
      refine ⟨_, DGet.k (k := Sum.inr g.line) (s6 _ _ hF5), ?_⟩
      rw [hfF, getD_map]
      rw [← through_gate wf hgm]
      have ha6 := s6 _ _ ha5
      decreasing_trivial
      have := length_putK kvs4 (Sum.inr g.line) (bitV (through C u ff pat g.line))
      have hd6 := s56 _ _ hd4
      have hLD : aL ≠ D := ne_of hL4 hd4 (by intro z; cases z)
      refine ⟨_, _, rfl, DPut.k (k := Sum.inr g.line) hd6 (small1000 (by omega)), ?_⟩
      have kp := keepD_put (ys := putK kvs4 (Sum.inr g.line) (bitV (through C u ff pat g.line))) hd6
      refine ⟨⟨_, _, _, _, _, rfl⟩, Same.mut (s4.trans s56) hHD, by rw [upd_ne hLD]; exact s56 _ _ hL4, L2.Paired.mapP hP4 fun _ _ q => (q.mono s56).keepD kp, _, upd_same, by omega, ?_⟩
      rw [List.take_succ, hg, List.map_append, ← List.append_assoc]
      exact hf4.put g.line
  · rintro σ H4 ⟨⟨x4, x5, x6, x7, x8, rfl⟩, s4, hL4, hP4, kvs4, hd4, hk4, hf4⟩
    decreasing_trivial
    refine k.go s4 ⟨D, kvs4, rfl, hHD, hd4, fun l hl => hf4 l ?_⟩
    rw [hP4.length, List.take_length]
    exact wf.mem_linesO.mpr hl
end
end Pw
namespace Pw
open PySem PySem.Spec PyProof.Rows L2
local macro_rules
  | `(tactic| decreasing_trivial) => `(tactic| repeat (first
    | refine ⟨_, rfl, ?_⟩
    | refine ⟨_, _, rfl, rfl, ?_⟩
    | refine ⟨rfl, ?_⟩
    | refine ⟨_, _, rfl, .inl (SqL.of (by assumption)), ?_⟩
    | refine ⟨_, _, rfl, .inr (SqT.of (by assumption)), ?_⟩
    | refine ⟨_, _, _, _, rfl, rfl, SqT.of (by assumption), rfl, ?_⟩
    | refine ⟨_, _, _, _, rfl, rfl, SqL.of (by assumption), rfl, ?_⟩
    | refine ⟨_, _, rfl, ?_⟩))
section
variable {P : Program} {w : World} {K : PySem.W.Frag} {mg : Str → Option Value} {base : Heap} {A : Ad}
def spWords (A : Ad) : Sp := fun vs H Q _ => ∃ v C u pat, vs = [v] ∧ MnAt A H v C u pat ∧ WF C ∧ VerOk C u ∧ pat.length = C.sources.length ∧
  Ret (fun v H' => ∃ D kvs, v = .ref D ∧ H D = none ∧ H' D = some (.dK kvs) ∧ Tab kvs C.lines fun l => bitV (val C u pat l)) H Q
theorem ftab_none : FTab [] fun _ => none := fun _ => rfl
theorem valV_one (l : Str) (y : V) (x : Str) : valV (mergeK [] [(Sum.inr l, y)]) (Sum.inr x) = if x = l then some y else none := by
  show valV (putK [] (Sum.inr l) y) (Sum.inr x) = _
  rw [valV_put]
  by_cases e : x = l
  · rw [if_pos (by rw [e]), if_pos e]
  · rw [if_neg fun q => e (Sum.inr.inj q), if_neg e]
    rfl
theorem valV_two (a b : Str) (y : V) (x : Str) : valV (mergeK [] [(Sum.inr a, y), (Sum.inr b, y)]) (Sum.inr x) = if x = a ∨ x = b then some y else none := by
  show valV (putK (putK [] (Sum.inr a) y) (Sum.inr b) y) (Sum.inr x) = _
  rw [valV_put]
  by_cases e : x = b
  · rw [if_pos (by rw [e]), if_pos (.inr e)]
  · rw [if_neg fun q => e (Sum.inr.inj q), valV_put]
    by_cases e2 : x = a
    · rw [if_pos (by rw [e2]), if_pos (.inl e2)]
    · rw [if_neg fun q => e2 (Sum.inr.inj q), if_neg fun q => q.elim e2 e]
      rfl
theorem ok_words {f : Addr} {fd : FuncData} (T : Txt K mg A) (c_Many_full : Met P w K mg base 1 A.CN "full" (spFull A)) (c_Many_through : Met P w K mg base 3 A.CN "through" (spThrough A)) (F : Fun K "words" "Many.words" s_Many_words f fd) : FnOk P w K mg base CX0 4 f fd ["self"] (spWords A) := by
  refine F.ok sc_Many_words (fun vs H Q E h => ?_) (fun cdv Ar outer s H vs Q E hr h => ?_)
  · obtain ⟨v, C, u, pat, rfl, _⟩ := h
    rfl
  obtain ⟨v, C, u, pat, rfl, ⟨p, dx, fs, vc, xv, dG, rfl, c⟩, wf, hok, hpl, k⟩ := h
  refine ⟨_, (pss_cons (ps_set (i := 1) sc_Many_words.nd rfl (Or.inl rfl) (pe_fld (pv 0) rfl))
      (pss_cons (ps_set (i := 2) sc_Many_words.nd rfl (Or.inl rfl) pe_dnewK)
      (pss_cons (ps_if (PW.pt (pw_and (pt_cmp (pc_notN (pv 1))) (pw_and1 (pt_cmpR op_eq (pe_ix ix_tup (pv 1) pe_int (fun _ _ => rfl)) pe_str (nomark _))))) (pss_one (ps_set (i := 2) sc_Many_words.nd rfl (Or.inl rfl) (pe_disp (pps_cons (pe_ix ix_tup (pv 1) pe_int (fun _ _ => rfl)) (pe_mt c_Many_full hr (by omega) (pv 0) (pa_cons (pe_ix ix_tup (pv 1) pe_int (fun _ _ => rfl)) pa_nil)) pps_nil) (by rfl) (by rfl) (fun z => by cases z) (by decide)))) pss_nil)
      (pss_cons (ps_if (PW.pt (pw_and (pt_cmp (pc_notN (pv 1))) (pw_and1 (pt_cmpR op_eq (pe_ix ix_tup (pv 1) pe_int (fun _ _ => rfl)) pe_str (nomark _))))) (pss_cons (ps_set (i := 3) sc_Many_words.nd rfl (Or.inl rfl) (pe_mt c_Many_through hr (by omega) (pv 0) (pa_cons pe_non (pa_cons pe_dnewK pa_nil))))
      (pss_cons (ps_par (i := 4) (j := 5) (by rfl) sc_Many_words.nd rfl rfl (by decide) rfl rfl (pa_cons (pe_dget (hu_of hr) (pv 3) (pe_ix ix_tup (pv 1) pe_int (fun _ _ => rfl)) (fun _ _ => rfl)) (pa_cons (pe_dget (hu_of hr) (pv 3) (pe_ix ix_tup (pv 1) pe_int (fun _ _ => rfl)) (fun _ _ => rfl)) pa_nil)) (by rfl))
      (pss_cons (ps_set (i := 6) sc_Many_words.nd rfl (Or.inl rfl) (pe_ifExp (pt_cmpR op_eq (pe_ix ix_tup (pv 1) pe_int (fun _ _ => rfl)) pe_str (nomark _)) (pe_op op_and (pv 4) (pv 5)) (pe_op op_or (pv 4) (pv 5))))
      (pss_one (ps_set (i := 2) sc_Many_words.nd rfl (Or.inl rfl) (pe_disp (pps_cons (pe_ix ix_tup (pv 1) pe_int (fun _ _ => rfl)) (pv 6) (pps_cons (pe_ix ix_tup (pv 1) pe_int (fun _ _ => rfl)) (pv 6) pps_nil)) (by rfl) (by rfl) (fun z => by cases z) (by decide))))))) pss_nil)
      (pss_one (ps_ret (pe_mt c_Many_through hr (by omega) (pv 0) (pa_cons (pv 1) (pa_cons (pv 2) pa_nil))))))))), ?_⟩
  refine ⟨_, rfl, _, _, _, _, _, rfl, c.ob, T.cN, T.nN_version, c.fV, ?_⟩
  refine fun d0 hd0 => ?_
  have s0 := same_new hd0 (.dK [])
  have c0 := c.mono s0
  have hd00 := upd_same (H := H) (a := d0) (o := .dK [])
  generalize upd H d0 (.dK []) = H0 at s0 c0 hd00 ⊢
  cases u with
  | right =>
    obtain rfl : xv = .non := c.hV
    decreasing_trivial
    refine ⟨p, dx, fs, rfl, c0.ob, c0.fN _ (by decide), ?_⟩
    decreasing_trivial
    refine ⟨_, _, d0, C, .right, .right, pat, fun _ => none, [], rfl, ⟨p, dx, fs, vc, .non, dG, rfl, c0⟩, wf, hpl, rfl, hd00, ftab_none, ?_⟩
    rintro v H1 s1 ⟨D, kvs, rfl, hD0, hD, hT⟩
    exact k.go (s0.trans s1) ⟨D, kvs, rfl, s0.free hD0, hD, hT⟩
  | pin l i b =>
    obtain ⟨a, rfl, ha, hso⟩ := c0.hV
    decreasing_trivial
    refine ⟨p, dx, fs, rfl, c0.ob, c0.fN _ (by decide), ?_⟩
    decreasing_trivial
    refine ⟨_, _, d0, C, .pin l i b, .pin l i b, pat, fun _ => none, [], rfl, ⟨p, dx, fs, vc, _, dG, rfl, c0⟩, wf, hpl, ⟨a, rfl, ha, hso⟩, hd00, ftab_none, ?_⟩
    rintro v H1 s1 ⟨D, kvs, rfl, hD0, hD, hT⟩
    exact k.go (s0.trans s1) ⟨D, kvs, rfl, s0.free hD0, hD, hT⟩
  | stem l b =>
    obtain ⟨a, rfl, ha, hso⟩ := c0.hV
    decreasing_trivial
    refine fun d1 hd1 => ?_
    have s1 := same_new hd1 (.dK [])
    have c1 := c0.mono s1
    have ha1 := s1 _ _ ha
    decreasing_trivial
    refine ⟨p, dx, fs, rfl, c1.ob, c1.fN _ (by decide), ?_⟩
    decreasing_trivial
    refine ⟨_, b, C, .stem l b, pat, rfl, ⟨p, dx, fs, vc, _, dG, rfl, c1⟩, ?_⟩
    refine ⟨upd_same, [(Sum.inr l, bitV b)], rfl, by show 1 ≤ 15; decide, ?_⟩
    have s2 : Same H0 (upd (upd H0 d1 (.dK [])) d1 (.dK (mergeK [] [(Sum.inr l, bitV b)]))) := Same.mut s1 hd1
    have hd2 := upd_same (H := upd H0 d1 (.dK [])) (a := d1) (o := .dK (mergeK [] [(Sum.inr l, bitV b)]))
    generalize upd (upd H0 d1 (.dK [])) d1 (.dK (mergeK [] [(Sum.inr l, bitV b)])) = H2 at s2 hd2 ⊢
    have c2 := c0.mono s2
    have ha2 := s2 _ _ ha
    decreasing_trivial
    refine ⟨p, dx, fs, rfl, c2.ob, c2.fN _ (by decide), ?_⟩
    decreasing_trivial
    refine ⟨_, _, d1, C, .stem l b, .stem l b, pat, forcedOf C (.stem l b) pat, _, rfl, ⟨p, dx, fs, vc, _, dG, rfl, c2⟩, wf, hpl, ⟨a, rfl, ha2, hso⟩, hd2, fun x => ?_, ?_⟩
    · rw [valV_one]
      show _ = (if x = l then some b else none).map bitV
      split <;> rfl
    · rintro v H3 s3 ⟨D, kvs, rfl, hD0, hD, hT⟩
      have s02 := s0.trans s2
      exact k.go (s02.trans s3) ⟨D, kvs, rfl, s02.free hD0, hD, hT⟩
  | short a b kd =>
    obtain ⟨av, rfl, ha, hso⟩ := c0.hV
    decreasing_trivial
    refine ⟨p, dx, fs, rfl, c0.ob, c0.fN _ (by decide), ?_⟩
    refine fun d1 hd1 => ?_
    have s1 := same_new hd1 (.dK [])
    have c1 := c0.mono s1
    have hd11 := upd_same (H := H0) (a := d1) (o := .dK [])
    refine ⟨_, _, d1, C, .short a b kd, .right, pat, fun _ => none, [], rfl, ⟨p, dx, fs, vc, _, dG, rfl, c1⟩, wf, hpl, rfl, hd11, ftab_none, ?_⟩
    rintro v H2 s2 ⟨D, kvs, rfl, hD0, hD, hT⟩
    have s12 := s1.trans s2
    have ha2 := s12 _ _ ha
    have hta := hT a hok.1
    have htb := hT b hok.2
    decreasing_trivial
    refine ⟨D, _, rfl, by rw [← hta]; exact DGet.k (k := Sum.inr a) hD, ?_⟩
    decreasing_trivial
    refine ⟨D, _, rfl, by rw [← htb]; exact DGet.k (k := Sum.inr b) hD, ?_⟩
    refine ⟨_, _, rfl, ?_⟩
    cases kd with
    | false =>
      decreasing_trivial
      refine fun d2 hd2 => ?_
      have s3 := same_new hd2 (.dK [])
      have ha3 := s3 _ _ ha2
      decreasing_trivial
      refine ⟨upd_same, [(Sum.inr a, V.int (Builtin.bitOr (bi (through C .right (fun _ => none) pat a)) (bi (through C .right (fun _ => none) pat b)))), (Sum.inr b, V.int (Builtin.bitOr (bi (through C .right (fun _ => none) pat a)) (bi (through C .right (fun _ => none) pat b))))], rfl, by show 2 ≤ 15; decide, ?_⟩
      rw [w_or]
      have s4 : Same H2 (upd (upd H2 d2 (.dK [])) d2 (.dK (mergeK [] [(Sum.inr a, V.int (bi ((through C .right (fun _ => none) pat a) || (through C .right (fun _ => none) pat b)))), (Sum.inr b, V.int (bi ((through C .right (fun _ => none) pat a) || (through C .right (fun _ => none) pat b))))]))) := Same.mut s3 hd2
      have hd4 := upd_same (H := upd H2 d2 (.dK [])) (a := d2) (o := .dK (mergeK [] [(Sum.inr a, V.int (bi ((through C .right (fun _ => none) pat a) || (through C .right (fun _ => none) pat b)))), (Sum.inr b, V.int (bi ((through C .right (fun _ => none) pat a) || (through C .right (fun _ => none) pat b))))]))
      generalize upd (upd H2 d2 (.dK [])) d2 (.dK (mergeK [] [(Sum.inr a, V.int (bi ((through C .right (fun _ => none) pat a) || (through C .right (fun _ => none) pat b)))), (Sum.inr b, V.int (bi ((through C .right (fun _ => none) pat a) || (through C .right (fun _ => none) pat b))))])) = H4 at s4 hd4 ⊢
      have s24 := s12.trans s4
      have c4 := c0.mono s24
      decreasing_trivial
      refine ⟨p, dx, fs, rfl, c4.ob, c4.fN _ (by decide), ?_⟩
      decreasing_trivial
      refine ⟨_, _, d2, C, .short a b false, .short a b false, pat, forcedOf C (.short a b false) pat, _, rfl, ⟨p, dx, fs, vc, _, dG, rfl, c4⟩, wf, hpl, ⟨av, rfl, s24 _ _ ha, hso⟩, hd4, fun x => ?_, ?_⟩
      · rw [valV_two]
        show _ = (if x = a ∨ x = b then some (joinB false (through C .right (fun _ => none) pat a) (through C .right (fun _ => none) pat b)) else none).map bitV
        split <;> rfl
      · rintro v H5 s5 ⟨D5, kvs5, rfl, hD50, hD5, hT5⟩
        have s04 := s0.trans s24
        exact k.go (s04.trans s5) ⟨D5, kvs5, rfl, s04.free hD50, hD5, hT5⟩
    | true =>
      decreasing_trivial
      refine fun d2 hd2 => ?_
      have s3 := same_new hd2 (.dK [])
      have ha3 := s3 _ _ ha2
      decreasing_trivial
      refine ⟨upd_same, [(Sum.inr a, V.int (Builtin.bitAnd (bi (through C .right (fun _ => none) pat a)) (bi (through C .right (fun _ => none) pat b)))), (Sum.inr b, V.int (Builtin.bitAnd (bi (through C .right (fun _ => none) pat a)) (bi (through C .right (fun _ => none) pat b))))], rfl, by show 2 ≤ 15; decide, ?_⟩
      rw [w_and]
      have s4 : Same H2 (upd (upd H2 d2 (.dK [])) d2 (.dK (mergeK [] [(Sum.inr a, V.int (bi ((through C .right (fun _ => none) pat a) && (through C .right (fun _ => none) pat b)))), (Sum.inr b, V.int (bi ((through C .right (fun _ => none) pat a) && (through C .right (fun _ => none) pat b))))]))) := Same.mut s3 hd2
      have hd4 := upd_same (H := upd H2 d2 (.dK [])) (a := d2) (o := .dK (mergeK [] [(Sum.inr a, V.int (bi ((through C .right (fun _ => none) pat a) && (through C .right (fun _ => none) pat b)))), (Sum.inr b, V.int (bi ((through C .right (fun _ => none) pat a) && (through C .right (fun _ => none) pat b))))]))
      generalize upd (upd H2 d2 (.dK [])) d2 (.dK (mergeK [] [(Sum.inr a, V.int (bi ((through C .right (fun _ => none) pat a) && (through C .right (fun _ => none) pat b)))), (Sum.inr b, V.int (bi ((through C .right (fun _ => none) pat a) && (through C .right (fun _ => none) pat b))))])) = H4 at s4 hd4 ⊢
      have s24 := s12.trans s4
      have c4 := c0.mono s24
      decreasing_trivial
      refine ⟨p, dx, fs, rfl, c4.ob, c4.fN _ (by decide), ?_⟩
      decreasing_trivial
      refine ⟨_, _, d2, C, .short a b true, .short a b true, pat, forcedOf C (.short a b true) pat, _, rfl, ⟨p, dx, fs, vc, _, dG, rfl, c4⟩, wf, hpl, ⟨av, rfl, s24 _ _ ha, hso⟩, hd4, fun x => ?_, ?_⟩
      · rw [valV_two]
        show _ = (if x = a ∨ x = b then some (joinB true (through C .right (fun _ => none) pat a) (through C .right (fun _ => none) pat b)) else none).map bitV
        split <;> rfl
      · rintro v H5 s5 ⟨D5, kvs5, rfl, hD50, hD5, hT5⟩
        have s04 := s0.trans s24
        exact k.go (s04.trans s5) ⟨D5, kvs5, rfl, s04.free hD50, hD5, hT5⟩
def spWordsOf (A : Ad) : Sp := fun vs H Q _ => ∃ v x lp y C u pat, vs = [v, x, .ref lp] ∧ CircAt A H v C ∧ WF C ∧ VerAt H x u ∧ VerGood C u ∧ H lp = some (.lst [y]) ∧ BitsAt H y pat ∧ pat.length = C.sources.length ∧
  Ret (fun v H' => ∃ D kvs, v = .ref D ∧ H D = none ∧ H' D = some (.dK kvs) ∧ Tab kvs C.lines fun l => bitV (val C u pat l)) H Q
theorem ok_words_of {f : Addr} {fd : FuncData} (T : Txt K mg A) (c_check_version : Cal P w K mg base 5 "check_version" (spCkVersion A)) (c_check_pattern : Cal P w K mg base 4 "check_pattern" (spCkPattern A)) (c_Many : Mak P w K mg base 2 "Many" A.CN (spNInit A)) (c_Many_words : Met P w K mg base 4 A.CN "words" (spWords A))
    (F : Fun K "words_of" "words_of" s_words_of f fd) : FnOk P w K mg base CX0 6 f fd ["circuit", "version", "patterns"] (spWordsOf A) := by
  refine F.ok sc_words_of (fun vs H Q E h => ?_) (fun cdv Ar outer s H vs Q E hr h => ?_)
  · obtain ⟨v, x, lp, y, C, u, pat, rfl, _⟩ := h
    rfl
  obtain ⟨v, x, lp, y, C, u, pat, rfl, hc, wf, hx, hg, hlp, hy, hpl, k⟩ := h
  refine ⟨_, (pss_cons (ps_expr (pe_c c_check_version hr (by omega) rfl (pa_cons (pv 0) (pa_cons (pv 1) pa_nil))))
      (pss_cons (ps_for PassesOwn.never rfl (pi_list (pv 2)) (pg_name (i := 3) sc_words_of.nd rfl (Or.inl rfl)) (pss_one (ps_expr (pe_c c_check_pattern hr (by omega) rfl (pa_cons (pv 0) (pa_cons (pv 3) pa_nil))))))
      (pss_one (ps_ret (pe_mt0 c_Many_words hr (by omega) (pe_mk c_Many hr (by omega) rfl (pa_cons (pv 0) (pa_cons (pv 1) (pa_cons (pv 2) pa_nil))))))))), ?_⟩
  refine ⟨_, rfl, _, rfl, _, C, _, u, rfl, hc, wf, hx, hg, ?_⟩
  rintro v1 H1 s1 rfl
  refine ⟨_, rfl, _, rfl, ⟨_, SqL.of (s1 _ _ hlp)⟩, ?_⟩
  refine for_it (walk_list (xs := [y])) (fun i σ H' => (∃ x3, σ = [some v, some x, some (.ref lp), x3]) ∧ Same H H') ⟨⟨_, rfl⟩, s1⟩ (fun i σ H' _ q => SqL.of (q.2 _ _ hlp)) ?_ ?_
  · rintro i x' σ H2 H2' hi ⟨⟨x3, rfl⟩, s2⟩ ⟨rfl, hx'⟩
    have hi0 : i = 0 := by simpa using hi
    subst hi0
    have hx' : y = x' := Option.some.inj hx'
    subst hx'
    refine ⟨_, rfl, _, rfl, _, _, C, pat, rfl, hc.mono s2, wf, hy.mono s2, hpl, ?_⟩
    rintro v H3 s3 rfl
    exact ⟨⟨_, rfl⟩, s2.trans s3⟩
  · rintro σ H2 ⟨⟨x3, rfl⟩, s2⟩
    refine ⟨_, rfl, _, rfl, _, rfl, fun q dq hq hdq hne => ?_⟩
    have sq : Same H2 (upd (upd H2 dq (.own q)) q (.ins A.CN dq [])) := make_same hq hdq (But.refl _ _)
    refine ⟨H2, q, dq, _, _, lp, y, C, u, pat, rfl, hq, sq, upd_same, hc.mono s2, wf, hx.mono s2, s2 _ _ hlp, hy.mono s2, hpl, ?_⟩
    rintro H3 s3 ⟨p, dx, fs, vc, xv, dG, e, c⟩
    cases e
    have s13 := s2.trans s3
    refine ⟨rfl, q, dx, fs, rfl, c.ob, c.fN _ (by decide), _, C, u, pat, rfl, ⟨q, dx, fs, vc, xv, dG, rfl, c⟩, wf, hg.1, hpl, ?_⟩
    rintro v H4 s4 ⟨D, kvs, rfl, hD0, hD, hT⟩
    exact k.go (s13.trans s4) ⟨D, kvs, rfl, s13.free hD0, hD, hT⟩
def spResponses (A : Ad) : Sp := fun vs H Q _ => ∃ v x lp y C u pat, vs = [v, x, .ref lp] ∧ CircAt A H v C ∧ WF C ∧ VerAt H x u ∧ VerGood C u ∧ H lp = some (.lst [y]) ∧ BitsAt H y pat ∧ pat.length = C.sources.length ∧
  Ret (fun v H' => ∃ l z, v = .ref l ∧ H' l = some (.lst [z]) ∧ BitsAt H' z (resp C u pat)) H Q
theorem shr0 (b : Bool) : V.int (Builtin.bitAnd (bi b / 2 ^ (0 : Int).toNat) 1) = bitV b := by cases b <;> decide +kernel
theorem ok_responses {f : Addr} {fd : FuncData} (T : Txt K mg A) (c_words_of : Cal P w K mg base 6 "words_of" (spWordsOf A)) (c_Circuit_sinks : Met P w K mg base 1 A.CC "sinks" (spSinks A)) (F : Fun K "responses" "responses" s_responses f fd) : FnOk P w K mg base CX0 7 f fd ["circuit", "version", "patterns"] (spResponses A) := by
  refine F.ok sc_responses (fun vs H Q E h => ?_) (fun cdv Ar outer s H vs Q E hr h => ?_)
  · obtain ⟨v, x, lp, y, C, u, pat, rfl, _⟩ := h
    rfl
  obtain ⟨v, x, lp, y, C, u, pat, rfl, hc, wf, hx, hg, hlp, hy, hpl, k⟩ := h
  refine ⟨_, (pss_cons (ps_set (i := 3) sc_responses.nd rfl (Or.inr rfl) (pe_c c_words_of hr (by omega) rfl (pa_cons (pv 0) (pa_cons (pv 1) (pa_cons (pv 2) pa_nil)))))
      (pss_cons (ps_set (i := 4) sc_responses.nd rfl (Or.inr rfl) (pe_lc (own := [("line", 5)])  rfl sc_responses.nd (pi_list (pe_mt0 c_Circuit_sinks hr (by omega) (pv 0))) (blkOk_by (own := [("line", 5)]) (sc := defScope s_responses) (N := ["circuit", "version", "patterns", "words", "rows", "line", "index", "row"]) (by decide +kernel)) (fun _ _ _ _ _ => (pg_name (i := 5) sc_responses.nd rfl (Or.inl rfl))) (fun _ _ _ _ _ => pts_nil) (fun _ _ _ _ _ => (pe_dget (hu_of hr) (pv 3) (pv 5) (fun _ _ => rfl)))))
      (pss_one (ps_ret (pe_lc (own := [("index", 6)])  rfl sc_responses.nd (pi_range1 rfl T.z_range (pa_cons (pe_callB call_len_seq (by rfl) T.z_len PySem.boot_len (pa_cons (pv 2) pa_nil)) pa_nil)) (blkOk_by (own := [("index", 6)]) (sc := defScope s_responses) (N := ["circuit", "version", "patterns", "words", "rows", "line", "index", "row"]) (by decide +kernel)) (fun _ _ _ _ _ => (pg_name (i := 6) sc_responses.nd rfl (Or.inr rfl))) (fun _ _ _ _ _ => pts_nil) (fun _ _ _ _ _ => (pe_callTy (call_tuple_ofB (K := K) rfl) (by rfl) T.z_tuple bt_tuple (pa_cons (pe_lc (own := [("row", 7)])  rfl sc_responses.nd (pi_listB (K := K) rfl (pv 4)) (blkOk_by (own := [("row", 7)]) (N := ["circuit", "version", "patterns", "words", "rows", "line", "index", "row"]) (by rfl)) (fun _ _ _ _ _ => (pg_name (i := 7) sc_responses.nd rfl (Or.inl rfl))) (fun _ _ _ _ _ => pts_nil) (fun _ _ _ _ _ => (pe_op op_and (pe_op op_shr (pv 7) (pv 6)) pe_int))) pa_nil)))))))), ?_⟩
  have hno := wf.no
  refine ⟨_, rfl, _, rfl, _, rfl, _, _, lp, y, C, u, pat, rfl, hc, wf, hx, hg, hlp, hy, hpl, ?_⟩
  rintro v1 H1 s1 ⟨D, kvs, rfl, hD0, hD, hT⟩
  have hc1 := hc.mono s1
  obtain ⟨pc, dxc, fsc, rfl, obc, fnc⟩ := hc1.ins
  decreasing_trivial
  refine ⟨pc, dxc, fsc, rfl, obc, fnc _ (by decide), _, C, rfl, hc1.parts, ?_⟩
  rintro v H2 s2 ⟨z, rfl, _, hz⟩
  refine ⟨_, rfl, ⟨_, SqL.of hz⟩, fun L hL => ?_⟩
  refine lcM (walk_list (xs := C.sinks.map V.str)) C.sinks (by rw [List.length_map]) (fun y l _ => y = bitV (val C u pat l)) (fun _ _ _ _ _ q => q) (by rw [List.length_map]; omega) hL (fun H' s' => s'.seq (SqL.of hz)) ?_ ?_
  · rintro i x H3 H4 l hl3 s3 ⟨rfl, hx⟩ kk hk
    rw [List.getElem?_map, hl3] at hx
    cases hx
    refine ⟨rfl, ?_⟩
    decreasing_trivial
    refine ⟨D, _, rfl, by rw [← hT l (wf.sinks l (List.mem_of_getElem? hl3))]; exact DGet.k (k := Sum.inr l) ((s2.trans s3) _ _ hD), ?_⟩
    exact hk _ _ (Same.refl _) rfl
  · intro H3 ys s3 hL3 hyv
    rw [vals_eq hyv] at hL3
    have hL3 : H3 L = some (.lst ((resp C u pat).map bitV)) := by rw [hL3]; unfold resp; rw [List.map_map]; rfl
    have hrl : (resp C u pat).length ≤ 6 := by unfold resp; rw [List.length_map]; exact hno
    have s13 := (s1.trans s2).trans s3
    have hlp3 := s13 _ _ hlp
    decreasing_trivial
    refine ⟨by show -(2 ^ 62) ≤ (1 : Int); decide, by show (1 : Int) < 2 ^ 62; decide, fun M hM => ?_⟩
    refine lcR (n := 1) walk_range (fun i y H => BitsAt H y (resp C u pat)) (fun _ _ _ _ kp q => q.keep kp) (by decide) hM (fun _ _ => trivial) ?_ ?_
    · rintro i x H4 H5 hi s4 ⟨rfl, rfl⟩ kk hk
      have hi0 : i = 0 := by omega
      subst hi0
      have hL4 := s4 _ _ hL3
      refine ⟨rfl, ?_⟩
      decreasing_trivial
      refine ⟨⟨_, SqL.of hL4⟩, fun L2 hL2 => ?_⟩
      refine lcM (walk_list (xs := (resp C u pat).map bitV)) (resp C u pat) (by rw [List.length_map]) (fun y b _ => y = bitV b) (fun _ _ _ _ _ q => q) (by rw [List.length_map]; omega) hL2 (fun H' s' => s'.seq (SqL.of hL4)) ?_ ?_
      · rintro j x H6 H7 b hb s6 ⟨rfl, hx⟩ kk2 hk2
        rw [List.getElem?_map, hb] at hx
        cases hx
        refine ⟨rfl, ?_⟩
        decreasing_trivial
        refine ⟨by show (0 : Int) ≤ 0 + ((0 : Nat) : Int); decide, ?_⟩
        decreasing_trivial
        exact hk2 _ _ (Same.refl _) (shr0 b)
      · intro H6 zs s6 hL6 hz6
        rw [vals_eq hz6] at hL6
        refine ⟨_, _, rfl, .inl ⟨SqL.of hL6, fun t ht => ?_⟩⟩
        exact hk _ _ (s6.trans (same_new ht _)) ⟨t, rfl, upd_same⟩
    · intro H4 ys4 s4 hM4 hy4
      cases hy4 with
      | cons h1 r =>
        cases r
        exact k.go (s13.trans s4) ⟨M, _, rfl, hM4, h1⟩
end
end Pw
namespace Pw
open PySem PySem.Spec PyProof.Rows L2
local macro_rules
  | `(tactic| decreasing_trivial) => `(tactic| repeat (first
    | refine ⟨_, rfl, ?_⟩
    | refine ⟨_, _, rfl, rfl, ?_⟩
    | refine ⟨rfl, ?_⟩
    | refine ⟨_, _, rfl, .inl (SqL.of (by assumption)), ?_⟩
    | refine ⟨_, _, rfl, .inr (SqT.of (by assumption)), ?_⟩
    | refine ⟨_, _, _, _, rfl, rfl, SqT.of (by assumption), rfl, ?_⟩
    | refine ⟨_, _, _, _, rfl, rfl, SqL.of (by assumption), rfl, ?_⟩
    | refine ⟨_, _, rfl, ?_⟩))
section
variable {P : Program} {w : World} {K : PySem.W.Frag} {mg : Str → Option Value} {base : Heap} {A : Ad}
def VersAt (H : Hp) (l : Addr) (us : List (Ver Str)) : Prop := ∃ xs, H l = some (.lst xs) ∧ Paired (VerAt H) xs us
theorem vers_mono {H H' : Hp} (s : Same H H') {xs : List V} {us : List (Ver Str)} (h : Paired (VerAt H) xs us) : Paired (VerAt H') xs us := L2.Paired.mapP h fun _ _ q => q.mono s
theorem VersAt.mono {H H' : Hp} (s : Same H H') {l : Addr} {us : List (Ver Str)} : VersAt H l us → VersAt H' l us := fun ⟨xs, h, p⟩ => ⟨xs, s _ _ h, vers_mono s p⟩
def spCkVersions (A : Ad) : Sp := fun vs H Q _ => ∃ v l C us, vs = [v, .ref l] ∧ CircAt A H v C ∧ WF C ∧ VersAt H l us ∧ (∀ u ∈ us, VerGood C u) ∧ Ret (fun v _ => v = .non) H Q
theorem ok_check_versions {f : Addr} {fd : FuncData} (T : Txt K mg A) (c_check_version : Cal P w K mg base 5 "check_version" (spCkVersion A)) (F : Fun K "check_versions" "check_versions" s_check_versions f fd) : FnOk P w K mg base CX0 6 f fd ["circuit", "versions"] (spCkVersions A) := by
  refine F.ok sc_check_versions (fun vs H Q E h => ?_) (fun cdv Ar outer s H vs Q E hr h => ?_)
  · obtain ⟨v, l, C, us, rfl, _⟩ := h
    rfl
  obtain ⟨v, l, C, us, rfl, hc, wf, ⟨xs, hl, hx⟩, hg, k⟩ := h
  refine ⟨_, (pss_one (ps_for PassesOwn.never rfl (pi_list (pv 1)) (pg_name (i := 2) sc_check_versions.nd rfl (Or.inl rfl)) (pss_one (ps_expr (pe_c c_check_version hr (by omega) rfl (pa_cons (pv 0) (pa_cons (pv 2) pa_nil))))))), ?_⟩
  refine ⟨_, rfl, _, rfl, ⟨_, SqL.of hl⟩, ?_⟩
  refine for_it (walk_list (xs := xs)) (fun i σ H' => (∃ x, σ = [some v, some (.ref l), x]) ∧ Same H H') ⟨⟨_, rfl⟩, Same.refl _⟩ (fun i σ H' _ q => SqL.of (q.2 _ _ hl)) ?_ ?_
  · rintro i x σ H2 H2' hi ⟨⟨x3, rfl⟩, s2⟩ ⟨rfl, hxi⟩
    obtain ⟨u, hu, hua⟩ := Paired.at hx hxi
    refine ⟨_, rfl, _, rfl, _, C, _, u, rfl, hc.mono s2, wf, hua.mono s2, hg u (List.mem_of_getElem? hu), ?_⟩
    rintro v3 H3 s3 rfl
    exact ⟨⟨_, rfl⟩, s2.trans s3⟩
  · rintro σ H2 ⟨⟨x3, rfl⟩, s2⟩
    exact k.go s2 rfl
def spCkPatterns (A : Ad) : Sp := fun vs H Q _ => ∃ v l y C pat, vs = [v, .ref l] ∧ CircAt A H v C ∧ WF C ∧ H l = some (.lst [y]) ∧ BitsAt H y pat ∧ pat.length = C.sources.length ∧ Ret (fun v _ => v = .non) H Q
theorem ok_check_patterns {f : Addr} {fd : FuncData} (T : Txt K mg A) (c_check_pattern : Cal P w K mg base 4 "check_pattern" (spCkPattern A)) (F : Fun K "check_patterns" "check_patterns" s_check_patterns f fd) : FnOk P w K mg base CX0 5 f fd ["circuit", "patterns"] (spCkPatterns A) := by
  refine F.ok sc_check_patterns (fun vs H Q E h => ?_) (fun cdv Ar outer s H vs Q E hr h => ?_)
  · obtain ⟨v, l, y, C, pat, rfl, _⟩ := h
    rfl
  obtain ⟨v, l, y, C, pat, rfl, hc, wf, hl, hy, hpl, k⟩ := h
  refine ⟨_, (pss_one (ps_for PassesOwn.never rfl (pi_list (pv 1)) (pg_name (i := 2) sc_check_patterns.nd rfl (Or.inl rfl)) (pss_one (ps_expr (pe_c c_check_pattern hr (by omega) rfl (pa_cons (pv 0) (pa_cons (pv 2) pa_nil))))))), ?_⟩
  refine ⟨_, rfl, _, rfl, ⟨_, SqL.of hl⟩, ?_⟩
  refine for_it (walk_list (xs := [y])) (fun i σ H' => (∃ x, σ = [some v, some (.ref l), x]) ∧ Same H H') ⟨⟨_, rfl⟩, Same.refl _⟩ (fun i σ H' _ q => SqL.of (q.2 _ _ hl)) ?_ ?_
  · rintro i x σ H2 H2' hi ⟨⟨x3, rfl⟩, s2⟩ ⟨rfl, hxi⟩
    have hi0 : i = 0 := by simpa using hi
    subst hi0
    have hxi : y = x := Option.some.inj hxi
    subst hxi
    refine ⟨_, rfl, _, rfl, _, _, C, pat, rfl, hc.mono s2, wf, hy.mono s2, hpl, ?_⟩
    rintro v3 H3 s3 rfl
    exact ⟨⟨_, rfl⟩, s2.trans s3⟩
  · rintro σ H2 ⟨⟨x3, rfl⟩, s2⟩
    exact k.go s2 rfl
def spCkObserved (A : Ad) : Sp := fun vs H Q _ => ∃ v l lo y r C row, vs = [v, .ref l, .ref lo] ∧ CircAt A H v C ∧ WF C ∧ H l = some (.lst [y]) ∧ H lo = some (.lst [r]) ∧ BitsAt H r row ∧ row.length = C.sinks.length ∧ Ret (fun v _ => v = .non) H Q
theorem ok_check_observed {f : Addr} {fd : FuncData} (T : Txt K mg A) (c_are_bits : Cal P w K mg base 3 "are_bits" spBits) (c_Circuit_sinks : Met P w K mg base 1 A.CC "sinks" (spSinks A)) (F : Fun K "check_observed" "check_observed" s_check_observed f fd) : FnOk P w K mg base CX0 4 f fd ["circuit", "patterns", "observed"] (spCkObserved A) := by
  refine F.ok sc_check_observed (fun vs H Q E h => ?_) (fun cdv Ar outer s H vs Q E hr h => ?_)
  · obtain ⟨v, l, lo, y, r, C, row, rfl, _⟩ := h
    rfl
  obtain ⟨v, l, lo, y, r, C, row, rfl, hc, wf, hl, hlo, ⟨ar, rfl, har⟩, hrl, k⟩ := h
  refine ⟨_, (pss_cons (ps_if (PW.pt (pw_or (pt_not (pt_val (pe_callB call_isiT (by rfl) T.z_isinstance bt_isinstance (pa_cons (pv 2) (pa_cons (pe_tup (pa_cons (pe_bltn (v := .ty "list") (by rfl) T.z_list bt_list rfl) (pa_cons (pe_bltn (v := .ty "tuple") (by rfl) T.z_tuple bt_tuple rfl) pa_nil))) pa_nil))))) (pw_or1 (pt_cmpR op_ne (pe_callB call_len_seq (by rfl) T.z_len PySem.boot_len (pa_cons (pv 2) pa_nil)) (pe_callB call_len_seq (by rfl) T.z_len PySem.boot_len (pa_cons (pv 1) pa_nil)) (nomark _))))) (pss_one ps_never) pss_nil)
      (pss_one (ps_for PassesOwn.never rfl (pi_list (pv 2)) (pg_name (i := 3) sc_check_observed.nd rfl (Or.inl rfl)) (pss_one (ps_if (pt_not (pt_val (pe_c c_are_bits hr (by omega) rfl (pa_cons (pv 3) (pa_cons (pe_callB call_len_seq (by rfl) T.z_len PySem.boot_len (pa_cons (pe_mt0 c_Circuit_sinks hr (by omega) (pv 0)) pa_nil)) pa_nil))))) (pss_one ps_never) pss_nil))))), ?_⟩
  have hno := wf.no
  refine ⟨_, rfl, by show 2 ≤ sizeLine; decide, fun t ht => ?_⟩
  have s1 := same_new ht (.tup [.ty "list", .ty "tuple"])
  have hlo1 := s1 _ _ hlo
  have hl1 := s1 _ _ hl
  refine ⟨_, t, _, _, _, true, rfl, upd_same, .cons (.ty _) (.cons (.ty _) .nil), .base (.lst hlo1), kitAny_cons (b := true) (kit_ty (by decide +kernel)) (fun q => by cases q) (fun _ => rfl), _, rfl, iteF ?_⟩
  refine ⟨_, rfl, _, _, rfl, .inl (SqL.of hlo1), _, rfl, _, _, rfl, .inl (SqL.of hl1), ?_⟩
  decreasing_trivial
  refine ⟨⟨_, SqL.of hlo1⟩, ?_⟩
  refine for_it (walk_list (xs := [V.ref ar])) (fun i σ H' => (∃ x, σ = [some v, some (.ref l), some (.ref lo), x]) ∧ Same H H') ⟨⟨_, rfl⟩, s1⟩ (fun i σ H' _ q => SqL.of (q.2 _ _ hlo)) ?_ ?_
  · rintro i x σ H2 H2' hi ⟨⟨x3, rfl⟩, s2⟩ ⟨rfl, hxi⟩
    have hi0 : i = 0 := by simpa using hi
    subst hi0
    have hxi : V.ref ar = x := Option.some.inj hxi
    subst hxi
    have hc2 := hc.mono s2
    obtain ⟨pc, dxc, fsc, rfl, obc, fnc⟩ := hc2.ins
    decreasing_trivial
    refine ⟨pc, dxc, fsc, rfl, obc, fnc _ (by decide), _, C, rfl, hc2.parts, ?_⟩
    rintro v3 H3 s3 ⟨z, rfl, _, hz⟩
    decreasing_trivial
    refine ⟨ar, row, C.sinks.length, by rw [List.length_map]; rfl, s3 _ _ (s2 _ _ har), hrl, by omega, ?_⟩
    rintro v4 H4 s4 rfl
    exact ⟨_, rfl, iteF ⟨⟨_, rfl⟩, (s2.trans s3).trans s4⟩⟩
  · rintro σ H2 ⟨⟨x3, rfl⟩, s2⟩
    exact k.go s2 rfl
/-! ### rows as data -/
def bitsD (row : List Bool) : PyData := .tuple ((row.map bi).map PyData.int)
theorem bits_dpl {H : Hp} : ∀ row : List Bool, DpAll K H (row.map bitV) ((row.map bi).map PyData.int)
  | [] => .nil
  | b :: r => .cons (.int _) (bits_dpl r)
theorem bits_dp {H : Hp} {v : V} {row : List Bool} (h : BitsAt H v row) : Dp K H v (bitsD row) := by
  obtain ⟨a, rfl, h1⟩ := h
  exact .tup (SqT.of h1) (bits_dpl row)
theorem bits_flat (row : List Bool) : ((row.map bi).map PyData.int).all flatD = true := by
  rw [List.all_map, List.all_eq_true]
  exact fun _ _ => rfl
theorem bits_shaped (row : List Bool) : SeqAt.shaped (bitsD row) = true := shp (bits_flat row)
theorem map_bi_inj {a b : List Bool} : a.map bi = b.map bi ↔ a = b := by
  constructor
  · intro h
    induction a generalizing b with
    | nil => cases b with
      | nil => rfl
      | cons _ _ => cases h
    | cons x r ih => cases b with
      | nil => cases h
      | cons y t =>
        rw [List.map_cons, List.map_cons] at h
        rw [bi_inj.mp (List.cons.inj h).1, ih (List.cons.inj h).2]
  · intro h
    rw [h]
theorem bits_eqv (a b : List Bool) : PyData.eqv (bitsD a) (bitsD b) = decide (a = b) := by
  show PyData.eqvAll _ _ = _
  rw [PySem.W.ked_eqvAll]
  simp [map_bi_inj]
theorem bits_eqv1 (a b : List Bool) : PyData.eqv (.list [bitsD a]) (.list [bitsD b]) = decide (a = b) := by
  simp [PyData.eqv, PyData.eqvAll, bits_eqv]
theorem bits_shaped1 (row : List Bool) : SeqAt.shaped (.list [bitsD row]) = true := by
  obtain ⟨a, b⟩ := flat_lay (bits_flat row)
  refine shl ?_ ?_
  · show (PyData.canLayAll0 ((row.map bi).map PyData.int) && true) = true
    rw [a]
    rfl
  · show max (PyData.depthAll ((row.map bi).map PyData.int) + 1) 0 ≤ 60
    have hz : ∀ n : Nat, n ≤ 1 → max (n + 1) 0 ≤ 60 := fun n h => by omega
    exact hz _ b
theorem filter_idx {α : Type} (us : List α) (p : Nat → Bool) (q : α → Bool) (h : ∀ i u, us[i]? = some u → p i = q u) : ((List.range us.length).filter p).map (fun i => us[i]?) = (us.filter q).map some := by
  have e1 : us.map some = (List.range us.length).map fun i => us[i]? := by
    apply List.ext_getElem?
    intro i
    rw [List.getElem?_map, List.getElem?_map]
    by_cases hi : i < us.length
    · rw [List.getElem?_range hi, List.getElem?_eq_getElem hi]
      simp [hi]
    · rw [List.getElem?_eq_none (by omega), List.getElem?_eq_none (by simpa using hi)]
      rfl
  let q' : Option α → Bool := fun o => match o with
    | some u => q u
    | none => false
  have e2 : (us.filter q).map some = (us.map some).filter q' := by
    rw [List.filter_map]
    rfl
  rw [e2, e1, List.filter_map]
  congr 1
  apply List.filter_congr
  intro i hi
  have hi := List.mem_range.mp hi
  have e3 : us[i]? = some us[i] := List.getElem?_eq_getElem hi
  show p i = q' us[i]?
  rw [h i _ e3, e3]
theorem VerAt.keepL {H H' : Hp} (s : Keep H H') {v : V} {u : Ver Str} (h : VerAt H v u) : VerAt H' v u := VerAt.keep s h
def keepI (C : Circ Str) (us : List (Ver Str)) (pat row : List Bool) (i : Nat) : Bool := match us[i]? with
  | some u => decide (resp C u pat = row)
  | none => false
theorem keepI_at {C : Circ Str} {us : List (Ver Str)} {pat row : List Bool} {i : Nat} {u : Ver Str} (h : us[i]? = some u) : keepI C us pat row i = decide (resp C u pat = row) := by
  unfold keepI
  rw [h]
def spAllowed (A : Ad) : Sp := fun vs H Q _ => ∃ v l lp lo y r C us pat row, vs = [v, .ref l, .ref lp, .ref lo] ∧ CircAt A H v C ∧ WF C ∧ VersAt H l us ∧ us.length ≤ 100 ∧ (∀ u ∈ us, VerGood C u) ∧ H lp = some (.lst [y]) ∧ BitsAt H y pat ∧ pat.length = C.sources.length ∧ H lo = some (.lst [r]) ∧ BitsAt H r row ∧ row.length = C.sinks.length ∧
  Ret (fun v H' => ∃ z, v = .ref z ∧ H z = none ∧ VersAt H' z (keepR C us pat row)) H Q
theorem ok_allowed {f : Addr} {fd : FuncData} (T : Txt K mg A) (c_check_versions : Cal P w K mg base 6 "check_versions" (spCkVersions A)) (c_check_patterns : Cal P w K mg base 5 "check_patterns" (spCkPatterns A)) (c_check_observed : Cal P w K mg base 4 "check_observed" (spCkObserved A)) (c_responses : Cal P w K mg base 7 "responses" (spResponses A))
    (F : Fun K "allowed" "allowed" s_allowed f fd) : FnOk P w K mg base CX0 8 f fd ["circuit", "versions", "patterns", "observed"] (spAllowed A) := by
  refine F.ok sc_allowed (fun vs H Q E h => ?_) (fun cdv Ar outer s H vs Q E hr h => ?_)
  · obtain ⟨v, l, lp, lo, y, r, C, us, pat, row, rfl, _⟩ := h
    rfl
  obtain ⟨v, l, lp, lo, y, r, C, us, pat, row, rfl, hc, wf, ⟨xs, hl, hx⟩, hu100, hg, hlp, hy, hpl, hlo, hr2, hrl, k⟩ := h
  refine ⟨_, (pss_cons (ps_expr (pe_c c_check_versions hr (by omega) rfl (pa_cons (pv 0) (pa_cons (pv 1) pa_nil))))
      (pss_cons (ps_expr (pe_c c_check_patterns hr (by omega) rfl (pa_cons (pv 0) (pa_cons (pv 2) pa_nil))))
      (pss_cons (ps_expr (pe_c c_check_observed hr (by omega) rfl (pa_cons (pv 0) (pa_cons (pv 2) (pa_cons (pv 3) pa_nil)))))
      (pss_cons (ps_set (i := 4) sc_allowed.nd rfl (Or.inr rfl) (pe_callTy call_list_of (by rfl) T.z_list bt_list (pa_cons (pv 3) pa_nil)))
      (pss_one (ps_ret (pe_lc (own := [("version", 5)])  rfl sc_allowed.nd (pi_list (pv 1)) (blkOk_by (own := [("version", 5)]) (sc := defScope s_allowed) (N := ["circuit", "versions", "patterns", "observed", "rows", "version"]) (by decide +kernel)) (fun _ _ _ _ _ => (pg_name (i := 5) sc_allowed.nd rfl (Or.inl rfl))) (fun _ _ _ _ _ => (pts_one (pt_cmpR (op_eqDB (K := K) rfl (hu64 hr)) (pe_c c_responses hr (by omega) rfl (pa_cons (pv 0) (pa_cons (pv 5) (pa_cons (pv 2) pa_nil)))) (pv 4) (nomark _)))) (fun _ _ _ _ _ => (pv 5))))))))), ?_⟩
  refine ⟨_, rfl, _, rfl, _, l, C, us, rfl, hc, wf, ⟨xs, hl, hx⟩, hg, ?_⟩
  rintro v1 H1 s1 rfl
  refine ⟨_, rfl, _, rfl, _, lp, y, C, pat, rfl, hc.mono s1, wf, s1 _ _ hlp, hy.mono s1, hpl, ?_⟩
  rintro v2 H2 s2 rfl
  have s12 := s1.trans s2
  refine ⟨_, rfl, _, rfl, _, rfl, _, lp, lo, y, r, C, row, rfl, hc.mono s12, wf, s12 _ _ hlp, s12 _ _ hlo, hr2.mono s12, hrl, ?_⟩
  rintro v3 H3 s3 rfl
  have s13 := s12.trans s3
  refine ⟨_, rfl, _, _, rfl, .inl (SqL.of (s13 _ _ hlo)), fun R hR => ?_⟩
  have s4 := s13.trans (same_new hR (.lst [r]))
  have hR4 := upd_same (H := H3) (a := R) (o := .lst [r])
  generalize upd H3 R (.lst [r]) = H4 at s4 hR4 ⊢
  refine ⟨_, rfl, _, rfl, ⟨_, SqL.of (s4 _ _ hl)⟩, fun L hL => ?_⟩
  have hxl := hx.length
  refine lcF (walk_list (xs := xs)) (keepI C us pat row) (fun i y H => ∃ u, us[i]? = some u ∧ VerAt H y u) (fun _ _ _ _ kp ⟨u, e, q⟩ => ⟨u, e, q.keep kp⟩) (by omega) hL (fun H' s' => s'.seq (SqL.of (s4 _ _ hl))) ?_ ?_
  · rintro i x H5 H6 hi s5 ⟨rfl, hxi⟩ kk kn hk hkn
    obtain ⟨u, hu, hua⟩ := Paired.at hx hxi
    have s45 := s4.trans s5
    refine ⟨rfl, ?_⟩
    refine ⟨_, rfl, _, rfl, _, rfl, _, _, lp, y, C, u, pat, rfl, hc.mono s45, wf, hua.mono s45, hg u (List.mem_of_getElem? hu), s45 _ _ hlp, hy.mono s45, hpl, ?_⟩
    rintro v7 H7 s7 ⟨l7, z7, rfl, hl7, hz7⟩
    have hR7 := s7 _ _ (s5 _ _ hR4)
    have hr7 := (hr2.mono s45).mono s7
    refine ⟨_, rfl, _, _, .lst (SqL.of hl7) (.cons (bits_dp hz7) .nil), .lst (SqL.of hR7) (.cons (bits_dp hr7) .nil), bits_shaped1 _, bits_shaped1 _, _, rfl, ?_⟩
    rw [bits_eqv1]
    cases hb : decide (resp C u pat = row) with
    | true =>
      refine iteT ⟨_, rfl, ?_⟩
      exact hk (by rw [keepI_at hu]; exact hb) _ _ s7 ⟨u, hu, (hua.mono s45).mono s7⟩
    | false =>
      refine iteF ?_
      exact hkn (by rw [keepI_at hu]; exact hb) _ s7
  · intro H5 ys s5 hL5 hy5
    refine k.go (s4.trans s5) ⟨L, rfl, s4.free hL, ys, hL5, ?_⟩
    rw [hxl] at hy5
    have hidx := Paired.ofMap (filter_idx us (keepI C us pat row) (fun u => decide (resp C u pat = row)) (fun i u e => keepI_at e))
    refine L2.Paired.mapP (Paired.over hy5 hidx) ?_
    rintro y u ⟨i, ⟨u', e1, q⟩, e2⟩
    rw [e1] at e2
    rw [← Option.some.inj e2]
    exact q
end
end Pw
namespace Pw
open PySem PySem.Spec PyProof.Rows L2
local macro_rules
  | `(tactic| decreasing_trivial) => `(tactic| repeat (first
    | refine ⟨_, rfl, ?_⟩
    | refine ⟨_, _, rfl, rfl, ?_⟩
    | refine ⟨rfl, ?_⟩
    | refine ⟨_, _, rfl, .inl (SqL.of (by assumption)), ?_⟩
    | refine ⟨_, _, rfl, .inr (SqT.of (by assumption)), ?_⟩
    | refine ⟨_, _, _, _, rfl, rfl, SqT.of (by assumption), rfl, ?_⟩
    | refine ⟨_, _, _, _, rfl, rfl, SqL.of (by assumption), rfl, ?_⟩
    | refine ⟨_, _, rfl, ?_⟩))
section
variable {P : Program} {w : World} {K : PySem.W.Frag} {mg : Str → Option Value} {base : Heap} {A : Ad}
def NxtAt (H : Hp) (v : V) : Nxt → Prop
  | .pattern p => ∃ a x, v = .ref a ∧ H a = some (.tup [.str "pattern", x]) ∧ BitsAt H x p
  | .alike qs => ∃ a l xs, v = .ref a ∧ H a = some (.tup [.str "alike", .ref l]) ∧ H l = some (.lst xs) ∧ Paired (PaperAt H) xs qs
def spNext (A : Ad) : Sp := fun vs H Q _ => ∃ v l C us, vs = [v, .ref l] ∧ CircAt A H v C ∧ WF C ∧ VersAt H l us ∧ us ≠ [] ∧ us.length ≤ 100 ∧ (∀ u ∈ us, VerGood C u) ∧ Ret (fun v H' => NxtAt H' v (nextM C us)) H Q
theorem ok_next_pattern {f : Addr} {fd : FuncData} (T : Txt K mg A) (c_check_versions : Cal P w K mg base 6 "check_versions" (spCkVersions A)) (c_answer : Cal P w K mg base 20 "answer" (spAnswer A)) (c_filled : Cal P w K mg base 4 "filled" (spFilled A)) (F : Fun K "next_pattern" "next_pattern" s_next_pattern f fd) :
    FnOk P w K mg base CX0 21 f fd ["circuit", "versions"] (spNext A) := by
  refine F.ok sc_next_pattern (fun vs H Q E h => ?_) (fun cdv Ar outer s H vs Q E hr h => ?_)
  · obtain ⟨v, l, C, us, rfl, _⟩ := h
    rfl
  obtain ⟨v, l, C, us, rfl, hc, wf, ⟨xs, hl, hx⟩, hne, hu100, hg, k⟩ := h
  refine ⟨_, (pss_cons (ps_expr (pe_c c_check_versions hr (by omega) rfl (pa_cons (pv 0) (pa_cons (pv 1) pa_nil))))
      (pss_cons (ps_set (i := 2) sc_next_pattern.nd rfl (Or.inl rfl) (pe_lst pa_nil))
      (pss_cons (ps_for PassesOwn.never rfl (pi_list (pe_slice sl_list (pv 1) (po_some pe_int) po_none)) (pg_name (i := 3) sc_next_pattern.nd rfl (Or.inl rfl)) (pss_cons (ps_set (i := 4) sc_next_pattern.nd rfl (Or.inl rfl) (pe_c c_answer hr (by omega) rfl (pa_cons (pv 0) (pa_cons (pe_ix ix_list (pv 1) pe_int (fun _ _ => rfl)) (pa_cons (pv 3) pa_nil)))))
      (pss_cons (ps_if (pt_cmpR op_eq (pe_ix ix_tup (pv 4) pe_int (fun _ _ => rfl)) pe_str (nomark _)) (pss_one (ps_ret (pe_tup (pa_cons pe_str (pa_cons (pe_c c_filled hr (by omega) rfl (pa_cons (pv 0) (pa_cons (pe_ix ix_tup (pv 4) pe_int (fun _ _ => rfl)) (pa_cons pe_int pa_nil)))) pa_nil))))) pss_nil)
      (pss_one (ps_expr (pe_bm PySem.F.plainAttrs_list PySem.F.slot_list_append PySem.F.type_list_append mt_append (pv 2) (pa_cons (pe_ix ix_tup (pv 4) pe_int (fun _ _ => rfl)) pa_nil)))))))
      (pss_one (ps_ret (pe_tup (pa_cons pe_str (pa_cons (pv 2) pa_nil)))))))), ?_⟩
  obtain ⟨u0, ur, rfl⟩ : ∃ u0 ur, us = u0 :: ur := by
    cases us with
    | nil => exact absurd rfl hne
    | cons a b => exact ⟨a, b, rfl⟩
  cases hx with
  | cons hx0 hxr =>
  rename_i x0 xr
  have hxl := hxr.length
  rw [List.length_cons] at hu100
  refine ⟨_, rfl, _, rfl, _, l, C, u0 :: ur, rfl, hc, wf, ⟨_, hl, .cons hx0 hxr⟩, hg, ?_⟩
  rintro v1 H1 s1 rfl
  refine ⟨Nat.zero_le _, fun Pp hPp => ?_⟩
  have s2 := s1.trans (same_new hPp (.lst []))
  have hHP : H Pp = none := s1.free hPp
  have hP2 := upd_same (H := H1) (a := Pp) (o := .lst [])
  generalize upd H1 Pp (.lst []) = H2 at s2 hP2 ⊢
  refine ⟨_, rfl, _, rfl, _, _, rfl, SqL.of (s2 _ _ hl), fun R hR => ?_⟩
  have hRP : R ≠ Pp := fun e => by
    rw [e, hP2] at hR
    cases hR
  have s3 := s2.trans (same_new hR (.lst (cutV (x0 :: xr) (some 1) none)))
  have hR3 : (upd H2 R (.lst (cutV (x0 :: xr) (some 1) none))) R = some (.lst xr) := by rw [upd_same, cut1]
  have hP3 := (same_new hR (.lst (cutV (x0 :: xr) (some 1) none))) _ _ hP2
  have hHR : H R = none := s2.free hR
  generalize upd H2 R (.lst (cutV (x0 :: xr) (some 1) none)) = H3 at s3 hR3 hP3 ⊢
  refine ⟨_, rfl, ⟨_, SqL.of hR3⟩, ?_⟩
  refine for_it (walk_list (xs := xr)) (fun i σ H' => (∃ x3 x4, σ = [some v, some (.ref l), some (.ref Pp), x3, x4]) ∧ Same H H' ∧ H' R = some (.lst xr) ∧ ∃ ps acc, H' Pp = some (.lst ps) ∧ Paired (PaperAt H') ps acc ∧ acc.length ≤ i ∧ nextM C (u0 :: ur) = nextG C u0 (ur.drop i) acc) ⟨⟨_, _, rfl⟩, s3, hR3, [], [], hP3, .nil, Nat.le_refl _, rfl⟩ (fun i σ H' _ q => SqL.of q.2.2.1) ?_ ?_
  · rintro i x σ H4 H4' hi ⟨⟨x3, x4, rfl⟩, s4, hR4, ps, acc, hP4, hpa, hal, hM⟩ ⟨rfl, hxi⟩
    obtain ⟨u, hu, hua⟩ := Paired.at hxr hxi
    have hgu := hg u (List.mem_cons_of_mem _ (List.mem_of_getElem? hu))
    have hg0 := hg u0 List.mem_cons_self
    have hl4 := s4 _ _ hl
    decreasing_trivial
    refine ⟨l, _, 0, x0, rfl, rfl, SqL.of hl4, atI_nat (j := 0) rfl, ?_⟩
    decreasing_trivial
    refine ⟨_, _, _, C, u0, u, rfl, hc.mono s4, wf, hx0.mono s4, hua.mono s4, hg0, hgu, ?_⟩
    rintro vf H5 s5 hans
    have s45 := s4.trans s5
    have hdrop : ur.drop i = u :: ur.drop (i + 1) := by
      have hi2 := (List.getElem?_eq_some_iff.mp hu).1
      rw [List.drop_eq_getElem_cons hi2, (List.getElem?_eq_some_iff.mp hu).2]
    rw [hdrop] at hM
    have hok := ans_ok wf hg0.1 hgu.1
    unfold nextG at hM
    cases hA : ans C u0 u with
    | parted pp =>
      rw [hA] at hans hok hM
      obtain ⟨af, xf, rfl, haf, hxf⟩ := hans
      decreasing_trivial
      refine ⟨_, _, C, pp, false, rfl, hc.mono s45, hxf, by rw [hok.1, emptyP_len], wf, ?_⟩
      rintro vb H6 s6 hb6
      refine ⟨by show 2 ≤ sizeLine; decide, fun t ht => ?_⟩
      refine k.go ((s45.trans s6).trans (same_new ht _)) ?_
      rw [hM]
      exact ⟨t, vb, rfl, upd_same, hb6.mono (same_new ht _)⟩
    | alike q =>
      rw [hA] at hans hok hM
      obtain ⟨af, xf, rfl, haf, hxf⟩ := hans
      have hP5 := s5 _ _ hP4
      decreasing_trivial
      refine ⟨.inl ⟨rfl, _, SqL.of hP5⟩, ?_⟩
      decreasing_trivial
      have hpsl := hpa.length
      refine ⟨_, _, _, rfl, rfl, hP5, small1000 (by omega), ?_⟩
      have kp : Keep H5 (upd H5 Pp (.lst (ps ++ [xf]))) := keep_lst hP5
      refine ⟨⟨_, _, rfl⟩, Same.mut s45 hHP, by rw [upd_ne hRP]; exact s5 _ _ hR4, _, acc ++ [q], upd_same, ?_, by rw [List.length_append, List.length_singleton]; omega, hM⟩
      exact (L2.Paired.mapP hpa fun _ _ z => (z.mono s5).keep kp).snoc (hxf.keep kp)
  · rintro σ H4 ⟨⟨x3, x4, rfl⟩, s4, hR4, ps, acc, hP4, hpa, hal, hM⟩
    decreasing_trivial
    refine ⟨by show 2 ≤ sizeLine; decide, fun t ht => ?_⟩
    refine k.go (s4.trans (same_new ht _)) ?_
    rw [hM, hxl, List.drop_length]
    exact ⟨t, Pp, ps, rfl, upd_same, (same_new ht _) _ _ hP4, L2.Paired.mapP hpa fun _ _ z => z.mono (same_new ht _)⟩
/-! ### a Finder object -/
def fNames : List Str := ["circuit", "left", "asked"]
structure FPre (A : Ad) (Hb H : Hp) (p : Addr) (C : Circ Str) (us : List (Ver Str)) (n : Nat) (dx : Addr) (fs : List (Str × V)) (vc : V) (lL lA : Addr) (asd : List V) : Prop where
  bp : Hb p = none
  bA : Hb lA = none
  same : Same Hb H
  ob : H p = some (.ins A.CF dx fs)
  fC : fs.lookup ("circuit" : Str) = some vc
  fL : fs.lookup ("left" : Str) = some (.ref lL)
  fA : fs.lookup ("asked" : Str) = some (.ref lA)
  fN : ∀ m : Str, m ∉ fNames → fs.lookup m = none
  few : fs.length ≤ 10
  hC : CircAt A Hb vc C
  hL : VersAt H lL us
  hA : H lA = some (.lst asd)
  ne : lL ≠ lA
  len : asd.length = n
def FiAt (A : Ad) (Hb H : Hp) (v : V) (C : Circ Str) (us : List (Ver Str)) (n : Nat) : Prop := ∃ p dx fs vc lL lA asd, v = .ref p ∧ FPre A Hb H p C us n dx fs vc lL lA asd
theorem FPre.mono {Hb H H' : Hp} {p : Addr} {C : Circ Str} {us : List (Ver Str)} {n : Nat} {dx : Addr} {fs : List (Str × V)} {vc : V} {lL lA : Addr} {asd : List V} (s : Same H H') (c : FPre A Hb H p C us n dx fs vc lL lA asd) : FPre A Hb H' p C us n dx fs vc lL lA asd :=
  ⟨c.bp, c.bA, c.same.trans s, s _ _ c.ob, c.fC, c.fL, c.fA, c.fN, c.few, c.hC, c.hL.mono s, s _ _ c.hA, c.ne, c.len⟩
theorem FiAt.mono {Hb H H' : Hp} {v : V} {C : Circ Str} {us : List (Ver Str)} {n : Nat} (s : Same H H') : FiAt A Hb H v C us n → FiAt A Hb H' v C us n := fun ⟨p, dx, fs, vc, lL, lA, asd, e, c⟩ => ⟨p, dx, fs, vc, lL, lA, asd, e, c.mono s⟩
def spFInit (A : Ad) : Sp := fun vs H Q _ => ∃ Hb p dx v l C us, vs = [.ref p, v, .ref l] ∧ Hb p = none ∧ Same Hb H ∧ H p = some (.ins A.CF dx []) ∧ CircAt A Hb v C ∧ WF C ∧ VersAt Hb l us ∧ (∀ u ∈ us, VerGood C u) ∧ ∀ H', FiAt A Hb H' (.ref p) C us 0 → Q .non H'
theorem ok_finder_init {f : Addr} {fd : FuncData} (T : Txt K mg A) (c_check_versions : Cal P w K mg base 6 "check_versions" (spCkVersions A)) (F : Fun K "__init__" "Finder.__init__" s_Finder_init f fd) : FnOk P w K mg base CX0 7 f fd ["self", "circuit", "versions"] (spFInit A) := by
  refine F.ok sc_Finder_init (fun vs H Q E h => ?_) (fun cdv Ar outer s H vs Q E hr h => ?_)
  · obtain ⟨Hb, p, dx, v, l, C, us, rfl, _⟩ := h
    rfl
  obtain ⟨Hb, p, dx, v, l, C, us, rfl, hbp, sb, hp, hc, wf, ⟨xs, hl, hx⟩, hg, k⟩ := h
  refine ⟨_, (pss_cons (ps_expr (pe_c c_check_versions hr (by omega) rfl (pa_cons (pv 1) (pa_cons (pv 2) pa_nil))))
      (pss_cons (ps_fld (pv 0) (pv 1) rfl)
      (pss_cons (ps_fld (pv 0) (pe_callTy call_list_of (by rfl) T.z_list bt_list (pa_cons (pv 2) pa_nil)) rfl)
      (pss_one (ps_fld (pv 0) (pe_lst pa_nil) rfl))))), ?_⟩
  refine ⟨_, rfl, _, rfl, _, l, C, us, rfl, hc.mono sb, wf, ⟨xs, sb _ _ hl, vers_mono sb hx⟩, hg, ?_⟩
  rintro v1 H1 s1 rfl
  have sb1 := sb.trans s1
  have hp1 := s1 _ _ hp
  refine ⟨_, rfl, _, rfl, ?_⟩
  refine rdPut hp1 T.cF T.nF_circuit (by decide) fun H2 e2 => ?_
  have sb2 : Same Hb H2 := by rw [e2]; exact Same.mut sb1 hbp
  have hp2 : H2 p = some (.ins A.CF dx (putF "circuit" v [])) := by rw [e2]; exact upd_same
  clear e2
  refine ⟨_, rfl, _, _, rfl, .inl (SqL.of (sb2 _ _ hl)), fun L hL => ?_⟩
  have hpL : L ≠ p := fun e => by
    rw [e, hp2] at hL
    cases hL
  refine ⟨_, rfl, ?_⟩
  refine rdPut ((same_new hL (.lst xs)) _ _ hp2) T.cF T.nF_left (by show 1 < 1000; decide) fun H3 e3 => ?_
  have sb3 : Same Hb H3 := by rw [e3]; exact Same.mut (sb2.trans (same_new hL _)) hbp
  have hp3 : H3 p = some (.ins A.CF dx (putF "left" (.ref L) (putF "circuit" v []))) := by rw [e3]; exact upd_same
  have hL3 : H3 L = some (.lst xs) := by rw [e3, upd_ne hpL]; exact upd_same
  clear e3
  refine ⟨Nat.zero_le _, fun Aa hAa => ?_⟩
  have hpA : Aa ≠ p := fun e => by
    rw [e, hp3] at hAa
    cases hAa
  have hLA : L ≠ Aa := ne_of_none hL3 hAa
  refine ⟨_, rfl, ?_⟩
  refine rdPut ((same_new hAa (.lst [])) _ _ hp3) T.cF T.nF_asked (by show 2 < 1000; decide) fun H4 e4 => ?_
  have sb4 : Same Hb H4 := by rw [e4]; exact Same.mut (sb3.trans (same_new hAa _)) hbp
  have hp4 : H4 p = some (.ins A.CF dx (putF "asked" (.ref Aa) (putF "left" (.ref L) (putF "circuit" v [])))) := by rw [e4]; exact upd_same
  have hL4 : H4 L = some (.lst xs) := by rw [e4, upd_ne hpL, upd_ne hLA]; exact hL3
  have hA4 : H4 Aa = some (.lst []) := by rw [e4, upd_ne hpA]; exact upd_same
  clear e4
  refine k H4 ⟨p, dx, putF "asked" (.ref Aa) (putF "left" (.ref L) (putF "circuit" v [])), v, L, Aa, [], rfl, hbp, sb3.free hAa, sb4, hp4, rfl, rfl, rfl, fun m hm => ?_, by show 3 ≤ 10; decide, hc, ⟨xs, hL4, vers_mono sb4 hx⟩, hA4, hLA, rfl⟩
  have n1 : m ≠ "circuit" := fun e => hm (by rw [e]; decide)
  have n2 : m ≠ "left" := fun e => hm (by rw [e]; decide)
  have n3 : m ≠ "asked" := fun e => hm (by rw [e]; decide)
  rw [lookup_putF, if_neg n3, lookup_putF, if_neg n2, lookup_putF, if_neg n1]
  rfl
def spFVersions (A : Ad) : Sp := fun vs H Q _ => ∃ Hb v C us n, vs = [v] ∧ FiAt A Hb H v C us n ∧ Ret (fun v H' => ∃ l, v = .ref l ∧ H l = none ∧ VersAt H' l us) H Q
theorem ok_fversions {f : Addr} {fd : FuncData} (T : Txt K mg A) (F : Fun K "versions" "Finder.versions" s_Finder_versions f fd) : FnOk P w K mg base CX0 1 f fd ["self"] (spFVersions A) := by
  refine F.ok sc_Finder_versions (fun vs H Q E h => ?_) (fun cdv Ar outer s H vs Q E hr h => ?_)
  · obtain ⟨Hb, v, C, us, n, rfl, _⟩ := h
    rfl
  obtain ⟨Hb, v, C, us, n, rfl, ⟨p, dx, fs, vc, lL, lA, asd, rfl, c⟩, k⟩ := h
  refine ⟨_, (pss_one (ps_ret (pe_callTy call_list_of (by rfl) T.z_list bt_list (pa_cons (pe_fld (pv 0) rfl) pa_nil)))), ?_⟩
  obtain ⟨xs, hl, hx⟩ := c.hL
  refine ⟨_, rfl, _, _, _, _, _, rfl, c.ob, T.cF, T.nF_left, c.fL, ?_⟩
  refine ⟨_, _, rfl, .inl (SqL.of hl), fun L hL => ?_⟩
  exact k.go (same_new hL _) ⟨L, rfl, hL, xs, upd_same, vers_mono (same_new hL _) hx⟩
def AskAt (H : Hp) (v : V) : Option (List Bool) → Prop
  | none => v = .non
  | some p => BitsAt H v p
def spAsk (A : Ad) : Sp := fun vs H Q _ => ∃ Hb v C us n, vs = [v] ∧ FiAt A Hb H v C us n ∧ WF C ∧ us.length ≤ 100 ∧ (∀ u ∈ us, VerGood C u) ∧ Ret (fun v H' => AskAt H' v (askM C us)) H Q
theorem ok_ask {f : Addr} {fd : FuncData} (T : Txt K mg A) (c_next_pattern : Cal P w K mg base 21 "next_pattern" (spNext A)) (F : Fun K "ask" "Finder.ask" s_Finder_ask f fd) : FnOk P w K mg base CX0 22 f fd ["self"] (spAsk A) := by
  refine F.ok sc_Finder_ask (fun vs H Q E h => ?_) (fun cdv Ar outer s H vs Q E hr h => ?_)
  · obtain ⟨Hb, v, C, us, n, rfl, _⟩ := h
    rfl
  obtain ⟨Hb, v, C, us, n, rfl, ⟨p, dx, fs, vc, lL, lA, asd, rfl, c⟩, wf, hu, hg, k⟩ := h
  refine ⟨_, (pss_cons (ps_if (pt_cmpR op_lt (pe_callB call_len_seq (by rfl) T.z_len PySem.boot_len (pa_cons (pe_fld (pv 0) rfl) pa_nil)) pe_int (nomark _)) (pss_one (ps_ret pe_non)) pss_nil)
      (pss_cons (ps_set (i := 1) sc_Finder_ask.nd rfl (Or.inl rfl) (pe_c c_next_pattern hr (by omega) rfl (pa_cons (pe_fld (pv 0) rfl) (pa_cons (pe_fld (pv 0) rfl) pa_nil))))
      (pss_one (ps_ret (pe_ifExp (pt_cmpR op_eq (pe_ix ix_tup (pv 1) pe_int (fun _ _ => rfl)) pe_str (nomark _)) (pe_ix ix_tup (pv 1) pe_int (fun _ _ => rfl)) pe_non))))), ?_⟩
  obtain ⟨xs, hl, hx⟩ := c.hL
  have hxl := hx.length
  refine ⟨_, rfl, _, _, _, _, _, rfl, c.ob, T.cF, T.nF_left, c.fL, ?_⟩
  refine ⟨_, _, rfl, .inl (SqL.of hl), ?_⟩
  decreasing_trivial
  by_cases h2 : us.length < 2
  · refine ifT (decide_eq_true (by omega)) ?_
    refine k.go (Same.refl _) ?_
    unfold askM
    rw [if_pos h2]
    rfl
  · refine ifF (decide_eq_false (by omega)) ?_
    refine ⟨_, rfl, _, _, _, _, _, rfl, c.ob, T.cF, T.nF_circuit, c.fC, ?_⟩
    refine ⟨_, rfl, _, _, _, _, _, rfl, c.ob, T.cF, T.nF_left, c.fL, ?_⟩
    refine ⟨_, lL, C, us, rfl, c.hC.mono c.same, wf, ⟨xs, hl, hx⟩, fun e => h2 (by rw [e]; decide), hu, hg, ?_⟩
    rintro v1 H1 s1 hn
    cases hN : nextM C us with
    | pattern pp =>
      rw [hN] at hn
      obtain ⟨a, x, rfl, ha, hxb⟩ := hn
      decreasing_trivial
      refine k.go s1 ?_
      unfold askM
      rw [if_neg h2, hN]
      exact hxb
    | alike qs =>
      rw [hN] at hn
      obtain ⟨a, l, ys, rfl, ha, _⟩ := hn
      decreasing_trivial
      refine k.go s1 ?_
      unfold askM
      rw [if_neg h2, hN]
      rfl
def spTell (A : Ad) : Sp := fun vs H Q _ => ∃ Hb v C us n y r pat row, vs = [v, y, r] ∧ FiAt A Hb H v C us n ∧ n ≤ 100 ∧ WF C ∧ us.length ≤ 100 ∧ (∀ u ∈ us, VerGood C u) ∧ BitsAt H y pat ∧ pat.length = C.sources.length ∧ BitsAt H r row ∧ row.length = C.sinks.length ∧
  ∀ H', FiAt A Hb H' v C (keepR C us pat row) (n + 1) → Q .non H'
theorem ok_tell {f : Addr} {fd : FuncData} (T : Txt K mg A) (c_allowed : Cal P w K mg base 8 "allowed" (spAllowed A)) (F : Fun K "tell" "Finder.tell" s_Finder_tell f fd) : FnOk P w K mg base CX0 9 f fd ["self", "pattern", "row"] (spTell A) := by
  refine F.ok sc_Finder_tell (fun vs H Q E h => ?_) (fun cdv Ar outer s H vs Q E hr h => ?_)
  · obtain ⟨Hb, v, C, us, n, y, r, pat, row, rfl, _⟩ := h
    rfl
  obtain ⟨Hb, v, C, us, n, y, r, pat, row, rfl, ⟨p, dx, fs, vc, lL, lA, asd, rfl, c⟩, hn, wf, hu, hg, hy, hpl, hr2, hrl, k⟩ := h
  refine ⟨_, (pss_cons (ps_fld (pv 0) (pe_c c_allowed hr (by omega) rfl (pa_cons (pe_fld (pv 0) rfl) (pa_cons (pe_fld (pv 0) rfl) (pa_cons (pe_lst (pa_cons (pv 1) pa_nil)) (pa_cons (pe_lst (pa_cons (pv 2) pa_nil)) pa_nil))))) rfl)
      (pss_one (ps_expr (pe_bm PySem.F.plainAttrs_list PySem.F.slot_list_append PySem.F.type_list_append mt_append (pe_fld (pv 0) rfl) (pa_cons (pv 1) pa_nil))))), ?_⟩
  refine ⟨_, rfl, _, _, _, _, _, rfl, c.ob, T.cF, T.nF_circuit, c.fC, ?_⟩
  refine ⟨_, rfl, _, _, _, _, _, rfl, c.ob, T.cF, T.nF_left, c.fL, ?_⟩
  refine ⟨_, rfl, by show 1 ≤ sizeLine; decide, fun lp hlp => ?_⟩
  refine ⟨_, rfl, by show 1 ≤ sizeLine; decide, fun lo hlo => ?_⟩
  have s1 := same_new hlp (.lst [y])
  have s2 := s1.trans (same_new hlo (.lst [r]))
  have hlp2 := (same_new hlo (.lst [r])) _ _ (upd_same (H := H) (a := lp) (o := .lst [y]))
  have c2 := c.mono s2
  refine ⟨_, lL, lp, lo, y, r, C, us, pat, row, rfl, c2.hC.mono c2.same, wf, c2.hL, hu, hg, hlp2, hy.mono s2, hpl, upd_same, hr2.mono s2, hrl, ?_⟩
  rintro v1 H1 s3 ⟨z, rfl, hz0, hz⟩
  have c3 := c2.mono s3
  refine ⟨_, rfl, ?_⟩
  have hzA : z ≠ lA := fun e => by
    rw [e, c2.hA] at hz0
    cases hz0
  refine rdPut c3.ob T.cF T.nF_left (by have := c.few; omega) fun H4 e4 => ?_
  have sb4 : Same Hb H4 := by rw [e4]; exact Same.mut c3.same c.bp
  have hp4 : H4 p = some (.ins A.CF dx (putF "left" (.ref z) fs)) := by rw [e4]; exact upd_same
  have hA4 : H4 lA = some (.lst asd) := by rw [e4, upd_ne (ne_of c3.hA c3.ob (by intro z; cases z))]; exact c3.hA
  obtain ⟨zs, hzl, hzv⟩ := hz
  have hz4 : H4 z = some (.lst zs) := by rw [e4, upd_ne (ne_of hzl c3.ob (by intro z; cases z))]; exact hzl
  have hzv4 : Paired (VerAt H4) zs (keepR C us pat row) := L2.Paired.mapP hzv fun x u q => by
    rw [e4]
    cases u with
    | right => exact q
    | _ =>
      obtain ⟨a, e, h1, h2⟩ := q
      exact ⟨a, e, by rw [upd_ne (ne_of h1 c3.ob (by intro z; cases z))]; exact h1, h2⟩
  clear e4
  refine ⟨_, rfl, _, _, _, _, _, rfl, hp4, T.cF, T.nF_asked, by rw [lookup_putF, if_neg (by decide)]; exact c.fA, ?_⟩
  refine ⟨.inl ⟨rfl, _, SqL.of hA4⟩, ?_⟩
  decreasing_trivial
  have hal := c.len
  refine ⟨_, _, _, rfl, rfl, hA4, small1000 (by omega), ?_⟩
  have kp : Keep H4 (upd H4 lA (.lst (asd ++ [y]))) := keep_lst hA4
  refine k _ ⟨p, dx, putF "left" (.ref z) fs, vc, z, lA, asd ++ [y], rfl, c.bp, c.bA, Same.mut sb4 c.bA, ?_, ?_, ?_, ?_, fun m hm => ?_, ?_, c.hC, ⟨zs, by rw [upd_ne hzA]; exact hz4, L2.Paired.mapP hzv4 fun _ _ q => VerAt.keep kp q⟩, upd_same, hzA, by rw [List.length_append, List.length_singleton, hal]⟩
  · rw [upd_ne (ne_of hp4 hA4 (by intro z; cases z))]
    exact hp4
  · rw [lookup_putF, if_neg (by decide)]
    exact c.fC
  · rw [lookup_putF, if_pos rfl]
  · rw [lookup_putF, if_neg (by decide)]
    exact c.fA
  · rw [lookup_putF, if_neg (fun e => hm (by rw [e]; decide))]
    exact c.fN m hm
  · have go : ∀ fs : List (Str × V), (∃ v, fs.lookup ("left" : Str) = some v) → (putF "left" (.ref z) fs).length = fs.length := by
      intro fs
      induction fs with
      | nil => rintro ⟨v, h⟩; cases h
      | cons a r ih =>
        obtain ⟨g, x⟩ := a
        rintro ⟨v, h⟩
        unfold putF
        by_cases e : g = "left"
        · rw [if_pos e]; rfl
        · rw [if_neg e]
          rw [List.length_cons, List.length_cons, ih ⟨v, by
            rw [List.lookup_cons] at h
            rw [show (("left" : Str) == g) = false by simpa using fun q => e q.symm] at h
            exact h⟩]
    rw [go fs ⟨_, c.fL⟩]
    exact c.few
end
end Pw
namespace Pw
open PySem PySem.Spec PyProof.Rows L2
local macro_rules
  | `(tactic| decreasing_trivial) => `(tactic| repeat (first
    | refine ⟨_, rfl, ?_⟩
    | refine ⟨_, _, rfl, rfl, ?_⟩
    | refine ⟨rfl, ?_⟩
    | refine ⟨_, _, rfl, .inl (SqL.of (by assumption)), ?_⟩
    | refine ⟨_, _, rfl, .inr (SqT.of (by assumption)), ?_⟩
    | refine ⟨_, _, _, _, rfl, rfl, SqT.of (by assumption), rfl, ?_⟩
    | refine ⟨_, _, _, _, rfl, rfl, SqL.of (by assumption), rfl, ?_⟩
    | refine ⟨_, _, rfl, ?_⟩))
section
variable {P : Program} {w : World} {K : PySem.W.Frag} {mg : Str → Option Value} {base : Heap} {A : Ad}
theorem at_mod {xs : List V} {n m : Int} (hm : m = (xs.length : Int)) (h0 : 0 < xs.length) : ∃ (j : Nat) (v : V), xs[j]? = some v ∧ atI xs (n % m) = some v := by
  have hp : 0 < m := by omega
  have h1 := Int.emod_nonneg n (Int.ne_of_gt hp)
  have h2 := Int.emod_lt_of_pos n hp
  obtain ⟨j, hj⟩ := Int.eq_ofNat_of_zero_le h1
  rw [hj] at h2 ⊢
  have hjl : j < xs.length := by omega
  exact ⟨j, xs[j], List.getElem?_eq_getElem hjl, atI_nat (List.getElem?_eq_getElem hjl)⟩
theorem tn {D : Ends} {σ : L2.St} {H : Hp} (h : D.nx σ H) : tNext D σ H := h
theorem asgCut {te : TE} {i : Nat} {u : TS} {D : Ends} {σ : L2.St} {H : Hp} {R : V → Hp → Prop} (h1 : ∀ K : VK, (∀ v H', R v H' → K v H') → te σ H K) (h2 : ∀ v H', R v H' → u D (σ.set i (some v)) H') : tSeq (tAsg te (gName i)) u D σ H := h1 _ h2
theorem strOk_of {s : Str} (h : nameOk s = true) : PyData.strOk s = true := by
  unfold nameOk at h
  rw [Bool.and_eq_true] at h
  have h := h.2
  have hl : ∀ c, c ∈ (letters : Str).cps.toList → c < 0x110000 := by
    have : ((letters : Str).cps.toList.all fun c => decide (c < 0x110000)) = true := by decide +kernel
    intro c hc
    exact of_decide_eq_true (List.all_eq_true.mp this c hc)
  have hf : ∀ c, c ∈ (figures : Str).cps.toList → c < 0x110000 := by
    have : ((figures : Str).cps.toList.all fun c => decide (c < 0x110000)) = true := by decide +kernel
    intro c hc
    exact of_decide_eq_true (List.all_eq_true.mp this c hc)
  have hall : ∀ c ∈ s.cps.toList, c < 0x110000 := by
    cases e : s.cps.toList with
    | nil => intro c hc; cases hc
    | cons a r =>
      rw [e] at h
      have h : (decide (a ∈ letters.cps.toList) && r.all chOk) = true := h
      rw [Bool.and_eq_true] at h
      intro c hc
      rcases List.mem_cons.mp hc with rfl | hc
      · exact hl _ (of_decide_eq_true h.1)
      · have q := List.all_eq_true.mp h.2 c hc
        unfold chOk at q
        rw [Bool.or_eq_true] at q
        rcases q with q | q
        · exact hl _ (of_decide_eq_true q)
        · exact hf _ (of_decide_eq_true q)
  unfold PyData.strOk
  rw [← Array.all_toList, List.all_eq_true]
  exact fun c hc => decide_eq_true (hall c hc)
def spCell (K : PySem.W.Frag) : Sp := fun vs H Q _ => ∃ (a : Addr) (ns : List Int) (k : Nat), vs = [.ref a, .int k] ∧ SqL K H a (ns.map V.int) ∧ ∀ n : Int, Q (.int n) H
theorem ok_cell {f : Addr} {fd : FuncData} (T : Txt K mg A) (F : Fun K "_law_cell" "_law_cell" s__law_cell f fd) : FnOk P w K mg base CX0 1 f fd ["_law_script", "_law_k"] (spCell K) := by
  refine F.ok sc__law_cell (fun vs H Q E h => ?_) (fun cdv Ar outer s H vs Q E hr h => ?_)
  · obtain ⟨a, ns, k, rfl, _⟩ := h
    rfl
  obtain ⟨a, ns, kk, rfl, ha, k⟩ := h
  refine ⟨_, (pss_cons (ps_if (pt_cmpR op_lt (pv 1) (pe_callB call_len_seq (by rfl) T.z_len PySem.boot_len (pa_cons (pv 0) pa_nil)) (nomark _)) (pss_one (ps_ret (pe_callTy call_int1 (by rfl) T.z_int bt_int (pa_cons (pe_ix ix_list (pv 0) (pv 1) (fun _ _ => rfl)) pa_nil)))) pss_nil)
      (pss_one (ps_ret pe_int))), ?_⟩
  decreasing_trivial
  refine ⟨a, _, rfl, .inl ha, ?_⟩
  decreasing_trivial
  by_cases h : kk < ns.length
  · refine ifT (decide_eq_true (by rw [List.length_map]; omega)) ?_
    decreasing_trivial
    refine ⟨a, _, kk, .int ns[kk], rfl, rfl, ha, atI_nat (by rw [List.getElem?_map, List.getElem?_eq_getElem h]; rfl), ?_⟩
    exact .inl ⟨_, rfl, k _⟩
  · refine ifF (decide_eq_false (by rw [List.length_map]; omega)) ?_
    exact k 0
def spRich : Sp := fun vs H Q _ => ∃ (c k : Int), vs = [.int c, .int k] ∧ ∀ n : Int, Q (.int n) H
theorem ok_rich {f : Addr} {fd : FuncData} (T : Txt K mg A) (F : Fun K "_law_rich" "_law_rich" s__law_rich f fd) : FnOk P w K mg base CX0 1 f fd ["_law_cell_here", "_law_k"] spRich := by
  refine F.ok sc__law_rich (fun vs H Q E h => ?_) (fun cdv Ar outer s H vs Q E hr h => ?_)
  · obtain ⟨a, ns, rfl, _⟩ := h
    rfl
  obtain ⟨c, kk, rfl, k⟩ := h
  refine ⟨_, (pss_cons (ps_if (pt_cmpR op_ge (pv 0) (pe_op op_pow pe_int pe_int) (nomark _)) (pss_one (ps_ret (pe_callTy call_int1 (by rfl) T.z_int bt_int (pa_cons (pv 0) pa_nil)))) pss_nil)
      (pss_cons (ps_set (i := 2) sc__law_rich.nd rfl (Or.inl rfl) (pe_op op_mod (pe_callTy call_int1 (by rfl) T.z_int bt_int (pa_cons (pe_op op_add (pe_op op_add (pe_op op_mul (pv 0) pe_int) (pe_op op_mul (pv 1) pe_int)) pe_int) pa_nil)) pe_int))
      (pss_one (ps_ret (pe_op op_add (pe_op op_mul (pv 2) pe_int) (pe_op op_mod (pe_callTy call_int1 (by rfl) T.z_int bt_int (pa_cons (pe_op op_add (pe_op op_mul (pv 2) pe_int) (pv 0)) pa_nil)) pe_int)))))), ?_⟩
  refine ⟨_, rfl, _, _, rfl, rfl, ⟨by decide, by decide, by decide⟩, ?_⟩
  refine ⟨_, _, rfl, rfl, _, rfl, ?_⟩
  refine ite2 (fun _ => ?_) (fun _ => ?_)
  · refine ⟨_, rfl, .inl ⟨_, rfl, k _⟩⟩
  · refine ⟨_, rfl, _, _, rfl, rfl, .inr ⟨by decide, by decide⟩, ?_⟩
    refine ⟨_, rfl, _, _, rfl, rfl, .inr ⟨by decide, by decide⟩, ?_⟩
    refine ⟨_, _, rfl, rfl, ?_⟩
    refine ⟨_, _, rfl, rfl, ?_⟩
    refine .inl ⟨_, rfl, ?_⟩
    refine ⟨_, _, rfl, rfl, by show (0 : Int) < 2147483647; decide, ?_⟩
    decreasing_trivial
    refine ⟨.inr ⟨by decide, by decide⟩, ?_⟩
    decreasing_trivial
    refine ⟨.inr ⟨by decide, by decide⟩, ?_⟩
    decreasing_trivial
    refine .inl ⟨_, rfl, ?_⟩
    refine ⟨_, _, rfl, rfl, by show (0 : Int) < 2147483629; decide, ?_⟩
    decreasing_trivial
    exact k _
def kinds13 : List Kind := [.and, .or, .nand, .nor, .xor, .xnor, .not, .buf, .and, .or, .nand, .low, .high]
def spGate : Sp := fun vs H Q _ => ∃ (n : Int) (l : Addr) (ks : List Str) (nm : Str), vs = [.int n, .ref l, .str nm] ∧ H l = some (.lst (ks.map V.str)) ∧ ks ≠ [] ∧ (∀ s ∈ ks, PyData.strOk s = true) ∧ PyData.strOk nm = true ∧
  Ret (fun v H' => ∃ g, GateAt H' v g ∧ g.line = nm ∧ g.kind.arity g.pins.length = true ∧ ∀ p ∈ g.pins, p ∈ ks) H Q
def isNB : Kind → Bool
  | .not => true
  | .buf => true
  | _ => false
theorem in_nb (k : Kind) : inV (.str k.str) [.str "not", .str "buf"] = isNB k := by cases k <;> decide +kernel
theorem rdInL {K : PySem.W.Frag} {x : V} {H : Hp} {Q : VK} {xs : List V} {b : Bool} (hl : xs.length ≤ 1000) (hf : flatV x = true) (ha : xs.all flatV = true) (hb : inV x xs = b) (k : ∀ t, H t = none → Q (.bl b) (upd H t (.lst xs))) : xs.length ≤ sizeLine ∧ ∀ t, H t = none → rIn K false x (.ref t) (upd H t (.lst xs)) Q := by
  refine ⟨sz hl, fun t ht => ⟨t, xs, rfl, .inl (SqL.of upd_same), hf, ha, ?_⟩⟩
  rw [if_neg Bool.false_ne_true, hb]
  exact k t ht
theorem ok_law_gate {f : Addr} {fd : FuncData} (T : Txt K mg A) (F : Fun K "_law_gate" "_law_gate" s__law_gate f fd) : FnOk P w K mg base CX0 1 f fd ["_law_rich_here", "_law_known", "_law_name"] spGate := by
  refine F.ok sc__law_gate (fun vs H Q E h => ?_) (fun cdv Ar outer s H vs Q E hr h => ?_)
  · obtain ⟨n, l, ks, nm, rfl, _⟩ := h
    rfl
  obtain ⟨n, l, ks, nm, rfl, hl, hne, hks, hnm, k⟩ := h
  refine ⟨_, (pss_cons (ps_set (i := 3) sc__law_gate.nd rfl (Or.inl rfl) (pe_ix ix_list (pe_lst (pa_cons pe_str (pa_cons pe_str (pa_cons pe_str (pa_cons pe_str (pa_cons pe_str (pa_cons pe_str (pa_cons pe_str (pa_cons pe_str (pa_cons pe_str (pa_cons pe_str (pa_cons pe_str (pa_cons pe_str (pa_cons pe_str pa_nil)))))))))))))) (pe_op op_mod (pv 0) pe_int) (fun _ _ => rfl)))
      (pss_cons (ps_if (pt_cmpR op_in_seq (pv 3) (pe_lst (pa_cons pe_str (pa_cons pe_str pa_nil))) (by rfl)) (pss_one (ps_ret (pe_tup (pa_cons (pv 2) (pa_cons (pv 3) (pa_cons (pe_tup pa_nil) pa_nil)))))) pss_nil)
      (pss_cons (ps_set (i := 4) sc__law_gate.nd rfl (Or.inl rfl) (pe_ifExp (pt_cmpR op_in_seq (pv 3) (pe_lst (pa_cons pe_str (pa_cons pe_str pa_nil))) (by rfl)) pe_int (pe_ix ix_list (pe_lst (pa_cons pe_int (pa_cons pe_int (pa_cons pe_int (pa_cons pe_int (pa_cons pe_int (pa_cons pe_int pa_nil))))))) (pe_op op_mod (pe_op op_fdiv (pv 0) pe_int) pe_int) (fun _ _ => rfl))))
      (pss_cons (ps_set (i := 5) sc__law_gate.nd rfl (Or.inl rfl) (pe_lst pa_nil))
      (pss_cons (ps_for PassesOwn.never rfl (pi_range1 rfl T.z_range (pa_cons (pv 4) pa_nil)) (pg_name (i := 6) sc__law_gate.nd rfl (Or.inl rfl)) (pss_one (ps_expr (pe_bm PySem.F.plainAttrs_list PySem.F.slot_list_append PySem.F.type_list_append mt_append (pv 5) (pa_cons (pe_ix ix_list (pv 1) (pe_op op_mod (pe_op op_fdiv (pv 0) (pe_op op_add pe_int (pe_op op_mul pe_int (pv 6)))) (pe_callB call_len_seq (by rfl) T.z_len PySem.boot_len (pa_cons (pv 1) pa_nil))) (fun _ _ => rfl)) pa_nil)))))
      (pss_one (ps_ret (pe_tup (pa_cons (pv 2) (pa_cons (pv 3) (pa_cons (pe_callTy call_tuple_of (by rfl) T.z_tuple bt_tuple (pa_cons (pv 5) pa_nil)) pa_nil))))))))))), ?_⟩
  have hkl : 0 < ks.length := by cases ks with | nil => exact absurd rfl hne | cons _ _ => simp
  refine ⟨by show 13 ≤ sizeLine; decide, fun t0 ht0 => ?_⟩
  have s0 := same_new ht0 (.lst (kinds13.map fun k => V.str k.str))
  refine ⟨_, rfl, _, _, rfl, rfl, by show (0 : Int) < 13; decide, ?_⟩
  obtain ⟨j, kv, hkv, hat⟩ := at_mod (xs := kinds13.map fun k => V.str k.str) (n := n) (m := 13) rfl (by decide)
  rw [List.getElem?_map, Option.map_eq_some_iff] at hkv
  obtain ⟨kd, hkd, rfl⟩ := hkv
  refine ⟨t0, _, n % 13, .str kd.str, rfl, rfl, SqL.of upd_same, hat, ?_⟩
  refine ⟨_, rfl, rdInL (by show 2 ≤ 1000; decide) rfl rfl (in_const kd) fun t ht => ⟨_, rfl, ?_⟩⟩
  have s1 : Same H (upd (upd H t0 (.lst (kinds13.map fun k => V.str k.str))) t (.lst [.str "low", .str "high"])) := s0.trans (same_new ht _)
  cases hc : kd.const with
  | some b =>
    refine iteT ?_
    refine ⟨_, rfl, _, rfl, Nat.zero_le _, fun e he => ⟨by show 3 ≤ sizeLine; decide, fun t2 ht2 => ?_⟩⟩
    have s2 := (s1.trans (same_new he (.tup []))).trans (same_new ht2 (.tup [.str nm, .str kd.str, .ref e]))
    refine k.go s2 ⟨⟨nm, kd, []⟩, ⟨t2, e, rfl, upd_same, (same_new ht2 _) _ _ upd_same, fun z hz => ?_⟩, rfl, ?_, fun p hp => by cases hp⟩
    · rw [List.mem_singleton.mp hz]
      exact hnm
    · cases kd <;> first | rfl | (cases hc; done)
  | none =>
    refine iteF ?_
    refine tn ?_
    dsimp only
    refine asgCut (R := fun v H' => Same H H' ∧ ∃ c : Nat, v = .int c ∧ kd.arity c = true) (fun K hK => ?_) ?_
    · refine ⟨_, rfl, rdInL (by show 2 ≤ 1000; decide) rfl rfl (in_nb kd) fun t3 ht3 => ⟨_, rfl, ?_⟩⟩
      have s3 := s1.trans (same_new ht3 (.lst [.str "not", .str "buf"]))
      by_cases hnb : kd = .not ∨ kd = .buf
      · have e : isNB kd = true := by rcases hnb with rfl | rfl <;> rfl
        refine ifT e ?_
        exact hK _ _ ⟨s3, 1, rfl, by rcases hnb with rfl | rfl <;> rfl⟩
      · have e : isNB kd = false := by cases kd <;> first | rfl | exact absurd (.inl rfl) hnb | exact absurd (.inr rfl) hnb
        refine ifF e ?_
        refine ⟨by show 6 ≤ sizeLine; decide, fun t4 ht4 => ?_⟩
        refine ⟨_, rfl, _, _, rfl, rfl, ⟨by show (0 : Int) < 13; decide, by decide⟩, ?_⟩
        refine ⟨_, _, rfl, rfl, by show (0 : Int) < 6; decide, ?_⟩
        obtain ⟨j2, cv, hcv, hat2⟩ := at_mod (xs := [2, 2, 3, 1, 2, 4].map V.int) (n := n / 13) (m := 6) rfl (by decide)
        refine ⟨t4, _, n / 13 % 6, cv, rfl, rfl, SqL.of upd_same, hat2, ?_⟩
        refine hK _ _ ⟨s3.trans (same_new ht4 _), ?_⟩
        have har : ∀ c : Nat, 1 ≤ c → c ≤ 4 → kd.arity c = true := fun c h1 h2 => by
          cases kd <;> first | (cases hc; done) | exact absurd (.inl rfl) hnb | exact absurd (.inr rfl) hnb | (simp [Kind.arity]; omega)
        match j2, hcv with
        | 0, h => exact ⟨2, (Option.some.inj h).symm, har 2 (by decide) (by decide)⟩
        | 1, h => exact ⟨2, (Option.some.inj h).symm, har 2 (by decide) (by decide)⟩
        | 2, h => exact ⟨3, (Option.some.inj h).symm, har 3 (by decide) (by decide)⟩
        | 3, h => exact ⟨1, (Option.some.inj h).symm, har 1 (by decide) (by decide)⟩
        | 4, h => exact ⟨2, (Option.some.inj h).symm, har 2 (by decide) (by decide)⟩
        | 5, h => exact ⟨4, (Option.some.inj h).symm, har 4 (by decide) (by decide)⟩
    · rintro v H3 ⟨s3, c, rfl, har⟩
      have hc4 := arity_le har
      refine ⟨Nat.zero_le _, fun Pp hPp => ?_⟩
      have s4 := s3.trans (same_new hPp (.lst []))
      have hHP : H Pp = none := s3.free hPp
      have hlP : l ≠ Pp := ne_of_none (s3 _ _ hl) hPp
      refine ⟨_, rfl, _, rfl, by omega, by omega, ?_⟩
      refine for_it (walk_range (lo := 0) (n := c)) (fun i σ H' => (∃ x, σ = [some (.int n), some (.ref l), some (.str nm), some (.str kd.str), some (.int (c : Int)), some (.ref Pp), x]) ∧ Same H H' ∧ ∃ ps : List Str, H' Pp = some (.lst (ps.map V.str)) ∧ ps.length = i ∧ ∀ p ∈ ps, p ∈ ks) ⟨⟨_, rfl⟩, s4, [], upd_same, rfl, fun p hp => by cases hp⟩ (fun _ _ _ _ _ => trivial) ?_ ?_
      · rintro i x σ H5 H5' hi ⟨⟨x6, rfl⟩, s5, ps, hP5, hpl, hps⟩ ⟨rfl, rfl⟩
        decreasing_trivial
        refine ⟨.inl ⟨rfl, _, SqL.of hP5⟩, ?_⟩
        have hl5 := s5 _ _ hl
        refine ⟨_, rfl, _, rfl, _, rfl, _, _, rfl, rfl, .inl ⟨by decide, by decide⟩, ?_⟩
        refine ⟨_, _, rfl, rfl, _, _, rfl, rfl, ⟨by omega, by omega⟩, ?_⟩
        refine ⟨_, rfl, l, _, rfl, .inl (SqL.of hl5), ?_⟩
        refine ⟨_, _, rfl, rfl, by rw [List.length_map]; omega, ?_⟩
        obtain ⟨j, kv, hkv, hat⟩ := at_mod (xs := ks.map V.str) (n := n / (78 + 31 * (0 + (i : Int)))) (m := ((ks.map V.str).length : Int)) rfl (by rw [List.length_map]; exact hkl)
        rw [List.getElem?_map, Option.map_eq_some_iff] at hkv
        obtain ⟨ss, hss, rfl⟩ := hkv
        refine ⟨l, _, _, _, rfl, rfl, SqL.of hl5, hat, ?_⟩
        refine ⟨_, _, _, rfl, rfl, hP5, small1000 (by rw [List.length_map]; omega), ?_⟩
        refine ⟨⟨_, rfl⟩, Same.mut s5 hHP, ps ++ [ss], by rw [upd_same, List.map_append]; rfl, by rw [List.length_append, List.length_singleton, hpl], fun p hp => ?_⟩
        rcases List.mem_append.mp hp with h | h
        · exact hps p h
        · rw [List.mem_singleton.mp h]
          exact List.mem_of_getElem? hss
      · rintro σ H5 ⟨⟨x6, rfl⟩, s5, ps, hP5, hpl, hps⟩
        refine ⟨_, rfl, _, rfl, _, rfl, _, _, rfl, .inl ⟨SqL.of hP5, fun e he => ?_⟩⟩
        refine ⟨by show 3 ≤ sizeLine; decide, fun t2 ht2 => ?_⟩
        refine k.go ((s5.trans (same_new he _)).trans (same_new ht2 _)) ⟨⟨nm, kd, ps⟩, ⟨t2, e, rfl, upd_same, (same_new ht2 _) _ _ upd_same, fun z hz => ?_⟩, rfl, by rw [hpl]; exact har, hps⟩
        rcases List.mem_cons.mp hz with rfl | h
        · exact hnm
        · exact hks _ (hps _ h)
end
end Pw
namespace Pw
open PySem PySem.Spec PyProof.Rows L2
local macro_rules
  | `(tactic| decreasing_trivial) => `(tactic| repeat (first
    | refine ⟨_, rfl, ?_⟩
    | refine ⟨_, _, rfl, rfl, ?_⟩
    | refine ⟨rfl, ?_⟩
    | refine ⟨_, _, rfl, .inl (SqL.of (by assumption)), ?_⟩
    | refine ⟨_, _, rfl, .inr (SqT.of (by assumption)), ?_⟩
    | refine ⟨_, _, _, _, rfl, rfl, SqT.of (by assumption), rfl, ?_⟩
    | refine ⟨_, _, _, _, rfl, rfl, SqL.of (by assumption), rfl, ?_⟩
    | refine ⟨_, _, rfl, ?_⟩))
section
variable {P : Program} {w : World} {K : PySem.W.Frag} {mg : Str → Option Value} {base : Heap} {A : Ad}
def gname (k : Nat) : Str := ("g" : Str) ++ Str.ofString (toString (k : Int))
def full4 : List Str := ["a", "b", "c", "d"]
def full2 : List Str := ["q0", "q1"]
def fullN : List Str := full4 ++ full2 ++ (List.range 7).map gname
theorem fullN_nodup : fullN.Nodup := by decide +kernel
theorem fullN_ok : fullN.all nameOk = true := by decide +kernel
theorem g_len : ∀ i, i < 7 → ("g" : Str).length + (Str.ofString (toString ((i : Nat) : Int))).length ≤ 1000 := by decide +kernel
theorem part_sub {i j n : Nat} (hn : n ≤ 7) : (full4.take i ++ full2.take j ++ (List.range n).map gname).Sublist fullN :=
  List.Sublist.append (List.Sublist.append (List.take_sublist _ _) (List.take_sublist _ _)) (List.Sublist.map _ (List.range_sublist.mpr hn))
theorem part_ok {i j n : Nat} (hn : n ≤ 7) : ∀ s ∈ full4.take i ++ full2.take j ++ (List.range n).map gname, nameOk s = true := fun s hs => List.all_eq_true.mp fullN_ok s ((part_sub hn).subset hs)
theorem paired_choose {α β γ : Type} {Pq : α → γ → Prop} {F : β → γ → Prop} : ∀ {l : List α} {ys : List β}, Paired (fun i y => ∃ x, Pq i x ∧ F y x) l ys → ∃ xs, Paired F ys xs ∧ Paired Pq l xs
  | _, _, .nil => ⟨[], .nil, .nil⟩
  | _, _, .cons ⟨x, h1, h2⟩ r => let ⟨xs, a, b⟩ := paired_choose r; ⟨x :: xs, .cons h2 a, .cons h1 b⟩
theorem RegAt.keep {H H' : Hp} (s : Keep H H') {v : V} {g : Str × Str} : RegAt H v g → RegAt H' v g := fun ⟨a, e, h1⟩ => ⟨a, e, s.tup h1⟩
def PartsAt (H : Hp) (v : V) (C : Circ Str) : Prop := ∃ t l1 l2 l3 l4 vR vG, v = .ref t ∧ H t = some (.tup [.ref l1, .ref l2, .ref l3, .ref l4]) ∧ H l1 = some (.lst (C.ins.map V.str)) ∧ H l2 = some (.lst vR) ∧ Paired (RegAt H) vR C.regs ∧ H l3 = some (.lst vG) ∧ Paired (GateAt H) vG C.gates ∧ H l4 = some (.lst (C.outs.map V.str))
def spParts (K : PySem.W.Frag) : Sp := fun vs H Q _ => ∃ a ns, vs = [.ref a, .int 3] ∧ SqL K H a ((ns : List Int).map V.int) ∧ Ret (fun v H' => ∃ C, PartsAt H' v C ∧ Named C ∧ WF C ∧ C.gates ≠ []) H Q
theorem ok_parts {f : Addr} {fd : FuncData} (T : Txt K mg A) (c__law_cell : Cal P w K mg base 1 "_law_cell" (spCell K)) (c__law_rich : Cal P w K mg base 1 "_law_rich" spRich) (c__law_gate : Cal P w K mg base 1 "_law_gate" spGate) (F : Fun K "_law_parts" "_law_parts" s__law_parts f fd) :
    FnOk P w K mg base CX0 2 f fd ["_law_script", "_law_most"] (spParts K) := by
  refine F.ok sc__law_parts (fun vs H Q E h => ?_) (fun cdv Ar outer s H vs Q E hr h => ?_)
  · obtain ⟨a, ns, rfl, _⟩ := h
    rfl
  obtain ⟨a, ns, rfl, ha, k⟩ := h
  refine ⟨_, (pss_cons (ps_set (i := 2) sc__law_parts.nd rfl (Or.inl rfl) (pe_c c__law_cell hr (by omega) rfl (pa_cons (pv 0) (pa_cons pe_int pa_nil))))
      (pss_cons (ps_set (i := 3) sc__law_parts.nd rfl (Or.inl rfl) (pe_slice sl_list (pe_lst (pa_cons pe_str (pa_cons pe_str (pa_cons pe_str (pa_cons pe_str pa_nil))))) po_none (po_some (pe_op op_add pe_int (pe_op op_mod (pv 2) (pv 1))))))
      (pss_cons (ps_set (i := 4) sc__law_parts.nd rfl (Or.inr rfl) (pe_slice sl_list (pe_lst (pa_cons pe_str (pa_cons pe_str pa_nil))) po_none (po_some (pe_op op_mod (pe_op op_fdiv (pv 2) pe_int) pe_int))))
      (pss_cons (ps_set (i := 5) sc__law_parts.nd rfl (Or.inr rfl) (pe_op op_cat (pv 3) (pv 4)))
      (pss_cons (ps_set (i := 6) sc__law_parts.nd rfl (Or.inl rfl) (pe_lst pa_nil))
      (pss_cons (ps_for PassesOwn.never rfl (pi_range1 rfl T.z_range (pa_cons (pe_op op_add pe_int (pe_op op_mod (pe_op op_fdiv (pv 2) pe_int) pe_int)) pa_nil)) (pg_name (i := 7) sc__law_parts.nd rfl (Or.inl rfl)) (pss_cons (ps_expr (pe_bm PySem.F.plainAttrs_list PySem.F.slot_list_append PySem.F.type_list_append mt_append (pv 6) (pa_cons (pe_c c__law_gate hr (by omega) rfl (pa_cons (pe_c c__law_rich hr (by omega) rfl (pa_cons (pe_c c__law_cell hr (by omega) rfl (pa_cons (pv 0) (pa_cons (pe_op op_add pe_int (pv 7)) pa_nil))) (pa_cons (pv 7) pa_nil))) (pa_cons (pv 5) (pa_cons (pe_op op_add_str pe_str (pe_callTy call_str_int (by rfl) T.z_str bt_str (pa_cons (pv 7) pa_nil))) pa_nil)))) pa_nil)))
      (pss_one (ps_set (i := 5) sc__law_parts.nd rfl (Or.inr rfl) (pe_op op_cat (pv 5) (pe_lst (pa_cons (pe_op op_add_str pe_str (pe_callTy call_str_int (by rfl) T.z_str bt_str (pa_cons (pv 7) pa_nil))) pa_nil)))))))
      (pss_cons (ps_set (i := 8) sc__law_parts.nd rfl (Or.inr rfl) (pe_c c__law_rich hr (by omega) rfl (pa_cons (pe_c c__law_cell hr (by omega) rfl (pa_cons (pv 0) (pa_cons pe_int pa_nil))) (pa_cons pe_int pa_nil))))
      (pss_cons (ps_setLc (i := 9) (own := [("_law_k", 7)]) rfl sc__law_parts.nd rfl rfl (sw_true rfl rfl rfl (by decide +kernel)) (pi_range1 rfl T.z_range (pa_cons (pe_callB call_len_seq (by rfl) T.z_len PySem.boot_len (pa_cons (pv 4) pa_nil)) pa_nil)) (blkOk_by (own := [("_law_k", 7)]) (sc := defScope s__law_parts) (N := ["_law_script", "_law_most", "_law_cell_here", "_law_inputs", "_law_names", "_law_known", "_law_gates", "_law_k", "_law_rich_here", "_law_registers", "_law_outputs"]) (by decide +kernel)) (fun _ _ _ _ _ => (pg_name (i := 7) sc__law_parts.nd rfl (Or.inl rfl))) (fun _ _ _ _ _ => pts_nil) (fun _ _ _ _ _ => (pe_tup (pa_cons (pe_ix (ix_listB (K := K) rfl) (pv 4) (pv 7) (fun _ _ => rfl)) (pa_cons (pe_ix (ix_listB (K := K) rfl) (pv 5) (pe_op op_mod (pe_op op_fdiv (pv 8) (pe_op op_add pe_int (pv 7))) (pe_callB (call_len_seqB (K := K) rfl) (by rfl) T.z_len PySem.boot_len (pa_cons (pv 5) pa_nil))) (fun _ _ => rfl)) pa_nil)))))
      (pss_cons (ps_setLc (i := 10) (own := [("_law_k", 7)]) rfl sc__law_parts.nd rfl rfl (sw_true rfl rfl rfl (by decide +kernel)) (pi_range1 rfl T.z_range (pa_cons (pe_op op_add pe_int (pe_op op_mod (pv 8) pe_int)) pa_nil)) (blkOk_by (own := [("_law_k", 7)]) (sc := defScope s__law_parts) (N := ["_law_script", "_law_most", "_law_cell_here", "_law_inputs", "_law_names", "_law_known", "_law_gates", "_law_k", "_law_rich_here", "_law_registers", "_law_outputs"]) (by decide +kernel)) (fun _ _ _ _ _ => (pg_name (i := 7) sc__law_parts.nd rfl (Or.inl rfl))) (fun _ _ _ _ _ => pts_nil) (fun _ _ _ _ _ => (pe_ix (ix_listB (K := K) rfl) (pv 5) (pe_op op_sub (pe_op op_sub (pe_callB (call_len_seqB (K := K) rfl) (by rfl) T.z_len PySem.boot_len (pa_cons (pv 5) pa_nil)) pe_int) (pe_op op_mod (pe_op op_fdiv (pv 8) (pe_op op_add pe_int (pv 7))) (pe_callB (call_min2 rfl) (by rfl) T.z_min bt_min (pa_cons pe_int (pa_cons (pe_callB (call_len_seqB (K := K) rfl) (by rfl) T.z_len PySem.boot_len (pa_cons (pv 5) pa_nil)) pa_nil))))) (fun _ _ => rfl))))
      (pss_cons (ps_if (pt_cmpR op_eq (pe_op op_mod (pe_op op_fdiv (pv 2) pe_int) pe_int) pe_int (nomark _)) (pss_one (ps_set (i := 6) sc__law_parts.nd rfl (Or.inl rfl) (pe_revL (pv 6)))) pss_nil)
      (pss_one (ps_ret (pe_tup (pa_cons (pv 3) (pa_cons (pv 9) (pa_cons (pv 6) (pa_cons (pv 10) pa_nil))))))))))))))))), ?_⟩
  refine asgCut (R := fun v H' => Same H H' ∧ ∃ c : Int, v = .int c) (fun K' hK => ?_) ?_
  · refine ⟨_, rfl, a, ns, 0, rfl, ha, fun n => hK _ _ ⟨Same.refl _, n, rfl⟩⟩
  rintro v H0 ⟨s0, c, rfl⟩
  refine asgCut (R := fun v H1 => Same H0 H1 ∧ ∃ l1 i, v = .ref l1 ∧ 1 ≤ i ∧ i ≤ 3 ∧ H1 l1 = some (.lst ((full4.take i).map V.str))) (fun K' hK => ?_) ?_
  · refine ⟨by show 4 ≤ sizeLine; decide, fun t ht => ?_⟩
    decreasing_trivial
    refine ⟨by show (0 : Int) < 3; decide, ?_⟩
    decreasing_trivial
    have h1 := Int.emod_nonneg c (show (3 : Int) ≠ 0 by decide)
    have h2 := Int.emod_lt_of_pos c (show (0 : Int) < 3 by decide)
    obtain ⟨m, hm⟩ := Int.eq_ofNat_of_zero_le h1
    refine ⟨t, _, rfl, SqL.of upd_same, fun q hq => ?_⟩
    refine hK _ _ ⟨(same_new ht _).trans (same_new hq _), q, 1 + m, rfl, by omega, by omega, ?_⟩
    rw [upd_same]
    have e : cutV (full4.map V.str) none (some (1 + c % 3)) = (full4.take (1 + m)).map V.str := by
      rw [show (1 + c % 3 : Int) = ((1 + m : Nat) : Int) by omega, cut_to (by show 1 + m ≤ 4; omega), List.map_take]
    rw [← e]
    rfl
  rintro v H1 ⟨s1, l1, ni, rfl, hi1, hi3, hl1⟩
  refine asgCut (R := fun v H2 => Same H1 H2 ∧ ∃ l2 j, v = .ref l2 ∧ j ≤ 2 ∧ H2 l2 = some (.lst ((full2.take j).map V.str))) (fun K' hK => ?_) ?_
  · refine ⟨by show 2 ≤ sizeLine; decide, fun t ht => ?_⟩
    decreasing_trivial
    refine ⟨⟨by show (0 : Int) < 4; decide, by decide⟩, ?_⟩
    decreasing_trivial
    refine ⟨by show (0 : Int) < 3; decide, ?_⟩
    have h1 := Int.emod_nonneg (c / 4) (show (3 : Int) ≠ 0 by decide)
    have h2 := Int.emod_lt_of_pos (c / 4) (show (0 : Int) < 3 by decide)
    obtain ⟨m, hm⟩ := Int.eq_ofNat_of_zero_le h1
    refine ⟨_, rfl, t, _, rfl, SqL.of upd_same, fun q hq => ?_⟩
    refine hK _ _ ⟨(same_new ht _).trans (same_new hq _), q, m, rfl, by omega, ?_⟩
    rw [upd_same]
    have e : cutV (full2.map V.str) none (some (c / 4 % 3)) = (full2.take m).map V.str := by
      rw [hm, cut_to (by show m ≤ 2; omega), List.map_take]
    rw [← e]
    rfl
  rintro v H2 ⟨s2, l2, nj, rfl, hj2, hl2⟩
  have hsrcl : (full4.take ni ++ full2.take nj).length ≤ 6 := by
    rw [List.length_append, List.length_take, List.length_take]
    show min ni 4 + min nj 2 ≤ 6
    omega
  have hsrc1 : 1 ≤ (full4.take ni ++ full2.take nj).length := by
    rw [List.length_append, List.length_take]
    show 1 ≤ min ni 4 + _
    omega
  have hnjl : (full2.take nj).length = nj := by
    rw [List.length_take]
    show min nj 2 = nj
    omega
  generalize hsrc : full4.take ni ++ full2.take nj = src at hsrcl hsrc1
  refine asgCut (R := fun v H3 => Same H2 H3 ∧ ∃ l, v = .ref l ∧ H3 l = some (.lst (src.map V.str))) (fun K' hK => ?_) ?_
  · refine ⟨_, rfl, _, rfl, _, _, _, _, rfl, rfl, s2 _ _ hl1, hl2, ?_, fun q hq => ?_⟩
    · rw [← List.length_append, ← List.map_append, hsrc, List.length_map]
      exact sz (by omega)
    · refine hK _ _ ⟨same_new hq _, q, rfl, ?_⟩
      rw [upd_same, ← hsrc, List.map_append]
  rintro v H3 ⟨s3, lk0, rfl, hlk0⟩
  have s03 := ((s0.trans s1).trans s2).trans s3
  refine ⟨Nat.zero_le _, fun G hG => ?_⟩
  have s4 := s03.trans (same_new hG (.lst []))
  have hHG : H G = none := s03.free hG
  have hl14 := (same_new hG (.lst [])) _ _ (s3 _ _ (s2 _ _ hl1))
  have hl24 := (same_new hG (.lst [])) _ _ (s3 _ _ hl2)
  have hlk4 := (same_new hG (.lst [])) _ _ hlk0
  have hG4 := upd_same (H := H3) (a := G) (o := .lst [])
  have nG1 : l1 ≠ G := ne_of_none (s3 _ _ (s2 _ _ hl1)) hG
  have nG2 : l2 ≠ G := ne_of_none (s3 _ _ hl2) hG
  have n0 : lk0 ≠ G := ne_of_none hlk0 hG
  generalize upd H3 G (.lst []) = H4 at s4 hl14 hl24 hlk4 hG4 ⊢
  decreasing_trivial
  refine ⟨⟨by show (0 : Int) < 12; decide, by decide⟩, ?_⟩
  decreasing_trivial
  refine ⟨by show (0 : Int) < 7; decide, ?_⟩
  have hm1 := Int.emod_nonneg (c / 12) (show (7 : Int) ≠ 0 by decide)
  have hm2 := Int.emod_lt_of_pos (c / 12) (show (0 : Int) < 7 by decide)
  obtain ⟨m, hm⟩ := Int.eq_ofNat_of_zero_le hm1
  refine ⟨_, _, rfl, rfl, _, rfl, by omega, by omega, ?_⟩
  have hrn : (1 + c / 12 % 7 : Int).toNat = 1 + m := by omega
  rw [hrn]
  refine for_it (walk_range (lo := 0) (n := 1 + m)) (fun i σ H' => ∃ lk x7 x8 x9 x10 vg gs, σ = [some (.ref a), some (.int 3), some (.int c), some (.ref l1), some (.ref l2), some (.ref lk), some (.ref G), x7, x8, x9, x10] ∧ Same H H' ∧ H' l1 = some (.lst ((full4.take ni).map V.str)) ∧ H' l2 = some (.lst ((full2.take nj).map V.str)) ∧ lk ≠ G ∧ H' lk = some (.lst ((src ++ (List.range i).map gname).map V.str)) ∧ H' G = some (.lst vg) ∧ Paired (GateAt H') vg gs ∧ (gs : List (Gate Str)).map (·.line) = (List.range i).map gname ∧ Topo src gs ∧ ∀ g ∈ gs, g.kind.arity g.pins.length = true)
    ?_ (fun _ _ _ _ _ => trivial) ?_ ?_
  · exact ⟨lk0, _, _, _, _, [], [], rfl, s4, hl14, hl24, n0, by simpa using hlk4, hG4, .nil, rfl, trivial, fun g hg => by cases hg⟩
  · rintro i x σ H5 H5' hi ⟨lk, x7, x8, x9, x10, vg, gs, rfl, s5, hl15, hl25, hnk, hlk5, hG5, hpg, hgl, htp, har⟩ ⟨rfl, rfl⟩
    have hgsl : gs.length = i := by
      have := congrArg List.length hgl
      rw [List.length_map, List.length_map, List.length_range] at this
      exact this
    have hokn : ∀ s ∈ src ++ (List.range i).map gname, nameOk s = true := by rw [← hsrc]; exact part_ok (by omega)
    have hgi := g_len i (by omega)
    have hlog : ((0 : Int) + (i : Int)).natAbs.log2 < 1920 := by
      rw [Int.zero_add]
      exact Nat.lt_of_le_of_lt (Nat.log2_le_self _) (by show ((i : Int)).natAbs < 1920; omega)
    have hgn : nameOk (gname i) = true := List.all_eq_true.mp fullN_ok _ (List.mem_append_right _ (List.mem_map.mpr ⟨i, List.mem_range.mpr (by omega), rfl⟩))
    decreasing_trivial
    refine ⟨.inl ⟨rfl, _, SqL.of hG5⟩, ?_⟩
    decreasing_trivial
    refine ⟨a, ns, 1 + i, by show [V.ref a, V.int (1 + (0 + (i : Int)))] = _; rw [show (1 + (0 + (i : Int))) = ((1 + i : Nat) : Int) by omega], s5.seq ha, fun n1 => ?_⟩
    decreasing_trivial
    refine fun n2 => ?_
    refine ⟨_, rfl, _, rfl, _, rfl, hlog, ?_⟩
    rw [Int.zero_add]
    refine ⟨_, _, rfl, rfl, sz (by exact hgi), ?_⟩
    refine ⟨n2, lk, src ++ (List.range i).map gname, gname i, rfl, hlk5, fun e => by
      have := congrArg List.length e
      rw [List.length_append, List.length_nil] at this
      omega, fun s hs => strOk_of (hokn s hs), strOk_of hgn, ?_⟩
    rintro vg' H6 s6 ⟨g, hga, hgl2, hga2, hgp⟩
    have hG6 := s6 _ _ hG5
    have hvl := hpg.length
    refine ⟨_, _, _, rfl, rfl, hG6, small1000 (by omega), ?_⟩
    have kp : Keep H6 (upd H6 G (.lst (vg ++ [vg']))) := keep_lst hG6
    have hlk6 : (upd H6 G (.lst (vg ++ [vg']))) lk = some (.lst ((src ++ (List.range i).map gname).map V.str)) := by rw [upd_ne hnk]; exact s6 _ _ hlk5
    have s7 : Same H (upd H6 G (.lst (vg ++ [vg']))) := Same.mut (s5.trans s6) hHG
    refine ⟨_, rfl, _, rfl, _, rfl, hlog, ?_⟩
    rw [Int.zero_add]
    refine ⟨_, _, rfl, rfl, sz (by exact hgi), ?_⟩
    refine ⟨by show 1 ≤ sizeLine; decide, fun t ht => ?_⟩
    have hlk7 := (same_new ht (.lst [V.str (gname i)])) _ _ hlk6
    refine ⟨_, _, _, _, rfl, rfl, hlk7, upd_same, ?_, fun q hq => ?_⟩
    · rw [List.length_map, List.length_append, List.length_map, List.length_range]
      exact sz2 (by show src.length + i + 1 ≤ 1000; omega)
    · have s8 := (same_new ht (.lst [V.str (gname i)])).trans (same_new hq (.lst ((src ++ (List.range i).map gname).map V.str ++ [V.str (gname i)])))
      have hGu := upd_same (H := H6) (a := G) (o := .lst (vg ++ [vg']))
      have hqG : q ≠ G := fun e => by
        rw [e] at hq
        have := hq.symm.trans ((same_new ht (.lst [V.str (gname i)])) _ _ hGu)
        cases this
      refine ⟨q, _, _, _, _, vg ++ [vg'], gs ++ [g], rfl, s7.trans s8, s8 _ _ (by rw [upd_ne nG1]; exact s6 _ _ hl15), s8 _ _ (by rw [upd_ne nG2]; exact s6 _ _ hl25), hqG, ?_, s8 _ _ hGu, ?_, ?_, topo_snoc htp (by rw [hgl]; exact hgp), ?_⟩
      · rw [upd_same]
        show some (HO.lst ((src ++ (List.range i).map gname).map V.str ++ [V.str (gname i)])) = _
        rw [List.range_succ, List.map_append, List.map_append, List.map_append]
        simp
      · exact ((L2.Paired.mapP hpg fun _ _ z => ((z.mono s6).keep kp).mono s8).snoc ((hga.keep kp).mono s8))
      · rw [List.map_append, hgl, List.range_succ, List.map_append]
        simp [hgl2]
      · intro g' hg'
        rcases List.mem_append.mp hg' with h | h
        · exact har g' h
        · rw [List.mem_singleton.mp h]
          exact hga2
  · rintro σ H5 ⟨lk, x7, x8, x9, x10, vg, gs, rfl, s5, hl15, hl25, hnk, hlk5, hG5, hpg, hgl, htp, har⟩
    dsimp only
    generalize hkn : src ++ (List.range (1 + m)).map gname = kn at hlk5
    have hknl : kn.length = src.length + (1 + m) := by rw [← hkn, List.length_append, List.length_map, List.length_range]
    refine asgCut (R := fun v H6 => Same H5 H6 ∧ ∃ n : Int, v = .int n) (fun K' hK => ?_) ?_
    · decreasing_trivial
      refine ⟨a, ns, 8, rfl, s5.seq ha, fun n1 => ?_⟩
      decreasing_trivial
      exact fun n => hK _ _ ⟨Same.refl _, n, rfl⟩
    rintro v H6 ⟨s6, rn, rfl⟩
    have hlk6 := s6 _ _ hlk5
    have hl26 := s6 _ _ hl25
    refine asgCut (R := fun v H7 => Same H6 H7 ∧ ∃ l vR regs, v = .ref l ∧ H7 l = some (.lst vR) ∧ Paired (RegAt H7) vR regs ∧ (regs : List (Str × Str)).map (·.1) = full2.take nj ∧ ∀ r ∈ regs, r.2 ∈ kn) (fun K' hK => ?_) ?_
    · decreasing_trivial
      refine ⟨by rw [List.length_map]; omega, by rw [List.length_map]; omega, fun L hL => ?_⟩
      refine lcR (n := nj) (by rw [List.length_map, hnjl]; exact walk_range) (fun i y H => ∃ r : Str × Str, ((full2.take nj)[i]? = some r.1 ∧ r.2 ∈ kn) ∧ RegAt H y r) (fun i y H H' kp ⟨r, e, q⟩ => ⟨r, e, q.keep kp⟩) (by omega) hL (fun _ _ => trivial) ?_ ?_
      · rintro i x H8 H9 hi ss ⟨rfl, rfl⟩ kk hk
        have hl28 := ss _ _ hl26
        have hlk8 := ss _ _ hlk6
        have enm : (full2.take nj)[i]? = some ((full2.take nj)[i]'(by omega)) := List.getElem?_eq_getElem _
        generalize (full2.take nj)[i]'(by omega) = nm at enm
        obtain ⟨j, kv, hkv, hat⟩ := at_mod (xs := kn.map V.str) (n := rn / (3 + (0 + (i : Int)))) (m := ((kn.map V.str).length : Int)) rfl (by rw [List.length_map]; omega)
        rw [List.getElem?_map, Option.map_eq_some_iff] at hkv
        obtain ⟨z, hz, rfl⟩ := hkv
        refine ⟨rfl, ?_⟩
        decreasing_trivial
        refine ⟨l2, _, 0 + (i : Int), .str nm, rfl, rfl, SqL.of hl28, by rw [Int.zero_add]; exact atI_nat (by rw [List.getElem?_map, enm]; rfl), ?_⟩
        decreasing_trivial
        refine ⟨⟨by omega, by omega⟩, ?_⟩
        decreasing_trivial
        refine ⟨by rw [List.length_map]; omega, ?_⟩
        refine ⟨lk, _, _, _, rfl, rfl, SqL.of hlk8, hat, ?_⟩
        refine ⟨by show 2 ≤ sizeLine; decide, fun t ht => ?_⟩
        exact hk _ _ (same_new ht _) ⟨(nm, z), ⟨enm, List.mem_of_getElem? hz⟩, t, rfl, upd_same⟩
      · intro H8 ys ss hL8 hy
        obtain ⟨regs, q1, q2⟩ := paired_choose hy
        refine hK _ _ ⟨ss, L, ys, regs, rfl, hL8, q1, ?_, fun r hr => ?_⟩
        · apply List.ext_getElem?
          intro i
          have hql := q2.length
          rw [List.length_range] at hql
          by_cases hi : i < nj
          · obtain ⟨r, hr, e, _⟩ := Paired.at q2 (List.getElem?_range hi)
            rw [List.getElem?_map, hr, e]
            rfl
          · rw [List.getElem?_eq_none (by rw [List.length_map]; omega), List.getElem?_eq_none (by omega)]
        · obtain ⟨i, hi, e⟩ := List.mem_iff_getElem.mp hr
          obtain ⟨_, _, q⟩ := Paired.at' q2 (i := i) (b := r) (by rw [List.getElem?_eq_getElem hi, e])
          exact q.2
    rintro v H7 ⟨s7, lR, vR, regs, rfl, hlR, hpR, hrf, hrs⟩
    have hlk7 := s7 _ _ hlk6
    refine asgCut (R := fun v H8 => Same H7 H8 ∧ ∃ l outs, v = .ref l ∧ H8 l = some (.lst ((outs : List Str).map V.str)) ∧ outs.length ≤ 3 ∧ ∀ r ∈ outs, r ∈ kn) (fun K' hK => ?_) ?_
    · decreasing_trivial
      refine ⟨by show (0 : Int) < 3; decide, ?_⟩
      have hn1 := Int.emod_nonneg rn (show (3 : Int) ≠ 0 by decide)
      have hn2 := Int.emod_lt_of_pos rn (show (0 : Int) < 3 by decide)
      obtain ⟨m3, hm3⟩ := Int.eq_ofNat_of_zero_le hn1
      refine ⟨_, _, rfl, rfl, _, rfl, by omega, by omega, fun L hL => ?_⟩
      have hrn3 : (1 + rn % 3 : Int).toNat = 1 + m3 := by omega
      rw [hrn3]
      refine lcR (n := 1 + m3) walk_range (fun i y H => ∃ z : Str, z ∈ kn ∧ y = .str z) (fun i y H H' kp q => q) (by omega) hL (fun _ _ => trivial) ?_ ?_
      · rintro i x H8 H9 hi ss ⟨rfl, rfl⟩ kk hk
        have hlk8 := ss _ _ hlk7
        refine ⟨rfl, ?_⟩
        refine ⟨_, rfl, _, rfl, lk, _, rfl, .inl (SqL.of hlk8), ?_⟩
        refine ⟨_, _, rfl, rfl, ?_⟩
        refine ⟨_, rfl, _, rfl, _, _, rfl, rfl, ?_⟩
        refine ⟨_, _, rfl, rfl, ⟨by omega, by omega⟩, ?_⟩
        refine ⟨_, rfl, lk, _, rfl, .inl (SqL.of hlk8), ?_⟩
        refine ⟨_, _, rfl, ?_⟩
        generalize hq : rn / (7 + (0 + (i : Int))) = qn
        have hmn : ∃ mm : Int, (if (((kn.map V.str).length : Nat) : Int) < 4 then (((kn.map V.str).length : Nat) : Int) else 4) = mm ∧ 0 < mm ∧ mm ≤ kn.length := by
          refine ⟨_, rfl, ?_⟩
          rw [List.length_map]
          split <;> constructor <;> omega
        obtain ⟨mm, hmm, hm0, hml⟩ := hmn
        rw [hmm]
        refine ⟨_, _, rfl, rfl, hm0, ?_⟩
        have hq1 := Int.emod_nonneg qn (Int.ne_of_gt hm0)
        have hq2 := Int.emod_lt_of_pos qn hm0
        refine ⟨_, _, rfl, rfl, ?_⟩
        obtain ⟨jj, hjj⟩ := Int.eq_ofNat_of_zero_le (show (0 : Int) ≤ (kn.length : Int) - 1 - qn % mm by omega)
        have hjl : jj < kn.length := by omega
        refine ⟨lk, _, _, .str kn[jj], rfl, rfl, SqL.of hlk8, by rw [List.length_map, hq, hjj]; exact atI_nat (by rw [List.getElem?_map, List.getElem?_eq_getElem hjl]; rfl), ?_⟩
        exact hk _ _ (Same.refl _) ⟨_, List.getElem_mem hjl, rfl⟩
      · intro H8 ys ss hL8 hy
        obtain ⟨outs, q1, q2⟩ := paired_choose (Pq := fun _ z => z ∈ kn) (F := fun y z => y = V.str z) hy
        rw [vals_eq q1] at hL8
        have hql := q2.length
        rw [List.length_range] at hql
        refine hK _ _ ⟨ss, L, outs, rfl, hL8, by omega, fun r hr => ?_⟩
        obtain ⟨i, hi, e⟩ := List.mem_iff_getElem.mp hr
        obtain ⟨_, _, q⟩ := Paired.at' q2 (i := i) (b := r) (by rw [List.getElem?_eq_getElem hi, e])
        exact q
    rintro v H8 ⟨s8, lO, outs, rfl, hlO, hol, hos⟩
    have s58 := (s6.trans s7).trans s8
    have hG8 := s58 _ _ hG5
    have hpg8 : Paired (GateAt H8) vg gs := gates_mono s58 hpg
    have hlR8 := s8 _ _ hlR
    have hpR8 := regs_mono s8 hpR
    have hl18 := s58 _ _ hl15
    -- the circuit
    have fin : ∀ (H9 : Hp) (lG : Addr) (vG : List V) (gg : List (Gate Str)), Same H8 H9 → H9 lG = some (.lst vG) → Paired (GateAt H9) vG gg → gs.Perm gg → ∀ t, H9 t = none → Q (.ref t) (upd H9 t (.tup [.ref l1, .ref lR, .ref lG, .ref lO])) := by
      intro H9 lG vG gg s9 hlG hpG hperm t ht
      have sT := same_new ht (.tup [.ref l1, .ref lR, .ref lG, .ref lO])
      have s9T := s9.trans sT
      refine k.go ((s5.trans s58).trans s9T) ⟨⟨full4.take ni, regs, gg, outs, gs⟩, ⟨t, l1, lR, lG, lO, vR, vG, rfl, upd_same, s9T _ _ hl18, s9T _ _ hlR8, regs_mono s9T hpR8, sT _ _ hlG, gates_mono sT hpG, s9T _ _ hlO⟩, ?_, ?_, ?_⟩
      · have hsrcC : (⟨full4.take ni, regs, gg, outs, gs⟩ : Circ Str).sources = src := by
          show full4.take ni ++ regs.map (·.1) = src
          rw [hrf, hsrc]
        have hlin : ∀ x, x ∈ (⟨full4.take ni, regs, gg, outs, gs⟩ : Circ Str).lines ↔ x ∈ kn := fun x => by
          unfold Circ.lines
          rw [hsrcC, ← hkn, ← hgl]
          exact (List.Perm.append_left _ (hperm.symm.map _)).mem_iff
        have hokk : ∀ s ∈ kn, nameOk s = true := by rw [← hkn, ← hsrc]; exact part_ok (by omega)
        refine ⟨fun l hl => hokk l ((hlin l).mp hl), fun l hl => hokk l ?_⟩
        rcases List.mem_append.mp hl with h | h
        · rcases List.mem_append.mp h with h | h
          · obtain ⟨g, hg, hp⟩ := List.mem_flatMap.mp h
            have := topo_pins gs src htp g (hperm.mem_iff.mpr hg) l hp
            rw [hgl, hkn] at this
            exact this
          · obtain ⟨r, hr, rfl⟩ := List.mem_map.mp h
            exact hrs r hr
        · exact hos l h
      · have hsrcC : (⟨full4.take ni, regs, gg, outs, gs⟩ : Circ Str).sources = src := by
          show full4.take ni ++ regs.map (·.1) = src
          rw [hrf, hsrc]
        have hrl : regs.length = nj := by rw [← hnjl, ← hrf, List.length_map]
        refine ⟨?_, by rw [hsrcC]; exact htp, hperm, fun g hg => har g (hperm.mem_iff.mpr hg), fun l hl => ?_, by rw [hsrcC]; exact hsrcl, ?_, ?_⟩
        · have hnd : (src ++ gs.map (·.line)).Nodup := by
            rw [hgl, ← hsrc]
            exact List.Nodup.sublist (part_sub (by omega)) fullN_nodup
          unfold Circ.lines
          rw [hsrcC]
          exact (List.Perm.append_left _ (hperm.map _)).nodup_iff.mp hnd
        · have hlin : ∀ x, x ∈ (⟨full4.take ni, regs, gg, outs, gs⟩ : Circ Str).lines ↔ x ∈ kn := fun x => by
            unfold Circ.lines
            rw [hsrcC, ← hkn, ← hgl]
            exact (List.Perm.append_left _ (hperm.symm.map _)).mem_iff
          refine (hlin l).mpr ?_
          rcases List.mem_append.mp hl with h | h
          · exact hos l h
          · obtain ⟨r, hr, rfl⟩ := List.mem_map.mp h
            exact hrs r hr
        · show gg.length ≤ 7
          rw [← hperm.length_eq]
          have := congrArg List.length hgl
          rw [List.length_map, List.length_map, List.length_range] at this
          omega
        · show (outs ++ regs.map (·.2)).length ≤ 6
          rw [List.length_append, List.length_map, hrl]
          omega
      · intro e
        have e : gg = [] := e
        have := hperm.length_eq
        rw [e] at this
        have h2 := congrArg List.length hgl
        rw [List.length_map, List.length_map, List.length_range, this] at h2
        simp at h2
        omega
    decreasing_trivial
    refine ⟨⟨by show (0 : Int) < 84; decide, by decide⟩, ?_⟩
    decreasing_trivial
    refine ⟨by show (0 : Int) < 2; decide, ?_⟩
    refine ⟨rfl, _, rfl, ?_⟩
    refine ite2 (fun _ => ?_) (fun _ => ?_)
    · refine ⟨_, rfl, G, _, rfl, SqL.of hG8, fun q hq => ?_⟩
      have sq := same_new hq (.lst vg.reverse)
      decreasing_trivial
      refine ⟨by show 4 ≤ sizeLine; decide, fun t ht => ?_⟩
      exact fin _ q _ gs.reverse sq upd_same (gates_mono sq (Paired.rev hpg8)) (List.reverse_perm gs).symm t ht
    · decreasing_trivial
      refine ⟨by show 4 ≤ sizeLine; decide, fun t ht => ?_⟩
      exact fin _ G vg gs (Same.refl _) hG8 hpg8 (List.Perm.refl _) t ht
end
end Pw
namespace Pw
open PySem PySem.Spec PyProof.Rows L2
local macro_rules
  | `(tactic| decreasing_trivial) => `(tactic| repeat (first
    | refine ⟨_, rfl, ?_⟩
    | refine ⟨_, _, rfl, rfl, ?_⟩
    | refine ⟨rfl, ?_⟩
    | refine ⟨_, _, rfl, .inl (SqL.of (by assumption)), ?_⟩
    | refine ⟨_, _, rfl, .inr (SqT.of (by assumption)), ?_⟩
    | refine ⟨_, _, _, _, rfl, rfl, SqT.of (by assumption), rfl, ?_⟩
    | refine ⟨_, _, _, _, rfl, rfl, SqL.of (by assumption), rfl, ?_⟩
    | refine ⟨_, _, rfl, ?_⟩))
theorem cps_ext {a b : Str} (h : a.cps.toList = b.cps.toList) : a = b := by
  obtain ⟨⟨x⟩⟩ := a
  obtain ⟨⟨y⟩⟩ := b
  have h : x = y := h
  rw [h]
theorem nlt_trans : ∀ {a b c : List Nat}, ltCps b a = false → ltCps c b = false → ltCps c a = false
  | _, _, [], h1, h2 => by
    rename_i a b
    cases a with
    | nil => rfl
    | cons x r => cases b with
      | nil => cases h1
      | cons y t => cases h2
  | [], _, _ :: _, _, _ => rfl
  | _ :: _, [], _ :: _, h1, h2 => by cases h1
  | x :: r, y :: t, z :: u, h1, h2 => by
    have h1 : (decide (y < x) || (y == x && ltCps t r)) = false := h1
    have h2 : (decide (z < y) || (z == y && ltCps u t)) = false := h2
    show (decide (z < x) || (z == x && ltCps u r)) = false
    rw [Bool.or_eq_false_iff, decide_eq_false_iff_not] at h1 h2 ⊢
    refine ⟨by omega, ?_⟩
    by_cases e : z = x
    · subst e
      have e2 : y = z := by omega
      subst e2
      have q1 : ltCps t r = false := by simpa using h1.2
      have q2 : ltCps u t = false := by simpa using h2.2
      simp [nlt_trans q1 q2]
    · simp [e]
theorem nlt_total : ∀ {a b : List Nat}, ltCps b a = false → a ≠ b → ltCps a b = true
  | [], [], _, h => absurd rfl h
  | [], _ :: _, _, _ => rfl
  | _ :: _, [], h, _ => by cases h
  | x :: r, y :: t, h1, hne => by
    have h1 : (decide (y < x) || (y == x && ltCps t r)) = false := h1
    show (decide (x < y) || (x == y && ltCps r t)) = true
    rw [Bool.or_eq_false_iff, decide_eq_false_iff_not] at h1
    by_cases e : x = y
    · subst e
      have q1 : ltCps t r = false := by simpa using h1.2
      have : r ≠ t := fun q => hne (by rw [q])
      simp [nlt_total q1 this]
    · have : x < y := by omega
      simp [this]
theorem rising_all : ∀ {l : List Str} {p : Str}, risingS p l = true → ∀ x ∈ l, ltCps x.cps.toList p.cps.toList = false
  | [], _, _, x, h => by cases h
  | a :: r, p, hr, x, hx => by
    have hr : (!ltCps a.cps.toList p.cps.toList && risingS a r) = true := hr
    rw [Bool.and_eq_true] at hr
    have h1 : ltCps a.cps.toList p.cps.toList = false := by simpa using hr.1
    rcases List.mem_cons.mp hx with rfl | hx
    · exact h1
    · exact nlt_trans h1 (rising_all hr.2 x hx)
theorem sorted_at : ∀ {l : List Str} {i j : Nat} {x y : Str}, sortedS l = true → l.Nodup → i < j → l[i]? = some x → l[j]? = some y → ltCps x.cps.toList y.cps.toList = true
  | [], _, _, _, _, _, _, _, h, _ => by simp at h
  | a :: r, 0, j + 1, x, y, hs, hn, _, hx, hy => by
    have e : a = x := by simpa using hx
    subst e
    have hy : y ∈ r := List.mem_of_getElem? (by simpa using hy)
    refine nlt_total (rising_all hs y hy) fun q => ?_
    have := cps_ext q
    subst this
    exact (List.nodup_cons.mp hn).1 hy
  | a :: r, i + 1, j + 1, x, y, hs, hn, hij, hx, hy => by
    have hs' : sortedS r = true := by
      cases r with
      | nil => rfl
      | cons b t =>
        have hs : (!ltCps b.cps.toList a.cps.toList && risingS b t) = true := hs
        rw [Bool.and_eq_true] at hs
        exact hs.2
    exact sorted_at (i := i) (j := j) hs' (List.nodup_cons.mp hn).2 (by omega) (by simpa using hx) (by simpa using hy)
section
variable {J : It} {n : Nat} {G : Hp → Prop} {Y : Nat → Hp → V → Hp → Prop}
/-- {k: e for x in w}: the elements may be dicts, but not this one -/
theorem dcD (w : Walk J n G Y) {g : TG} {tk tv : TE} {vs : List Nat} {σ : L2.St} {H1 : Hp} {D : Addr} {Qd : Hp → Prop} (key : Nat → Str) (R : Nat → V → Hp → Prop) (mono : ∀ i y H H', But D H H' → R i y H → R i y H') (hn : n ≤ 1000) (hD : H1 D = none)
    (hG : ∀ H', Same H1 H' → G H')
    (hs : ∀ i x H H', i < n → Same H1 H → (∃ o, H D = some o) → Y i H x H' → ∀ (k : V → V → Hp → Prop), (∀ y H4, Same H H4 → R i y H4 → k (.str (key i)) y H4) → g x (wipe σ vs) H' fun σ2 H2 => wipe σ2 vs = wipe σ vs ∧ tk σ2 H2 fun z H3 => tv σ2 H3 fun y H4 => k z y H4)
    (hd : ∀ H' kvs, Same H1 H' → H' D = some (.dK kvs) → kvs.length ≤ n → (∀ l, (∃ i, i < n ∧ key i = l ∧ ∃ y, valV kvs (Sum.inr l) = some y ∧ R i y H') ∨ ((∀ i, i < n → key i ≠ l) ∧ valV kvs (Sum.inr l) = none)) → Qd H') :
    ∃ W : Nat → Nat → Hp → Prop, (∃ m, W 0 m (upd H1 D (.dK []))) ∧ ∀ i m H, W i m H →
      (J.stop i H ∧ Qd H) ∨ (J.go i H ∧ ∃ Nx : Hp → Prop, (∀ H', Nx H' → ∃ m', m' < m ∧ W (i + 1) m' H') ∧ ∀ x H', J.yld i H x H' → g x (wipe σ vs) H' fun σ2 H2 => wipe σ2 vs = wipe σ vs ∧ tYes σ2 H2 fun b H3 =>
        if b = true then tk σ2 H3 fun y H4 => tv σ2 H4 fun z H5 => ∃ kvs k, y = kV k ∧ H5 D = some (.dK kvs) ∧ kvs.length < sizeLine ∧ Nx (upd H5 D (.dK (putK kvs k z))) else Nx H3) := by
  refine dc_it w (fun i H => Same H1 H ∧ i ≤ n ∧ ∃ kvs, H D = some (.dK kvs) ∧ kvs.length ≤ i ∧ ∀ l, (∃ j, j < i ∧ key j = l ∧ ∃ y, valV kvs (Sum.inr l) = some y ∧ R j y H) ∨ ((∀ j, j < i → key j ≠ l) ∧ valV kvs (Sum.inr l) = none))
    ⟨same_new hD _, Nat.zero_le _, [], upd_same, Nat.zero_le _, fun l => .inr ⟨fun j h => absurd h (Nat.not_lt_zero _), rfl⟩⟩ (fun i H _ q => hG H q.1) ?_ fun H ⟨s, _, kvs, h1, h2, h3⟩ => hd H kvs s h1 h2 h3
  rintro i x H H' hi ⟨s, hi', kvs, h1, h2, h3⟩ hY
  refine hs i x H H' hi s ⟨_, h1⟩ hY _ fun y H4 s4 r => ⟨kvs, Sum.inr (key i), rfl, s4 _ _ h1, small1000 (by omega), Same.mut (s.trans s4) hD, hi, putK kvs (Sum.inr (key i)) y, upd_same, ?_, fun l => ?_⟩
  · have := length_putK kvs (Sum.inr (key i)) y
    omega
  · have kp : But D H4 (upd H4 D (.dK (putK kvs (Sum.inr (key i)) y))) := but_upd
    rw [valV_put]
    by_cases e : l = key i
    · subst e
      rw [if_pos rfl]
      exact .inl ⟨i, Nat.lt_succ_self i, rfl, y, rfl, mono i y _ _ kp r⟩
    · rw [if_neg fun q => e (Sum.inr.inj q)]
      rcases h3 l with ⟨j, hj, hk, z, hz, hr⟩ | ⟨hj, hz⟩
      · exact .inl ⟨j, Nat.lt_succ_of_lt hj, hk, z, hz, mono j z _ _ kp (mono j z _ _ s4.but hr)⟩
      · refine .inr ⟨fun j h => ?_, hz⟩
        rcases Nat.lt_succ_iff_lt_or_eq.mp h with h | h
        · exact hj j h
        · rw [h]
          exact fun q => e q.symm
end
section
variable {P : Program} {w : World} {K : PySem.W.Frag} {mg : Str → Option Value} {base : Heap} {A : Ad}
def spLCirc (A : Ad) (K : PySem.W.Frag) : Sp := fun vs H Q _ => ∃ a ns, vs = [.ref a, .int 3] ∧ SqL K H a ((ns : List Int).map V.int) ∧ Ret (fun v H' => ∃ C, CircAt A H' v C ∧ WF C ∧ Named C ∧ C.gates ≠ []) H Q
theorem ok_law_circuit {f : Addr} {fd : FuncData} (T : Txt K mg A) (c__law_parts : Cal P w K mg base 2 "_law_parts" (spParts K)) (c_Circuit : Mak P w K mg base 4 "Circuit" A.CC (spInit A)) (F : Fun K "_law_circuit" "_law_circuit" s__law_circuit f fd) : FnOk P w K mg base CX0 6 f fd ["_law_script", "_law_most"] (spLCirc A K) := by
  refine F.ok sc__law_circuit (fun vs H Q E h => ?_) (fun cdv Ar outer s H vs Q E hr h => ?_)
  · obtain ⟨a, ns, rfl, _⟩ := h
    rfl
  obtain ⟨a, ns, rfl, ha, k⟩ := h
  refine ⟨_, (pss_cons (ps_asg (pe_c c__law_parts hr (by omega) rfl (pa_cons (pv 0) (pa_cons (pv 1) pa_nil))) (pg_tup rfl (pgs_cons (pg_name (i := 2) sc__law_circuit.nd rfl (Or.inl rfl)) (pgs_cons (pg_name (i := 3) sc__law_circuit.nd rfl (Or.inl rfl)) (pgs_cons (pg_name (i := 4) sc__law_circuit.nd rfl (Or.inl rfl)) (pgs_cons (pg_name (i := 5) sc__law_circuit.nd rfl (Or.inl rfl)) pgs_nil))))))
      (pss_one (ps_ret (pe_mk c_Circuit hr (by omega) rfl (pa_cons (pv 2) (pa_cons (pv 3) (pa_cons (pv 4) (pa_cons (pv 5) pa_nil)))))))), ?_⟩
  refine ⟨_, rfl, _, rfl, a, ns, rfl, ha, ?_⟩
  rintro v H1 s1 ⟨C, ⟨t, l1, l2, l3, l4, vR, vG, rfl, ht, h1, h2, hR, h3, hG, h4⟩, hN, wf, hne⟩
  refine ⟨t, _, rfl, SqT.of ht, rfl, ?_⟩
  refine ⟨_, _, rfl, _, _, rfl, _, _, rfl, _, _, rfl, rfl, ?_⟩
  refine ⟨_, rfl, _, rfl, _, rfl, _, rfl, fun x dx hx hdx hnx => ?_⟩
  have sx : Same H1 (upd (upd H1 dx (.own x)) x (.ins A.CC dx [])) := make_same hx hdx (But.refl _ _)
  refine ⟨x, dx, l1, l2, l3, l4, vR, vG, C, rfl, upd_same, sx _ _ h1, sx _ _ h2, regs_mono sx hR, sx _ _ h3, gates_mono sx hG, sx _ _ h4, hN, wf, ?_⟩
  rintro H2 ord b2 wf2 hc2
  exact ⟨rfl, k.go (s1.trans (make_same hx hdx b2)) ⟨_, hc2, wf2, hN, hne⟩⟩
def spShorts (A : Ad) : Sp := fun vs H Q _ => ∃ v C, vs = [v] ∧ CircAt A H v C ∧ WF C ∧ Named C ∧ Ret (fun v H' => ∃ F zs, v = .ref F ∧ H' F = some (.lst zs) ∧ ∀ z ∈ zs, ∃ u, VerAt H' z u ∧ VerGood C u) H Q
theorem lines13 {C : Circ Str} (wf : WF C) : C.lines.length ≤ 13 := by
  unfold Circ.lines
  rw [List.length_append, List.length_map]
  have := wf.ns
  have := wf.ng
  omega
theorem ok_shorts {f : Addr} {fd : FuncData} (T : Txt K mg A) (c_Circuit_lines : Met P w K mg base 2 A.CC "lines" (spLines A)) (c_Circuit_above : Met P w K mg base 1 A.CC "above" (spAbove A)) (F : Fun K "shorts" "shorts" s_shorts f fd) : FnOk P w K mg base CX0 3 f fd ["circuit"] (spShorts A) := by
  refine F.ok sc_shorts (fun vs H Q E h => ?_) (fun cdv Ar outer s H vs Q E hr h => ?_)
  · obtain ⟨v, C, rfl, _⟩ := h
    rfl
  obtain ⟨v, C, rfl, hc, wf, hN, k⟩ := h
  refine ⟨_, (pss_cons (ps_set (i := 1) sc_shorts.nd rfl (Or.inl rfl) (pe_callB cr_sortedS (by rfl) T.z_sorted bt_sorted (pa_cons (pe_mt0 c_Circuit_lines hr (by omega) (pv 0)) pa_nil)))
      (pss_cons (ps_setDc (i := 2) (own := [("line", 7)]) rfl sc_shorts.nd rfl rfl (sw_trueD rfl rfl rfl (by decide +kernel)) (pi_list (pv 1)) (blkOk_by (own := [("line", 7)]) (sc := defScope s_shorts) (N := ["circuit", "lines", "above", "found", "index", "one", "other", "line", "kind"]) (by decide +kernel)) (fun _ _ _ _ _ => (pg_name (i := 7) sc_shorts.nd rfl (Or.inl rfl))) (fun _ _ _ _ _ => pts_nil) (fun _ _ _ _ _ => (pv 7)) (fun _ _ _ _ _ => (pe_mt c_Circuit_above hr (by omega) (pv 0) (pa_cons (pv 7) pa_nil))))
      (pss_cons (ps_set (i := 3) sc_shorts.nd rfl (Or.inl rfl) (pe_lst pa_nil))
      (pss_cons (ps_for PassesOwn.never rfl (pi_enum (by rfl) T.z_enumerate (pa_cons (pv 1) pa_nil)) (pg_tup rfl (pgs_cons (pg_name (i := 4) sc_shorts.nd rfl (Or.inl rfl)) (pgs_cons (pg_name (i := 5) sc_shorts.nd rfl (Or.inr rfl)) pgs_nil))) (pss_one (ps_for PassesOwn.never rfl (pi_list (pe_slice sl_list (pv 1) (po_some (pe_op op_add (pv 4) pe_int)) po_none)) (pg_name (i := 6) sc_shorts.nd rfl (Or.inr rfl)) (pss_one (ps_if (PW.pt (pw_and (pt_cmp (pc_dnotin (hu_of hr) (pv 5) (pe_dget (hu_of hr) (pv 2) (pv 6) (fun _ _ => rfl)))) (pw_and1 (pt_cmp (pc_dnotin (hu_of hr) (pv 6) (pe_dget (hu_of hr) (pv 2) (pv 5) (fun _ _ => rfl))))))) (pss_one (ps_expr (pe_bm PySem.F.plainAttrs_list PySem.F.slot_list_extend PySem.F.type_list_extend mt_extend (pv 3) (pa_cons (pe_lc (own := [("kind", 8)])  rfl sc_shorts.nd (pi_tup (pe_tup (pa_cons pe_str (pa_cons pe_str pa_nil)))) (blkOk_by (own := [("kind", 8)]) (sc := defScope s_shorts) (N := ["circuit", "lines", "above", "found", "index", "one", "other", "line", "kind"]) (by decide +kernel)) (fun _ _ _ _ _ => (pg_name (i := 8) sc_shorts.nd rfl (Or.inl rfl))) (fun _ _ _ _ _ => pts_nil) (fun _ _ _ _ _ => (pe_tup (pa_cons pe_str (pa_cons (pv 5) (pa_cons (pv 6) (pa_cons (pv 8) pa_nil))))))) pa_nil)))) pss_nil)))))
      (pss_one (ps_ret (pv 3))))))), ?_⟩
  have h13 := lines13 wf
  obtain ⟨pc, dxc, fsc, rfl, obc, fnc⟩ := hc.ins
  refine ⟨_, rfl, pc, dxc, fsc, rfl, obc, fnc _ (by decide), _, C, rfl, hc.parts, ?_⟩
  rintro v H1 s1 ⟨z, rfl, _, hz⟩
  refine ⟨_, C.lines, rfl, SqL.of hz, by omega, fun ls p hpm hso hp => ?_⟩
  have s2 := s1.trans (same_new hp (.lst (ls.map V.str)))
  have hp2 := upd_same (H := H1) (a := p) (o := .lst (ls.map V.str))
  generalize upd H1 p (.lst (ls.map V.str)) = H2 at s2 hp2 ⊢
  have hll : ls.length ≤ 13 := by rw [hpm.length_eq]; exact h13
  have hnd : ls.Nodup := hpm.nodup_iff.mpr wf.nodup
  have hlm : ∀ x, x ∈ ls ↔ x ∈ C.lines := fun x => hpm.mem_iff
  refine ⟨_, rfl, _, rfl, ⟨_, SqL.of hp2⟩, fun D hD => ?_⟩
  refine dcD (walk_list (xs := ls.map V.str)) (fun i => (ls[i]?).getD "") (fun i y H => ∃ a kvs, a ≠ D ∧ y = .ref a ∧ H a = some (.dK kvs) ∧ ∀ x, (valV kvs (Sum.inr x)).isSome = above C ((ls[i]?).getD "") x) (fun i y H H' b ⟨a, kvs, n, e, h, q⟩ => ⟨a, kvs, n, e, b _ _ n h, q⟩) (by rw [List.length_map]; omega) hD (fun H' s' => s'.seq (SqL.of hp2)) ?_ ?_
  · rintro i x H3 H4 hi s3 ⟨oD, hoD⟩ ⟨rfl, hx⟩ kk hk
    rw [List.getElem?_map, Option.map_eq_some_iff] at hx
    obtain ⟨l, hl, rfl⟩ := hx
    have e : (ls[i]?).getD ("" : Str) = l := by rw [hl]; rfl
    rw [e] at hk
    have hc3 := hc.mono (s2.trans s3)
    obtain ⟨pc', dxc', fsc', e', obc', fnc'⟩ := hc3.ins
    cases e'
    refine ⟨rfl, ?_⟩
    decreasing_trivial
    refine ⟨pc, dxc', fsc', rfl, obc', fnc' _ (by decide), ?_⟩
    decreasing_trivial
    refine ⟨_, C, l, rfl, hc3, wf, ?_⟩
    rintro v H5 s5 ⟨⟨d, rfl, hd0⟩, d', kvs, e2, hd, hkl, hkf⟩
    cases e2
    exact hk _ _ s5 ⟨d, kvs, (fun q => by rw [q, hoD] at hd0; cases hd0), rfl, hd, hkf⟩
  rintro H3 kA s3 hD3 hkl hkA
  have hab : ∀ l ∈ C.lines, ∃ a kvs, a ≠ D ∧ valV kA (Sum.inr l) = some (.ref a) ∧ H3 a = some (.dK kvs) ∧ ∀ x, (valV kvs (Sum.inr x)).isSome = above C l x := by
    intro l hl
    rcases hkA l with ⟨i, hi, e, y, hy, a, kvs, n, rfl, h, q⟩ | ⟨hn, _⟩
    · rw [e] at q
      exact ⟨a, kvs, n, hy, h, q⟩
    · obtain ⟨i, hi, e⟩ := List.mem_iff_getElem.mp ((hlm l).mpr hl)
      refine absurd ?_ (hn i (by rw [List.length_map]; exact hi))
      rw [List.getElem?_eq_getElem hi, e]
      rfl
  have s23 := s2.trans s3
  have hp3 := s3 _ _ hp2
  refine ⟨Nat.zero_le _, fun Fa hF => ?_⟩
  have s4 := s23.trans (same_new hF (.lst []))
  have s34 := same_new hF (.lst [])
  have hHF : H Fa = none := s23.free hF
  have hpF : p ≠ Fa := ne_of_none hp3 hF
  have hF4 := upd_same (H := H3) (a := Fa) (o := .lst [])
  decreasing_trivial
  refine ⟨p, _, rfl, SqL.of (s34 _ _ hp3), ?_⟩
  refine for_it (walk_enum (xs := ls.map V.str)) (fun i σ H' => (∃ x4 x5 x6 x7 x8, σ = [some (.ref pc), some (.ref p), some (.ref D), some (.ref Fa), x4, x5, x6, x7, x8]) ∧ Same H H' ∧ Keep H3 H' ∧ H' p = some (.lst (ls.map V.str)) ∧ ∃ zs, H' Fa = some (.lst zs) ∧ zs.length ≤ 30 * i ∧ ∀ z ∈ zs, ∃ u, VerAt H' z u ∧ VerGood C u) ⟨⟨_, _, _, _, _, rfl⟩, s4, s34.keep, s34 _ _ hp3, [], hF4, Nat.le_refl _, fun z hz => by cases hz⟩ (fun i σ H' _ q => SqL.of q.2.2.2.1) ?_ ?_
  · rintro i x σ H5 H5' hi ⟨⟨x4, x5, x6, x7, x8, rfl⟩, s5, kp5, hp5, zs, hF5, hzl, hzz⟩ ⟨t, xi, xn, rfl, ht, rfl, hxi, hxn⟩
    have hxi : V.int ((i : Nat) : Int) = xi := Option.some.inj hxi
    have hxn : (ls.map V.str)[i]? = some xn := hxn
    subst hxi
    rw [List.length_map] at hi
    rw [List.getElem?_map, Option.map_eq_some_iff] at hxn
    obtain ⟨one, hone, rfl⟩ := hxn
    have honeL := (hlm one).mp (List.mem_of_getElem? hone)
    have sN := same_new ht (.tup [.int ((i : Nat) : Int), .str one])
    refine ⟨_, _, rfl, SqT.of upd_same, rfl, ?_⟩
    have hp6 := sN _ _ hp5
    decreasing_trivial
    refine ⟨p, _, rfl, SqL.of hp6, fun R hR => ?_⟩
    have sR := sN.trans (same_new hR (.lst (cutV (ls.map V.str) (some ((i : Int) + 1)) none)))
    have eR : cutV (ls.map V.str) (some ((i : Int) + 1)) none = (ls.drop (i + 1)).map V.str := by
      rw [show ((i : Int) + 1) = ((i + 1 : Nat) : Int) by omega, cut_from (by rw [List.length_map]; omega), List.map_drop]
    have hR7 : (upd (upd H5 t (.tup [.int ((i : Nat) : Int), .str one])) R (.lst (cutV (ls.map V.str) (some ((i : Int) + 1)) none))) R = some (.lst ((ls.drop (i + 1)).map V.str)) := by rw [upd_same, eR]
    have hRF : R ≠ Fa := fun e => by
      rw [e, sN _ _ hF5] at hR
      cases hR
    have s7 := s5.trans sR
    have hF7 := sR _ _ hF5
    have hp7 := sR _ _ hp5
    have kp7 : Keep H3 (upd (upd H5 t (.tup [.int ((i : Nat) : Int), .str one])) R (.lst (cutV (ls.map V.str) (some ((i : Int) + 1)) none))) := fun b o hb hl => sR _ _ (kp5 b o hb hl)
    have hzz7 : ∀ z ∈ zs, ∃ u, VerAt (upd (upd H5 t (.tup [.int ((i : Nat) : Int), .str one])) R (.lst (cutV (ls.map V.str) (some ((i : Int) + 1)) none))) z u ∧ VerGood C u := fun z hz => let ⟨u, a, b⟩ := hzz z hz; ⟨u, a.mono sR, b⟩
    generalize upd (upd H5 t (.tup [.int ((i : Nat) : Int), .str one])) R (.lst (cutV (ls.map V.str) (some ((i : Int) + 1)) none)) = H7 at s7 hR7 hF7 hp7 kp7 hzz7 ⊢
    decreasing_trivial
    refine ⟨⟨_, SqL.of hR7⟩, ?_⟩
    refine for_it (walk_list (xs := (ls.drop (i + 1)).map V.str)) (fun j σ H' => (∃ x6 x7 x8, σ = [some (.ref pc), some (.ref p), some (.ref D), some (.ref Fa), some (.int ((i : Nat) : Int)), some (.str one), x6, x7, x8]) ∧ Same H H' ∧ Keep H3 H' ∧ H' p = some (.lst (ls.map V.str)) ∧ H' R = some (.lst ((ls.drop (i + 1)).map V.str)) ∧ ∃ zs, H' Fa = some (.lst zs) ∧ zs.length ≤ 30 * i + 2 * j ∧ ∀ z ∈ zs, ∃ u, VerAt H' z u ∧ VerGood C u) ⟨⟨_, _, _, rfl⟩, s7, kp7, hp7, hR7, zs, hF7, by omega, hzz7⟩ (fun i σ H' _ q => SqL.of q.2.2.2.2.1) ?_ ?_
    · rintro j x σ H8 H8' hj ⟨⟨x6, x7, x8, rfl⟩, s8, kp8, hp8, hR8, zs8, hF8, hzl8, hzz8⟩ ⟨rfl, hx⟩
      rw [List.length_map, List.length_drop] at hj
      rw [List.getElem?_map, Option.map_eq_some_iff] at hx
      obtain ⟨oth, hoth, rfl⟩ := hx
      rw [List.getElem?_drop] at hoth
      have hothL := (hlm oth).mp (List.mem_of_getElem? hoth)
      have hlt := sorted_at hso hnd (by omega) hone hoth
      obtain ⟨a1, k1, n1, hv1, hd1, hf1⟩ := hab one honeL
      obtain ⟨a2, k2, n2, hv2, hd2, hf2⟩ := hab oth hothL
      have hD8 := kp8.dk hD3
      have hd18 := kp8.dk hd1
      have hd28 := kp8.dk hd2
      have skip : ∀ (H' : Hp), H' = H8' → (∃ y6 y7 y8, [some (.ref pc), some (.ref p), some (.ref D), some (.ref Fa), some (.int ((i : Nat) : Int)), some (.str one), some (.str oth), x7, x8] = [some (.ref pc), some (.ref p), some (.ref D), some (.ref Fa), some (.int ((i : Nat) : Int)), some (.str one), y6, y7, y8]) ∧ Same H H' ∧ Keep H3 H' ∧ H' p = some (.lst (ls.map V.str)) ∧ H' R = some (.lst ((ls.drop (i + 1)).map V.str)) ∧ ∃ zs, H' Fa = some (.lst zs) ∧ zs.length ≤ 30 * i + 2 * (j + 1) ∧ ∀ z ∈ zs, ∃ u, VerAt H' z u ∧ VerGood C u := by
        rintro H' rfl
        exact ⟨⟨_, _, _, rfl⟩, s8, kp8, hp8, hR8, zs8, hF8, by omega, hzz8⟩
      decreasing_trivial
      refine ⟨D, _, rfl, by rw [← hv2]; exact DGet.k (k := Sum.inr oth) hD8, ?_⟩
      refine ⟨_, _, rfl, DGet.k (k := Sum.inr one) hd28, _, rfl, ?_⟩
      rw [hf2]
      cases hb1 : above C oth one with
      | true =>
        exact iteF (iteF (skip _ rfl))
      | false =>
        refine iteT ?_
        decreasing_trivial
        refine ⟨D, _, rfl, by rw [← hv1]; exact DGet.k (k := Sum.inr one) hD8, ?_⟩
        refine ⟨_, _, rfl, DGet.k (k := Sum.inr oth) hd18, _, rfl, ?_⟩
        rw [hf1]
        cases hb2 : above C one oth with
        | true =>
          refine iteF ?_
          exact skip _ rfl
        | false =>
          refine iteT ?_
          decreasing_trivial
          refine ⟨.inl ⟨rfl, _, SqL.of hF8⟩, ?_⟩
          refine ⟨by show 2 ≤ sizeLine; decide, fun t2 ht2 => ?_⟩
          have sT := same_new ht2 (.tup [.str "and", .str "or"])
          refine ⟨_, rfl, ⟨_, SqT.of upd_same⟩, fun L hL => ?_⟩
          refine lcM (walk_tup (xs := [V.str "and", V.str "or"])) [true, false] rfl (fun y kd H => VerAt H y (.short one oth kd)) (fun _ _ _ _ kp q => q.keep kp) (by show 2 ≤ 1000; decide) hL (fun H' s' => s'.seqT (SqT.of upd_same)) ?_ ?_
          · rintro q x H9 H10 kd hkd s9 ⟨rfl, hx9⟩ kk hk
            have hxe : x = .str (andOr kd) := by
              match q, hkd, hx9 with
              | 0, h1, h2 => rw [← Option.some.inj h1]; exact (Option.some.inj h2).symm
              | 1, h1, h2 => rw [← Option.some.inj h1]; exact (Option.some.inj h2).symm
            subst hxe
            refine ⟨rfl, ?_⟩
            decreasing_trivial
            refine ⟨by show 4 ≤ sizeLine; decide, fun t3 ht3 => ?_⟩
            refine hk _ _ (same_new ht3 _) ⟨t3, rfl, upd_same, fun z hz => ?_⟩
            rcases List.mem_cons.mp hz with rfl | hz
            · exact strOk_of (hN.1 _ honeL)
            · rw [List.mem_singleton.mp hz]
              exact strOk_of (hN.1 _ hothL)
          · intro H9 ys s9 hL9 hy9
            have s89 := sT.trans s9
            have hF9 := s89 _ _ hF8
            have hyl := hy9.length
            refine ⟨Fa, L, zs8, ys, rfl, rfl, hF9, hL9, ?_, ?_⟩
            · have : ys.length = 2 := hyl
              exact sz2 (by omega)
            · have kp : Keep H9 (upd H9 Fa (.lst (zs8 ++ ys))) := keep_lst hF9
              refine ⟨⟨_, _, _, rfl⟩, Same.mut (s8.trans s89) hHF, fun b o hb hl => kp _ _ (s89 _ _ (kp8 b o hb hl)) hl, by rw [upd_ne hpF]; exact s89 _ _ hp8, by rw [upd_ne hRF]; exact s89 _ _ hR8, _, upd_same, ?_, fun z hz => ?_⟩
              · have : ys.length = 2 := hyl
                rw [List.length_append]
                omega
              · rcases List.mem_append.mp hz with h | h
                · obtain ⟨u, a, b⟩ := hzz8 z h
                  exact ⟨u, (a.mono s89).keep kp, b⟩
                · obtain ⟨q, hq, e⟩ := List.mem_iff_getElem.mp h
                  obtain ⟨kd, _, hv⟩ := Paired.at hy9 (i := q) (a := z) (by rw [List.getElem?_eq_getElem hq, e])
                  exact ⟨_, hv.keep kp, ⟨honeL, hothL⟩, hlt, hb1, hb2⟩
    · rintro σ H8 ⟨⟨x6, x7, x8, rfl⟩, s8, kp8, hp8, hR8, zs8, hF8, hzl8, hzz8⟩
      rw [List.length_map, List.length_drop] at hzl8
      exact ⟨⟨_, _, _, _, _, rfl⟩, s8, kp8, hp8, zs8, hF8, by omega, hzz8⟩
  · rintro σ H5 ⟨⟨x4, x5, x6, x7, x8, rfl⟩, s5, kp5, hp5, zs, hF5, hzl, hzz⟩
    decreasing_trivial
    exact k.go s5 ⟨Fa, zs, rfl, hF5, hzz⟩
end
end Pw
namespace Pw
open PySem PySem.Spec PyProof.Rows L2
local macro_rules
  | `(tactic| decreasing_trivial) => `(tactic| repeat (first
    | refine ⟨_, rfl, ?_⟩
    | refine ⟨_, _, rfl, rfl, ?_⟩
    | refine ⟨rfl, ?_⟩
    | refine ⟨_, _, rfl, .inl (SqL.of (by assumption)), ?_⟩
    | refine ⟨_, _, rfl, .inr (SqT.of (by assumption)), ?_⟩
    | refine ⟨_, _, _, _, rfl, rfl, SqT.of (by assumption), rfl, ?_⟩
    | refine ⟨_, _, _, _, rfl, rfl, SqL.of (by assumption), rfl, ?_⟩
    | refine ⟨_, _, rfl, ?_⟩))
section
variable {P : Program} {w : World} {K : PySem.W.Frag} {mg : Str → Option Value} {base : Heap} {A : Ad}
theorem mod2 (n : Int) : ∃ b : Bool, n % 2 = bi b := by
  have h1 := Int.emod_nonneg n (show (2 : Int) ≠ 0 by decide)
  have h2 := Int.emod_lt_of_pos n (show (0 : Int) < 2 by decide)
  by_cases e : n % 2 = 0
  · exact ⟨false, e⟩
  · exact ⟨true, by show n % 2 = 1; omega⟩
def spLVersion (A : Ad) : Sp := fun vs H Q _ => ∃ v C n, vs = [v, .int n] ∧ CircAt A H v C ∧ WF C ∧ Named C ∧ C.gates ≠ [] ∧ Ret (fun v H' => ∃ u, VerAt H' v u ∧ VerGood C u) H Q
theorem ok_law_version {f : Addr} {fd : FuncData} (T : Txt K mg A) (c_Circuit_lines : Met P w K mg base 2 A.CC "lines" (spLines A)) (c_shorts : Cal P w K mg base 3 "shorts" (spShorts A)) (F : Fun K "_law_version" "_law_version" s__law_version f fd) : FnOk P w K mg base CX0 4 f fd ["_law_circuit_here", "_law_rich_here"] (spLVersion A) := by
  refine F.ok sc__law_version (fun vs H Q E h => ?_) (fun cdv Ar outer s H vs Q E hr h => ?_)
  · obtain ⟨v, C, n, rfl, _⟩ := h
    rfl
  obtain ⟨v, C, n, rfl, hc, wf, hN, hne, k⟩ := h
  refine ⟨_, (pss_cons (ps_set (i := 2) sc__law_version.nd rfl (Or.inl rfl) (pe_mt0 c_Circuit_lines hr (by omega) (pv 0)))
      (pss_cons (ps_set (i := 3) sc__law_version.nd rfl (Or.inl rfl) (pe_op op_mod (pv 1) pe_int))
      (pss_cons (ps_set (i := 4) sc__law_version.nd rfl (Or.inl rfl) (pe_op op_fdiv (pv 1) pe_int))
      (pss_cons (ps_if (pt_cmpR op_eq (pv 3) pe_int (nomark _)) (pss_one (ps_ret pe_non)) pss_nil)
      (pss_cons (ps_if (pt_cmpR op_lt (pv 3) pe_int (nomark _)) (pss_one (ps_ret (pe_tup (pa_cons pe_str (pa_cons (pe_ix ix_list (pv 2) (pe_op op_mod (pv 4) (pe_callB call_len_seq (by rfl) T.z_len PySem.boot_len (pa_cons (pv 2) pa_nil))) (fun _ _ => rfl)) (pa_cons (pe_op op_mod (pe_op op_fdiv (pv 4) (pe_callB call_len_seq (by rfl) T.z_len PySem.boot_len (pa_cons (pv 2) pa_nil))) pe_int) pa_nil)))))) pss_nil)
      (pss_cons (ps_if (pt_cmpR op_lt (pv 3) pe_int (nomark _)) (pss_cons (ps_set (i := 5) sc__law_version.nd rfl (Or.inl rfl) (pe_ix ix_tup (pe_fld (pv 0) rfl) (pe_op op_mod (pv 4) (pe_callB call_len_seq (by rfl) T.z_len PySem.boot_len (pa_cons (pe_fld (pv 0) rfl) pa_nil))) (fun _ _ => rfl)))
      (pss_cons (ps_if (pt_cmpR op_gt (pe_callB call_len_seq (by rfl) T.z_len PySem.boot_len (pa_cons (pe_ix ix_tup (pv 5) pe_int (fun _ _ => rfl)) pa_nil)) pe_int (nomark _)) (pss_one (ps_ret (pe_tup (pa_cons pe_str (pa_cons (pe_ix ix_tup (pv 5) pe_int (fun _ _ => rfl)) (pa_cons (pe_op op_mod (pe_op op_fdiv (pv 4) pe_int) (pe_callB call_len_seq (by rfl) T.z_len PySem.boot_len (pa_cons (pe_ix ix_tup (pv 5) pe_int (fun _ _ => rfl)) pa_nil))) (pa_cons (pe_op op_mod (pe_op op_fdiv (pv 4) pe_int) pe_int) pa_nil))))))) pss_nil)
      (pss_one (ps_ret (pe_tup (pa_cons pe_str (pa_cons (pe_ix ix_tup (pv 5) pe_int (fun _ _ => rfl)) (pa_cons (pe_op op_mod (pe_op op_fdiv (pv 4) pe_int) pe_int) pa_nil)))))))) pss_nil)
      (pss_cons (ps_set (i := 6) sc__law_version.nd rfl (Or.inl rfl) (pe_c c_shorts hr (by omega) rfl (pa_cons (pv 0) pa_nil)))
      (pss_one (ps_ret (pe_ifExp (pt_cmpR op_gt (pe_callB call_len_seq (by rfl) T.z_len PySem.boot_len (pa_cons (pv 6) pa_nil)) pe_int (nomark _)) (pe_ix ix_list (pv 6) (pe_op op_mod (pv 4) (pe_callB call_len_seq (by rfl) T.z_len PySem.boot_len (pa_cons (pv 6) pa_nil))) (fun _ _ => rfl)) pe_non)))))))))), ?_⟩
  have h13 := lines13 wf
  have hng := wf.ng
  have hg0 : 0 < C.gates.length := by
    cases e : C.gates with
    | nil => exact absurd e hne
    | cons _ _ => simp
  have hl0 : 0 < C.lines.length := by
    unfold Circ.lines
    rw [List.length_append, List.length_map]
    omega
  obtain ⟨pc, dxc, fsc, aI, aR, aG, aO, vR, vG, aD, aL, vL, kv0, rfl, cc, g1, g2, g3, g4, g5, g6⟩ := hc
  have hc : CircAt A H (.ref pc) C := ⟨pc, dxc, fsc, aI, aR, aG, aO, vR, vG, aD, aL, vL, kv0, rfl, cc, g1, g2, g3, g4, g5, g6⟩
  refine ⟨_, rfl, pc, dxc, fsc, rfl, cc.ob, cc.fN _ (by decide), _, C, rfl, hc.parts, ?_⟩
  rintro v H1 s1 ⟨z, rfl, _, hz⟩
  decreasing_trivial
  refine ⟨by show (0 : Int) < 6; decide, ?_⟩
  decreasing_trivial
  refine ⟨⟨by show (0 : Int) < 6; decide, by decide⟩, ?_⟩
  refine ⟨_, rfl, rfl, _, rfl, ?_⟩
  refine ite2 (fun _ => ?_) (fun _ => ?_)
  · exact k.go s1 ⟨.right, rfl, trivial, trivial⟩
  refine ⟨_, rfl, _, _, rfl, rfl, _, rfl, ?_⟩
  refine ite2 (fun _ => ?_) (fun _ => ?_)
  · decreasing_trivial
    refine ⟨by rw [List.length_map]; omega, ?_⟩
    obtain ⟨j, kv, hkv, hat⟩ := at_mod (xs := C.lines.map V.str) (n := n / 6) (m := ((C.lines.map V.str).length : Int)) rfl (by rw [List.length_map]; exact hl0)
    rw [List.getElem?_map, Option.map_eq_some_iff] at hkv
    obtain ⟨l, hl, rfl⟩ := hkv
    refine ⟨z, _, _, _, rfl, rfl, SqL.of hz, hat, ?_⟩
    decreasing_trivial
    refine ⟨⟨by rw [List.length_map]; omega, by rw [List.length_map]; omega⟩, ?_⟩
    decreasing_trivial
    refine ⟨by show (0 : Int) < 2; decide, ?_⟩
    obtain ⟨b, hb⟩ := mod2 (n / 6 / ((C.lines.map V.str).length : Int))
    dsimp only
    rw [hb]
    refine ⟨by show 3 ≤ sizeLine; decide, fun t ht => ?_⟩
    have hlm := List.mem_of_getElem? hl
    refine k.go (s1.trans (same_new ht _)) ⟨.stem l b, ⟨t, rfl, upd_same, fun q hq => ?_⟩, hlm, trivial⟩
    rw [List.mem_singleton.mp hq]
    exact strOk_of (hN.1 _ hlm)
  refine ⟨_, rfl, _, _, rfl, rfl, _, rfl, ?_⟩
  refine ite2 (fun _ => ?_) (fun _ => ?_)
  · have cc1 := cc.mono s1
    have hgl := cc.gates.length
    refine ⟨_, rfl, _, _, _, _, _, rfl, cc1.ob, T.cC, T.nC_gates, cc1.fG, ?_⟩
    refine ⟨_, rfl, _, rfl, _, _, _, _, _, rfl, cc1.ob, T.cC, T.nC_gates, cc1.fG, ?_⟩
    refine ⟨_, _, rfl, .inr (SqT.of cc1.hG), ?_⟩
    refine ⟨_, _, rfl, rfl, by rw [hgl]; omega, ?_⟩
    obtain ⟨j, gv, hgv, hat⟩ := at_mod (xs := vG) (n := n / 6) (m := (vG.length : Int)) rfl (by rw [hgl]; exact hg0)
    obtain ⟨g, hg, hga⟩ := Paired.at cc1.gates hgv
    have hgm := List.mem_of_getElem? hg
    refine ⟨aG, _, _, _, rfl, rfl, SqT.of cc1.hG, hat, ?_⟩
    obtain ⟨a, ap, rfl, ha, hap, hok⟩ := hga
    decreasing_trivial
    by_cases hp0 : 0 < g.pins.length
    · refine ifT (decide_eq_true (by rw [List.length_map]; omega)) ?_
      decreasing_trivial
      refine ⟨⟨by show (0 : Int) < 9; decide, by decide⟩, ?_⟩
      decreasing_trivial
      refine ⟨by rw [List.length_map]; omega, ?_⟩
      decreasing_trivial
      refine ⟨⟨by show (0 : Int) < 36; decide, by decide⟩, ?_⟩
      decreasing_trivial
      refine ⟨by show (0 : Int) < 2; decide, ?_⟩
      obtain ⟨b, hb⟩ := mod2 (n / 6 / 36)
      have hm1 := Int.emod_nonneg (n / 6 / 9) (show ((g.pins.map V.str).length : Int) ≠ 0 by rw [List.length_map]; omega)
      have hm2 := Int.emod_lt_of_pos (n / 6 / 9) (show (0 : Int) < ((g.pins.map V.str).length : Int) by rw [List.length_map]; omega)
      obtain ⟨m, hm⟩ := Int.eq_ofNat_of_zero_le hm1
      dsimp only
      rw [hb, hm]
      refine ⟨by show 4 ≤ sizeLine; decide, fun t ht => ?_⟩
      rw [List.length_map] at hm hm2
      refine k.go (s1.trans (same_new ht _)) ⟨.pin g.line m b, ⟨t, rfl, upd_same, fun q hq => ?_⟩, ⟨g, hgm, rfl, by omega⟩, trivial⟩
      rw [List.mem_singleton.mp hq]
      exact hok _ List.mem_cons_self
    · refine ifF (decide_eq_false (by rw [List.length_map]; omega)) ?_
      decreasing_trivial
      refine ⟨⟨by show (0 : Int) < 36; decide, by decide⟩, ?_⟩
      decreasing_trivial
      refine ⟨by show (0 : Int) < 2; decide, ?_⟩
      obtain ⟨b, hb⟩ := mod2 (n / 6 / 36)
      dsimp only
      rw [hb]
      refine ⟨by show 3 ≤ sizeLine; decide, fun t ht => ?_⟩
      refine k.go (s1.trans (same_new ht _)) ⟨.stem g.line b, ⟨t, rfl, upd_same, fun q hq => ?_⟩, wf.gate hgm, trivial⟩
      rw [List.mem_singleton.mp hq]
      exact hok _ List.mem_cons_self
  refine ⟨_, rfl, _, C, rfl, hc.mono s1, wf, hN, ?_⟩
  rintro v2 H2 s2 ⟨Fa, zs, rfl, hF, hzs⟩
  decreasing_trivial
  by_cases hz0 : 0 < zs.length
  · refine ifT (decide_eq_true (by omega)) ?_
    decreasing_trivial
    refine ⟨by omega, ?_⟩
    obtain ⟨j, y, hy, hat⟩ := at_mod (xs := zs) (n := n / 6) (m := (zs.length : Int)) rfl hz0
    refine ⟨Fa, _, _, _, rfl, rfl, SqL.of hF, hat, ?_⟩
    obtain ⟨u, hu, hgu⟩ := hzs y (List.mem_of_getElem? hy)
    exact k.go (s1.trans s2) ⟨u, hu, hgu⟩
  · refine ifF (decide_eq_false (by omega)) ?_
    exact k.go (s1.trans s2) ⟨.right, rfl, trivial, trivial⟩
def spLGateVal : Sp := fun vs H Q _ => ∃ (k : Kind) (l : Addr) (bs : List Bool), vs = [.str k.str, .ref l] ∧ H l = some (.lst (bs.map bitV)) ∧ k.arity bs.length = true ∧ Ret (fun v _ => v = bitV (gateVal k bs)) H Q
theorem ok_law_gate_value {f : Addr} {fd : FuncData} (T : Txt K mg A) (F : Fun K "_law_gate_value" "_law_gate_value" s__law_gate_value f fd) : FnOk P w K mg base CX0 1 f fd ["_law_kind", "_law_bits"] spLGateVal := by
  refine F.ok sc__law_gate_value (fun vs H Q E h => ?_) (fun cdv Ar outer s H vs Q E hr h => ?_)
  · obtain ⟨kd, l, ms, rfl, _⟩ := h
    rfl
  obtain ⟨kd, l, ms, rfl, hl, ha, k⟩ := h
  refine ⟨_, (pss_cons (ps_if (pt_cmpR op_in_seq (pv 0) (pe_lst (pa_cons pe_str (pa_cons pe_str pa_nil))) (by rfl)) (pss_one (ps_ret (pe_ifExp (pt_cmpR op_eq (pv 0) pe_str (nomark _)) pe_int pe_int))) pss_nil)
      (pss_cons (ps_set (i := 2) sc__law_gate_value.nd rfl (Or.inl rfl) (pe_ix ix_list (pv 1) pe_int (fun _ _ => rfl)))
      (pss_cons (ps_for PassesOwn.never rfl (pi_list (pe_slice sl_list (pv 1) (po_some pe_int) po_none)) (pg_name (i := 3) sc__law_gate_value.nd rfl (Or.inl rfl)) (pss_one (ps_if (pt_cmpR op_in_seq (pv 0) (pe_lst (pa_cons pe_str (pa_cons pe_str pa_nil))) (by rfl)) (pss_one (ps_set (i := 2) sc__law_gate_value.nd rfl (Or.inl rfl) (pe_op op_mul (pv 2) (pv 3)))) (pss_one (ps_if (pt_cmpR op_in_seq (pv 0) (pe_lst (pa_cons pe_str (pa_cons pe_str pa_nil))) (by rfl)) (pss_one (ps_set (i := 2) sc__law_gate_value.nd rfl (Or.inl rfl) (pe_callB (call_max2 rfl) (by rfl) T.z_max bt_max (pa_cons (pv 2) (pa_cons (pv 3) pa_nil))))) (pss_one (ps_set (i := 2) sc__law_gate_value.nd rfl (Or.inl rfl) (pe_ifExp (pt_cmpR op_ne (pv 2) (pv 3) (nomark _)) pe_int pe_int))))))))
      (pss_one (ps_ret (pe_ifExp (pt_cmpR op_in_seq (pv 0) (pe_lst (pa_cons pe_str (pa_cons pe_str (pa_cons pe_str (pa_cons pe_str pa_nil))))) (by rfl)) (pe_op op_sub pe_int (pv 2)) (pv 2))))))), ?_⟩
  refine ⟨_, rfl, rdInL (by show 2 ≤ 1000; decide) rfl rfl (in_const kd) fun t ht => ⟨_, rfl, ?_⟩⟩
  have s0 := same_new ht (.lst [.str "low", .str "high"])
  cases hc : kd.const with
  | some b =>
    refine iteT ?_
    cases kd <;> first | (cases hc; done) | skip
    · decreasing_trivial
      exact k.go s0 rfl
    · decreasing_trivial
      exact k.go s0 rfl
  | none =>
    refine iteF ?_
    obtain ⟨m0, r, rfl⟩ : ∃ m0 r, ms = m0 :: r := by
      cases ms with
      | nil => cases kd <;> first | (cases hc; done) | (cases ha; done)
      | cons m0 r => exact ⟨m0, r, rfl⟩
    have hl1 := s0 _ _ hl
    decreasing_trivial
    refine ⟨l, _, 0, _, rfl, rfl, SqL.of hl1, atI_nat (j := 0) rfl, ?_⟩
    decreasing_trivial
    refine ⟨_, _, rfl, SqL.of hl1, fun l2 hl2 => ?_⟩
    have s2 := s0.trans (same_new hl2 (.lst (cutV (bitV m0 :: r.map bitV) (some 1) none)))
    have hL : (upd (upd H t (.lst [.str "low", .str "high"])) l2 (.lst (cutV (bitV m0 :: r.map bitV) (some 1) none))) l2 = some (.lst (r.map bitV)) := by rw [upd_same, cut1]
    decreasing_trivial
    refine ⟨⟨_, SqL.of hL⟩, ?_⟩
    refine for_it (walk_list (xs := r.map bitV)) (fun i σ H' => (∃ x, σ = [some (.str kd.str), some (.ref l), some (bitV ((r.take i).foldl kd.bin m0)), x]) ∧ Same H H' ∧ H' l2 = some (.lst (r.map bitV))) ⟨⟨_, rfl⟩, s2, hL⟩ (fun _ _ _ _ q => SqL.of q.2.2) ?_ ?_
    · rintro i x σ H2 H2' hi ⟨⟨x0, rfl⟩, sH2, hl2'⟩ ⟨rfl, hx⟩
      rw [List.getElem?_map, Option.map_eq_some_iff] at hx
      obtain ⟨m, hm, rfl⟩ := hx
      have htk : (r.take (i + 1)).foldl kd.bin m0 = kd.bin ((r.take i).foldl kd.bin m0) m := by
        rw [List.take_succ, hm, List.foldl_append]
        rfl
      rw [htk]
      generalize (r.take i).foldl kd.bin m0 = acc
      refine ⟨_, rfl, rdInL (by show 2 ≤ 1000; decide) rfl rfl (in_and kd) fun t2 ht2 => ⟨_, rfl, ?_⟩⟩
      have s3 := same_new ht2 (.lst [.str "and", .str "nand"])
      cases h1 : isAnd kd with
      | true =>
        refine iteT ?_
        rw [show kd.bin acc m = (acc && m) by cases kd <;> first | (cases h1; done) | rfl]
        decreasing_trivial
        refine ⟨.inl ⟨by have := bi_ge acc; omega, by have := bi_le acc; omega⟩, ?_⟩
        exact ⟨⟨_, congrArg (fun z => [some (V.str kd.str), some (.ref l), some (V.int z), some (bitV m)]) (show bi acc * bi m = bi (acc && m) by cases acc <;> cases m <;> decide)⟩, sH2.trans s3, s3 _ _ hl2'⟩
      | false =>
        refine iteF ?_
        refine ⟨_, rfl, rdInL (by show 2 ≤ 1000; decide) rfl rfl (in_or kd) fun t3 ht3 => ⟨_, rfl, ?_⟩⟩
        have s4 := s3.trans (same_new ht3 (.lst [.str "or", .str "nor"]))
        cases h2 : isOr kd with
        | true =>
          refine iteT ?_
          rw [show kd.bin acc m = (acc || m) by cases kd <;> first | (cases h2; done) | rfl]
          decreasing_trivial
          exact ⟨⟨_, congrArg (fun z => [some (V.str kd.str), some (.ref l), some (V.int z), some (bitV m)]) (show (if bi m > bi acc then bi m else bi acc) = bi (acc || m) by cases acc <;> cases m <;> decide)⟩, sH2.trans s4, s4 _ _ hl2'⟩
        | false =>
          refine iteF ?_
          rw [show kd.bin acc m = (acc != m) by cases kd <;> first | (cases h1; done) | (cases h2; done) | rfl]
          cases acc <;> cases m
          all_goals
            decreasing_trivial
            exact ⟨⟨_, rfl⟩, sH2.trans s4, s4 _ _ hl2'⟩
    · rintro σ H2 ⟨⟨x0, rfl⟩, sH2, hl2'⟩
      rw [List.length_map, List.take_length]
      refine ⟨_, rfl, rdInL (by show 4 ≤ 1000; decide) rfl rfl (in_neg kd) fun t2 ht2 => ⟨_, rfl, ?_⟩⟩
      have s3 := sH2.trans (same_new ht2 (.lst [.str "nand", .str "nor", .str "xnor", .str "not"]))
      have ev : gateVal kd (m0 :: r) = (r.foldl kd.bin m0 != kd.neg) := by unfold gateVal; rw [hc]
      cases hn : kd.neg with
      | true =>
        refine iteT ?_
        decreasing_trivial
        refine k.go s3 ?_
        rw [ev, hn]
        cases r.foldl kd.bin m0 <;> rfl
      | false =>
        refine iteF ?_
        decreasing_trivial
        refine k.go s3 ?_
        rw [ev, hn]
        cases r.foldl kd.bin m0 <;> rfl
end
end Pw
namespace Pw
open PySem PySem.Spec PyProof.Rows L2
local macro_rules
  | `(tactic| decreasing_trivial) => `(tactic| repeat (first
    | refine ⟨_, rfl, ?_⟩
    | refine ⟨_, _, rfl, rfl, ?_⟩
    | refine ⟨rfl, ?_⟩
    | refine ⟨_, _, rfl, .inl (SqL.of (by assumption)), ?_⟩
    | refine ⟨_, _, rfl, .inr (SqT.of (by assumption)), ?_⟩
    | refine ⟨_, _, _, _, rfl, rfl, SqT.of (by assumption), rfl, ?_⟩
    | refine ⟨_, _, _, _, rfl, rfl, SqL.of (by assumption), rfl, ?_⟩
    | refine ⟨_, _, rfl, ?_⟩))
theorem ifCut {c : TT} {t u w : TS} {D : Ends} {σ : L2.St} {H : Hp} {R : Hp → Prop} (h1 : ∀ N : L2.St → Hp → Prop, (∀ H', R H' → N σ H') → tIfS c t u { D with nx := N } σ H) (h2 : ∀ H', R H' → w D σ H') : tSeq (tIfS c t u) w D σ H := h1 _ h2
theorem mapIdx_set {g : Str} {b : Bool} {e : Str → Bool} : ∀ {l : List Str} {i : Nat}, l.mapIdx (fun j p => (if i = j then some b else none : Option Bool).getD (e p)) = (l.map e).set i b := by
  intro l i
  apply List.ext_getElem?
  intro j
  rw [List.getElem?_mapIdx, List.getElem?_set]
  by_cases h : i = j
  · subst h
    rw [if_pos rfl, List.length_map]
    by_cases hl : i < l.length
    · rw [List.getElem?_eq_getElem hl, if_pos hl]
      simp
    · rw [List.getElem?_eq_none (by omega), if_neg hl]
      simp
  · rw [if_neg h, List.getElem?_map]
    cases l[j]? <;> simp [h]
section
variable {P : Program} {w : World} {K : PySem.W.Frag} {mg : Str → Option Value} {base : Heap} {A : Ad}
def spSettled (A : Ad) : Sp := fun vs H Q _ => ∃ v x ap dF C u pat f kF, vs = [v, x, .ref ap, .ref dF] ∧ CircAt A H v C ∧ WF C ∧ VerAt H x u ∧ VerOk C u ∧ H ap = some (.tup (pat.map bitV)) ∧ pat.length = C.sources.length ∧ H dF = some (.dK kF) ∧ FTab kF f ∧
  Ret (fun v H' => ∃ D kvs, v = .ref D ∧ H D = none ∧ H' D = some (.dK kvs) ∧ Tab kvs C.lines fun l => bitV (through C u f pat l)) H Q
/-- the keys are lines and hold what F says -/
def Snd (C : Circ Str) (kvs : List (Key × V)) (F : Str → V) : Prop := ∀ x y, valV kvs (Sum.inr x) = some y → x ∈ C.lines ∧ y = F x
theorem Snd.put {C : Circ Str} {kvs : List (Key × V)} {F : Str → V} (h : Snd C kvs F) {z : Str} (hz : z ∈ C.lines) : Snd C (putK kvs (Sum.inr z) (F z)) F := fun x y hx => by
  rw [valV_put] at hx
  by_cases e : x = z
  · rw [if_pos (by rw [e])] at hx
    subst e
    exact ⟨hz, (Option.some.inj hx).symm⟩
  · rw [if_neg fun q => e (Sum.inr.inj q)] at hx
    exact h x y hx
def Has (kvs : List (Key × V)) (x : Str) : Prop := (valV kvs (Sum.inr x)).isSome = true
theorem Has.put {kvs : List (Key × V)} {x z : Str} {y : V} (h : Has kvs x ∨ x = z) : Has (putK kvs (Sum.inr z) y) x := by
  unfold Has at *
  rw [valV_put]
  by_cases e : x = z
  · rw [if_pos (by rw [e])]
    rfl
  · rw [if_neg fun q => e (Sum.inr.inj q)]
    exact h.resolve_right e
theorem ok_settled {f : Addr} {fd : FuncData} (T : Txt K mg A) (c_Circuit_sources : Met P w K mg base 1 A.CC "sources" (spSources A)) (c__law_gate_value : Cal P w K mg base 1 "_law_gate_value" spLGateVal) (F : Fun K "_law_settled" "_law_settled" s__law_settled f fd) :
    FnOk P w K mg base CX0 2 f fd ["_law_circuit_here", "_law_version_here", "_law_pattern", "_law_forced"] (spSettled A) := by
  refine F.ok sc__law_settled (fun vs H Q E h => ?_) (fun cdv Ar outer s H vs Q E hr h => ?_)
  · obtain ⟨v, x, ap, dF, C, u, pat, ff, kF, rfl, _⟩ := h
    rfl
  obtain ⟨v, x, ap, dF, C, u, pat, ff, kF, rfl, hc, wf, hx, hok, hap, hpl, hF, hfF, k⟩ := h
  refine ⟨_, (pss_cons (ps_set (i := 4) sc__law_settled.nd rfl (Or.inr rfl) pe_dnewK)
      (pss_cons (ps_set (i := 5) sc__law_settled.nd rfl (Or.inl rfl) (pe_mt0 c_Circuit_sources hr (by omega) (pv 0)))
      (pss_cons (ps_for PassesOwn.never rfl (pi_range1 rfl T.z_range (pa_cons (pe_callB call_len_seq (by rfl) T.z_len PySem.boot_len (pa_cons (pv 5) pa_nil)) pa_nil)) (pg_name (i := 6) sc__law_settled.nd rfl (Or.inl rfl)) (pss_one (ps_dput (hu_of hr) (pv 4) (pe_ix ix_list (pv 5) (pv 6) (fun _ _ => rfl)) (pe_dget2 (hu_of hr) (pv 3) (pe_ix ix_list (pv 5) (pv 6) (fun _ _ => rfl)) (pe_ix ix_tup (pv 2) (pv 6) (fun _ _ => rfl)) ⟨by rfl, by rfl, by rfl, by rfl⟩) rfl)))
      (pss_cons (ps_for PassesOwn.never rfl (pi_range1 rfl T.z_range (pa_cons (pe_callB call_len_seq (by rfl) T.z_len PySem.boot_len (pa_cons (pe_fld (pv 0) rfl) pa_nil)) pa_nil)) (pg_name (i := 7) sc__law_settled.nd rfl (Or.inl rfl)) (pss_one (ps_for PassesOwn.never rfl (pi_tup (pe_fld (pv 0) rfl)) (pg_name (i := 8) sc__law_settled.nd rfl (Or.inl rfl)) (pss_one (ps_if (PW.pt (pw_and (pt_cmp (pc_dnotin (hu_of hr) (pe_ix ix_tup (pv 8) pe_int (fun _ _ => rfl)) (pv 4))) (pw_and1 (pt_val (pe_callB (cr_all rfl) (by rfl) T.z_all bt_all (pa_cons (pe_lc (own := [("_law_pin", 10)])  rfl sc__law_settled.nd (pi_tup (pe_ix ix_tup (pv 8) pe_int (fun _ _ => rfl))) (blkOk_by (own := [("_law_pin", 10)]) (sc := defScope s__law_settled) (N := ["_law_circuit_here", "_law_version_here", "_law_pattern", "_law_forced", "_law_known", "_law_sources", "_law_k", "_law_turn", "_law_gate_here", "_law_bits", "_law_pin"]) (by decide +kernel)) (fun _ _ _ _ _ => (pg_name (i := 10) sc__law_settled.nd rfl (Or.inl rfl))) (fun _ _ _ _ _ => pts_nil) (fun _ _ _ _ _ => (pe_cmp (pc_din (hu_of hr) (pv 10) (pv 4)) rfl))) pa_nil)))))) (pss_cons (ps_setLc (i := 9) (own := [("_law_pin", 10)]) rfl sc__law_settled.nd rfl rfl (sw_true rfl rfl rfl (by decide +kernel)) (pi_tup (pe_ix ix_tup (pv 8) pe_int (fun _ _ => rfl))) (blkOk_by (own := [("_law_pin", 10)]) (sc := defScope s__law_settled) (N := ["_law_circuit_here", "_law_version_here", "_law_pattern", "_law_forced", "_law_known", "_law_sources", "_law_k", "_law_turn", "_law_gate_here", "_law_bits", "_law_pin"]) (by decide +kernel)) (fun _ _ _ _ _ => (pg_name (i := 10) sc__law_settled.nd rfl (Or.inl rfl))) (fun _ _ _ _ _ => pts_nil) (fun _ _ _ _ _ => (pe_dget (hu_of hr) (pv 4) (pv 10) (fun _ _ => rfl))))
      (pss_cons (ps_if (PW.pt (pw_and (pt_cmp (pc_notN (pv 1))) (pw_and (pt_cmpR op_eq (pe_ix ix_tup (pv 1) pe_int (fun _ _ => rfl)) pe_str (nomark _)) (pw_and1 (pt_cmpR op_eq (pe_ix ix_tup (pv 1) pe_int (fun _ _ => rfl)) (pe_ix ix_tup (pv 8) pe_int (fun _ _ => rfl)) (nomark _)))))) (pss_one (ps_asg (pe_ix ix_tup (pv 1) pe_int (fun _ _ => rfl)) (pg_sub (pv 9) (pe_ix ix_tup (pv 1) pe_int (fun _ _ => rfl)) set_list))) pss_nil)
      (pss_one (ps_dput (hu_of hr) (pv 4) (pe_ix ix_tup (pv 8) pe_int (fun _ _ => rfl)) (pe_dget2 (hu_of hr) (pv 3) (pe_ix ix_tup (pv 8) pe_int (fun _ _ => rfl)) (pe_c c__law_gate_value hr (by omega) rfl (pa_cons (pe_ix ix_tup (pv 8) pe_int (fun _ _ => rfl)) (pa_cons (pv 9) pa_nil))) ⟨by rfl, by rfl, by rfl, by rfl⟩) rfl)))) pss_nil)))))
      (pss_one (ps_ret (pv 4))))))), ?_⟩
  have hns := wf.ns
  have hng := wf.ng
  obtain ⟨pc, dxc, fsc, aI, aR, aG, aO, vR, vG, aD, aL, vL, kv0, rfl, cc, g1, g2, g3, g4, g5, g6⟩ := hc
  have hc : CircAt A H (.ref pc) C := ⟨pc, dxc, fsc, aI, aR, aG, aO, vR, vG, aD, aL, vL, kv0, rfl, cc, g1, g2, g3, g4, g5, g6⟩
  have hgl := cc.gates.length
  generalize hTh : (fun l => bitV (through C u ff pat l)) = Fn at k
  have hFn : ∀ l, Fn l = bitV (through C u ff pat l) := fun l => by rw [← hTh]
  refine fun D hD => ?_
  have s1 := same_new hD (.dK [])
  have hD1 := upd_same (H := H) (a := D) (o := .dK [])
  generalize upd H D (.dK []) = H1 at s1 hD1 ⊢
  have hc1 := hc.mono s1
  have cc1 := cc.mono s1
  decreasing_trivial
  refine ⟨pc, dxc, fsc, rfl, cc1.ob, cc1.fN _ (by decide), _, C, rfl, hc1.parts, ?_⟩
  rintro v H2 s2 ⟨z, rfl, hz0, hz⟩
  have s12 := s1.trans s2
  have hzD : z ≠ D := fun e => by
    rw [e, hD1] at hz0
    cases hz0
  decreasing_trivial
  refine ⟨by rw [List.length_map]; omega, by rw [List.length_map]; omega, ?_⟩
  have hrn : (((C.sources.map V.str).length : Nat) : Int).toNat = C.sources.length := by rw [List.length_map]; omega
  rw [hrn]
  refine for_it (walk_range (lo := 0) (n := C.sources.length)) (fun i σ H' => (∃ x6 x7 x8 x9 x10, σ = [some (.ref pc), some x, some (.ref ap), some (.ref dF), some (.ref D), some (.ref z), x6, x7, x8, x9, x10]) ∧ Same H H' ∧ H' z = some (.lst (C.sources.map V.str)) ∧ ∃ kvs, H' D = some (.dK kvs) ∧ kvs.length ≤ i ∧ Snd C kvs Fn ∧ ∀ x ∈ C.sources.take i, Has kvs x) ⟨⟨_, _, _, _, _, rfl⟩, s12, hz, [], s2 _ _ hD1, Nat.le_refl _, fun x y h => (by rw [valV_nil] at h; cases h), fun x hx => by simp at hx⟩ (fun _ _ _ _ _ => trivial) ?_ ?_
  · rintro i x' σ H3 H3' hi ⟨⟨x6, x7, x8, x9, x10, rfl⟩, s3, hz3, kvs, hD3, hkl, hsn, hhas⟩ ⟨rfl, rfl⟩
    have hsn' : C.sources[i]? = some C.sources[i] := List.getElem?_eq_getElem hi
    have hpat : pat[i]? = some (pat[i]'(by omega)) := List.getElem?_eq_getElem _
    generalize C.sources[i] = sn at hsn'
    generalize pat[i]'(by omega) = b at hpat
    have hF3 := s3 _ _ hF
    have hap3 := s3 _ _ hap
    decreasing_trivial
    refine ⟨.inl ⟨_, .inl hF3⟩, ?_⟩
    refine ⟨_, rfl, _, rfl, z, _, 0 + (i : Int), .str sn, rfl, rfl, SqL.of hz3, by rw [Int.zero_add]; exact atI_nat (by rw [List.getElem?_map, hsn']; rfl), ?_⟩
    refine ⟨_, rfl, _, rfl, ap, _, 0 + (i : Int), bitV b, rfl, rfl, SqT.of hap3, by rw [Int.zero_add]; exact atI_nat (by rw [List.getElem?_map, hpat]; rfl), ?_⟩
    refine ⟨_, DGet.k (k := Sum.inr sn) hF3, ?_⟩
    rw [hfF, getD_map, ← through_src wf hpl hsn' hpat, ← hFn]
    refine ⟨_, rfl, _, rfl, _, rfl, z, _, 0 + (i : Int), .str sn, rfl, rfl, SqL.of hz3, by rw [Int.zero_add]; exact atI_nat (by rw [List.getElem?_map, hsn']; rfl), ?_⟩
    refine ⟨_, _, rfl, DPut.k (k := Sum.inr sn) hD3 (small1000 (by omega)), ?_⟩
    have := length_putK kvs (Sum.inr sn) (Fn sn)
    refine ⟨⟨_, _, _, _, _, rfl⟩, Same.mut s3 hD, by rw [upd_ne hzD]; exact hz3, _, upd_same, by omega, hsn.put (wf.src (List.mem_of_getElem? hsn')), fun x hx => ?_⟩
    rw [List.take_succ, hsn'] at hx
    rcases List.mem_append.mp hx with h | h
    · exact Has.put (.inl (hhas x h))
    · exact Has.put (.inr (by simpa using h))
  · rintro σ H3 ⟨⟨x6, x7, x8, x9, x10, rfl⟩, s3, hz3, kvs, hD3, hkl, hsn, hhas⟩
    rw [List.take_length] at hhas
    have cc3 := cc.mono s3
    refine ⟨_, rfl, _, _, _, _, _, rfl, cc3.ob, T.cC, T.nC_gates, cc3.fG, ?_⟩
    refine ⟨_, _, rfl, .inr (SqT.of cc3.hG), ?_⟩
    refine ⟨_, rfl, by rw [hgl]; omega, by rw [hgl]; omega, ?_⟩
    have hrn2 : ((vG.length : Nat) : Int).toNat = C.gates.length := by rw [hgl]; omega
    rw [hrn2]
    have hord : C.order.length = C.gates.length := wf.perm.length_eq
    refine for_it (walk_range (lo := 0) (n := C.gates.length)) (fun t σ H' => (∃ x6 x7 x8 x9 x10, σ = [some (.ref pc), some x, some (.ref ap), some (.ref dF), some (.ref D), some (.ref z), x6, x7, x8, x9, x10]) ∧ Same H H' ∧ ∃ kvs, H' D = some (.dK kvs) ∧ kvs.length ≤ 6 + 7 * t ∧ Snd C kvs Fn ∧ ∀ x ∈ C.sources ++ (C.order.take t).map (·.line), Has kvs x) ⟨⟨_, _, _, _, _, rfl⟩, s3, kvs, hD3, by omega, hsn, by simpa using hhas⟩ (fun _ _ _ _ _ => trivial) ?_ ?_
    · rintro t x' σ H4 H4' ht ⟨⟨x6, x7, x8, x9, x10, rfl⟩, s4, kvs4, hD4, hkl4, hsn4, hhas4⟩ ⟨rfl, rfl⟩
      have cc4 := cc.mono s4
      refine ⟨_, rfl, _, _, _, _, _, rfl, cc4.ob, T.cC, T.nC_gates, cc4.fG, ?_⟩
      refine ⟨_, rfl, ⟨_, SqT.of cc4.hG⟩, ?_⟩
      refine for_it (walk_tup (xs := vG)) (fun j σ H' => (∃ x6 x7 x8 x9 x10, σ = [some (.ref pc), some x, some (.ref ap), some (.ref dF), some (.ref D), some (.ref z), x6, x7, x8, x9, x10]) ∧ Same H H' ∧ ∃ kvs, H' D = some (.dK kvs) ∧ kvs.length ≤ 6 + 7 * t + j ∧ Snd C kvs Fn ∧ (∀ x ∈ C.sources ++ (C.order.take t).map (·.line), Has kvs x) ∧ ∀ (i : Nat) (g : Gate Str), i < j → C.gates[i]? = some g → (∀ p ∈ g.pins, p ∈ C.sources ++ (C.order.take t).map (·.line)) → Has kvs g.line) ⟨⟨_, _, _, _, _, rfl⟩, s4, kvs4, hD4, by omega, hsn4, hhas4, fun i g h => absurd h (Nat.not_lt_zero _)⟩ (fun j σ H' _ q => SqT.of (q.2.1 _ _ cc.hG)) ?_ ?_
      · rintro j gv σ H5 H5' hj ⟨⟨x6, x7, x8, x9, x10, rfl⟩, s5, kvs5, hD5, hkl5, hsn5, hhas5, hpr5⟩ ⟨rfl, hgv⟩
        obtain ⟨g, hg, hga⟩ := Paired.at cc.gates hgv
        have hgm := List.mem_of_getElem? hg
        have har := wf.arity g hgm
        have hpa := arity_le har
        obtain ⟨a, b, rfl, ha, hb, hokg⟩ := hga.mono s5
        have keepit : ∀ (H' : Hp) (x9 x10 : Option V), Same H5' H' → (Has kvs5 g.line ∨ ¬ ∀ p ∈ g.pins, Has kvs5 p) → (∃ y6 y7 y8 y9 y10, [some (.ref pc), some x, some (.ref ap), some (.ref dF), some (.ref D), some (.ref z), x6, x7, some (.ref a), x9, x10] = [some (.ref pc), some x, some (.ref ap), some (.ref dF), some (.ref D), some (.ref z), y6, y7, y8, y9, y10]) ∧ Same H H' ∧ ∃ kvs, H' D = some (.dK kvs) ∧ kvs.length ≤ 6 + 7 * t + (j + 1) ∧ Snd C kvs Fn ∧ (∀ x ∈ C.sources ++ (C.order.take t).map (·.line), Has kvs x) ∧ ∀ (i : Nat) (g : Gate Str), i < j + 1 → C.gates[i]? = some g → (∀ p ∈ g.pins, p ∈ C.sources ++ (C.order.take t).map (·.line)) → Has kvs g.line := by
          intro H' x9 x10 sH hor
          refine ⟨⟨_, _, _, _, _, rfl⟩, s5.trans sH, kvs5, sH _ _ hD5, by omega, hsn5, hhas5, fun i g' hi hg' hp => ?_⟩
          rcases Nat.lt_succ_iff_lt_or_eq.mp hi with h | rfl
          · exact hpr5 i g' h hg' hp
          · rw [hg] at hg'
            cases hg'
            rcases hor with h | h
            · exact h
            · exact absurd (fun p hpp => hhas5 p (hp p hpp)) h
        decreasing_trivial
        refine ⟨_, _, rfl, DGet.k (k := Sum.inr g.line) hD5, _, rfl, ?_⟩
        cases hkn : (valV kvs5 (Sum.inr g.line)).isSome with
        | true => exact iteF (iteF (keepit _ _ _ (Same.refl _) (.inl hkn)))
        | false =>
          refine iteT ?_
          decreasing_trivial
          refine ⟨⟨_, SqT.of hb⟩, fun L hL => ?_⟩
          refine lcM (walk_tup (xs := g.pins.map V.str)) g.pins (by rw [List.length_map]) (fun y p _ => y = V.bl (valV kvs5 (Sum.inr p)).isSome) (fun _ _ _ _ _ q => q) (by rw [List.length_map]; omega) hL (fun H' s' => s'.seqT (SqT.of hb)) ?_ ?_
          · rintro q x' H6 H7 p hp s6 ⟨rfl, hx6⟩ kk hk
            rw [List.getElem?_map, hp] at hx6
            cases hx6
            refine ⟨rfl, ?_⟩
            decreasing_trivial
            refine ⟨_, _, rfl, DGet.k (k := Sum.inr p) (s6 _ _ hD5), ?_⟩
            exact hk _ _ (Same.refl _) rfl
          intro H6 ys s6 hL6 hy6
          rw [vals_eq hy6] at hL6
          refine ⟨_, g.pins.map fun p => (valV kvs5 (Sum.inr p)).isSome, rfl, SqL.of (by rw [hL6, List.map_map]; rfl), _, rfl, ?_⟩
          rw [all_map]
          cases hall : g.pins.all fun p => (valV kvs5 (Sum.inr p)).isSome with
          | false =>
            refine iteF ?_
            refine keepit _ _ _ s6 (.inr fun h => ?_)
            rw [List.all_eq_false] at hall
            obtain ⟨p, hp, h2⟩ := hall
            exact h2 (h p hp)
          | true =>
            refine iteT ?_
            rw [List.all_eq_true] at hall
            have hb6 := s6 _ _ hb
            have hD6 := s6 _ _ hD5
            have ha6 := s6 _ _ ha
            refine asgCut (R := fun v H7 => Same H6 H7 ∧ ∃ B, v = .ref B ∧ H6 B = none ∧ H7 B = some (.lst (g.pins.map Fn))) (fun K' hK => ?_) ?_
            · decreasing_trivial
              refine ⟨⟨_, SqT.of hb6⟩, fun B hB => ?_⟩
              refine lcM (walk_tup (xs := g.pins.map V.str)) g.pins (by rw [List.length_map]) (fun y p _ => y = Fn p) (fun _ _ _ _ _ q => q) (by rw [List.length_map]; omega) hB (fun H' s' => s'.seqT (SqT.of hb6)) ?_ ?_
              · rintro q x' H7 H8 p hp s7 ⟨rfl, hx7⟩ kk hk
                rw [List.getElem?_map, hp] at hx7
                cases hx7
                obtain ⟨y, hy⟩ := Option.isSome_iff_exists.mp (hall p (List.mem_of_getElem? hp))
                refine ⟨rfl, ?_⟩
                decreasing_trivial
                refine ⟨D, _, rfl, by rw [← hy]; exact DGet.k (k := Sum.inr p) (s7 _ _ hD6), ?_⟩
                exact hk _ _ (Same.refl _) (hsn5 p y hy).2
              · intro H7 ys7 s7 hB7 hy7
                rw [vals_eq hy7] at hB7
                exact hK _ _ ⟨s7, B, rfl, hB, hB7⟩
            rintro v7 H7 ⟨s7, B, rfl, hB0, hB7⟩
            have hB7 : H7 B = some (.lst ((g.pins.map fun p => through C u ff pat p).map bitV)) := by
              rw [hB7, List.map_map]
              congr 2
              apply List.map_congr_left
              intro p _
              exact hFn p
            have s67 := s6.trans s7
            have ha7 := s67 _ _ ha
            have hHB : H B = none := (s5.trans s6).free hB0
            refine ifCut (R := fun H8 => Same H H8 ∧ Keep H7 H8 ∧ H8 B = some (.lst ((pinVals u g (through C u ff pat)).map bitV))) (fun N hN => ?_) ?_
            · have same0 : u.stuck g.line = (fun _ => none) → N _ H7 := fun e => hN H7 ⟨s5.trans s67, Same.keep (Same.refl _), by
                rw [hB7]
                unfold pinVals
                rw [e]
                congr 3
                apply List.ext_getElem?
                intro q
                rw [List.getElem?_map, List.getElem?_mapIdx]
                rfl⟩
              have hx7 := hx.mono (s5.trans s67)
              cases u with
              | right =>
                obtain rfl : x = .non := hx
                decreasing_trivial
                exact same0 rfl
              | stem l bb =>
                obtain ⟨av, rfl, hav, _⟩ := hx7
                decreasing_trivial
                exact same0 rfl
              | short l m bb =>
                obtain ⟨av, rfl, hav, _⟩ := hx7
                decreasing_trivial
                exact same0 rfl
              | pin l i bb =>
                obtain ⟨av, rfl, hav, _⟩ := hx7
                decreasing_trivial
                by_cases hl : l = g.line
                · refine ifT (by rw [hl]; exact decide_eq_true rfl) ?_
                  obtain ⟨g', hg', e1, hi⟩ := hok
                  have : g' = g := wf.gate_inj hg' hgm (e1.trans hl)
                  subst this
                  decreasing_trivial
                  refine ⟨B, _, (i : Int), i, rfl, rfl, hB7, ?_, ?_⟩
                  · unfold ixN
                    rw [if_pos (by omega), if_pos (by rw [List.length_map, List.length_map]; omega)]
                    simp
                  · refine hN _ ⟨Same.mut (s5.trans s67) hHB, keep_lst hB7, ?_⟩
                    rw [upd_same]
                    unfold pinVals
                    have e2 : (fun (j : Nat) p => ((Ver.pin l i bb).stuck g'.line j).getD (through C (.pin l i bb) ff pat p)) = fun j p => (if i = j then some bb else none : Option Bool).getD (through C (.pin l i bb) ff pat p) := by
                      funext j p
                      show (if l = g'.line ∧ i = j then some bb else none : Option Bool).getD _ = _
                      simp [hl]
                    rw [e2, mapIdx_set (g := l)]
                    rw [List.map_set]
                · refine ifF (decide_eq_false fun q => hl (V.str.inj q)) ?_
                  refine same0 ?_
                  funext j
                  show (if l = g.line ∧ i = j then some bb else none : Option Bool) = none
                  rw [if_neg fun q => hl q.1]
            rintro H8 ⟨s8, kp8, hB8⟩
            have ha8 := kp8.tup ha7
            have hD8 := kp8.dk (s67 _ _ hD5)
            have hF8 := s8 _ _ hF
            decreasing_trivial
            refine ⟨.inl ⟨_, .inl hF8⟩, ?_⟩
            decreasing_trivial
            refine ⟨g.kind, B, _, rfl, hB8, by unfold pinVals; rw [List.length_mapIdx]; exact har, ?_⟩
            rintro v9 H9 s9 rfl
            refine ⟨_, DGet.k (k := Sum.inr g.line) (s9 _ _ hF8), ?_⟩
            rw [hfF, getD_map, ← through_gate wf hgm, ← hFn]
            have ha9 := s9 _ _ ha8
            decreasing_trivial
            have := length_putK kvs5 (Sum.inr g.line) (Fn g.line)
            refine ⟨_, _, rfl, DPut.k (k := Sum.inr g.line) (s9 _ _ hD8) (small1000 (by omega)), ?_⟩
            refine ⟨⟨_, _, _, _, _, rfl⟩, Same.mut (s8.trans s9) hD, _, upd_same, by omega, hsn5.put (wf.gate hgm), fun x' hx' => Has.put (.inl (hhas5 x' hx')), fun i g' hi hg' hp => ?_⟩
            rcases Nat.lt_succ_iff_lt_or_eq.mp hi with h | rfl
            · exact Has.put (.inl (hpr5 i g' h hg' hp))
            · rw [hg] at hg'
              cases hg'
              exact Has.put (.inr rfl)
      · rintro σ H5 ⟨⟨x6, x7, x8, x9, x10, rfl⟩, s5, kvs5, hD5, hkl5, hsn5, hhas5, hpr5⟩
        refine ⟨⟨_, _, _, _, _, rfl⟩, s5, kvs5, hD5, by rw [hgl] at hkl5; omega, hsn5, fun x' hx' => ?_⟩
        have hto : C.order[t]? = some (C.order[t]'(by omega)) := List.getElem?_eq_getElem _
        generalize C.order[t]'(by omega) = g at hto
        rw [List.take_succ, hto, List.map_append] at hx'
        rcases List.mem_append.mp hx' with h | h
        · exact hhas5 x' (List.mem_append_left _ h)
        · rcases List.mem_append.mp h with h | h
          · exact hhas5 x' (List.mem_append_right _ h)
          · have e : x' = g.line := by simpa using h
            rw [e]
            have hgm : g ∈ C.gates := wf.mem_order.mp (List.mem_of_getElem? hto)
            obtain ⟨i, hi, e2⟩ := List.mem_iff_getElem.mp hgm
            exact hpr5 i g (by rw [hgl]; exact hi) (by rw [List.getElem?_eq_getElem hi, e2]) (topo_at wf.topo hto)
    · rintro σ H4 ⟨⟨x6, x7, x8, x9, x10, rfl⟩, s4, kvs4, hD4, hkl4, hsn4, hhas4⟩
      decreasing_trivial
      refine k.go s4 ⟨D, kvs4, rfl, hD, hD4, fun l hl => ?_⟩
      rw [← hord, List.take_length] at hhas4
      obtain ⟨y, hy⟩ := Option.isSome_iff_exists.mp (hhas4 l (wf.mem_linesO.mpr hl))
      rw [hy, (hsn4 l y hy).2]
end
end Pw
namespace Pw
open PySem PySem.Spec PyProof.Rows L2
local macro_rules
  | `(tactic| decreasing_trivial) => `(tactic| repeat (first
    | refine ⟨_, rfl, ?_⟩
    | refine ⟨_, _, rfl, rfl, ?_⟩
    | refine ⟨rfl, ?_⟩
    | refine ⟨_, _, rfl, .inl (SqL.of (by assumption)), ?_⟩
    | refine ⟨_, _, rfl, .inr (SqT.of (by assumption)), ?_⟩
    | refine ⟨_, _, _, _, rfl, rfl, SqT.of (by assumption), rfl, ?_⟩
    | refine ⟨_, _, _, _, rfl, rfl, SqL.of (by assumption), rfl, ?_⟩
    | refine ⟨_, _, rfl, ?_⟩))
section
variable {P : Program} {w : World} {K : PySem.W.Frag} {mg : Str → Option Value} {base : Heap} {A : Ad}
def spValues (A : Ad) : Sp := fun vs H Q _ => ∃ v x ap C u pat, vs = [v, x, .ref ap] ∧ CircAt A H v C ∧ WF C ∧ VerAt H x u ∧ VerOk C u ∧ H ap = some (.tup (pat.map bitV)) ∧ pat.length = C.sources.length ∧
  Ret (fun v H' => ∃ D kvs, v = .ref D ∧ H D = none ∧ H' D = some (.dK kvs) ∧ Tab kvs C.lines fun l => bitV (val C u pat l)) H Q
theorem min_pair (a b : Bool) {m : Int} (hm : m ∈ [bi a, bi b]) (hle : ∀ y, y ∈ [bi a, bi b] → m ≤ y) : m = bi (a && b) := by
  have h1 := hle (bi a) (by simp)
  have h2 := hle (bi b) (by simp)
  have : m = bi a ∨ m = bi b := by simpa using hm
  cases a <;> cases b <;> simp [bi] at * <;> omega
theorem max_pair (a b : Bool) {m : Int} (hm : m ∈ [bi a, bi b]) (hle : ∀ y, y ∈ [bi a, bi b] → y ≤ m) : m = bi (a || b) := by
  have h1 := hle (bi a) (by simp)
  have h2 := hle (bi b) (by simp)
  have : m = bi a ∨ m = bi b := by simpa using hm
  cases a <;> cases b <;> simp [bi] at * <;> omega
theorem ok_values {f : Addr} {fd : FuncData} (T : Txt K mg A) (c__law_settled : Cal P w K mg base 2 "_law_settled" (spSettled A)) (F : Fun K "_law_values" "_law_values" s__law_values f fd) : FnOk P w K mg base CX0 3 f fd ["_law_circuit_here", "_law_version_here", "_law_pattern"] (spValues A) := by
  refine F.ok sc__law_values (fun vs H Q E h => ?_) (fun cdv Ar outer s H vs Q E hr h => ?_)
  · obtain ⟨v, x, ap, C, u, pat, rfl, _⟩ := h
    rfl
  obtain ⟨v, x, ap, C, u, pat, rfl, hc, wf, hx, hok, hap, hpl, k⟩ := h
  refine ⟨_, (pss_cons (ps_if (PW.pt (pw_and (pt_cmp (pc_notN (pv 1))) (pw_and1 (pt_cmpR op_eq (pe_ix ix_tup (pv 1) pe_int (fun _ _ => rfl)) pe_str (nomark _))))) (pss_one (ps_ret (pe_c c__law_settled hr (by omega) rfl (pa_cons (pv 0) (pa_cons pe_non (pa_cons (pv 2) (pa_cons (pe_disp (pps_cons (pe_ix ix_tup (pv 1) pe_int (fun _ _ => rfl)) (pe_ix ix_tup (pv 1) pe_int (fun _ _ => rfl)) pps_nil) (by rfl) (by rfl) (fun z => by cases z) (by decide)) pa_nil))))))) pss_nil)
      (pss_cons (ps_if (PW.pt (pw_and (pt_cmp (pc_notN (pv 1))) (pw_and1 (pt_cmpR op_eq (pe_ix ix_tup (pv 1) pe_int (fun _ _ => rfl)) pe_str (nomark _))))) (pss_cons (ps_set (i := 3) sc__law_values.nd rfl (Or.inl rfl) (pe_c c__law_settled hr (by omega) rfl (pa_cons (pv 0) (pa_cons pe_non (pa_cons (pv 2) (pa_cons pe_dnewK pa_nil))))))
      (pss_cons (ps_set (i := 4) sc__law_values.nd rfl (Or.inl rfl) (pe_lst (pa_cons (pe_dget (hu_of hr) (pv 3) (pe_ix ix_tup (pv 1) pe_int (fun _ _ => rfl)) (fun _ _ => rfl)) (pa_cons (pe_dget (hu_of hr) (pv 3) (pe_ix ix_tup (pv 1) pe_int (fun _ _ => rfl)) (fun _ _ => rfl)) pa_nil))))
      (pss_cons (ps_set (i := 5) sc__law_values.nd rfl (Or.inl rfl) (pe_ifExp (pt_cmpR op_eq (pe_ix ix_tup (pv 1) pe_int (fun _ _ => rfl)) pe_str (nomark _)) (pe_callB (cr_min rfl) (by rfl) T.z_min bt_min (pa_cons (pv 4) pa_nil)) (pe_callB (cr_max rfl) (by rfl) T.z_max bt_max (pa_cons (pv 4) pa_nil))))
      (pss_one (ps_ret (pe_c c__law_settled hr (by omega) rfl (pa_cons (pv 0) (pa_cons pe_non (pa_cons (pv 2) (pa_cons (pe_disp (pps_cons (pe_ix ix_tup (pv 1) pe_int (fun _ _ => rfl)) (pv 5) (pps_cons (pe_ix ix_tup (pv 1) pe_int (fun _ _ => rfl)) (pv 5) pps_nil)) (by rfl) (by rfl) (fun z => by cases z) (by decide)) pa_nil)))))))))) pss_nil)
      (pss_one (ps_ret (pe_c c__law_settled hr (by omega) rfl (pa_cons (pv 0) (pa_cons (pv 1) (pa_cons (pv 2) (pa_cons pe_dnewK pa_nil))))))))), ?_⟩
  cases u with
  | right =>
    obtain rfl : x = .non := hx
    decreasing_trivial
    refine fun d hd => ?_
    have s1 := same_new hd (.dK [])
    refine ⟨_, _, ap, d, C, .right, pat, fun _ => none, [], rfl, hc.mono s1, wf, rfl, trivial, s1 _ _ hap, hpl, upd_same, ftab_none, ?_⟩
    rintro v H1 s2 ⟨D, kvs, rfl, hD0, hD, hT⟩
    exact k.go (s1.trans s2) ⟨D, kvs, rfl, s1.free hD0, hD, hT⟩
  | pin l i b =>
    obtain ⟨a, rfl, ha, hso⟩ := hx
    decreasing_trivial
    refine fun d hd => ?_
    have s1 := same_new hd (.dK [])
    refine ⟨_, _, ap, d, C, .pin l i b, pat, fun _ => none, [], rfl, hc.mono s1, wf, ⟨a, rfl, s1 _ _ ha, hso⟩, hok, s1 _ _ hap, hpl, upd_same, ftab_none, ?_⟩
    rintro v H1 s2 ⟨D, kvs, rfl, hD0, hD, hT⟩
    exact k.go (s1.trans s2) ⟨D, kvs, rfl, s1.free hD0, hD, hT⟩
  | stem l b =>
    obtain ⟨a, rfl, ha, hso⟩ := hx
    decreasing_trivial
    refine fun d hd => ?_
    have s1 := same_new hd (.dK [])
    have ha1 := s1 _ _ ha
    decreasing_trivial
    refine ⟨upd_same, [(Sum.inr l, bitV b)], rfl, by show 1 ≤ 15; decide, ?_⟩
    have s2 : Same H (upd (upd H d (.dK [])) d (.dK (mergeK [] [(Sum.inr l, bitV b)]))) := Same.mut s1 hd
    refine ⟨_, _, ap, d, C, .right, pat, forcedOf C (.stem l b) pat, _, rfl, hc.mono s2, wf, rfl, trivial, s2 _ _ hap, hpl, upd_same, fun x => ?_, ?_⟩
    · rw [valV_one]
      show _ = (if x = l then some b else none).map bitV
      split <;> rfl
    · rintro v H1 s3 ⟨D, kvs, rfl, hD0, hD, hT⟩
      exact k.go (s2.trans s3) ⟨D, kvs, rfl, s2.free hD0, hD, hT⟩
  | short a b kd =>
    obtain ⟨av, rfl, ha, hso⟩ := hx
    decreasing_trivial
    refine fun d hd => ?_
    have s1 := same_new hd (.dK [])
    refine ⟨_, _, ap, d, C, .right, pat, fun _ => none, [], rfl, hc.mono s1, wf, rfl, trivial, s1 _ _ hap, hpl, upd_same, ftab_none, ?_⟩
    rintro v H2 s2 ⟨D, kvs, rfl, hD0, hD, hT⟩
    have s12 := s1.trans s2
    have ha2 := s12 _ _ ha
    have hta := hT a hok.1
    have htb := hT b hok.2
    decreasing_trivial
    refine ⟨D, _, rfl, by rw [← hta]; exact DGet.k (k := Sum.inr a) hD, ?_⟩
    decreasing_trivial
    refine ⟨D, _, rfl, by rw [← htb]; exact DGet.k (k := Sum.inr b) hD, ?_⟩
    refine ⟨by show 2 ≤ sizeLine; decide, fun L hL => ?_⟩
    have s3 := s12.trans (same_new hL (.lst [bitV (through C .right (fun _ => none) pat a), bitV (through C .right (fun _ => none) pat b)]))
    have hL3 := upd_same (H := H2) (a := L) (o := .lst ([bi (through C .right (fun _ => none) pat a), bi (through C .right (fun _ => none) pat b)].map V.int))
    have ha3 := (same_new hL (.lst [bitV (through C .right (fun _ => none) pat a), bitV (through C .right (fun _ => none) pat b)])) _ _ ha2
    have fin : ∀ m : Int, m = bi (joinB kd (through C .right (fun _ => none) pat a) (through C .right (fun _ => none) pat b)) → ∀ (Hx : Hp) (d2 : Addr), Same H Hx → Hx d2 = none → ∀ (c0 : V) (K2 : Prop), True := fun _ _ _ _ _ _ _ _ => trivial
    dsimp only
    refine asgCut (R := fun v H4 => v = bitV (joinB kd (through C .right (fun _ => none) pat a) (through C .right (fun _ => none) pat b)) ∧ Same H H4) (fun K' hK => ?_) ?_
    · cases kd with
      | false =>
        decreasing_trivial
        refine ⟨L, [bi (through C .right (fun _ => none) pat a), bi (through C .right (fun _ => none) pat b)], rfl, SqL.of hL3, by show 0 < 2; decide, fun m hm hle => ?_⟩
        rw [max_pair _ _ hm hle]
        exact hK _ _ ⟨rfl, s3⟩
      | true =>
        decreasing_trivial
        refine ⟨L, [bi (through C .right (fun _ => none) pat a), bi (through C .right (fun _ => none) pat b)], rfl, SqL.of hL3, by show 0 < 2; decide, fun m hm hle => ?_⟩
        rw [min_pair _ _ hm hle]
        exact hK _ _ ⟨rfl, s3⟩
    · rintro v4 H4 ⟨rfl, s4⟩
      have ha4 := s4 _ _ ha
      decreasing_trivial
      refine fun d2 hd2 => ?_
      have s5 := s4.trans (same_new hd2 (.dK []))
      have ha5 := s5 _ _ ha
      generalize hjv : joinB kd (through C .right (fun _ => none) pat a) (through C .right (fun _ => none) pat b) = jv
      decreasing_trivial
      refine ⟨upd_same, [(Sum.inr a, bitV jv), (Sum.inr b, bitV jv)], rfl, by show 2 ≤ 15; decide, ?_⟩
      have s6 : Same H (upd (upd H4 d2 (.dK [])) d2 (.dK (mergeK [] [(Sum.inr a, bitV jv), (Sum.inr b, bitV jv)]))) := Same.mut s5 (s4.free hd2)
      refine ⟨_, _, ap, d2, C, .right, pat, forcedOf C (.short a b kd) pat, _, rfl, hc.mono s6, wf, rfl, trivial, s6 _ _ hap, hpl, upd_same, fun x => ?_, ?_⟩
      · rw [valV_two]
        show _ = (if x = a ∨ x = b then some (joinB kd (through C .right (fun _ => none) pat a) (through C .right (fun _ => none) pat b)) else none).map bitV
        rw [hjv]
        split <;> rfl
      · rintro v H7 s7 ⟨D, kvs, rfl, hD0, hD, hT⟩
        exact k.go (s6.trans s7) ⟨D, kvs, rfl, s6.free hD0, hD, hT⟩
def spLResp (A : Ad) : Sp := fun vs H Q _ => ∃ v x y C u pat, vs = [v, x, y] ∧ CircAt A H v C ∧ WF C ∧ VerAt H x u ∧ VerOk C u ∧ BitsAt H y pat ∧ pat.length = C.sources.length ∧ Ret (fun v H' => BitsAt H' v (resp C u pat)) H Q
theorem ok_law_response {f : Addr} {fd : FuncData} (T : Txt K mg A) (c__law_values : Cal P w K mg base 3 "_law_values" (spValues A)) (c_Circuit_sinks : Met P w K mg base 1 A.CC "sinks" (spSinks A)) (F : Fun K "_law_response" "_law_response" s__law_response f fd) : FnOk P w K mg base CX0 4 f fd ["_law_circuit_here", "_law_version_here", "_law_pattern"] (spLResp A) := by
  refine F.ok sc__law_response (fun vs H Q E h => ?_) (fun cdv Ar outer s H vs Q E hr h => ?_)
  · obtain ⟨v, x, ap, C, u, pat, rfl, _⟩ := h
    rfl
  obtain ⟨v, x, y, C, u, pat, rfl, hc, wf, hx, hok, ⟨ap, rfl, hap⟩, hpl, k⟩ := h
  refine ⟨_, (pss_cons (ps_set (i := 3) sc__law_response.nd rfl (Or.inr rfl) (pe_c c__law_values hr (by omega) rfl (pa_cons (pv 0) (pa_cons (pv 1) (pa_cons (pv 2) pa_nil)))))
      (pss_one (ps_ret (pe_callTy call_tuple_of (by rfl) T.z_tuple bt_tuple (pa_cons (pe_lc (own := [("_law_line", 4)])  rfl sc__law_response.nd (pi_list (pe_mt0 c_Circuit_sinks hr (by omega) (pv 0))) (blkOk_by (own := [("_law_line", 4)]) (sc := defScope s__law_response) (N := ["_law_circuit_here", "_law_version_here", "_law_pattern", "_law_known", "_law_line"]) (by decide +kernel)) (fun _ _ _ _ _ => (pg_name (i := 4) sc__law_response.nd rfl (Or.inl rfl))) (fun _ _ _ _ _ => pts_nil) (fun _ _ _ _ _ => (pe_dget (hu_of hr) (pv 3) (pv 4) (fun _ _ => rfl)))) pa_nil))))), ?_⟩
  have hno := wf.no
  refine ⟨_, rfl, _, rfl, _, rfl, _, _, ap, C, u, pat, rfl, hc, wf, hx, hok, hap, hpl, ?_⟩
  rintro v1 H1 s1 ⟨D, kvs, rfl, hD0, hD, hT⟩
  have hc1 := hc.mono s1
  obtain ⟨pc, dxc, fsc, rfl, obc, fnc⟩ := hc1.ins
  decreasing_trivial
  refine ⟨pc, dxc, fsc, rfl, obc, fnc _ (by decide), _, C, rfl, hc1.parts, ?_⟩
  rintro v H2 s2 ⟨z, rfl, _, hz⟩
  refine ⟨_, rfl, ⟨_, SqL.of hz⟩, fun L hL => ?_⟩
  refine lcM (walk_list (xs := C.sinks.map V.str)) C.sinks (by rw [List.length_map]) (fun y l _ => y = bitV (val C u pat l)) (fun _ _ _ _ _ q => q) (by rw [List.length_map]; omega) hL (fun H' s' => s'.seq (SqL.of hz)) ?_ ?_
  · rintro i x H3 H4 l hl3 s3 ⟨rfl, hx⟩ kk hk
    rw [List.getElem?_map, hl3] at hx
    cases hx
    refine ⟨rfl, ?_⟩
    decreasing_trivial
    refine ⟨D, _, rfl, by rw [← hT l (wf.sinks l (List.mem_of_getElem? hl3))]; exact DGet.k (k := Sum.inr l) ((s2.trans s3) _ _ hD), ?_⟩
    exact hk _ _ (Same.refl _) rfl
  · intro H3 ys s3 hL3 hyv
    rw [vals_eq hyv] at hL3
    refine ⟨_, _, rfl, .inl ⟨SqL.of hL3, fun t ht => ?_⟩⟩
    refine k.go (((s1.trans s2).trans s3).trans (same_new ht _)) ⟨t, rfl, ?_⟩
    rw [upd_same]
    unfold resp
    rw [List.map_map]
    rfl
def spPatterns : Sp := fun vs H Q _ => ∃ n : Nat, vs = [.int n] ∧ n ≤ 6 ∧ Ret (fun v H' => ∃ l ys, v = .ref l ∧ H' l = some (.lst ys) ∧ ys.length ≤ 64 ∧ ∀ y ∈ ys, ∃ pat, BitsAt H' y pat ∧ pat.length = n) H Q
theorem ok_law_patterns {f : Addr} {fd : FuncData} (T : Txt K mg A) (F : Fun K "_law_patterns" "_law_patterns" s__law_patterns f fd) : FnOk P w K mg base CX0 1 f fd ["_law_count"] spPatterns := by
  refine F.ok sc__law_patterns (fun vs H Q E h => ?_) (fun cdv Ar outer s H vs Q E hr h => ?_)
  · obtain ⟨n, rfl, _⟩ := h
    rfl
  obtain ⟨n, rfl, hn, k⟩ := h
  refine ⟨_, (pss_cons (ps_set (i := 1) sc__law_patterns.nd rfl (Or.inl rfl) (pe_lst (pa_cons (pe_tup pa_nil) pa_nil)))
      (pss_cons (ps_for PassesOwn.never rfl (pi_range1 rfl T.z_range (pa_cons (pv 0) pa_nil)) (pg_name (i := 2) sc__law_patterns.nd rfl (Or.inl rfl)) (pss_one (ps_set (i := 1) sc__law_patterns.nd rfl (Or.inl rfl) (pe_op op_cat (pe_lc (own := [("_law_pattern", 3)])  rfl sc__law_patterns.nd (pi_list (pv 1)) (blkOk_by (own := [("_law_pattern", 3)]) (sc := defScope s__law_patterns) (N := ["_law_count", "_law_patterns_here", "_law_k", "_law_pattern"]) (by decide +kernel)) (fun _ _ _ _ _ => (pg_name (i := 3) sc__law_patterns.nd rfl (Or.inl rfl))) (fun _ _ _ _ _ => pts_nil) (fun _ _ _ _ _ => (pe_op (op_catAB (K := K) rfl) (pv 3) (pe_tup (pa_cons pe_int pa_nil))))) (pe_lc (own := [("_law_pattern", 3)])  rfl sc__law_patterns.nd (pi_list (pv 1)) (blkOk_by (own := [("_law_pattern", 3)]) (sc := defScope s__law_patterns) (N := ["_law_count", "_law_patterns_here", "_law_k", "_law_pattern"]) (by decide +kernel)) (fun _ _ _ _ _ => (pg_name (i := 3) sc__law_patterns.nd rfl (Or.inl rfl))) (fun _ _ _ _ _ => pts_nil) (fun _ _ _ _ _ => (pe_op (op_catAB (K := K) rfl) (pv 3) (pe_tup (pa_cons pe_int pa_nil)))))))))
      (pss_one (ps_ret (pv 1))))), ?_⟩
  refine ⟨Nat.zero_le _, fun t0 ht0 => ⟨by show 1 ≤ sizeLine; decide, fun l0 hl0 => ?_⟩⟩
  have s0 := (same_new ht0 (.tup [])).trans (same_new hl0 (.lst [.ref t0]))
  have ht := (same_new hl0 (.lst [.ref t0])) _ _ (upd_same (H := H) (a := t0) (o := .tup []))
  decreasing_trivial
  refine ⟨by omega, by omega, ?_⟩
  refine for_it (walk_range (lo := 0) (n := n)) (fun i σ H' => ∃ l ys x2 x3, σ = [some (.int (n : Int)), some (.ref l), x2, x3] ∧ Same H H' ∧ H' l = some (.lst ys) ∧ ys.length ≤ 2 ^ i ∧ ∀ y ∈ ys, ∃ pat, BitsAt H' y pat ∧ pat.length = i) ⟨l0, _, _, _, rfl, s0, upd_same, Nat.le_refl _, fun y hy => ⟨[], ⟨t0, List.mem_singleton.mp hy, ht⟩, rfl⟩⟩ (fun _ _ _ _ _ => trivial) ?_ ?_
  · rintro i x σ H1 H1' hi ⟨l, ys, x2, x3, rfl, s1, hl, hlen, hys⟩ ⟨rfl, rfl⟩
    have hpow : 2 ^ i ≤ 64 := by
      have := Nat.pow_le_pow_right (show 1 ≤ 2 by decide) (show i ≤ 6 by omega)
      exact this
    have step : ∀ (b : Bool) (H2 : Hp) (Q2 : VK), Same H1' H2 → True := fun _ _ _ _ => trivial
    decreasing_trivial
    refine ⟨⟨_, SqL.of hl⟩, fun L1 hL1 => ?_⟩
    refine lcR (walk_list (xs := ys)) (fun _ y H => ∃ pat, BitsAt H y pat ∧ pat.length = i + 1) (fun _ _ _ _ kp ⟨pat, q, e⟩ => ⟨pat, q.keep kp, e⟩) (by omega) hL1 (fun H' s' => s'.seq (SqL.of hl)) ?_ ?_
    · rintro j x H2 H3 hj s2 ⟨rfl, hx⟩ kk hk
      obtain ⟨pat, hb, hpl⟩ := hys x (List.mem_of_getElem? hx)
      obtain ⟨ap, rfl, hap⟩ := hb.mono s2
      refine ⟨rfl, ?_⟩
      decreasing_trivial
      refine ⟨by show 1 ≤ sizeLine; decide, fun t ht => ?_⟩
      have sT := same_new ht (.tup [.int 0])
      refine rdCatH (sT _ _ hap) upd_same (by rw [List.length_map]; show pat.length + 1 ≤ 1000; omega) fun t2 H4 s4 ht2 => ?_
      exact hk _ _ (sT.trans s4) ⟨pat ++ [false], ⟨t2, rfl, by rw [ht2, List.map_append]; rfl⟩, by rw [List.length_append, hpl]; rfl⟩
    intro H2 z1 s2 hL12 hz1
    have hl2 := s2 _ _ hl
    refine ⟨_, rfl, _, rfl, ⟨_, SqL.of hl2⟩, fun L2 hL2 => ?_⟩
    refine lcR (walk_list (xs := ys)) (fun _ y H => ∃ pat, BitsAt H y pat ∧ pat.length = i + 1) (fun _ _ _ _ kp ⟨pat, q, e⟩ => ⟨pat, q.keep kp, e⟩) (by omega) hL2 (fun H' s' => s'.seq (SqL.of hl2)) ?_ ?_
    · rintro j x H3 H4 hj s3 ⟨rfl, hx⟩ kk hk
      obtain ⟨pat, hb, hpl⟩ := hys x (List.mem_of_getElem? hx)
      obtain ⟨ap, rfl, hap⟩ := (hb.mono s2).mono s3
      refine ⟨rfl, ?_⟩
      decreasing_trivial
      refine ⟨by show 1 ≤ sizeLine; decide, fun t ht => ?_⟩
      have sT := same_new ht (.tup [.int 1])
      refine rdCatH (sT _ _ hap) upd_same (by rw [List.length_map]; show pat.length + 1 ≤ 1000; omega) fun t2 H5 s5 ht2 => ?_
      exact hk _ _ (sT.trans s5) ⟨pat ++ [true], ⟨t2, rfl, by rw [ht2, List.map_append]; rfl⟩, by rw [List.length_append, hpl]; rfl⟩
    intro H3 z2 s3 hL23 hz2
    have e1 := hz1.length
    have e2 := hz2.length
    rw [List.length_range] at e1 e2
    refine ⟨_, _, _, _, rfl, rfl, s3 _ _ hL12, hL23, sz2 (by omega), fun q hq => ?_⟩
    have sq := same_new hq (.lst (z1 ++ z2))
    refine ⟨q, z1 ++ z2, _, _, rfl, (s1.trans (s2.trans s3)).trans sq, upd_same, by rw [List.length_append, Nat.pow_succ]; omega, fun y hy => ?_⟩
    rcases List.mem_append.mp hy with h | h
    · obtain ⟨j, hj, e⟩ := List.mem_iff_getElem.mp h
      obtain ⟨_, _, pat, q1, q2⟩ := Paired.at' hz1 (i := j) (b := y) (by rw [List.getElem?_eq_getElem hj, e])
      exact ⟨pat, (q1.mono s3).mono sq, q2⟩
    · obtain ⟨j, hj, e⟩ := List.mem_iff_getElem.mp h
      obtain ⟨_, _, pat, q1, q2⟩ := Paired.at' hz2 (i := j) (b := y) (by rw [List.getElem?_eq_getElem hj, e])
      exact ⟨pat, q1.mono sq, q2⟩
  · rintro σ H1 ⟨l, ys, x2, x3, rfl, s1, hl, hlen, hys⟩
    decreasing_trivial
    have hpow : 2 ^ n ≤ 64 := Nat.pow_le_pow_right (show 1 ≤ 2 by decide) (show n ≤ 6 by omega)
    exact k.go s1 ⟨l, ys, rfl, hl, by omega, hys⟩
def spTaken (A : Ad) : Sp := fun vs H Q _ => ∃ v x1 x2 xq C u1 u2 q, vs = [v, x1, x2, xq] ∧ CircAt A H v C ∧ WF C ∧ VerAt H x1 u1 ∧ VerAt H x2 u2 ∧ VerGood C u1 ∧ VerGood C u2 ∧ PaperAt H xq q ∧ Right C u1 u2 (emptyP C) q ∧ Ret (fun v H' => v = .bl true) H Q
theorem ok_taken {f : Addr} {fd : FuncData} (T : Txt K mg A) (c_check_paper : Cal P w K mg base 20 "check_paper" (spCheckPaper A)) (F : Fun K "_law_taken" "_law_taken" s__law_taken f fd) : FnOk P w K mg base CX0 21 f fd ["_law_circuit_here", "_law_one", "_law_other", "_law_paper"] (spTaken A) := by
  refine F.ok sc__law_taken (fun vs H Q E h => ?_) (fun cdv Ar outer s H vs Q E hr h => ?_)
  · obtain ⟨v, x1, x2, xq, C, u1, u2, q, rfl, _⟩ := h
    rfl
  obtain ⟨v, x1, x2, xq, C, u1, u2, q, rfl, hc, wf, h1, h2, g1, g2, hq, hR, k⟩ := h
  refine ⟨_, (pss_cons (ps_try_thru0 (pss_one (ps_expr (pe_c c_check_paper hr (by omega) rfl (pa_cons (pv 0) (pa_cons (pv 1) (pa_cons (pv 2) (pa_cons (pv 3) pa_nil))))))))
      (pss_one (ps_ret pe_bl))), ?_⟩
  refine ⟨_, rfl, _, rfl, _, rfl, _, rfl, _, _, _, _, C, u1, u2, q, rfl, hc, wf, h1, h2, g1, g2, hq, hR, ?_⟩
  rintro v H1 s1 rfl
  exact k.go s1 rfl
def dividesB (C : Circ Str) (us : List (Ver Str)) (pat : List Bool) : Bool := match us with
  | [] => false
  | u0 :: r => (u0 :: r).any fun u => !decide (resp C u pat = resp C u0 pat)
theorem dividesB_iff {C : Circ Str} {us : List (Ver Str)} {pat : List Bool} : dividesB C us pat = true ↔ Divides C us pat := by
  cases us with
  | nil => exact ⟨fun h => (by cases h), fun ⟨_, _, e, _⟩ => (by cases e)⟩
  | cons u0 r =>
    show ((u0 :: r).any fun u => !decide (resp C u pat = resp C u0 pat)) = true ↔ _
    rw [List.any_eq_true]
    constructor
    · rintro ⟨u, hu, h⟩
      exact ⟨u0, r, rfl, u, hu, by simpa using h⟩
    · rintro ⟨v0, r', e, u, hu, h⟩
      cases e
      exact ⟨u, hu, by simpa using h⟩
def spDivides (A : Ad) : Sp := fun vs H Q _ => ∃ v l y C us pat, vs = [v, .ref l, y] ∧ CircAt A H v C ∧ WF C ∧ VersAt H l us ∧ us ≠ [] ∧ us.length ≤ 100 ∧ (∀ u ∈ us, VerGood C u) ∧ BitsAt H y pat ∧ pat.length = C.sources.length ∧ Ret (fun v H' => v = .bl (dividesB C us pat)) H Q
theorem ok_divides {f : Addr} {fd : FuncData} (T : Txt K mg A) (c__law_response : Cal P w K mg base 4 "_law_response" (spLResp A)) (F : Fun K "_law_divides" "_law_divides" s__law_divides f fd) : FnOk P w K mg base CX0 5 f fd ["_law_circuit_here", "_law_versions", "_law_pattern"] (spDivides A) := by
  refine F.ok sc__law_divides (fun vs H Q E h => ?_) (fun cdv Ar outer s H vs Q E hr h => ?_)
  · obtain ⟨v, l, y, C, us, pat, rfl, _⟩ := h
    rfl
  obtain ⟨v, l, y, C, us, pat, rfl, hc, wf, ⟨xs, hl, hx⟩, hne, hu100, hg, hy, hpl, k⟩ := h
  refine ⟨_, (pss_cons (ps_set (i := 3) sc__law_divides.nd rfl (Or.inr rfl) (pe_c c__law_response hr (by omega) rfl (pa_cons (pv 0) (pa_cons (pe_ix ix_list (pv 1) pe_int (fun _ _ => rfl)) (pa_cons (pv 2) pa_nil)))))
      (pss_one (ps_ret (pe_callB (cr_any rfl) (by rfl) T.z_any bt_any (pa_cons (pe_lc (own := [("_law_version_here", 4)])  rfl sc__law_divides.nd (pi_list (pv 1)) (blkOk_by (own := [("_law_version_here", 4)]) (sc := defScope s__law_divides) (N := ["_law_circuit_here", "_law_versions", "_law_pattern", "_law_first", "_law_version_here"]) (by decide +kernel)) (fun _ _ _ _ _ => (pg_name (i := 4) sc__law_divides.nd rfl (Or.inl rfl))) (fun _ _ _ _ _ => pts_nil) (fun _ _ _ _ _ => (pe_cmpR (op_neDB (K := K) rfl (hu64 hr)) (pe_c c__law_response hr (by omega) rfl (pa_cons (pv 0) (pa_cons (pv 4) (pa_cons (pv 2) pa_nil)))) (pv 3) (nomark _)))) pa_nil))))), ?_⟩
  obtain ⟨u0, ur, rfl⟩ : ∃ u0 ur, us = u0 :: ur := by
    cases us with
    | nil => exact absurd rfl hne
    | cons a b => exact ⟨a, b, rfl⟩
  cases hx with
  | cons hx0 hxr =>
  rename_i x0 xr
  have hxl := hxr.length
  rw [List.length_cons] at hu100
  decreasing_trivial
  refine ⟨l, _, 0, x0, rfl, rfl, SqL.of hl, atI_nat (j := 0) rfl, ?_⟩
  refine ⟨_, rfl, _, _, _, C, u0, pat, rfl, hc, wf, hx0, (hg u0 List.mem_cons_self).1, hy, hpl, ?_⟩
  rintro v1 H1 s1 hb1
  refine ⟨_, rfl, _, rfl, ⟨_, SqL.of (s1 _ _ hl)⟩, fun L hL => ?_⟩
  refine lcM (walk_list (xs := x0 :: xr)) (u0 :: ur) (by rw [List.length_cons, List.length_cons, hxl]) (fun y u _ => y = V.bl (!decide (resp C u pat = resp C u0 pat))) (fun _ _ _ _ _ q => q) (by rw [List.length_cons]; omega) hL (fun H' s' => s'.seq (SqL.of (s1 _ _ hl))) ?_ ?_
  · rintro i x H2 H3 u hu s2 ⟨rfl, hxi⟩ kk hk
    have hua : VerAt H x u := Paired.both (.cons hx0 hxr) hxi hu
    have s12 := s1.trans s2
    refine ⟨rfl, ?_⟩
    refine ⟨_, rfl, _, rfl, _, rfl, _, _, _, C, u, pat, rfl, hc.mono s12, wf, hua.mono s12, (hg u (List.mem_of_getElem? hu)).1, hy.mono s12, hpl, ?_⟩
    rintro v4 H4 s4 hb4
    refine ⟨_, rfl, _, _, bits_dp hb4, bits_dp ((hb1.mono s2).mono s4), bits_shaped _, bits_shaped _, ?_⟩
    rw [bits_eqv]
    exact hk _ _ s4 rfl
  · intro H2 ys s2 hL2 hyv
    rw [vals_eq hyv] at hL2
    refine ⟨_, (u0 :: ur).map fun u => !decide (resp C u pat = resp C u0 pat), rfl, SqL.of (by rw [hL2, List.map_map]; rfl), ?_⟩
    rw [any_map]
    exact k.go (s1.trans s2) rfl
end
end Pw
namespace Pw
open PySem PySem.Spec PyProof.Rows L2
local macro_rules
  | `(tactic| decreasing_trivial) => `(tactic| repeat (first
    | refine ⟨_, rfl, ?_⟩
    | refine ⟨_, _, rfl, rfl, ?_⟩
    | refine ⟨rfl, ?_⟩
    | refine ⟨_, _, rfl, .inl (SqL.of (by assumption)), ?_⟩
    | refine ⟨_, _, rfl, .inr (SqT.of (by assumption)), ?_⟩
    | refine ⟨_, _, _, _, rfl, rfl, SqT.of (by assumption), rfl, ?_⟩
    | refine ⟨_, _, _, _, rfl, rfl, SqL.of (by assumption), rfl, ?_⟩
    | refine ⟨_, _, rfl, ?_⟩))
section
variable {P : Program} {w : World} {K : PySem.W.Frag} {mg : Str → Option Value} {base : Heap} {A : Ad}
def spLNext (A : Ad) : Sp := fun vs H Q _ => ∃ v l C us, vs = [v, .ref l] ∧ CircAt A H v C ∧ WF C ∧ VersAt H l us ∧ us ≠ [] ∧ us.length ≤ 100 ∧ (∀ u ∈ us, VerGood C u) ∧ Ret (fun v H' => v = .bl true) H Q
theorem ok_law_next {f : Addr} {fd : FuncData} (T : Txt K mg A) (c_next_pattern : Cal P w K mg base 21 "next_pattern" (spNext A)) (c_Circuit_sources : Met P w K mg base 1 A.CC "sources" (spSources A)) (c__law_divides : Cal P w K mg base 5 "_law_divides" (spDivides A)) (c__law_taken : Cal P w K mg base 21 "_law_taken" (spTaken A))
    (F : Fun K "_law_next" "_law_next" s__law_next f fd) : FnOk P w K mg base CX0 22 f fd ["_law_circuit_here", "_law_versions"] (spLNext A) := by
  refine F.ok sc__law_next (fun vs H Q E h => ?_) (fun cdv Ar outer s H vs Q E hr h => ?_)
  · obtain ⟨v, l, C, us, rfl, _⟩ := h
    rfl
  obtain ⟨v, l, C, us, rfl, hc, wf, hv, hne, hu100, hg, k⟩ := h
  refine ⟨_, (pss_cons (ps_set (i := 2) sc__law_next.nd rfl (Or.inr rfl) (pe_c c_next_pattern hr (by omega) rfl (pa_cons (pv 0) (pa_cons (pv 1) pa_nil))))
      (pss_cons (ps_if (pt_cmpR op_eq (pe_ix ix_tup (pv 2) pe_int (fun _ _ => rfl)) pe_str (nomark _)) (pss_one (ps_ret (pe_and (pe_cmpR op_eq (pe_callB call_len_seq (by rfl) T.z_len PySem.boot_len (pa_cons (pe_ix ix_tup (pv 2) pe_int (fun _ _ => rfl)) pa_nil)) (pe_callB call_len_seq (by rfl) T.z_len PySem.boot_len (pa_cons (pe_mt0 c_Circuit_sources hr (by omega) (pv 0)) pa_nil)) (nomark _)) (pe_one (pe_c c__law_divides hr (by omega) rfl (pa_cons (pv 0) (pa_cons (pv 1) (pa_cons (pe_ix ix_tup (pv 2) pe_int (fun _ _ => rfl)) pa_nil)))))))) pss_nil)
      (pss_cons (ps_if (PW.pt (pw_or (pt_cmpR op_ne (pe_ix ix_tup (pv 2) pe_int (fun _ _ => rfl)) pe_str (nomark _)) (pw_or1 (pt_cmpR op_ne (pe_callB call_len_seq (by rfl) T.z_len PySem.boot_len (pa_cons (pe_ix ix_tup (pv 2) pe_int (fun _ _ => rfl)) pa_nil)) (pe_op op_sub (pe_callB call_len_seq (by rfl) T.z_len PySem.boot_len (pa_cons (pv 1) pa_nil)) pe_int) (nomark _))))) (pss_one (ps_ret pe_bl)) pss_nil)
      (pss_one (ps_ret (pe_callB (cr_all rfl) (by rfl) T.z_all bt_all (pa_cons (pe_lc (own := [("_law_k", 3)])  rfl sc__law_next.nd (pi_range1 rfl T.z_range (pa_cons (pe_op op_sub (pe_callB call_len_seq (by rfl) T.z_len PySem.boot_len (pa_cons (pv 1) pa_nil)) pe_int) pa_nil)) (blkOk_by (own := [("_law_k", 3)]) (sc := defScope s__law_next) (N := ["_law_circuit_here", "_law_versions", "_law_found", "_law_k"]) (by decide +kernel)) (fun _ _ _ _ _ => (pg_name (i := 3) sc__law_next.nd rfl (Or.inl rfl))) (fun _ _ _ _ _ => pts_nil) (fun _ _ _ _ _ => (pe_c c__law_taken hr (by omega) rfl (pa_cons (pv 0) (pa_cons (pe_ix (ix_listB (K := K) rfl) (pv 1) pe_int (fun _ _ => rfl)) (pa_cons (pe_ix (ix_listB (K := K) rfl) (pv 1) (pe_op op_add (pv 3) pe_int) (fun _ _ => rfl)) (pa_cons (pe_ix (ix_listB (K := K) rfl) (pe_ix (ix_tupB (K := K) rfl) (pv 2) pe_int (fun _ _ => rfl)) (pv 3) (fun _ _ => rfl)) pa_nil))))))) pa_nil))))))), ?_⟩
  refine ⟨_, rfl, _, rfl, _, l, C, us, rfl, hc, wf, hv, hne, hu100, hg, ?_⟩
  rintro v1 H1 s1 hn
  obtain ⟨u0, ur, rfl⟩ : ∃ u0 ur, us = u0 :: ur := by
    cases us with
    | nil => exact absurd rfl hne
    | cons a b => exact ⟨a, b, rfl⟩
  have hok := next_ok wf (v := u0) (r := ur) fun u hu => (hg u hu).1
  have hv1 := hv.mono s1
  have hc1 := hc.mono s1
  cases hN : nextM C (u0 :: ur) with
  | pattern pp =>
    rw [hN] at hn hok
    obtain ⟨a, x, rfl, ha, hxb⟩ := hn
    obtain ⟨hpl, hdv⟩ := hok
    obtain ⟨ax, rfl, hax⟩ := id hxb
    obtain ⟨pc, dxc, fsc, rfl, obc, fnc⟩ := hc1.ins
    decreasing_trivial
    refine ⟨pc, dxc, fsc, rfl, obc, fnc _ (by decide), _, C, rfl, hc1.parts, ?_⟩
    rintro v2 H2 s2 ⟨z, rfl, _, hz⟩
    have ha2 := s2 _ _ ha
    refine ⟨_, _, rfl, .inl (SqL.of hz), ?_⟩
    refine ⟨rfl, _, rfl, ?_⟩
    refine ifT (by rw [List.length_map, List.length_map, hpl]; exact decide_eq_true rfl) ?_
    decreasing_trivial
    refine ⟨_, l, _, C, u0 :: ur, pp, rfl, hc1.mono s2, wf, hv1.mono s2, hne, hu100, hg, hxb.mono s2, hpl, ?_⟩
    rintro v3 H3 s3 rfl
    rw [dividesB_iff.mpr hdv]
    exact k.go ((s1.trans s2).trans s3) rfl
  | alike qs =>
    rw [hN] at hn hok
    obtain ⟨a, lq, xs, rfl, ha, hlq, hxs⟩ := hn
    have hql := papers_len hok
    have hxl := hxs.length
    obtain ⟨vs0, hl, hvs⟩ := hv1
    have hvl := hvs.length
    rw [List.length_cons] at hu100 hvl
    decreasing_trivial
    have hlen : (((xs.length : Nat) : Int)) = ((vs0.length : Nat) : Int) - 1 := by omega
    refine ifF (by rw [hlen]; simp) ?_
    decreasing_trivial
    refine ⟨by omega, by omega, fun L hL => ?_⟩
    have hrn : (((vs0.length : Nat) : Int) - 1).toNat = ur.length := by omega
    rw [hrn]
    refine lcR (n := ur.length) walk_range (fun i y _ => y = V.bl true) (fun _ _ _ _ _ q => q) (by omega) hL (fun _ _ => trivial) ?_ ?_
    · rintro i x H2 H3 hi s2 ⟨rfl, rfl⟩ kk hk
      have ha2 := s2 _ _ ha
      have hl2 := s2 _ _ hl
      have hlq2 := s2 _ _ hlq
      obtain ⟨x0, hx0⟩ : ∃ x0, vs0[0]? = some x0 := ⟨_, List.getElem?_eq_getElem (by omega)⟩
      obtain ⟨x1, hx1⟩ : ∃ x1, vs0[i + 1]? = some x1 := ⟨_, List.getElem?_eq_getElem (by omega)⟩
      obtain ⟨xq, hxq⟩ : ∃ xq, xs[i]? = some xq := ⟨_, List.getElem?_eq_getElem (by omega)⟩
      have hu : ur[i]? = some ur[i] := List.getElem?_eq_getElem hi
      generalize ur[i] = u at hu
      obtain ⟨q, hq, hqR⟩ := papers_at hok hu
      have v0 : VerAt H1 x0 u0 := Paired.both hvs hx0 rfl
      have v1 : VerAt H1 x1 u := Paired.both hvs hx1 (by simpa using hu)
      have vq : PaperAt H1 xq q := Paired.both hxs hxq hq
      refine ⟨rfl, ?_⟩
      decreasing_trivial
      refine ⟨l, _, 0, x0, rfl, rfl, SqL.of hl2, atI_nat (j := 0) hx0, ?_⟩
      refine ⟨_, rfl, _, rfl, _, _, rfl, rfl, ?_⟩
      refine ⟨l, _, 0 + (i : Int) + 1, x1, rfl, rfl, SqL.of hl2, by rw [show (0 + (i : Int) + 1) = ((i + 1 : Nat) : Int) by omega]; exact atI_nat hx1, ?_⟩
      refine ⟨_, rfl, a, _, 1, .ref lq, rfl, rfl, SqT.of ha2, rfl, ?_⟩
      refine ⟨_, rfl, lq, _, 0 + (i : Int), xq, rfl, rfl, SqL.of hlq2, by rw [Int.zero_add]; exact atI_nat hxq, ?_⟩
      refine ⟨_, _, _, _, C, u0, u, q, rfl, hc1.mono s2, wf, v0.mono s2, v1.mono s2, hg u0 List.mem_cons_self, hg u (List.mem_cons_of_mem _ (List.mem_of_getElem? hu)), vq.mono s2, hqR, ?_⟩
      rintro v4 H4 s4 rfl
      exact hk _ _ s4 rfl
    · intro H2 ys s2 hL2 hy
      rw [all_true hy] at hL2
      refine ⟨_, _, rfl, SqL.of hL2, ?_⟩
      rw [all_rep]
      exact k.go (s1.trans s2) rfl
end
end Pw
namespace Pw
open PySem PySem.Spec PyProof.Rows L2
local macro_rules
  | `(tactic| decreasing_trivial) => `(tactic| repeat (first
    | refine ⟨_, rfl, ?_⟩
    | refine ⟨_, _, rfl, rfl, ?_⟩
    | refine ⟨rfl, ?_⟩
    | refine ⟨_, _, rfl, .inl (SqL.of (by assumption)), ?_⟩
    | refine ⟨_, _, rfl, .inr (SqT.of (by assumption)), ?_⟩
    | refine ⟨_, _, _, _, rfl, rfl, SqT.of (by assumption), rfl, ?_⟩
    | refine ⟨_, _, _, _, rfl, rfl, SqL.of (by assumption), rfl, ?_⟩
    | refine ⟨_, _, rfl, ?_⟩))
section
variable {P : Program} {w : World} {K : PySem.W.Frag} {mg : Str → Option Value} {base : Heap} {A : Ad}
theorem vers_dp {H : Hp} : ∀ {xs : List V} {us : List (Ver Str)}, Paired (VerAt H) xs us → DpAll K H xs (us.map verD)
  | _, _, .nil => .nil
  | _, _, .cons h r => .cons (ver_dp h) (vers_dp r)
theorem vers_lay {H : Hp} : ∀ {xs : List V} {us : List (Ver Str)}, Paired (VerAt H) xs us → PyData.canLayAll0 (us.map verD) = true ∧ PyData.depthAll (us.map verD) ≤ 2
  | _, _, .nil => by simp [PyData.canLayAll0, PyData.depthAll]
  | _, _, .cons h r => by
    obtain ⟨a, b⟩ := ver_lay h
    obtain ⟨c, d⟩ := vers_lay r
    simp only [List.map_cons, PyData.canLayAll0, PyData.depthAll, a, c, Bool.and_self, true_and]
    omega
theorem vers_shaped {H : Hp} {xs : List V} {us : List (Ver Str)} (h : Paired (VerAt H) xs us) : SeqAt.shaped (.list (us.map verD)) = true := by
  obtain ⟨a, b⟩ := vers_lay h
  exact shl a (by omega)
theorem vers_eqvAll : ∀ us us' : List (Ver Str), PyData.eqvAll (us.map verD) (us'.map verD) = decide (us = us')
  | [], [] => by simp [PyData.eqvAll]
  | [], _ :: _ => by simp [PyData.eqvAll]
  | _ :: _, [] => by simp [PyData.eqvAll]
  | a :: r, b :: t => by
    simp only [List.map_cons, PyData.eqvAll, ver_eqv, vers_eqvAll r t]
    by_cases h : a = b <;> by_cases h' : r = t <;> simp [h, h']
theorem vers_eqv (us us' : List (Ver Str)) : PyData.eqv (.list (us.map verD)) (.list (us'.map verD)) = decide (us = us') := by
  show PyData.eqvAll _ _ = _
  exact vers_eqvAll us us'
theorem vers_any (u : Ver Str) (us : List (Ver Str)) : ((us.map verD).any fun z => PyData.eqv z (verD u)) = decide (u ∈ us) := by
  induction us with
  | nil => rfl
  | cons a r ih =>
    rw [List.map_cons, List.any_cons, ih, ver_eqv]
    by_cases e : a = u
    · subst e; simp
    · have : ¬ u = a := fun q => e q.symm
      simp [e, this]
def askD : Option (List Bool) → PyData
  | none => .none
  | some p => bitsD p
theorem ask_dp {H : Hp} {v : V} {o : Option (List Bool)} (h : AskAt H v o) : Dp K H v (askD o) := by
  cases o with
  | none => obtain rfl : v = .non := h; exact .non
  | some p => exact bits_dp h
theorem ask_shaped (o : Option (List Bool)) : SeqAt.shaped (askD o) = true := by
  cases o with
  | none => decide
  | some p => exact bits_shaped p
theorem ask_eqv (o : Option (List Bool)) : PyData.eqv (askD o) (askD o) = true := by
  cases o with
  | none => rfl
  | some p => show PyData.eqv (bitsD p) (bitsD p) = true; rw [bits_eqv]; simp
theorem AskAt.mono {H H' : Hp} (s : Same H H') {v : V} {o : Option (List Bool)} (h : AskAt H v o) : AskAt H' v o := by
  cases o with
  | none => exact h
  | some p => exact BitsAt.mono s h
def cutH (H : Hp) (p q : Addr) : Hp := fun b => if b = p ∨ b = q then none else H b
theorem cut_at {H : Hp} {p q b : Addr} {o : HO} (h : H b = some o) (n1 : b ≠ p) (n2 : b ≠ q) : cutH H p q b = some o := by
  unfold cutH
  rw [if_neg (fun z => z.elim n1 n2)]
  exact h
theorem cut_same {H : Hp} {p q : Addr} : Same (cutH H p q) H := fun b o h => by
  unfold cutH at h
  split at h
  · cases h
  · exact h
theorem FPre.up {Hb H : Hp} {p : Addr} {C : Circ Str} {us : List (Ver Str)} {n : Nat} {dx : Addr} {fs : List (Str × V)} {vc : V} {lL lA : Addr} {asd : List V} (c : FPre A Hb H p C us n dx fs vc lL lA asd) :
    Same Hb (cutH H p lA) ∧ FPre A (cutH H p lA) H p C us n dx fs vc lL lA asd := by
  have sb : Same Hb (cutH H p lA) := fun b o h => cut_at (c.same _ _ h) (ne_of_none h c.bp) (ne_of_none h c.bA)
  refine ⟨sb, ⟨?_, ?_, cut_same, c.ob, c.fC, c.fL, c.fA, c.fN, c.few, c.hC.mono sb, c.hL, c.hA, c.ne, c.len⟩⟩
  · unfold cutH; rw [if_pos (.inl rfl)]
  · unfold cutH; rw [if_pos (.inr rfl)]
theorem cut_ver {H : Hp} {p q C dx : Addr} {fs : List (Str × V)} {xs : List V} (hp : H p = some (.ins C dx fs)) (hq : H q = some (.lst xs)) {v : V} {u : Ver Str} (h : VerAt H v u) : VerAt (cutH H p q) v u := by
  cases u with
  | right => exact h
  | _ =>
    obtain ⟨a, e, h1, h2⟩ := h
    exact ⟨a, e, cut_at h1 (ne_of h1 hp (by intro z; cases z)) (ne_of h1 hq (by intro z; cases z)), h2⟩
theorem cut_bits {H : Hp} {p q C dx : Addr} {fs : List (Str × V)} {xs : List V} (hp : H p = some (.ins C dx fs)) (hq : H q = some (.lst xs)) {v : V} {row : List Bool} (h : BitsAt H v row) : BitsAt (cutH H p q) v row := by
  obtain ⟨a, e, h1⟩ := h
  exact ⟨a, e, cut_at h1 (ne_of h1 hp (by intro z; cases z)) (ne_of h1 hq (by intro z; cases z))⟩
def spLaw (K : PySem.W.Frag) : Sp := fun vs H Q _ => ∃ a ns, vs = [.ref a] ∧ SqL K H a ((ns : List Int).map V.int) ∧ ∀ H', Q (.bl true) H'
theorem ok_law {f : Addr} {fd : FuncData} (T : Txt K mg A) (c_Circuit_sources : Met P w K mg base 1 A.CC "sources" (spSources A)) (c_Finder : Mak P w K mg base 7 "Finder" A.CF (spFInit A)) (c_Finder_ask : Met P w K mg base 22 A.CF "ask" (spAsk A)) (c_Finder_tell : Met P w K mg base 9 A.CF "tell" (spTell A)) (c_Finder_versions : Met P w K mg base 1 A.CF "versions" (spFVersions A))
    (c__law_cell : Cal P w K mg base 1 "_law_cell" (spCell K)) (c__law_circuit : Cal P w K mg base 6 "_law_circuit" (spLCirc A K)) (c__law_divides : Cal P w K mg base 5 "_law_divides" (spDivides A)) (c__law_next : Cal P w K mg base 22 "_law_next" (spLNext A)) (c__law_patterns : Cal P w K mg base 1 "_law_patterns" spPatterns)
    (c__law_response : Cal P w K mg base 4 "_law_response" (spLResp A)) (c__law_rich : Cal P w K mg base 1 "_law_rich" spRich) (c__law_version : Cal P w K mg base 4 "_law_version" (spLVersion A)) (F : Fun K "law" "law" s_law f fd) : FnOk P w K mg base CX0 23 f fd ["_law_script"] (spLaw K) := by
  refine F.ok sc_law (fun vs H Q E h => ?_) (fun cdv Ar outer s H vs Q E hr h => ?_)
  · obtain ⟨a, ns, rfl, _⟩ := h
    rfl
  obtain ⟨a, ns, rfl, ha, k⟩ := h
  refine ⟨_, (pss_cons (ps_set (i := 1) sc_law.nd rfl (Or.inr rfl) (pe_c c__law_circuit hr (by omega) rfl (pa_cons (pv 0) (pa_cons pe_int pa_nil))))
      (pss_cons (ps_set (i := 2) sc_law.nd rfl (Or.inl rfl) (pe_lst pa_nil))
      (pss_cons (ps_for PassesOwn.never rfl (pi_range1 rfl T.z_range (pa_cons (pe_op op_add pe_int (pe_op op_mod (pe_c c__law_cell hr (by omega) rfl (pa_cons (pv 0) (pa_cons pe_int pa_nil))) pe_int)) pa_nil)) (pg_name (i := 3) sc_law.nd rfl (Or.inl rfl)) (pss_cons (ps_set (i := 4) sc_law.nd rfl (Or.inl rfl) (pe_c c__law_version hr (by omega) rfl (pa_cons (pv 1) (pa_cons (pe_c c__law_rich hr (by omega) rfl (pa_cons (pe_c c__law_cell hr (by omega) rfl (pa_cons (pv 0) (pa_cons (pe_op op_add pe_int (pv 3)) pa_nil))) (pa_cons (pv 3) pa_nil))) pa_nil))))
      (pss_one (ps_if (pt_cmpR (op_notInD (hu65 hr)) (pv 4) (pv 2) (by rfl)) (pss_one (ps_expr (pe_bm PySem.F.plainAttrs_list PySem.F.slot_list_append PySem.F.type_list_append mt_append (pv 2) (pa_cons (pv 4) pa_nil)))) pss_nil))))
      (pss_cons (ps_set (i := 5) sc_law.nd rfl (Or.inl rfl) (pe_ix ix_list (pv 2) (pe_op op_mod (pe_op op_fdiv (pe_c c__law_cell hr (by omega) rfl (pa_cons (pv 0) (pa_cons pe_int pa_nil))) pe_int) (pe_callB call_len_seq (by rfl) T.z_len PySem.boot_len (pa_cons (pv 2) pa_nil))) (fun _ _ => rfl)))
      (pss_cons (ps_set (i := 6) sc_law.nd rfl (Or.inl rfl) (pe_callTy call_list_of (by rfl) T.z_list bt_list (pa_cons (pv 2) pa_nil)))
      (pss_cons (ps_set (i := 7) sc_law.nd rfl (Or.inl rfl) (pe_mk c_Finder hr (by omega) rfl (pa_cons (pv 1) (pa_cons (pv 6) pa_nil))))
      (pss_cons (ps_if (PW.pt (pw_or (pt_cmpR (op_neD (hu64 hr)) (pe_mt0 c_Finder_versions hr (by omega) (pv 7)) (pv 2) (nomark _)) (pw_or1 (pt_not (pt_val (pe_c c__law_next hr (by omega) rfl (pa_cons (pv 1) (pa_cons (pv 2) pa_nil)))))))) (pss_one (ps_ret pe_bl)) pss_nil)
      (pss_cons (ps_for PassesOwn.never rfl (pi_range1 rfl T.z_range (pa_cons (pe_callB call_len_seq (by rfl) T.z_len PySem.boot_len (pa_cons (pv 2) pa_nil)) pa_nil)) (pg_name (i := 8) sc_law.nd rfl (Or.inl rfl)) (pss_cons (ps_set (i := 9) sc_law.nd rfl (Or.inr rfl) (pe_mt0 c_Finder_versions hr (by omega) (pv 7)))
      (pss_cons (ps_set (i := 10) sc_law.nd rfl (Or.inr rfl) (pe_mt0 c_Finder_ask hr (by omega) (pv 7)))
      (pss_cons (ps_if (PW.pt (pw_or (pt_cmpR (op_neD (hu64 hr)) (pe_mt0 c_Finder_ask hr (by omega) (pv 7)) (pv 10) (nomark _)) (pw_or1 (pt_cmpR (op_neD (hu64 hr)) (pe_mt0 c_Finder_versions hr (by omega) (pv 7)) (pv 9) (nomark _))))) (pss_one (ps_ret pe_bl)) pss_nil)
      (pss_cons (ps_if (pt_cmp (pc_isN (pv 10))) (pss_cons (ps_set (i := 11) sc_law.nd rfl (Or.inl rfl) (pe_c c__law_patterns hr (by omega) rfl (pa_cons (pe_callB call_len_seq (by rfl) T.z_len PySem.boot_len (pa_cons (pe_mt0 c_Circuit_sources hr (by omega) (pv 1)) pa_nil)) pa_nil)))
      (pss_one (ps_ret (pe_and (pe_cmpR (op_eqD (hu64 hr)) (pv 6) (pv 2) (nomark _)) (pe_one (pe_not (pe_callB (cr_any rfl) (by rfl) T.z_any bt_any (pa_cons (pe_lc (own := [("_law_other", 14)])  rfl sc_law.nd (pi_list (pv 11)) (blkOk_by (own := [("_law_other", 14)]) (sc := defScope s_law) (N := ["_law_script", "_law_circuit_here", "_law_versions", "_law_k", "_law_version_here", "_law_true", "_law_handed", "_law_finder", "_law_turn", "_law_left", "_law_pattern", "_law_patterns_here", "_law_row", "_law_due", "_law_other"]) (by decide +kernel)) (fun _ _ _ _ _ => (pg_name (i := 14) sc_law.nd rfl (Or.inl rfl))) (fun _ _ _ _ _ => pts_nil) (fun _ _ _ _ _ => (pe_c c__law_divides hr (by omega) rfl (pa_cons (pv 1) (pa_cons (pv 9) (pa_cons (pv 14) pa_nil)))))) pa_nil)))))))) pss_nil)
      (pss_cons (ps_if (pt_not (pt_val (pe_c c__law_divides hr (by omega) rfl (pa_cons (pv 1) (pa_cons (pv 9) (pa_cons (pv 10) pa_nil)))))) (pss_one (ps_ret pe_bl)) pss_nil)
      (pss_cons (ps_set (i := 12) sc_law.nd rfl (Or.inr rfl) (pe_c c__law_response hr (by omega) rfl (pa_cons (pv 1) (pa_cons (pv 5) (pa_cons (pv 10) pa_nil)))))
      (pss_cons (ps_expr (pe_mt c_Finder_tell hr (by omega) (pv 7) (pa_cons (pv 10) (pa_cons (pv 12) pa_nil))))
      (pss_cons (ps_expr (pe_bm PySem.F.plainAttrs_list PySem.F.slot_list_append PySem.F.type_list_append mt_append (pe_mt0 c_Finder_versions hr (by omega) (pv 7)) (pa_cons pe_str pa_nil)))
      (pss_cons (ps_setLc (i := 13) (own := [("_law_version_here", 4)]) rfl sc_law.nd rfl rfl (sw_true rfl rfl rfl (by decide +kernel)) (pi_list (pv 9)) (blkOk_by (own := [("_law_version_here", 4)]) (sc := defScope s_law) (N := ["_law_script", "_law_circuit_here", "_law_versions", "_law_k", "_law_version_here", "_law_true", "_law_handed", "_law_finder", "_law_turn", "_law_left", "_law_pattern", "_law_patterns_here", "_law_row", "_law_due", "_law_other"]) (by decide +kernel)) (fun _ _ _ _ _ => (pg_name (i := 4) sc_law.nd rfl (Or.inl rfl))) (fun _ _ _ _ _ => (pts_one (pt_cmpR (op_eqDB (K := K) rfl (hu64 hr)) (pe_c c__law_response hr (by omega) rfl (pa_cons (pv 1) (pa_cons (pv 4) (pa_cons (pv 10) pa_nil)))) (pv 12) (nomark _)))) (fun _ _ _ _ _ => (pv 4)))
      (pss_one (ps_if (PW.pt (pw_or (pt_cmpR (op_neD (hu64 hr)) (pe_mt0 c_Finder_versions hr (by omega) (pv 7)) (pv 13) (nomark _)) (pw_or (pt_cmpR (op_notInD (hu65 hr)) (pv 5) (pv 13) (by rfl)) (pw_or1 (pt_cmpR op_ge (pe_callB call_len_seq (by rfl) T.z_len PySem.boot_len (pa_cons (pv 13) pa_nil)) (pe_callB call_len_seq (by rfl) T.z_len PySem.boot_len (pa_cons (pv 9) pa_nil)) (nomark _)))))) (pss_one (ps_ret pe_bl)) pss_nil))))))))))))
      (pss_one (ps_ret pe_bl)))))))))), ?_⟩
  refine ⟨_, rfl, a, ns, rfl, ha, ?_⟩
  rintro vc H1 s1 ⟨C, hc1, wf, hN, hgne⟩
  refine ⟨Nat.zero_le _, fun L hL => ?_⟩
  have s2 := same_new hL (.lst [])
  have hL2 := upd_same (H := H1) (a := L) (o := .lst [])
  have hHL : H1 L = none := hL
  generalize upd H1 L (.lst []) = H2 at s2 hL2 ⊢
  decreasing_trivial
  refine ⟨a, ns, 9, rfl, (s1.trans s2).seq ha, fun n9 => ?_⟩
  decreasing_trivial
  refine ⟨by show (0 : Int) < 10; decide, ?_⟩
  have hm1 := Int.emod_nonneg n9 (show (10 : Int) ≠ 0 by decide)
  have hm2 := Int.emod_lt_of_pos n9 (show (0 : Int) < 10 by decide)
  obtain ⟨m, hm⟩ := Int.eq_ofNat_of_zero_le hm1
  refine ⟨_, _, rfl, rfl, _, rfl, by omega, by omega, ?_⟩
  have hrn : (1 + n9 % 10 : Int).toNat = 1 + m := by omega
  rw [hrn]
  refine for_it (walk_range (lo := 0) (n := 1 + m)) (fun i σ H' => (∃ x3 x4 x5 x6 x7 x8 x9 x10 x11 x12 x13 x14, σ = [some (.ref a), some vc, some (.ref L), x3, x4, x5, x6, x7, x8, x9, x10, x11, x12, x13, x14]) ∧ Same H1 H' ∧ ∃ xs us, H' L = some (.lst xs) ∧ Paired (VerAt H') xs us ∧ (us : List (Ver Str)).length ≤ i ∧ (0 < i → us ≠ []) ∧ ∀ u ∈ us, VerGood C u) ⟨⟨_, _, _, _, _, _, _, _, _, _, _, _, rfl⟩, s2, [], [], hL2, .nil, Nat.le_refl _, fun h => absurd h (Nat.lt_irrefl _), fun u hu => by cases hu⟩ (fun _ _ _ _ _ => trivial) ?_ ?_
  · rintro i x σ H3 H3' hi ⟨⟨x3, x4, x5, x6, x7, x8, x9, x10, x11, x12, x13, x14, rfl⟩, s3, xs, us, hL3, hx, hul, hu0, hg⟩ ⟨rfl, rfl⟩
    decreasing_trivial
    refine ⟨a, ns, 10 + i, by show [V.ref a, V.int (10 + (0 + (i : Int)))] = _; rw [show (10 + (0 + (i : Int))) = ((10 + i : Nat) : Int) by omega], (s1.trans s3).seq ha, fun n1 => ?_⟩
    decreasing_trivial
    refine fun n2 => ?_
    refine ⟨_, C, n2, rfl, hc1.mono s3, wf, hN, hgne, ?_⟩
    rintro xv H4 s4 ⟨u, hua, hgu⟩
    have hx4 := vers_mono s4 hx
    have hL4 := s4 _ _ hL3
    have hxl := hx.length
    refine ⟨_, rfl, _, rfl, _, _, ver_dp hua, .lst (SqL.of hL4) (vers_dp hx4), ver_shaped hua, vers_shaped hx4, _, rfl, ?_⟩
    rw [vers_any]
    by_cases hin : u ∈ us
    · rw [decide_eq_true hin]
      refine iteF ?_
      exact ⟨⟨_, _, _, _, _, _, _, _, _, _, _, _, rfl⟩, s3.trans s4, xs, us, hL4, hx4, by omega, (fun _ e => by rw [e] at hin; cases hin), hg⟩
    · rw [decide_eq_false hin]
      refine iteT ?_
      decreasing_trivial
      refine ⟨.inl ⟨rfl, _, SqL.of hL4⟩, ?_⟩
      decreasing_trivial
      refine ⟨_, _, _, rfl, rfl, hL4, small1000 (by omega), ?_⟩
      have kp : Keep H4 (upd H4 L (.lst (xs ++ [xv]))) := keep_lst hL4
      refine ⟨⟨_, _, _, _, _, _, _, _, _, _, _, _, rfl⟩, Same.mut (s3.trans s4) hHL, xs ++ [xv], us ++ [u], upd_same, (L2.Paired.mapP hx4 fun _ _ q => VerAt.keep kp q).snoc (VerAt.keep kp hua), by rw [List.length_append, List.length_singleton]; omega, fun _ e => by simp at e, fun u' hu' => ?_⟩
      · rcases List.mem_append.mp hu' with h | h
        · exact hg u' h
        · rw [List.mem_singleton.mp h]
          exact hgu
  · rintro σ H3 ⟨⟨x3, x4, x5, x6, x7, x8, x9, x10, x11, x12, x13, x14, rfl⟩, s3, xs, us, hL3, hx, hul, hu0, hg⟩
    have hus : us ≠ [] := hu0 (by omega)
    have hu10 : us.length ≤ 10 := by omega
    have hxl := hx.length
    have hu1 : 0 < us.length := by
      cases us with
      | nil => exact absurd rfl hus
      | cons _ _ => simp
    -- the true one
    decreasing_trivial
    refine ⟨a, ns, 9, rfl, (s1.trans s3).seq ha, fun n2 => ?_⟩
    decreasing_trivial
    refine ⟨⟨by show (0 : Int) < 10; decide, by decide⟩, ?_⟩
    decreasing_trivial
    refine ⟨by omega, ?_⟩
    obtain ⟨jt, xt, hxt, hat⟩ := at_mod (xs := xs) (n := n2 / 10) (m := (xs.length : Int)) rfl (by omega)
    obtain ⟨ut, hut, hxta⟩ := Paired.at hx hxt
    have hutm := List.mem_of_getElem? hut
    refine ⟨L, _, _, _, rfl, rfl, SqL.of hL3, hat, ?_⟩
    refine ⟨_, rfl, _, _, rfl, .inl (SqL.of hL3), fun Lh hLh => ?_⟩
    have s4 := same_new hLh (.lst xs)
    have hLh4 := upd_same (H := H3) (a := Lh) (o := .lst xs)
    have hL4 := s4 _ _ hL3
    have hx4 := vers_mono s4 hx
    have hxt4 := hxta.mono s4
    have hc4 := hc1.mono (s3.trans s4)
    generalize upd H3 Lh (.lst xs) = H0 at s4 hLh4 hL4 hx4 hxt4 hc4 ⊢
    refine ⟨_, rfl, _, rfl, fun p dx hp hdx hpd => ?_⟩
    have sx : Same H0 (upd (upd H0 dx (.own p)) p (.ins A.CF dx [])) := make_same hp hdx (But.refl _ _)
    refine ⟨H0, p, dx, _, Lh, C, us, rfl, hp, sx, upd_same, hc4, wf, ⟨xs, hLh4, hx4⟩, hg, ?_⟩
    rintro H5 ⟨p', dx5, fs5, vc5, lL5, lA5, asd5, e5, c5⟩
    cases e5
    refine ⟨rfl, ?_⟩
    -- versions() == versions
    refine ⟨_, rfl, p, dx5, fs5, rfl, c5.ob, c5.fN _ (by decide), H0, _, C, us, 0, rfl, ⟨p, dx5, fs5, vc5, lL5, lA5, asd5, rfl, c5⟩, ?_⟩
    rintro v6 H6 s6 ⟨l6, rfl, _, xs6, hl6, hx6⟩
    have s06 := c5.same.trans s6
    refine ⟨_, rfl, _, _, .lst (SqL.of hl6) (vers_dp hx6), .lst (SqL.of (s06 _ _ hL4)) (vers_dp (vers_mono s06 hx4)), vers_shaped hx6, vers_shaped hx6, _, rfl, ?_⟩
    rw [vers_eqv, decide_eq_true rfl]
    refine iteF ?_
    refine ⟨_, rfl, _, rfl, _, L, C, us, rfl, hc4.mono s06, wf, ⟨xs, s06 _ _ hL4, vers_mono s06 hx4⟩, hus, by omega, hg, ?_⟩
    rintro v7 H7 s7 rfl
    refine ⟨_, rfl, iteF ?_⟩
    have c7 := (c5.mono s6).mono s7
    have s07 := c7.same
    refine ⟨_, rfl, L, _, rfl, .inl (SqL.of (s07 _ _ hL4)), ?_⟩
    refine ⟨_, rfl, by omega, by omega, ?_⟩
    have hrx : ((xs.length : Nat) : Int).toNat = us.length := by omega
    rw [hrx]
    refine for_it (walk_range (lo := 0) (n := us.length)) (fun t σ H' => (∃ x3 x4 x8 x9 x10 x11 x12 x13 x14, σ = [some (.ref a), some vc, some (.ref L), x3, x4, some xt, some (.ref Lh), some (.ref p), x8, x9, x10, x11, x12, x13, x14]) ∧ ∃ Hb wt dx fs vcf lL lA asd, Same H0 Hb ∧ FPre A Hb H' p C wt t dx fs vcf lL lA asd ∧ wt.length + t ≤ us.length ∧ ut ∈ wt ∧ ∀ u ∈ wt, VerGood C u) ⟨⟨_, _, _, _, _, _, _, _, _, rfl⟩, H0, us, dx5, fs5, vc5, lL5, lA5, asd5, Same.refl _, c7, Nat.le_refl _, hutm, hg⟩ (fun _ _ _ _ _ => trivial) ?_ ?_
    · rintro t x σ H8 H8' ht ⟨⟨x3, x4, x8, x9, x10, x11, x12, x13, x14, rfl⟩, Hb, wt, dx8, fs8, vcf, lL, lA, asd, sb, c8, hwl, hutw, hgw⟩ ⟨rfl, rfl⟩
      have hwne : wt ≠ [] := fun e => by rw [e] at hutw; cases hutw
      have hw100 : wt.length ≤ 100 := by omega
      refine ⟨_, rfl, p, dx8, fs8, rfl, c8.ob, c8.fN _ (by decide), Hb, _, C, wt, t, rfl, ⟨p, dx8, fs8, vcf, lL, lA, asd, rfl, c8⟩, ?_⟩
      rintro v9 H9 s9 ⟨lf, rfl, hlf0, xs9, hlf, hx9⟩
      have hlfA : lf ≠ lA := fun e => by
        rw [e, c8.hA] at hlf0
        cases hlf0
      have c9 := c8.mono s9
      refine ⟨_, rfl, p, dx8, fs8, rfl, c9.ob, c9.fN _ (by decide), Hb, _, C, wt, t, rfl, ⟨p, dx8, fs8, vcf, lL, lA, asd, rfl, c9⟩, wf, hw100, hgw, ?_⟩
      rintro vp H10 s10 hask
      have c10 := c9.mono s10
      refine ⟨_, rfl, p, dx8, fs8, rfl, c10.ob, c10.fN _ (by decide), Hb, _, C, wt, t, rfl, ⟨p, dx8, fs8, vcf, lL, lA, asd, rfl, c10⟩, wf, hw100, hgw, ?_⟩
      rintro v11 H11 s11 hask2
      have c11 := c10.mono s11
      have hask11 := hask.mono s11
      refine ⟨_, rfl, _, _, ask_dp hask2, ask_dp hask11, ask_shaped _, ask_shaped _, _, rfl, ?_⟩
      rw [ask_eqv]
      refine iteF ?_
      refine ⟨_, rfl, p, dx8, fs8, rfl, c11.ob, c11.fN _ (by decide), Hb, _, C, wt, t, rfl, ⟨p, dx8, fs8, vcf, lL, lA, asd, rfl, c11⟩, ?_⟩
      rintro v12 H12 s12 ⟨l12, rfl, _, xs12, hl12, hx12⟩
      have c12 := c11.mono s12
      have s912 := (s10.trans s11).trans s12
      have hlf12 := s912 _ _ hlf
      have hx912 := vers_mono s912 hx9
      have hask12 := hask11.mono s12
      refine ⟨_, rfl, _, _, .lst (SqL.of hl12) (vers_dp hx12), .lst (SqL.of hlf12) (vers_dp hx912), vers_shaped hx12, vers_shaped hx912, _, rfl, ?_⟩
      rw [vers_eqv, decide_eq_true rfl]
      refine iteF ?_
      have s012 := sb.trans c12.same
      have hc12 := hc4.mono s012
      cases hA : askM C wt with
      | none =>
        rw [hA] at hask12
        obtain rfl : vp = .non := hask12
        decreasing_trivial
        obtain ⟨pc, dxc, fsc, rfl, obc, fnc⟩ := hc12.ins
        refine ⟨pc, dxc, fsc, rfl, obc, fnc _ (by decide), _, C, rfl, hc12.parts, ?_⟩
        rintro v13 H13 s13 ⟨z, rfl, _, hz⟩
        decreasing_trivial
        refine ⟨by rw [List.length_map]; exact wf.ns, ?_⟩
        rintro v14 H14 s14 ⟨lp, ys, rfl, hlp, hyl, hys⟩
        have s1214 := s13.trans s14
        have s014 := s012.trans s1214
        refine ⟨_, rfl, _, rfl, _, _, .lst (SqL.of (s014 _ _ hLh4)) (vers_dp (vers_mono s014 hx4)), .lst (SqL.of (s014 _ _ hL4)) (vers_dp (vers_mono s014 hx4)), vers_shaped hx4, vers_shaped hx4, ?_⟩
        rw [vers_eqv, decide_eq_true rfl]
        refine ⟨_, rfl, iteT ?_⟩
        refine ⟨_, rfl, _, rfl, ⟨_, SqL.of hlp⟩, fun L3 hL3' => ?_⟩
        refine lcR (walk_list (xs := ys)) (fun _ y _ => y = V.bl false) (fun _ _ _ _ _ q => q) (by omega) hL3' (fun H' s' => s'.seq (SqL.of hlp)) ?_ ?_
        · rintro i x H15 H16 hi ss ⟨rfl, hxi⟩ kk hk
          obtain ⟨pat, hpb, hpl⟩ := hys x (List.mem_of_getElem? hxi)
          rw [List.length_map] at hpl
          have s1215 := s1214.trans ss
          refine ⟨rfl, ?_⟩
          refine ⟨_, rfl, _, rfl, _, rfl, _, lf, _, C, wt, pat, rfl, hc12.mono s1215, wf, ⟨xs9, s1215 _ _ hlf12, vers_mono s1215 hx912⟩, hwne, hw100, hgw, hpb.mono ss, hpl, ?_⟩
          rintro v17 H17 s17 rfl
          refine hk _ _ s17 ?_
          have hnd := ask_none wf (fun u hu => (hgw u hu).1) hA hpl
          cases hb : dividesB C wt pat with
          | true => exact absurd (dividesB_iff.mp hb) hnd
          | false => rfl
        · intro H15 zs ss hL15 hzs
          have ez : zs = (List.replicate ys.length false).map V.bl := by
            have e := hzs.length
            rw [List.length_range] at e
            rw [List.map_replicate]
            refine List.eq_replicate_iff.mpr ⟨e.symm, fun y hy => ?_⟩
            obtain ⟨i, hi, e2⟩ := List.mem_iff_getElem.mp hy
            obtain ⟨_, _, q⟩ := Paired.at' hzs (i := i) (b := y) (by rw [List.getElem?_eq_getElem hi, e2])
            exact q
          rw [ez] at hL15
          refine ⟨_, _, rfl, SqL.of hL15, ?_⟩
          have ea : (List.replicate ys.length false).any id = false := by
            rw [List.any_eq_false]
            intro x hx
            rw [(List.mem_replicate.mp hx).2]
            decide
          rw [ea]
          exact ⟨_, rfl, k _⟩
      | some pp =>
        rw [hA] at hask12
        have hpat : BitsAt H12 vp pp := hask12
        obtain ⟨hpl, hdv⟩ := ask_some wf (fun u hu => (hgw u hu).1) hA
        obtain ⟨avp, rfl, hvp⟩ := id hpat
        decreasing_trivial
        refine ⟨_, lf, _, C, wt, pp, rfl, hc12, wf, ⟨xs9, hlf12, hx912⟩, hwne, hw100, hgw, hpat, hpl, ?_⟩
        rintro v13 H13 s13 rfl
        rw [dividesB_iff.mpr hdv]
        refine ⟨_, rfl, iteF ?_⟩
        have c13 := c12.mono s13
        have s013 := s012.trans s13
        refine ⟨_, rfl, _, rfl, _, rfl, _, _, _, C, ut, pp, rfl, hc12.mono s13, wf, hxt4.mono s013, (hg ut hutm).1, hpat.mono s13, hpl, ?_⟩
        rintro vr H14 s14 hrow
        have c14 := c13.mono s14
        have s1214 := s13.trans s14
        obtain ⟨sbc, cc⟩ := c14.up
        have hlfC : cutH H14 p lA lf = some (.lst xs9) := cut_at (s1214 _ _ hlf12) (ne_of (s1214 _ _ hlf12) c14.ob (by intro z; cases z)) hlfA
        have hxC : Paired (VerAt (cutH H14 p lA)) xs9 wt := L2.Paired.mapP hx912 fun _ _ q => cut_ver c14.ob c14.hA (q.mono s1214)
        have hpC := cut_bits c14.ob c14.hA (hpat.mono s1214)
        have hrC := cut_bits c14.ob c14.hA hrow
        have hrl : (resp C ut pp).length = C.sinks.length := by unfold resp; rw [List.length_map]
        refine ⟨_, rfl, p, dx8, fs8, rfl, c14.ob, c14.fN _ (by decide), _, rfl, _, rfl, ?_⟩
        refine ⟨cutH H14 p lA, _, C, wt, t, _, _, pp, resp C ut pp, rfl, ⟨p, dx8, fs8, vcf, lL, lA, asd, rfl, cc⟩, by omega, wf, hw100, hgw, hpat.mono s1214, hpl, hrow, hrl, ?_⟩
        rintro H15 ⟨p', dx15, fs15, vc15, lL15, lA15, asd15, e15, c15⟩
        cases e15
        have s0c := (sb.trans sbc)
        have sC := c15.same
        generalize cutH H14 p lA = Hc at sbc cc hlfC hxC hpC hrC c15 s0c sC
        -- versions().append('x')
        refine ⟨_, rfl, p, dx15, fs15, rfl, c15.ob, c15.fN _ (by decide), Hc, _, C, _, t + 1, rfl, ⟨p, dx15, fs15, vc15, lL15, lA15, asd15, rfl, c15⟩, ?_⟩
        rintro v16 H16 s16 ⟨l16, rfl, hl160, xs16, hl16, hx16⟩
        refine ⟨.inl ⟨rfl, _, SqL.of hl16⟩, ?_⟩
        have hkl : (keepR C wt pp (resp C ut pp)).length ≤ 10 := by
          have := keep_less (C := C) (row := resp C ut pp) hdv
          omega
        have hx16l := hx16.length
        refine ⟨_, _, _, rfl, rfl, hl16, small1000 (by omega), ?_⟩
        have s17 : Same H15 (upd H16 l16 (.lst (xs16 ++ [.str "x"]))) := Same.mut s16 hl160
        have c17 := c15.mono s17
        generalize upd H16 l16 (.lst (xs16 ++ [.str "x"])) = H17 at s17 c17 ⊢
        have sC17 := c17.same
        have hlf17 := sC17 _ _ hlfC
        have hx17 := vers_mono sC17 hxC
        have hc17 := hc4.mono (s0c.trans sC17)
        have hx9l := hx17.length
        decreasing_trivial
        refine ⟨⟨_, SqL.of hlf17⟩, fun Ld hLd => ?_⟩
        refine lcF (walk_list (xs := xs9)) (keepI C wt pp (resp C ut pp)) (fun i y H => ∃ u, wt[i]? = some u ∧ VerAt H y u) (fun _ _ _ _ kp ⟨u, e, q⟩ => ⟨u, e, VerAt.keep kp q⟩) (by omega) hLd (fun H' s' => s'.seq (SqL.of hlf17)) ?_ ?_
        · rintro i x H18 H19 hi ss ⟨rfl, hxi⟩ kk kn hk hkn
          obtain ⟨u, hu, hua⟩ := Paired.at hx17 hxi
          refine ⟨rfl, ?_⟩
          refine ⟨_, rfl, _, rfl, _, rfl, _, _, _, C, u, pp, rfl, hc17.mono ss, wf, hua.mono ss, (hgw u (List.mem_of_getElem? hu)).1, (hpC.mono sC17).mono ss, hpl, ?_⟩
          rintro v20 H20 s20 hb20
          refine ⟨_, rfl, _, _, bits_dp hb20, bits_dp (((hrC.mono sC17).mono ss).mono s20), bits_shaped _, bits_shaped _, _, rfl, ?_⟩
          rw [bits_eqv]
          cases hb : decide (resp C u pp = resp C ut pp) with
          | true =>
            refine iteT ⟨_, rfl, ?_⟩
            exact hk (by rw [keepI_at hu]; exact hb) _ _ s20 ⟨u, hu, (hua.mono ss).mono s20⟩
          | false =>
            refine iteF ?_
            exact hkn (by rw [keepI_at hu]; exact hb) _ s20
        · intro H18 ds ss hLd18 hds
          have hdue : Paired (VerAt H18) ds (keepR C wt pp (resp C ut pp)) := by
            rw [hx9l] at hds
            have hidx := Paired.ofMap (filter_idx wt (keepI C wt pp (resp C ut pp)) (fun u => decide (resp C u pp = resp C ut pp)) (fun i u e => keepI_at e))
            refine L2.Paired.mapP (Paired.over hds hidx) ?_
            rintro y u ⟨i, ⟨u', e1, q⟩, e2⟩
            rw [e1] at e2
            rw [← Option.some.inj e2]
            exact q
          have hdl := hdue.length
          have c18 := c17.mono ss
          refine ⟨_, rfl, p, dx15, fs15, rfl, c18.ob, c18.fN _ (by decide), Hc, _, C, _, t + 1, rfl, ⟨p, dx15, fs15, vc15, lL15, lA15, asd15, rfl, c18⟩, ?_⟩
          rintro v19 H19 s19 ⟨l19, rfl, _, xs19, hl19, hx19⟩
          have c19 := c18.mono s19
          have hLd19 := s19 _ _ hLd18
          have hdue19 := vers_mono s19 hdue
          refine ⟨_, rfl, _, _, .lst (SqL.of hl19) (vers_dp hx19), .lst (SqL.of hLd19) (vers_dp hdue19), vers_shaped hx19, vers_shaped hdue19, _, rfl, ?_⟩
          rw [vers_eqv, decide_eq_true rfl]
          refine iteF ?_
          have hxt19 : VerAt H19 xt ut := hxt4.mono (s0c.trans c19.same)
          have hutk : ut ∈ keepR C wt pp (resp C ut pp) := keep_mem hutw
          refine ⟨_, rfl, _, rfl, _, _, ver_dp hxt19, .lst (SqL.of hLd19) (vers_dp hdue19), ver_shaped hxt19, vers_shaped hdue19, _, rfl, ?_⟩
          rw [vers_any, decide_eq_true hutk]
          refine iteF ?_
          have hless := keep_less (C := C) (row := resp C ut pp) hdv
          have hlf19 := s19 _ _ (ss _ _ hlf17)
          refine ⟨_, rfl, _, _, rfl, .inl (SqL.of hLd19), _, rfl, _, _, rfl, .inl (SqL.of hlf19), ?_⟩
          decreasing_trivial
          refine ifF (decide_eq_false (by omega)) ?_
          refine ⟨⟨_, _, _, _, _, _, _, _, _, rfl⟩, Hc, _, dx15, fs15, vc15, lL15, lA15, asd15, s0c, c19, by omega, hutk, fun u hu => hgw u (List.mem_filter.mp hu).1⟩
    · rintro σ H8 ⟨_, Hb, wt, dx8, fs8, vcf, lL, lA, asd, sb, c8, hwl, hutw, hgw⟩
      exfalso
      have : wt.length = 0 := by omega
      cases wt with
      | nil => cases hutw
      | cons _ _ => simp at this
end
end Pw
namespace Pw
open PySem PySem.Spec PyProof.Rows L2
theorem fun_of {K : PySem.W.Frag} {x qual : Str} {st : Stmt} {f : Addr} {fd : FuncData} (F : FunD K x qual (defArgs st) (defBody st) (defScope st) [] [] f fd) : Fun K x qual st f fd := by
  obtain ⟨⟨oc, od, dV, kV, doc, pm, an, cdv, ct, osl, e, lk, hcd, hD, hK⟩, kp⟩ := F
  rcases hD with ⟨_, rfl⟩ | ⟨e2, _⟩
  · exact ⟨⟨oc, od, kV, doc, pm, an, cdv, ct, osl, e, lk, hcd⟩, kp⟩
  · exact absurd rfl e2
def adOf (K : PySem.W.Frag) : Ad := ⟨He.ga K "Circuit", He.ga K "Marks", He.ga K "Search", He.ga K "Many", He.ga K "Finder", He.ga K "PAIRS", He.ga K "KINDS"⟩
theorem txt_of {K : PySem.W.Frag} {h : Heap} {mg : Str → Option Value} (X : K.In h) (G : h.Ns mainGlobals mg) (c : He.SaysD Hd.fa Hd.fn K) (m : Hd.exB K = true) : Txt K mg (adOf K) := by
  unfold Hd.exB at m
  simp only [Bool.and_eq_true] at m
  obtain ⟨m0, mk, m1, m2, m3, m4⟩ := m
  exact {
    z_len := He.free_ok X G (c.fact 0 (f := .free "len") rfl),
    z_isinstance := He.free_ok X G (c.fact 1 (f := .free "isinstance") rfl),
    z_int := He.free_ok X G (c.fact 2 (f := .free "int") rfl),
    z_bool := He.free_ok X G (c.fact 3 (f := .free "bool") rfl),
    z_tuple := He.free_ok X G (c.fact 4 (f := .free "tuple") rfl),
    z_list := He.free_ok X G (c.fact 5 (f := .free "list") rfl),
    z_str := He.free_ok X G (c.fact 6 (f := .free "str") rfl),
    z_all := He.free_ok X G (c.fact 7 (f := .free "all") rfl),
    z_any := He.free_ok X G (c.fact 8 (f := .free "any") rfl),
    z_sum := He.free_ok X G (c.fact 9 (f := .free "sum") rfl),
    z_min := He.free_ok X G (c.fact 10 (f := .free "min") rfl),
    z_max := He.free_ok X G (c.fact 11 (f := .free "max") rfl),
    z_sorted := He.free_ok X G (c.fact 12 (f := .free "sorted") rfl),
    z_enumerate := He.free_ok X G (c.fact 13 (f := .free "enumerate") rfl),
    z_zip := He.free_ok X G (c.fact 14 (f := .free "zip") rfl),
    z_range := He.free_ok X G (c.fact 15 (f := .free "range") rfl),
    g_MOST_NAME := (let ⟨t, e⟩ := He.int_ok X G (c.fact 16 (f := .int "MOST_NAME" 12) rfl); ⟨_, e, ⟨t, rfl⟩⟩),
    g_MOST_PINS := (let ⟨t, e⟩ := He.int_ok X G (c.fact 17 (f := .int "MOST_PINS" 4) rfl); ⟨_, e, ⟨t, rfl⟩⟩),
    g_MOST_LINES := (let ⟨t, e⟩ := He.int_ok X G (c.fact 18 (f := .int "MOST_LINES" 400) rfl); ⟨_, e, ⟨t, rfl⟩⟩),
    g_MOST_SOURCES := (let ⟨t, e⟩ := He.int_ok X G (c.fact 19 (f := .int "MOST_SOURCES" 40) rfl); ⟨_, e, ⟨t, rfl⟩⟩),
    g_EQUAL := (let ⟨t, e⟩ := He.int_ok X G (c.fact 20 (f := .int "EQUAL" 9) rfl); ⟨_, e, ⟨t, rfl⟩⟩),
    g_UNEQUAL := (let ⟨t, e⟩ := He.int_ok X G (c.fact 21 (f := .int "UNEQUAL" 6) rfl); ⟨_, e, ⟨t, rfl⟩⟩),
    g_LETTERS := (let ⟨t, e⟩ := He.str_ok X G (c.fact 22 (f := .str "LETTERS" "abcdefghijklmnopqrstuvwxyz") rfl); ⟨_, e, ⟨t, rfl⟩⟩),
    g_FIGURES := (let ⟨t, e⟩ := He.str_ok X G (c.fact 23 (f := .str "FIGURES" "0123456789") rfl); ⟨_, e, ⟨t, rfl⟩⟩),
    g_PAIRS := ⟨_, He.glo_ok X G (c.fact 24 (f := .glo "PAIRS") rfl), rfl⟩,
    g_KINDS := ⟨_, He.glo_ok X G (c.fact 25 (f := .glo "KINDS") rfl), rfl⟩,
    pairs := ⟨[Hd.pairAd 0 K, Hd.pairAd 1 K, Hd.pairAd 2 K, Hd.pairAd 3 K], rfl, Hd.tupA_ok m0, fun i p xy hp hxy H => by
      match i, hp, hxy with
      | 0, hp, hxy => rw [← Option.some.inj hp, ← Option.some.inj hxy]; exact Hd.tupA_ok m1 H
      | 1, hp, hxy => rw [← Option.some.inj hp, ← Option.some.inj hxy]; exact Hd.tupA_ok m2 H
      | 2, hp, hxy => rw [← Option.some.inj hp, ← Option.some.inj hxy]; exact Hd.tupA_ok m3 H
      | 3, hp, hxy => rw [← Option.some.inj hp, ← Option.some.inj hxy]; exact Hd.tupA_ok m4 H
      | _ + 4, hp, hxy => simp [allPairs] at hxy⟩,
    kinds := Hd.tupA_ok mk,
    cC := He.cls_ok (c.fact 88 (f := .cls "Circuit") rfl),
    nC_inputs := He.noat_ok (c.fact 90 (f := .noat "Circuit" "inputs") rfl),
    nC_registers := He.noat_ok (c.fact 91 (f := .noat "Circuit" "registers") rfl),
    nC_gates := He.noat_ok (c.fact 92 (f := .noat "Circuit" "gates") rfl),
    nC_outputs := He.noat_ok (c.fact 93 (f := .noat "Circuit" "outputs") rfl),
    nC_gate_of := He.noat_ok (c.fact 94 (f := .noat "Circuit" "gate_of") rfl),
    nC_order := He.noat_ok (c.fact 95 (f := .noat "Circuit" "order") rfl),
    cM := He.cls_ok (c.fact 96 (f := .cls "Marks") rfl),
    nM_circuit := He.noat_ok (c.fact 98 (f := .noat "Marks" "circuit") rfl),
    nM_versions := He.noat_ok (c.fact 99 (f := .noat "Marks" "versions") rfl),
    nM_part := He.noat_ok (c.fact 100 (f := .noat "Marks" "partial") rfl),
    cS := He.cls_ok (c.fact 101 (f := .cls "Search") rfl),
    nS_circuit := He.noat_ok (c.fact 103 (f := .noat "Search" "circuit") rfl),
    nS_one := He.noat_ok (c.fact 104 (f := .noat "Search" "one") rfl),
    nS_other := He.noat_ok (c.fact 105 (f := .noat "Search" "other") rfl),
    nS_above := He.noat_ok (c.fact 106 (f := .noat "Search" "above") rfl),
    nS_shorted := He.noat_ok (c.fact 107 (f := .noat "Search" "shorted") rfl),
    cN := He.cls_ok (c.fact 108 (f := .cls "Many") rfl),
    nN_circuit := He.noat_ok (c.fact 110 (f := .noat "Many" "circuit") rfl),
    nN_version := He.noat_ok (c.fact 111 (f := .noat "Many" "version") rfl),
    nN_mask := He.noat_ok (c.fact 112 (f := .noat "Many" "mask") rfl),
    nN_given := He.noat_ok (c.fact 113 (f := .noat "Many" "given") rfl),
    cF := He.cls_ok (c.fact 114 (f := .cls "Finder") rfl),
    nF_circuit := He.noat_ok (c.fact 116 (f := .noat "Finder" "circuit") rfl),
    nF_left := He.noat_ok (c.fact 117 (f := .noat "Finder" "left") rfl),
    nF_asked := He.noat_ok (c.fact 118 (f := .noat "Finder" "asked") rfl) }
theorem facts {P : Program} {w : World} {K : PySem.W.Frag} {h : Heap} {mg : Str → Option Value} {f : Addr} (X : K.In h) (G : h.Ns mainGlobals mg) (hfa : mg ("law" : Str) = some (.ref f)) (c : He.SaysD Hd.fa Hd.fn K) (m : Hd.exB K = true) :
    ∃ fd : FuncData, (∀ (s : Shared) (v : Value), BindsTo s fd ⟨[v], []⟩ [("_law_script", v)]) ∧ ∀ base : Heap, K.In base → base.Ns mainGlobals mg → FnOk P w K mg base CX0 23 f fd ["_law_script"] (spLaw K) := by
  have T := txt_of X G c m
  obtain ⟨fd_is_integer, D_is_integer⟩ := c.def_ 0 (d := Hd.d_is_integer) rfl
  have F_is_integer := fun_of (st := s_is_integer) D_is_integer
  have b_is_integer : Binds K fd_is_integer ["value", "least", "greatest"] [] := F_is_integer.binds (ps := ["value", "least", "greatest"]) (fun _ _ _ _ _ _ us hl => match us, hl with | [_, _, _], _ => rfl)
  have a_is_integer : At K mg "is_integer" s_is_integer _ fd_is_integer ["value", "least", "greatest"] := ⟨F_is_integer, He.glo_ok X G (c.fact 31 (f := .glo "is_integer") rfl), b_is_integer⟩
  obtain ⟨fd_is_bit, D_is_bit⟩ := c.def_ 1 (d := Hd.d_is_bit) rfl
  have F_is_bit := fun_of (st := s_is_bit) D_is_bit
  have b_is_bit : Binds K fd_is_bit ["value"] [] := F_is_bit.binds (ps := ["value"]) (fun _ _ _ _ _ _ us hl => match us, hl with | [_], _ => rfl)
  have a_is_bit : At K mg "is_bit" s_is_bit _ fd_is_bit ["value"] := ⟨F_is_bit, He.glo_ok X G (c.fact 32 (f := .glo "is_bit") rfl), b_is_bit⟩
  obtain ⟨fd_are_bits, D_are_bits⟩ := c.def_ 2 (d := Hd.d_are_bits) rfl
  have F_are_bits := fun_of (st := s_are_bits) D_are_bits
  have b_are_bits : Binds K fd_are_bits ["value", "count"] [] := F_are_bits.binds (ps := ["value", "count"]) (fun _ _ _ _ _ _ us hl => match us, hl with | [_, _], _ => rfl)
  have a_are_bits : At K mg "are_bits" s_are_bits _ fd_are_bits ["value", "count"] := ⟨F_are_bits, He.glo_ok X G (c.fact 33 (f := .glo "are_bits") rfl), b_are_bits⟩
  obtain ⟨fd_is_name, D_is_name⟩ := c.def_ 3 (d := Hd.d_is_name) rfl
  have F_is_name := fun_of (st := s_is_name) D_is_name
  have b_is_name : Binds K fd_is_name ["value"] [] := F_is_name.binds (ps := ["value"]) (fun _ _ _ _ _ _ us hl => match us, hl with | [_], _ => rfl)
  have a_is_name : At K mg "is_name" s_is_name _ fd_is_name ["value"] := ⟨F_is_name, He.glo_ok X G (c.fact 34 (f := .glo "is_name") rfl), b_is_name⟩
  obtain ⟨fd_is_stem, D_is_stem⟩ := c.def_ 4 (d := Hd.d_is_stem) rfl
  have F_is_stem := fun_of (st := s_is_stem) D_is_stem
  have b_is_stem : Binds K fd_is_stem ["circuit", "value"] [] := F_is_stem.binds (ps := ["circuit", "value"]) (fun _ _ _ _ _ _ us hl => match us, hl with | [_, _], _ => rfl)
  have a_is_stem : At K mg "is_stem" s_is_stem _ fd_is_stem ["circuit", "value"] := ⟨F_is_stem, He.glo_ok X G (c.fact 35 (f := .glo "is_stem") rfl), b_is_stem⟩
  obtain ⟨fd_is_pin, D_is_pin⟩ := c.def_ 5 (d := Hd.d_is_pin) rfl
  have F_is_pin := fun_of (st := s_is_pin) D_is_pin
  have b_is_pin : Binds K fd_is_pin ["circuit", "value"] [] := F_is_pin.binds (ps := ["circuit", "value"]) (fun _ _ _ _ _ _ us hl => match us, hl with | [_, _], _ => rfl)
  have a_is_pin : At K mg "is_pin" s_is_pin _ fd_is_pin ["circuit", "value"] := ⟨F_is_pin, He.glo_ok X G (c.fact 36 (f := .glo "is_pin") rfl), b_is_pin⟩
  obtain ⟨fd_is_short, D_is_short⟩ := c.def_ 6 (d := Hd.d_is_short) rfl
  have F_is_short := fun_of (st := s_is_short) D_is_short
  have b_is_short : Binds K fd_is_short ["circuit", "value"] [] := F_is_short.binds (ps := ["circuit", "value"]) (fun _ _ _ _ _ _ us hl => match us, hl with | [_, _], _ => rfl)
  have a_is_short : At K mg "is_short" s_is_short _ fd_is_short ["circuit", "value"] := ⟨F_is_short, He.glo_ok X G (c.fact 37 (f := .glo "is_short") rfl), b_is_short⟩
  obtain ⟨fd_is_break, D_is_break⟩ := c.def_ 7 (d := Hd.d_is_break) rfl
  have F_is_break := fun_of (st := s_is_break) D_is_break
  have b_is_break : Binds K fd_is_break ["circuit", "value"] [] := F_is_break.binds (ps := ["circuit", "value"]) (fun _ _ _ _ _ _ us hl => match us, hl with | [_, _], _ => rfl)
  have a_is_break : At K mg "is_break" s_is_break _ fd_is_break ["circuit", "value"] := ⟨F_is_break, He.glo_ok X G (c.fact 38 (f := .glo "is_break") rfl), b_is_break⟩
  obtain ⟨fd_check_version, D_check_version⟩ := c.def_ 8 (d := Hd.d_check_version) rfl
  have F_check_version := fun_of (st := s_check_version) D_check_version
  have b_check_version : Binds K fd_check_version ["circuit", "version"] [] := F_check_version.binds (ps := ["circuit", "version"]) (fun _ _ _ _ _ _ us hl => match us, hl with | [_, _], _ => rfl)
  have a_check_version : At K mg "check_version" s_check_version _ fd_check_version ["circuit", "version"] := ⟨F_check_version, He.glo_ok X G (c.fact 39 (f := .glo "check_version") rfl), b_check_version⟩
  obtain ⟨fd_shorts, D_shorts⟩ := c.def_ 9 (d := Hd.d_shorts) rfl
  have F_shorts := fun_of (st := s_shorts) D_shorts
  have b_shorts : Binds K fd_shorts ["circuit"] [] := F_shorts.binds (ps := ["circuit"]) (fun _ _ _ _ _ _ us hl => match us, hl with | [_], _ => rfl)
  have a_shorts : At K mg "shorts" s_shorts _ fd_shorts ["circuit"] := ⟨F_shorts, He.glo_ok X G (c.fact 40 (f := .glo "shorts") rfl), b_shorts⟩
  obtain ⟨fd_gate_value, D_gate_value⟩ := c.def_ 10 (d := Hd.d_gate_value) rfl
  have F_gate_value := fun_of (st := s_gate_value) D_gate_value
  have b_gate_value : Binds K fd_gate_value ["kind", "bits"] [] := F_gate_value.binds (ps := ["kind", "bits"]) (fun _ _ _ _ _ _ us hl => match us, hl with | [_, _], _ => rfl)
  have a_gate_value : At K mg "gate_value" s_gate_value _ fd_gate_value ["kind", "bits"] := ⟨F_gate_value, He.glo_ok X G (c.fact 41 (f := .glo "gate_value") rfl), b_gate_value⟩
  obtain ⟨fd_joined, D_joined⟩ := c.def_ 11 (d := Hd.d_joined) rfl
  have F_joined := fun_of (st := s_joined) D_joined
  have b_joined : Binds K fd_joined ["kind", "one", "other"] [] := F_joined.binds (ps := ["kind", "one", "other"]) (fun _ _ _ _ _ _ us hl => match us, hl with | [_, _, _], _ => rfl)
  have a_joined : At K mg "joined" s_joined _ fd_joined ["kind", "one", "other"] := ⟨F_joined, He.glo_ok X G (c.fact 42 (f := .glo "joined") rfl), b_joined⟩
  obtain ⟨fd_stuck_pin, D_stuck_pin⟩ := c.def_ 12 (d := Hd.d_stuck_pin) rfl
  have F_stuck_pin := fun_of (st := s_stuck_pin) D_stuck_pin
  have b_stuck_pin : Binds K fd_stuck_pin ["version", "gate", "index"] [] := F_stuck_pin.binds (ps := ["version", "gate", "index"]) (fun _ _ _ _ _ _ us hl => match us, hl with | [_, _, _], _ => rfl)
  have a_stuck_pin : At K mg "stuck_pin" s_stuck_pin _ fd_stuck_pin ["version", "gate", "index"] := ⟨F_stuck_pin, He.glo_ok X G (c.fact 43 (f := .glo "stuck_pin") rfl), b_stuck_pin⟩
  obtain ⟨fd_check_pattern, D_check_pattern⟩ := c.def_ 13 (d := Hd.d_check_pattern) rfl
  have F_check_pattern := fun_of (st := s_check_pattern) D_check_pattern
  have b_check_pattern : Binds K fd_check_pattern ["circuit", "pattern"] [] := F_check_pattern.binds (ps := ["circuit", "pattern"]) (fun _ _ _ _ _ _ us hl => match us, hl with | [_, _], _ => rfl)
  have a_check_pattern : At K mg "check_pattern" s_check_pattern _ fd_check_pattern ["circuit", "pattern"] := ⟨F_check_pattern, He.glo_ok X G (c.fact 44 (f := .glo "check_pattern") rfl), b_check_pattern⟩
  obtain ⟨fd_pairs_in, D_pairs_in⟩ := c.def_ 14 (d := Hd.d_pairs_in) rfl
  have F_pairs_in := fun_of (st := s_pairs_in) D_pairs_in
  have b_pairs_in : Binds K fd_pairs_in ["mark"] [] := F_pairs_in.binds (ps := ["mark"]) (fun _ _ _ _ _ _ us hl => match us, hl with | [_], _ => rfl)
  have a_pairs_in : At K mg "pairs_in" s_pairs_in _ fd_pairs_in ["mark"] := ⟨F_pairs_in, He.glo_ok X G (c.fact 45 (f := .glo "pairs_in") rfl), b_pairs_in⟩
  obtain ⟨fd_mark_of, D_mark_of⟩ := c.def_ 15 (d := Hd.d_mark_of) rfl
  have F_mark_of := fun_of (st := s_mark_of) D_mark_of
  have b_mark_of : Binds K fd_mark_of ["pairs"] [] := F_mark_of.binds (ps := ["pairs"]) (fun _ _ _ _ _ _ us hl => match us, hl with | [_], _ => rfl)
  have a_mark_of : At K mg "mark_of" s_mark_of _ fd_mark_of ["pairs"] := ⟨F_mark_of, He.glo_ok X G (c.fact 46 (f := .glo "mark_of") rfl), b_mark_of⟩
  obtain ⟨fd_with_value, D_with_value⟩ := c.def_ 16 (d := Hd.d_with_value) rfl
  have F_with_value := fun_of (st := s_with_value) D_with_value
  have b_with_value : Binds K fd_with_value ["mark", "side", "bit"] [] := F_with_value.binds (ps := ["mark", "side", "bit"]) (fun _ _ _ _ _ _ us hl => match us, hl with | [_, _, _], _ => rfl)
  have a_with_value : At K mg "with_value" s_with_value _ fd_with_value ["mark", "side", "bit"] := ⟨F_with_value, He.glo_ok X G (c.fact 47 (f := .glo "with_value") rfl), b_with_value⟩
  obtain ⟨fd_folded, D_folded⟩ := c.def_ 17 (d := Hd.d_folded) rfl
  have F_folded := fun_of (st := s_folded) D_folded
  have b_folded : Binds K fd_folded ["kind", "left", "right"] [] := F_folded.binds (ps := ["kind", "left", "right"]) (fun _ _ _ _ _ _ us hl => match us, hl with | [_, _, _], _ => rfl)
  have a_folded : At K mg "folded" s_folded _ fd_folded ["kind", "left", "right"] := ⟨F_folded, He.glo_ok X G (c.fact 48 (f := .glo "folded") rfl), b_folded⟩
  obtain ⟨fd_negated, D_negated⟩ := c.def_ 18 (d := Hd.d_negated) rfl
  have F_negated := fun_of (st := s_negated) D_negated
  have b_negated : Binds K fd_negated ["mark"] [] := F_negated.binds (ps := ["mark"]) (fun _ _ _ _ _ _ us hl => match us, hl with | [_], _ => rfl)
  have a_negated : At K mg "negated" s_negated _ fd_negated ["mark"] := ⟨F_negated, He.glo_ok X G (c.fact 49 (f := .glo "negated") rfl), b_negated⟩
  obtain ⟨fd_gate_mark, D_gate_mark⟩ := c.def_ 19 (d := Hd.d_gate_mark) rfl
  have F_gate_mark := fun_of (st := s_gate_mark) D_gate_mark
  have b_gate_mark : Binds K fd_gate_mark ["kind", "marks"] [] := F_gate_mark.binds (ps := ["kind", "marks"]) (fun _ _ _ _ _ _ us hl => match us, hl with | [_, _], _ => rfl)
  have a_gate_mark : At K mg "gate_mark" s_gate_mark _ fd_gate_mark ["kind", "marks"] := ⟨F_gate_mark, He.glo_ok X G (c.fact 50 (f := .glo "gate_mark") rfl), b_gate_mark⟩
  obtain ⟨fd_check_partial, D_check_partial⟩ := c.def_ 20 (d := Hd.d_check_partial) rfl
  have F_check_partial := fun_of (st := s_check_partial) D_check_partial
  have b_check_partial : Binds K fd_check_partial ["circuit", "partial"] [] := F_check_partial.binds (ps := ["circuit", "partial"]) (fun _ _ _ _ _ _ us hl => match us, hl with | [_, _], _ => rfl)
  have a_check_partial : At K mg "check_partial" s_check_partial _ fd_check_partial ["circuit", "partial"] := ⟨F_check_partial, He.glo_ok X G (c.fact 51 (f := .glo "check_partial") rfl), b_check_partial⟩
  obtain ⟨fd_Marks_init, D_Marks_init⟩ := c.def_ 21 (d := Hd.d_Marks_init) rfl
  have F_Marks_init := fun_of (st := s_Marks_init) D_Marks_init
  have b_Marks_init : Binds K fd_Marks_init ["self", "circuit", "versions", "partial"] [] := F_Marks_init.binds (ps := ["self", "circuit", "versions", "partial"]) (fun _ _ _ _ _ _ us hl => match us, hl with | [_, _, _, _], _ => rfl)
  have a_Marks_init : AtI K mg "Marks" (He.ga K "Marks") "Marks.__init__" s_Marks_init _ fd_Marks_init ["self", "circuit", "versions", "partial"] := ⟨F_Marks_init, He.mkr_ok (c.fact 97 (f := .mkr "Marks") rfl), He.glo_ok X G (c.fact 27 (f := .glo "Marks") rfl), b_Marks_init⟩
  obtain ⟨fd_Marks_seen, D_Marks_seen⟩ := c.def_ 22 (d := Hd.d_Marks_seen) rfl
  have F_Marks_seen := fun_of (st := s_Marks_seen) D_Marks_seen
  have b_Marks_seen : Binds K fd_Marks_seen ["self", "gate", "index", "known"] [] := F_Marks_seen.binds (ps := ["self", "gate", "index", "known"]) (fun _ _ _ _ _ _ us hl => match us, hl with | [_, _, _, _], _ => rfl)
  have a_Marks_seen : AtM K (He.ga K "Marks") "seen" "Marks.seen" s_Marks_seen _ fd_Marks_seen ["self", "gate", "index", "known"] := ⟨F_Marks_seen, T.cM, He.meth_ok (c.fact 119 (f := .meth "Marks" "seen") rfl), b_Marks_seen⟩
  obtain ⟨fd_Marks_forced, D_Marks_forced⟩ := c.def_ 23 (d := Hd.d_Marks_forced) rfl
  have F_Marks_forced := fun_of (st := s_Marks_forced) D_Marks_forced
  have b_Marks_forced : Binds K fd_Marks_forced ["self", "line", "mark", "known"] [] := F_Marks_forced.binds (ps := ["self", "line", "mark", "known"]) (fun _ _ _ _ _ _ us hl => match us, hl with | [_, _, _, _], _ => rfl)
  have a_Marks_forced : AtM K (He.ga K "Marks") "forced" "Marks.forced" s_Marks_forced _ fd_Marks_forced ["self", "line", "mark", "known"] := ⟨F_Marks_forced, T.cM, He.meth_ok (c.fact 120 (f := .meth "Marks" "forced") rfl), b_Marks_forced⟩
  obtain ⟨fd_Marks_shorted, D_Marks_shorted⟩ := c.def_ 24 (d := Hd.d_Marks_shorted) rfl
  have F_Marks_shorted := fun_of (st := s_Marks_shorted) D_Marks_shorted
  have b_Marks_shorted : Binds K fd_Marks_shorted ["self", "mark", "side", "version"] [] := F_Marks_shorted.binds (ps := ["self", "mark", "side", "version"]) (fun _ _ _ _ _ _ us hl => match us, hl with | [_, _, _, _], _ => rfl)
  have a_Marks_shorted : AtM K (He.ga K "Marks") "shorted" "Marks.shorted" s_Marks_shorted _ fd_Marks_shorted ["self", "mark", "side", "version"] := ⟨F_Marks_shorted, T.cM, He.meth_ok (c.fact 121 (f := .meth "Marks" "shorted") rfl), b_Marks_shorted⟩
  obtain ⟨fd_Marks_known, D_Marks_known⟩ := c.def_ 25 (d := Hd.d_Marks_known) rfl
  have F_Marks_known := fun_of (st := s_Marks_known) D_Marks_known
  have b_Marks_known : Binds K fd_Marks_known ["self"] [] := F_Marks_known.binds (ps := ["self"]) (fun _ _ _ _ _ _ us hl => match us, hl with | [_], _ => rfl)
  have a_Marks_known : AtM K (He.ga K "Marks") "known" "Marks.known" s_Marks_known _ fd_Marks_known ["self"] := ⟨F_Marks_known, T.cM, He.meth_ok (c.fact 122 (f := .meth "Marks" "known") rfl), b_Marks_known⟩
  obtain ⟨fd_marks_of, D_marks_of⟩ := c.def_ 26 (d := Hd.d_marks_of) rfl
  have F_marks_of := fun_of (st := s_marks_of) D_marks_of
  have b_marks_of : Binds K fd_marks_of ["circuit", "one", "other", "partial"] [] := F_marks_of.binds (ps := ["circuit", "one", "other", "partial"]) (fun _ _ _ _ _ _ us hl => match us, hl with | [_, _, _, _], _ => rfl)
  have a_marks_of : At K mg "marks_of" s_marks_of _ fd_marks_of ["circuit", "one", "other", "partial"] := ⟨F_marks_of, He.glo_ok X G (c.fact 52 (f := .glo "marks_of") rfl), b_marks_of⟩
  obtain ⟨fd_sink_marks, D_sink_marks⟩ := c.def_ 27 (d := Hd.d_sink_marks) rfl
  have F_sink_marks := fun_of (st := s_sink_marks) D_sink_marks
  have b_sink_marks : Binds K fd_sink_marks ["circuit", "one", "other", "partial"] [] := F_sink_marks.binds (ps := ["circuit", "one", "other", "partial"]) (fun _ _ _ _ _ _ us hl => match us, hl with | [_, _, _, _], _ => rfl)
  have a_sink_marks : At K mg "sink_marks" s_sink_marks _ fd_sink_marks ["circuit", "one", "other", "partial"] := ⟨F_sink_marks, He.glo_ok X G (c.fact 53 (f := .glo "sink_marks") rfl), b_sink_marks⟩
  obtain ⟨fd_with_bit, D_with_bit⟩ := c.def_ 28 (d := Hd.d_with_bit) rfl
  have F_with_bit := fun_of (st := s_with_bit) D_with_bit
  have b_with_bit : Binds K fd_with_bit ["partial", "index", "bit"] [] := F_with_bit.binds (ps := ["partial", "index", "bit"]) (fun _ _ _ _ _ _ us hl => match us, hl with | [_, _, _], _ => rfl)
  have a_with_bit : At K mg "with_bit" s_with_bit _ fd_with_bit ["partial", "index", "bit"] := ⟨F_with_bit, He.glo_ok X G (c.fact 54 (f := .glo "with_bit") rfl), b_with_bit⟩
  obtain ⟨fd_empty_partial, D_empty_partial⟩ := c.def_ 29 (d := Hd.d_empty_partial) rfl
  have F_empty_partial := fun_of (st := s_empty_partial) D_empty_partial
  have b_empty_partial : Binds K fd_empty_partial ["circuit"] [] := F_empty_partial.binds (ps := ["circuit"]) (fun _ _ _ _ _ _ us hl => match us, hl with | [_], _ => rfl)
  have a_empty_partial : At K mg "empty_partial" s_empty_partial _ fd_empty_partial ["circuit"] := ⟨F_empty_partial, He.glo_ok X G (c.fact 55 (f := .glo "empty_partial") rfl), b_empty_partial⟩
  obtain ⟨fd_is_leaf_right, D_is_leaf_right⟩ := c.def_ 30 (d := Hd.d_is_leaf_right) rfl
  have F_is_leaf_right := fun_of (st := s_is_leaf_right) D_is_leaf_right
  have b_is_leaf_right : Binds K fd_is_leaf_right ["circuit", "one", "other", "partial"] [] := F_is_leaf_right.binds (ps := ["circuit", "one", "other", "partial"]) (fun _ _ _ _ _ _ us hl => match us, hl with | [_, _, _, _], _ => rfl)
  have a_is_leaf_right : At K mg "is_leaf_right" s_is_leaf_right _ fd_is_leaf_right ["circuit", "one", "other", "partial"] := ⟨F_is_leaf_right, He.glo_ok X G (c.fact 56 (f := .glo "is_leaf_right") rfl), b_is_leaf_right⟩
  obtain ⟨fd_check_from, D_check_from⟩ := c.def_ 31 (d := Hd.d_check_from) rfl
  have F_check_from := fun_of (st := s_check_from) D_check_from
  have b_check_from : Binds K fd_check_from ["circuit", "one", "other", "partial", "paper"] [] := F_check_from.binds (ps := ["circuit", "one", "other", "partial", "paper"]) (fun _ _ _ _ _ _ us hl => match us, hl with | [_, _, _, _, _], _ => rfl)
  have a_check_from : At K mg "check_from" s_check_from _ fd_check_from ["circuit", "one", "other", "partial", "paper"] := ⟨F_check_from, He.glo_ok X G (c.fact 57 (f := .glo "check_from") rfl), b_check_from⟩
  obtain ⟨fd_check_paper, D_check_paper⟩ := c.def_ 32 (d := Hd.d_check_paper) rfl
  have F_check_paper := fun_of (st := s_check_paper) D_check_paper
  have b_check_paper : Binds K fd_check_paper ["circuit", "one", "other", "paper"] [] := F_check_paper.binds (ps := ["circuit", "one", "other", "paper"]) (fun _ _ _ _ _ _ us hl => match us, hl with | [_, _, _, _], _ => rfl)
  have a_check_paper : At K mg "check_paper" s_check_paper _ fd_check_paper ["circuit", "one", "other", "paper"] := ⟨F_check_paper, He.glo_ok X G (c.fact 58 (f := .glo "check_paper") rfl), b_check_paper⟩
  obtain ⟨fd_filled, D_filled⟩ := c.def_ 33 (d := Hd.d_filled) rfl
  have F_filled := fun_of (st := s_filled) D_filled
  have b_filled : Binds K fd_filled ["circuit", "partial", "bit"] [] := F_filled.binds (ps := ["circuit", "partial", "bit"]) (fun _ _ _ _ _ _ us hl => match us, hl with | [_, _, _], _ => rfl)
  have a_filled : At K mg "filled" s_filled _ fd_filled ["circuit", "partial", "bit"] := ⟨F_filled, He.glo_ok X G (c.fact 59 (f := .glo "filled") rfl), b_filled⟩
  obtain ⟨fd_Search_init, D_Search_init⟩ := c.def_ 34 (d := Hd.d_Search_init) rfl
  have F_Search_init := fun_of (st := s_Search_init) D_Search_init
  have b_Search_init : Binds K fd_Search_init ["self", "circuit", "one", "other"] [] := F_Search_init.binds (ps := ["self", "circuit", "one", "other"]) (fun _ _ _ _ _ _ us hl => match us, hl with | [_, _, _, _], _ => rfl)
  have a_Search_init : AtI K mg "Search" (He.ga K "Search") "Search.__init__" s_Search_init _ fd_Search_init ["self", "circuit", "one", "other"] := ⟨F_Search_init, He.mkr_ok (c.fact 102 (f := .mkr "Search") rfl), He.glo_ok X G (c.fact 28 (f := .glo "Search") rfl), b_Search_init⟩
  obtain ⟨fd_Search_choice, D_Search_choice⟩ := c.def_ 35 (d := Hd.d_Search_choice) rfl
  have F_Search_choice := fun_of (st := s_Search_choice) D_Search_choice
  have b_Search_choice : Binds K fd_Search_choice ["self", "partial", "marks"] [] := F_Search_choice.binds (ps := ["self", "partial", "marks"]) (fun _ _ _ _ _ _ us hl => match us, hl with | [_, _, _], _ => rfl)
  have a_Search_choice : AtM K (He.ga K "Search") "choice" "Search.choice" s_Search_choice _ fd_Search_choice ["self", "partial", "marks"] := ⟨F_Search_choice, T.cS, He.meth_ok (c.fact 123 (f := .meth "Search" "choice") rfl), b_Search_choice⟩
  obtain ⟨fd_Search_answer, D_Search_answer⟩ := c.def_ 36 (d := Hd.d_Search_answer) rfl
  have F_Search_answer := fun_of (st := s_Search_answer) D_Search_answer
  have b_Search_answer : Binds K fd_Search_answer ["self", "partial"] [] := F_Search_answer.binds (ps := ["self", "partial"]) (fun _ _ _ _ _ _ us hl => match us, hl with | [_, _], _ => rfl)
  have a_Search_answer : AtM K (He.ga K "Search") "answer" "Search.answer" s_Search_answer _ fd_Search_answer ["self", "partial"] := ⟨F_Search_answer, T.cS, He.meth_ok (c.fact 124 (f := .meth "Search" "answer") rfl), b_Search_answer⟩
  obtain ⟨fd_answer, D_answer⟩ := c.def_ 37 (d := Hd.d_answer) rfl
  have F_answer := fun_of (st := s_answer) D_answer
  have b_answer : Binds K fd_answer ["circuit", "one", "other"] [] := F_answer.binds (ps := ["circuit", "one", "other"]) (fun _ _ _ _ _ _ us hl => match us, hl with | [_, _, _], _ => rfl)
  have a_answer : At K mg "answer" s_answer _ fd_answer ["circuit", "one", "other"] := ⟨F_answer, He.glo_ok X G (c.fact 60 (f := .glo "answer") rfl), b_answer⟩
  obtain ⟨fd_word_of, D_word_of⟩ := c.def_ 38 (d := Hd.d_word_of) rfl
  have F_word_of := fun_of (st := s_word_of) D_word_of
  have b_word_of : Binds K fd_word_of ["bits"] [] := F_word_of.binds (ps := ["bits"]) (fun _ _ _ _ _ _ us hl => match us, hl with | [_], _ => rfl)
  have a_word_of : At K mg "word_of" s_word_of _ fd_word_of ["bits"] := ⟨F_word_of, He.glo_ok X G (c.fact 61 (f := .glo "word_of") rfl), b_word_of⟩
  obtain ⟨fd_gate_word, D_gate_word⟩ := c.def_ 39 (d := Hd.d_gate_word) rfl
  have F_gate_word := fun_of (st := s_gate_word) D_gate_word
  have b_gate_word : Binds K fd_gate_word ["kind", "words", "mask"] [] := F_gate_word.binds (ps := ["kind", "words", "mask"]) (fun _ _ _ _ _ _ us hl => match us, hl with | [_, _, _], _ => rfl)
  have a_gate_word : At K mg "gate_word" s_gate_word _ fd_gate_word ["kind", "words", "mask"] := ⟨F_gate_word, He.glo_ok X G (c.fact 62 (f := .glo "gate_word") rfl), b_gate_word⟩
  obtain ⟨fd_Many_init, D_Many_init⟩ := c.def_ 40 (d := Hd.d_Many_init) rfl
  have F_Many_init := fun_of (st := s_Many_init) D_Many_init
  have b_Many_init : Binds K fd_Many_init ["self", "circuit", "version", "patterns"] [] := F_Many_init.binds (ps := ["self", "circuit", "version", "patterns"]) (fun _ _ _ _ _ _ us hl => match us, hl with | [_, _, _, _], _ => rfl)
  have a_Many_init : AtI K mg "Many" (He.ga K "Many") "Many.__init__" s_Many_init _ fd_Many_init ["self", "circuit", "version", "patterns"] := ⟨F_Many_init, He.mkr_ok (c.fact 109 (f := .mkr "Many") rfl), He.glo_ok X G (c.fact 29 (f := .glo "Many") rfl), b_Many_init⟩
  obtain ⟨fd_Many_full, D_Many_full⟩ := c.def_ 41 (d := Hd.d_Many_full) rfl
  have F_Many_full := fun_of (st := s_Many_full) D_Many_full
  have b_Many_full : Binds K fd_Many_full ["self", "bit"] [] := F_Many_full.binds (ps := ["self", "bit"]) (fun _ _ _ _ _ _ us hl => match us, hl with | [_, _], _ => rfl)
  have a_Many_full : AtM K (He.ga K "Many") "full" "Many.full" s_Many_full _ fd_Many_full ["self", "bit"] := ⟨F_Many_full, T.cN, He.meth_ok (c.fact 125 (f := .meth "Many" "full") rfl), b_Many_full⟩
  obtain ⟨fd_Many_pin, D_Many_pin⟩ := c.def_ 42 (d := Hd.d_Many_pin) rfl
  have F_Many_pin := fun_of (st := s_Many_pin) D_Many_pin
  have b_Many_pin : Binds K fd_Many_pin ["self", "gate", "index", "known", "version"] [] := F_Many_pin.binds (ps := ["self", "gate", "index", "known", "version"]) (fun _ _ _ _ _ _ us hl => match us, hl with | [_, _, _, _, _], _ => rfl)
  have a_Many_pin : AtM K (He.ga K "Many") "pin" "Many.pin" s_Many_pin _ fd_Many_pin ["self", "gate", "index", "known", "version"] := ⟨F_Many_pin, T.cN, He.meth_ok (c.fact 126 (f := .meth "Many" "pin") rfl), b_Many_pin⟩
  obtain ⟨fd_Many_through, D_Many_through⟩ := c.def_ 43 (d := Hd.d_Many_through) rfl
  have F_Many_through := fun_of (st := s_Many_through) D_Many_through
  have b_Many_through : Binds K fd_Many_through ["self", "version", "forced"] [] := F_Many_through.binds (ps := ["self", "version", "forced"]) (fun _ _ _ _ _ _ us hl => match us, hl with | [_, _, _], _ => rfl)
  have a_Many_through : AtM K (He.ga K "Many") "through" "Many.through" s_Many_through _ fd_Many_through ["self", "version", "forced"] := ⟨F_Many_through, T.cN, He.meth_ok (c.fact 127 (f := .meth "Many" "through") rfl), b_Many_through⟩
  obtain ⟨fd_Many_words, D_Many_words⟩ := c.def_ 44 (d := Hd.d_Many_words) rfl
  have F_Many_words := fun_of (st := s_Many_words) D_Many_words
  have b_Many_words : Binds K fd_Many_words ["self"] [] := F_Many_words.binds (ps := ["self"]) (fun _ _ _ _ _ _ us hl => match us, hl with | [_], _ => rfl)
  have a_Many_words : AtM K (He.ga K "Many") "words" "Many.words" s_Many_words _ fd_Many_words ["self"] := ⟨F_Many_words, T.cN, He.meth_ok (c.fact 128 (f := .meth "Many" "words") rfl), b_Many_words⟩
  obtain ⟨fd_words_of, D_words_of⟩ := c.def_ 45 (d := Hd.d_words_of) rfl
  have F_words_of := fun_of (st := s_words_of) D_words_of
  have b_words_of : Binds K fd_words_of ["circuit", "version", "patterns"] [] := F_words_of.binds (ps := ["circuit", "version", "patterns"]) (fun _ _ _ _ _ _ us hl => match us, hl with | [_, _, _], _ => rfl)
  have a_words_of : At K mg "words_of" s_words_of _ fd_words_of ["circuit", "version", "patterns"] := ⟨F_words_of, He.glo_ok X G (c.fact 63 (f := .glo "words_of") rfl), b_words_of⟩
  obtain ⟨fd_responses, D_responses⟩ := c.def_ 46 (d := Hd.d_responses) rfl
  have F_responses := fun_of (st := s_responses) D_responses
  have b_responses : Binds K fd_responses ["circuit", "version", "patterns"] [] := F_responses.binds (ps := ["circuit", "version", "patterns"]) (fun _ _ _ _ _ _ us hl => match us, hl with | [_, _, _], _ => rfl)
  have a_responses : At K mg "responses" s_responses _ fd_responses ["circuit", "version", "patterns"] := ⟨F_responses, He.glo_ok X G (c.fact 64 (f := .glo "responses") rfl), b_responses⟩
  obtain ⟨fd_check_versions, D_check_versions⟩ := c.def_ 47 (d := Hd.d_check_versions) rfl
  have F_check_versions := fun_of (st := s_check_versions) D_check_versions
  have b_check_versions : Binds K fd_check_versions ["circuit", "versions"] [] := F_check_versions.binds (ps := ["circuit", "versions"]) (fun _ _ _ _ _ _ us hl => match us, hl with | [_, _], _ => rfl)
  have a_check_versions : At K mg "check_versions" s_check_versions _ fd_check_versions ["circuit", "versions"] := ⟨F_check_versions, He.glo_ok X G (c.fact 65 (f := .glo "check_versions") rfl), b_check_versions⟩
  obtain ⟨fd_check_patterns, D_check_patterns⟩ := c.def_ 48 (d := Hd.d_check_patterns) rfl
  have F_check_patterns := fun_of (st := s_check_patterns) D_check_patterns
  have b_check_patterns : Binds K fd_check_patterns ["circuit", "patterns"] [] := F_check_patterns.binds (ps := ["circuit", "patterns"]) (fun _ _ _ _ _ _ us hl => match us, hl with | [_, _], _ => rfl)
  have a_check_patterns : At K mg "check_patterns" s_check_patterns _ fd_check_patterns ["circuit", "patterns"] := ⟨F_check_patterns, He.glo_ok X G (c.fact 66 (f := .glo "check_patterns") rfl), b_check_patterns⟩
  obtain ⟨fd_check_observed, D_check_observed⟩ := c.def_ 49 (d := Hd.d_check_observed) rfl
  have F_check_observed := fun_of (st := s_check_observed) D_check_observed
  have b_check_observed : Binds K fd_check_observed ["circuit", "patterns", "observed"] [] := F_check_observed.binds (ps := ["circuit", "patterns", "observed"]) (fun _ _ _ _ _ _ us hl => match us, hl with | [_, _, _], _ => rfl)
  have a_check_observed : At K mg "check_observed" s_check_observed _ fd_check_observed ["circuit", "patterns", "observed"] := ⟨F_check_observed, He.glo_ok X G (c.fact 67 (f := .glo "check_observed") rfl), b_check_observed⟩
  obtain ⟨fd_allowed, D_allowed⟩ := c.def_ 50 (d := Hd.d_allowed) rfl
  have F_allowed := fun_of (st := s_allowed) D_allowed
  have b_allowed : Binds K fd_allowed ["circuit", "versions", "patterns", "observed"] [] := F_allowed.binds (ps := ["circuit", "versions", "patterns", "observed"]) (fun _ _ _ _ _ _ us hl => match us, hl with | [_, _, _, _], _ => rfl)
  have a_allowed : At K mg "allowed" s_allowed _ fd_allowed ["circuit", "versions", "patterns", "observed"] := ⟨F_allowed, He.glo_ok X G (c.fact 68 (f := .glo "allowed") rfl), b_allowed⟩
  obtain ⟨fd_next_pattern, D_next_pattern⟩ := c.def_ 51 (d := Hd.d_next_pattern) rfl
  have F_next_pattern := fun_of (st := s_next_pattern) D_next_pattern
  have b_next_pattern : Binds K fd_next_pattern ["circuit", "versions"] [] := F_next_pattern.binds (ps := ["circuit", "versions"]) (fun _ _ _ _ _ _ us hl => match us, hl with | [_, _], _ => rfl)
  have a_next_pattern : At K mg "next_pattern" s_next_pattern _ fd_next_pattern ["circuit", "versions"] := ⟨F_next_pattern, He.glo_ok X G (c.fact 69 (f := .glo "next_pattern") rfl), b_next_pattern⟩
  obtain ⟨fd_Finder_init, D_Finder_init⟩ := c.def_ 52 (d := Hd.d_Finder_init) rfl
  have F_Finder_init := fun_of (st := s_Finder_init) D_Finder_init
  have b_Finder_init : Binds K fd_Finder_init ["self", "circuit", "versions"] [] := F_Finder_init.binds (ps := ["self", "circuit", "versions"]) (fun _ _ _ _ _ _ us hl => match us, hl with | [_, _, _], _ => rfl)
  have a_Finder_init : AtI K mg "Finder" (He.ga K "Finder") "Finder.__init__" s_Finder_init _ fd_Finder_init ["self", "circuit", "versions"] := ⟨F_Finder_init, He.mkr_ok (c.fact 115 (f := .mkr "Finder") rfl), He.glo_ok X G (c.fact 30 (f := .glo "Finder") rfl), b_Finder_init⟩
  obtain ⟨fd_Finder_ask, D_Finder_ask⟩ := c.def_ 53 (d := Hd.d_Finder_ask) rfl
  have F_Finder_ask := fun_of (st := s_Finder_ask) D_Finder_ask
  have b_Finder_ask : Binds K fd_Finder_ask ["self"] [] := F_Finder_ask.binds (ps := ["self"]) (fun _ _ _ _ _ _ us hl => match us, hl with | [_], _ => rfl)
  have a_Finder_ask : AtM K (He.ga K "Finder") "ask" "Finder.ask" s_Finder_ask _ fd_Finder_ask ["self"] := ⟨F_Finder_ask, T.cF, He.meth_ok (c.fact 129 (f := .meth "Finder" "ask") rfl), b_Finder_ask⟩
  obtain ⟨fd_Finder_tell, D_Finder_tell⟩ := c.def_ 54 (d := Hd.d_Finder_tell) rfl
  have F_Finder_tell := fun_of (st := s_Finder_tell) D_Finder_tell
  have b_Finder_tell : Binds K fd_Finder_tell ["self", "pattern", "row"] [] := F_Finder_tell.binds (ps := ["self", "pattern", "row"]) (fun _ _ _ _ _ _ us hl => match us, hl with | [_, _, _], _ => rfl)
  have a_Finder_tell : AtM K (He.ga K "Finder") "tell" "Finder.tell" s_Finder_tell _ fd_Finder_tell ["self", "pattern", "row"] := ⟨F_Finder_tell, T.cF, He.meth_ok (c.fact 130 (f := .meth "Finder" "tell") rfl), b_Finder_tell⟩
  obtain ⟨fd_Finder_versions, D_Finder_versions⟩ := c.def_ 55 (d := Hd.d_Finder_versions) rfl
  have F_Finder_versions := fun_of (st := s_Finder_versions) D_Finder_versions
  have b_Finder_versions : Binds K fd_Finder_versions ["self"] [] := F_Finder_versions.binds (ps := ["self"]) (fun _ _ _ _ _ _ us hl => match us, hl with | [_], _ => rfl)
  have a_Finder_versions : AtM K (He.ga K "Finder") "versions" "Finder.versions" s_Finder_versions _ fd_Finder_versions ["self"] := ⟨F_Finder_versions, T.cF, He.meth_ok (c.fact 131 (f := .meth "Finder" "versions") rfl), b_Finder_versions⟩
  obtain ⟨fd_pins_allowed, D_pins_allowed⟩ := c.def_ 56 (d := Hd.d_pins_allowed) rfl
  have F_pins_allowed := fun_of (st := s_pins_allowed) D_pins_allowed
  have b_pins_allowed : Binds K fd_pins_allowed ["kind", "count"] [] := F_pins_allowed.binds (ps := ["kind", "count"]) (fun _ _ _ _ _ _ us hl => match us, hl with | [_, _], _ => rfl)
  have a_pins_allowed : At K mg "pins_allowed" s_pins_allowed _ fd_pins_allowed ["kind", "count"] := ⟨F_pins_allowed, He.glo_ok X G (c.fact 70 (f := .glo "pins_allowed") rfl), b_pins_allowed⟩
  obtain ⟨fd_is_row, D_is_row⟩ := c.def_ 57 (d := Hd.d_is_row) rfl
  have F_is_row := fun_of (st := s_is_row) D_is_row
  have b_is_row : Binds K fd_is_row ["value", "size"] [] := F_is_row.binds (ps := ["value", "size"]) (fun _ _ _ _ _ _ us hl => match us, hl with | [_, _], _ => rfl)
  have a_is_row : At K mg "is_row" s_is_row _ fd_is_row ["value", "size"] := ⟨F_is_row, He.glo_ok X G (c.fact 71 (f := .glo "is_row") rfl), b_is_row⟩
  obtain ⟨fd_is_gate, D_is_gate⟩ := c.def_ 58 (d := Hd.d_is_gate) rfl
  have F_is_gate := fun_of (st := s_is_gate) D_is_gate
  have b_is_gate : Binds K fd_is_gate ["value"] [] := F_is_gate.binds (ps := ["value"]) (fun _ _ _ _ _ _ us hl => match us, hl with | [_], _ => rfl)
  have a_is_gate : At K mg "is_gate" s_is_gate _ fd_is_gate ["value"] := ⟨F_is_gate, He.glo_ok X G (c.fact 72 (f := .glo "is_gate") rfl), b_is_gate⟩
  obtain ⟨fd_Circuit_init, D_Circuit_init⟩ := c.def_ 59 (d := Hd.d_Circuit_init) rfl
  have F_Circuit_init := fun_of (st := s_Circuit_init) D_Circuit_init
  have b_Circuit_init : Binds K fd_Circuit_init ["self", "inputs", "registers", "gates", "outputs"] [] := F_Circuit_init.binds (ps := ["self", "inputs", "registers", "gates", "outputs"]) (fun _ _ _ _ _ _ us hl => match us, hl with | [_, _, _, _, _], _ => rfl)
  have a_Circuit_init : AtI K mg "Circuit" (He.ga K "Circuit") "Circuit.__init__" s_Circuit_init _ fd_Circuit_init ["self", "inputs", "registers", "gates", "outputs"] := ⟨F_Circuit_init, He.mkr_ok (c.fact 89 (f := .mkr "Circuit") rfl), He.glo_ok X G (c.fact 26 (f := .glo "Circuit") rfl), b_Circuit_init⟩
  obtain ⟨fd_Circuit_check_forms, D_Circuit_check_forms⟩ := c.def_ 60 (d := Hd.d_Circuit_check_forms) rfl
  have F_Circuit_check_forms := fun_of (st := s_Circuit_check_forms) D_Circuit_check_forms
  have b_Circuit_check_forms : Binds K fd_Circuit_check_forms ["self"] [] := F_Circuit_check_forms.binds (ps := ["self"]) (fun _ _ _ _ _ _ us hl => match us, hl with | [_], _ => rfl)
  have a_Circuit_check_forms : AtM K (He.ga K "Circuit") "check_forms" "Circuit.check_forms" s_Circuit_check_forms _ fd_Circuit_check_forms ["self"] := ⟨F_Circuit_check_forms, T.cC, He.meth_ok (c.fact 132 (f := .meth "Circuit" "check_forms") rfl), b_Circuit_check_forms⟩
  obtain ⟨fd_Circuit_check_names, D_Circuit_check_names⟩ := c.def_ 61 (d := Hd.d_Circuit_check_names) rfl
  have F_Circuit_check_names := fun_of (st := s_Circuit_check_names) D_Circuit_check_names
  have b_Circuit_check_names : Binds K fd_Circuit_check_names ["self"] [] := F_Circuit_check_names.binds (ps := ["self"]) (fun _ _ _ _ _ _ us hl => match us, hl with | [_], _ => rfl)
  have a_Circuit_check_names : AtM K (He.ga K "Circuit") "check_names" "Circuit.check_names" s_Circuit_check_names _ fd_Circuit_check_names ["self"] := ⟨F_Circuit_check_names, T.cC, He.meth_ok (c.fact 133 (f := .meth "Circuit" "check_names") rfl), b_Circuit_check_names⟩
  obtain ⟨fd_Circuit_lines, D_Circuit_lines⟩ := c.def_ 62 (d := Hd.d_Circuit_lines) rfl
  have F_Circuit_lines := fun_of (st := s_Circuit_lines) D_Circuit_lines
  have b_Circuit_lines : Binds K fd_Circuit_lines ["self"] [] := F_Circuit_lines.binds (ps := ["self"]) (fun _ _ _ _ _ _ us hl => match us, hl with | [_], _ => rfl)
  have a_Circuit_lines : AtM K (He.ga K "Circuit") "lines" "Circuit.lines" s_Circuit_lines _ fd_Circuit_lines ["self"] := ⟨F_Circuit_lines, T.cC, He.meth_ok (c.fact 134 (f := .meth "Circuit" "lines") rfl), b_Circuit_lines⟩
  obtain ⟨fd_Circuit_uses, D_Circuit_uses⟩ := c.def_ 63 (d := Hd.d_Circuit_uses) rfl
  have F_Circuit_uses := fun_of (st := s_Circuit_uses) D_Circuit_uses
  have b_Circuit_uses : Binds K fd_Circuit_uses ["self"] [] := F_Circuit_uses.binds (ps := ["self"]) (fun _ _ _ _ _ _ us hl => match us, hl with | [_], _ => rfl)
  have a_Circuit_uses : AtM K (He.ga K "Circuit") "uses" "Circuit.uses" s_Circuit_uses _ fd_Circuit_uses ["self"] := ⟨F_Circuit_uses, T.cC, He.meth_ok (c.fact 135 (f := .meth "Circuit" "uses") rfl), b_Circuit_uses⟩
  obtain ⟨fd_Circuit_sources, D_Circuit_sources⟩ := c.def_ 64 (d := Hd.d_Circuit_sources) rfl
  have F_Circuit_sources := fun_of (st := s_Circuit_sources) D_Circuit_sources
  have b_Circuit_sources : Binds K fd_Circuit_sources ["self"] [] := F_Circuit_sources.binds (ps := ["self"]) (fun _ _ _ _ _ _ us hl => match us, hl with | [_], _ => rfl)
  have a_Circuit_sources : AtM K (He.ga K "Circuit") "sources" "Circuit.sources" s_Circuit_sources _ fd_Circuit_sources ["self"] := ⟨F_Circuit_sources, T.cC, He.meth_ok (c.fact 136 (f := .meth "Circuit" "sources") rfl), b_Circuit_sources⟩
  obtain ⟨fd_Circuit_sinks, D_Circuit_sinks⟩ := c.def_ 65 (d := Hd.d_Circuit_sinks) rfl
  have F_Circuit_sinks := fun_of (st := s_Circuit_sinks) D_Circuit_sinks
  have b_Circuit_sinks : Binds K fd_Circuit_sinks ["self"] [] := F_Circuit_sinks.binds (ps := ["self"]) (fun _ _ _ _ _ _ us hl => match us, hl with | [_], _ => rfl)
  have a_Circuit_sinks : AtM K (He.ga K "Circuit") "sinks" "Circuit.sinks" s_Circuit_sinks _ fd_Circuit_sinks ["self"] := ⟨F_Circuit_sinks, T.cC, He.meth_ok (c.fact 137 (f := .meth "Circuit" "sinks") rfl), b_Circuit_sinks⟩
  obtain ⟨fd_Circuit_sorted_gates, D_Circuit_sorted_gates⟩ := c.def_ 66 (d := Hd.d_Circuit_sorted_gates) rfl
  have F_Circuit_sorted_gates := fun_of (st := s_Circuit_sorted_gates) D_Circuit_sorted_gates
  have b_Circuit_sorted_gates : Binds K fd_Circuit_sorted_gates ["self"] [] := F_Circuit_sorted_gates.binds (ps := ["self"]) (fun _ _ _ _ _ _ us hl => match us, hl with | [_], _ => rfl)
  have a_Circuit_sorted_gates : AtM K (He.ga K "Circuit") "sorted_gates" "Circuit.sorted_gates" s_Circuit_sorted_gates _ fd_Circuit_sorted_gates ["self"] := ⟨F_Circuit_sorted_gates, T.cC, He.meth_ok (c.fact 138 (f := .meth "Circuit" "sorted_gates") rfl), b_Circuit_sorted_gates⟩
  obtain ⟨fd_Circuit_above, D_Circuit_above⟩ := c.def_ 67 (d := Hd.d_Circuit_above) rfl
  have F_Circuit_above := fun_of (st := s_Circuit_above) D_Circuit_above
  have b_Circuit_above : Binds K fd_Circuit_above ["self", "line"] [] := F_Circuit_above.binds (ps := ["self", "line"]) (fun _ _ _ _ _ _ us hl => match us, hl with | [_, _], _ => rfl)
  have a_Circuit_above : AtM K (He.ga K "Circuit") "above" "Circuit.above" s_Circuit_above _ fd_Circuit_above ["self", "line"] := ⟨F_Circuit_above, T.cC, He.meth_ok (c.fact 139 (f := .meth "Circuit" "above") rfl), b_Circuit_above⟩
  obtain ⟨fd__law_cell, D__law_cell⟩ := c.def_ 68 (d := Hd.d__law_cell) rfl
  have F__law_cell := fun_of (st := s__law_cell) D__law_cell
  have b__law_cell : Binds K fd__law_cell ["_law_script", "_law_k"] [] := F__law_cell.binds (ps := ["_law_script", "_law_k"]) (fun _ _ _ _ _ _ us hl => match us, hl with | [_, _], _ => rfl)
  have a__law_cell : At K mg "_law_cell" s__law_cell _ fd__law_cell ["_law_script", "_law_k"] := ⟨F__law_cell, He.glo_ok X G (c.fact 73 (f := .glo "_law_cell") rfl), b__law_cell⟩
  obtain ⟨fd__law_rich, D__law_rich⟩ := c.def_ 69 (d := Hd.d__law_rich) rfl
  have F__law_rich := fun_of (st := s__law_rich) D__law_rich
  have b__law_rich : Binds K fd__law_rich ["_law_cell_here", "_law_k"] [] := F__law_rich.binds (ps := ["_law_cell_here", "_law_k"]) (fun _ _ _ _ _ _ us hl => match us, hl with | [_, _], _ => rfl)
  have a__law_rich : At K mg "_law_rich" s__law_rich _ fd__law_rich ["_law_cell_here", "_law_k"] := ⟨F__law_rich, He.glo_ok X G (c.fact 74 (f := .glo "_law_rich") rfl), b__law_rich⟩
  obtain ⟨fd__law_gate, D__law_gate⟩ := c.def_ 70 (d := Hd.d__law_gate) rfl
  have F__law_gate := fun_of (st := s__law_gate) D__law_gate
  have b__law_gate : Binds K fd__law_gate ["_law_rich_here", "_law_known", "_law_name"] [] := F__law_gate.binds (ps := ["_law_rich_here", "_law_known", "_law_name"]) (fun _ _ _ _ _ _ us hl => match us, hl with | [_, _, _], _ => rfl)
  have a__law_gate : At K mg "_law_gate" s__law_gate _ fd__law_gate ["_law_rich_here", "_law_known", "_law_name"] := ⟨F__law_gate, He.glo_ok X G (c.fact 75 (f := .glo "_law_gate") rfl), b__law_gate⟩
  obtain ⟨fd__law_parts, D__law_parts⟩ := c.def_ 71 (d := Hd.d__law_parts) rfl
  have F__law_parts := fun_of (st := s__law_parts) D__law_parts
  have b__law_parts : Binds K fd__law_parts ["_law_script", "_law_most"] [] := F__law_parts.binds (ps := ["_law_script", "_law_most"]) (fun _ _ _ _ _ _ us hl => match us, hl with | [_, _], _ => rfl)
  have a__law_parts : At K mg "_law_parts" s__law_parts _ fd__law_parts ["_law_script", "_law_most"] := ⟨F__law_parts, He.glo_ok X G (c.fact 76 (f := .glo "_law_parts") rfl), b__law_parts⟩
  obtain ⟨fd__law_circuit, D__law_circuit⟩ := c.def_ 72 (d := Hd.d__law_circuit) rfl
  have F__law_circuit := fun_of (st := s__law_circuit) D__law_circuit
  have b__law_circuit : Binds K fd__law_circuit ["_law_script", "_law_most"] [] := F__law_circuit.binds (ps := ["_law_script", "_law_most"]) (fun _ _ _ _ _ _ us hl => match us, hl with | [_, _], _ => rfl)
  have a__law_circuit : At K mg "_law_circuit" s__law_circuit _ fd__law_circuit ["_law_script", "_law_most"] := ⟨F__law_circuit, He.glo_ok X G (c.fact 77 (f := .glo "_law_circuit") rfl), b__law_circuit⟩
  obtain ⟨fd__law_version, D__law_version⟩ := c.def_ 73 (d := Hd.d__law_version) rfl
  have F__law_version := fun_of (st := s__law_version) D__law_version
  have b__law_version : Binds K fd__law_version ["_law_circuit_here", "_law_rich_here"] [] := F__law_version.binds (ps := ["_law_circuit_here", "_law_rich_here"]) (fun _ _ _ _ _ _ us hl => match us, hl with | [_, _], _ => rfl)
  have a__law_version : At K mg "_law_version" s__law_version _ fd__law_version ["_law_circuit_here", "_law_rich_here"] := ⟨F__law_version, He.glo_ok X G (c.fact 78 (f := .glo "_law_version") rfl), b__law_version⟩
  obtain ⟨fd__law_gate_value, D__law_gate_value⟩ := c.def_ 74 (d := Hd.d__law_gate_value) rfl
  have F__law_gate_value := fun_of (st := s__law_gate_value) D__law_gate_value
  have b__law_gate_value : Binds K fd__law_gate_value ["_law_kind", "_law_bits"] [] := F__law_gate_value.binds (ps := ["_law_kind", "_law_bits"]) (fun _ _ _ _ _ _ us hl => match us, hl with | [_, _], _ => rfl)
  have a__law_gate_value : At K mg "_law_gate_value" s__law_gate_value _ fd__law_gate_value ["_law_kind", "_law_bits"] := ⟨F__law_gate_value, He.glo_ok X G (c.fact 79 (f := .glo "_law_gate_value") rfl), b__law_gate_value⟩
  obtain ⟨fd__law_settled, D__law_settled⟩ := c.def_ 75 (d := Hd.d__law_settled) rfl
  have F__law_settled := fun_of (st := s__law_settled) D__law_settled
  have b__law_settled : Binds K fd__law_settled ["_law_circuit_here", "_law_version_here", "_law_pattern", "_law_forced"] [] := F__law_settled.binds (ps := ["_law_circuit_here", "_law_version_here", "_law_pattern", "_law_forced"]) (fun _ _ _ _ _ _ us hl => match us, hl with | [_, _, _, _], _ => rfl)
  have a__law_settled : At K mg "_law_settled" s__law_settled _ fd__law_settled ["_law_circuit_here", "_law_version_here", "_law_pattern", "_law_forced"] := ⟨F__law_settled, He.glo_ok X G (c.fact 80 (f := .glo "_law_settled") rfl), b__law_settled⟩
  obtain ⟨fd__law_values, D__law_values⟩ := c.def_ 76 (d := Hd.d__law_values) rfl
  have F__law_values := fun_of (st := s__law_values) D__law_values
  have b__law_values : Binds K fd__law_values ["_law_circuit_here", "_law_version_here", "_law_pattern"] [] := F__law_values.binds (ps := ["_law_circuit_here", "_law_version_here", "_law_pattern"]) (fun _ _ _ _ _ _ us hl => match us, hl with | [_, _, _], _ => rfl)
  have a__law_values : At K mg "_law_values" s__law_values _ fd__law_values ["_law_circuit_here", "_law_version_here", "_law_pattern"] := ⟨F__law_values, He.glo_ok X G (c.fact 81 (f := .glo "_law_values") rfl), b__law_values⟩
  obtain ⟨fd__law_response, D__law_response⟩ := c.def_ 77 (d := Hd.d__law_response) rfl
  have F__law_response := fun_of (st := s__law_response) D__law_response
  have b__law_response : Binds K fd__law_response ["_law_circuit_here", "_law_version_here", "_law_pattern"] [] := F__law_response.binds (ps := ["_law_circuit_here", "_law_version_here", "_law_pattern"]) (fun _ _ _ _ _ _ us hl => match us, hl with | [_, _, _], _ => rfl)
  have a__law_response : At K mg "_law_response" s__law_response _ fd__law_response ["_law_circuit_here", "_law_version_here", "_law_pattern"] := ⟨F__law_response, He.glo_ok X G (c.fact 82 (f := .glo "_law_response") rfl), b__law_response⟩
  obtain ⟨fd__law_patterns, D__law_patterns⟩ := c.def_ 78 (d := Hd.d__law_patterns) rfl
  have F__law_patterns := fun_of (st := s__law_patterns) D__law_patterns
  have b__law_patterns : Binds K fd__law_patterns ["_law_count"] [] := F__law_patterns.binds (ps := ["_law_count"]) (fun _ _ _ _ _ _ us hl => match us, hl with | [_], _ => rfl)
  have a__law_patterns : At K mg "_law_patterns" s__law_patterns _ fd__law_patterns ["_law_count"] := ⟨F__law_patterns, He.glo_ok X G (c.fact 83 (f := .glo "_law_patterns") rfl), b__law_patterns⟩
  obtain ⟨fd__law_taken, D__law_taken⟩ := c.def_ 79 (d := Hd.d__law_taken) rfl
  have F__law_taken := fun_of (st := s__law_taken) D__law_taken
  have b__law_taken : Binds K fd__law_taken ["_law_circuit_here", "_law_one", "_law_other", "_law_paper"] [] := F__law_taken.binds (ps := ["_law_circuit_here", "_law_one", "_law_other", "_law_paper"]) (fun _ _ _ _ _ _ us hl => match us, hl with | [_, _, _, _], _ => rfl)
  have a__law_taken : At K mg "_law_taken" s__law_taken _ fd__law_taken ["_law_circuit_here", "_law_one", "_law_other", "_law_paper"] := ⟨F__law_taken, He.glo_ok X G (c.fact 84 (f := .glo "_law_taken") rfl), b__law_taken⟩
  obtain ⟨fd__law_divides, D__law_divides⟩ := c.def_ 80 (d := Hd.d__law_divides) rfl
  have F__law_divides := fun_of (st := s__law_divides) D__law_divides
  have b__law_divides : Binds K fd__law_divides ["_law_circuit_here", "_law_versions", "_law_pattern"] [] := F__law_divides.binds (ps := ["_law_circuit_here", "_law_versions", "_law_pattern"]) (fun _ _ _ _ _ _ us hl => match us, hl with | [_, _, _], _ => rfl)
  have a__law_divides : At K mg "_law_divides" s__law_divides _ fd__law_divides ["_law_circuit_here", "_law_versions", "_law_pattern"] := ⟨F__law_divides, He.glo_ok X G (c.fact 85 (f := .glo "_law_divides") rfl), b__law_divides⟩
  obtain ⟨fd__law_next, D__law_next⟩ := c.def_ 81 (d := Hd.d__law_next) rfl
  have F__law_next := fun_of (st := s__law_next) D__law_next
  have b__law_next : Binds K fd__law_next ["_law_circuit_here", "_law_versions"] [] := F__law_next.binds (ps := ["_law_circuit_here", "_law_versions"]) (fun _ _ _ _ _ _ us hl => match us, hl with | [_, _], _ => rfl)
  have a__law_next : At K mg "_law_next" s__law_next _ fd__law_next ["_law_circuit_here", "_law_versions"] := ⟨F__law_next, He.glo_ok X G (c.fact 86 (f := .glo "_law_next") rfl), b__law_next⟩
  obtain ⟨fd_law, D_law⟩ := c.def_ 82 (d := Hd.d_law) rfl
  have F_law := fun_of (st := s_law) D_law
  have b_law : Binds K fd_law ["_law_script"] [] := F_law.binds (ps := ["_law_script"]) (fun _ _ _ _ _ _ us hl => match us, hl with | [_], _ => rfl)
  have e := hfa.symm.trans (He.glo_ok X G (c.fact 87 (f := .glo "law") rfl))
  cases e
  refine ⟨fd_law, fun s v => FunD.bindsA (ps := ["_law_script"]) D_law (fun _ _ _ _ _ _ us hl => match us, hl with | [_], _ => rfl) s [v] rfl, fun base _ _ => ?_⟩
  have c_is_integer := a_is_integer.cal (ok_is_integer (P := P) (w := w) (base := base) (A := adOf K) T F_is_integer)
  have c_is_bit := a_is_bit.cal (ok_is_bit (P := P) (w := w) (base := base) (A := adOf K) T c_is_integer F_is_bit)
  have c_are_bits := a_are_bits.cal (ok_are_bits (P := P) (w := w) (base := base) (A := adOf K) T c_is_bit F_are_bits)
  have c_is_name := a_is_name.cal (ok_is_name (P := P) (w := w) (base := base) (A := adOf K) T F_is_name)
  have c_pins_allowed := a_pins_allowed.cal (ok_pins_allowed (P := P) (w := w) (base := base) (A := adOf K) T F_pins_allowed)
  have c_is_row := a_is_row.cal (ok_is_row (P := P) (w := w) (base := base) (A := adOf K) T c_is_name F_is_row)
  have c_is_gate := a_is_gate.cal (ok_is_gate (P := P) (w := w) (base := base) (A := adOf K) T c_is_name c_pins_allowed F_is_gate)
  have c_gate_value := a_gate_value.cal (ok_gate_value (P := P) (w := w) (base := base) (A := adOf K) T F_gate_value)
  have c_joined := a_joined.cal (ok_joined (P := P) (w := w) (base := base) (A := adOf K) T F_joined)
  have c_pairs_in := a_pairs_in.cal (ok_pairs_in (P := P) (w := w) (base := base) (A := adOf K) T F_pairs_in)
  have c_mark_of := a_mark_of.cal (ok_mark_of (P := P) (w := w) (base := base) (A := adOf K) T F_mark_of)
  have c_with_value := a_with_value.cal (ok_with_value (P := P) (w := w) (base := base) (A := adOf K) T c_pairs_in c_mark_of F_with_value)
  have c_negated := a_negated.cal (ok_negated (P := P) (w := w) (base := base) (A := adOf K) T c_pairs_in c_mark_of F_negated)
  have c_folded := a_folded.cal (ok_folded (P := P) (w := w) (base := base) (A := adOf K) T c_pairs_in c_mark_of c_gate_value F_folded)
  have c_gate_mark := a_gate_mark.cal (ok_gate_mark (P := P) (w := w) (base := base) (A := adOf K) T c_folded c_negated F_gate_mark)
  have c_stuck_pin := a_stuck_pin.cal (ok_stuck_pin (P := P) (w := w) (base := base) (A := adOf K) T F_stuck_pin)
  have c_Circuit_sources := a_Circuit_sources.met (ok_sources (P := P) (w := w) (base := base) (A := adOf K) T F_Circuit_sources)
  have c_Circuit_sinks := a_Circuit_sinks.met (ok_sinks (P := P) (w := w) (base := base) (A := adOf K) T F_Circuit_sinks)
  have c_Circuit_lines := a_Circuit_lines.met (ok_lines (P := P) (w := w) (base := base) (A := adOf K) T c_Circuit_sources F_Circuit_lines)
  have c_Circuit_uses := a_Circuit_uses.met (ok_uses (P := P) (w := w) (base := base) (A := adOf K) T F_Circuit_uses)
  have c_Circuit_above := a_Circuit_above.met (ok_above (P := P) (w := w) (base := base) (A := adOf K) T F_Circuit_above)
  have c_Circuit_check_forms := a_Circuit_check_forms.met (ok_check_forms (P := P) (w := w) (base := base) (A := adOf K) T c_is_name c_is_row c_is_gate F_Circuit_check_forms)
  have c_Circuit_check_names := a_Circuit_check_names.met (ok_check_names (P := P) (w := w) (base := base) (A := adOf K) T c_Circuit_sources c_Circuit_lines c_Circuit_uses F_Circuit_check_names)
  have c_Circuit_sorted_gates := a_Circuit_sorted_gates.met (ok_sorted_gates (P := P) (w := w) (base := base) (A := adOf K) T c_Circuit_sources F_Circuit_sorted_gates)
  have c_Circuit := a_Circuit_init.mak (ok_circuit (P := P) (w := w) (base := base) (A := adOf K) T c_Circuit_check_forms c_Circuit_check_names c_Circuit_sorted_gates F_Circuit_init)
  have c_Marks := a_Marks_init.mak (ok_marks_init (P := P) (w := w) (base := base) (A := adOf K) T F_Marks_init)
  have c_Marks_seen := a_Marks_seen.met (ok_seen (P := P) (w := w) (base := base) (A := adOf K) T c_stuck_pin c_with_value F_Marks_seen)
  have c_Marks_shorted0 := a_Marks_shorted.met (ok_shorted_no (P := P) (w := w) (mg := mg) (base := base) F_Marks_shorted)
  have c_Marks_forced0 := a_Marks_forced.met (ok_forced0 (P := P) (w := w) (base := base) (A := adOf K) T c_with_value c_Marks_shorted0 F_Marks_forced)
  have c_Marks_known0 := a_Marks_known.met (ok_known (P := P) (w := w) (base := base) (A := adOf K) (by decide) T c_Circuit_sources c_Marks_forced0 c_Marks_seen c_gate_mark F_Marks_known)
  have c_is_stem := a_is_stem.cal (ok_is_stem (P := P) (w := w) (base := base) (A := adOf K) T c_Circuit_lines c_is_bit F_is_stem)
  have c_is_pin := a_is_pin.cal (ok_is_pin (P := P) (w := w) (base := base) (A := adOf K) T c_is_bit c_is_integer F_is_pin)
  have c_is_short := a_is_short.cal (ok_is_short (P := P) (w := w) (base := base) (A := adOf K) T c_Circuit_lines c_Circuit_above F_is_short)
  have c_is_break := a_is_break.cal (ok_is_break (P := P) (w := w) (base := base) (A := adOf K) T c_is_stem c_is_pin c_is_short F_is_break)
  have c_check_version := a_check_version.cal (ok_check_version (P := P) (w := w) (base := base) (A := adOf K) T c_is_break F_check_version)
  have c_check_partial := a_check_partial.cal (ok_check_partial (P := P) (w := w) (base := base) (A := adOf K) T c_Circuit_sources c_is_bit F_check_partial)
  have c_Marks_shorted := a_Marks_shorted.met (ok_shorted (P := P) (w := w) (base := base) (A := adOf K) T c_Marks c_Marks_known0 c_joined c_pairs_in c_with_value F_Marks_shorted)
  have c_Marks_forced := a_Marks_forced.met (ok_forced (P := P) (w := w) (base := base) (A := adOf K) T c_with_value c_Marks_shorted F_Marks_forced)
  have c_Marks_known := a_Marks_known.met (ok_known (P := P) (w := w) (base := base) (A := adOf K) (by decide) T c_Circuit_sources c_Marks_forced c_Marks_seen c_gate_mark F_Marks_known)
  have c_marks_of := a_marks_of.cal (ok_marks_of (P := P) (w := w) (base := base) (A := adOf K) T c_check_version c_check_partial c_Marks c_Marks_known F_marks_of)
  have c_sink_marks := a_sink_marks.cal (ok_sink_marks (P := P) (w := w) (base := base) (A := adOf K) T c_marks_of c_Circuit_sinks F_sink_marks)
  have c_with_bit := a_with_bit.cal (ok_with_bit (P := P) (w := w) (base := base) (A := adOf K) T F_with_bit)
  have c_empty_partial := a_empty_partial.cal (ok_empty_partial (P := P) (w := w) (base := base) (A := adOf K) T c_Circuit_sources F_empty_partial)
  have c_is_leaf_right := a_is_leaf_right.cal (ok_is_leaf_right (P := P) (w := w) (base := base) (A := adOf K) T c_sink_marks F_is_leaf_right)
  have c_filled := a_filled.cal (ok_filled (P := P) (w := w) (base := base) (A := adOf K) T c_check_partial F_filled)
  have c_check_from := a_check_from.cal (ok_check_from (P := P) (w := w) (base := base) (A := adOf K) T c_is_integer c_is_leaf_right c_with_bit a_check_from 7)
  have c_check_paper := a_check_paper.cal (ok_check_paper (P := P) (w := w) (base := base) (A := adOf K) T c_check_version c_check_from c_empty_partial F_check_paper)
  have c_Search := a_Search_init.mak (ok_search_init (P := P) (w := w) (base := base) (A := adOf K) T c_Circuit_above c_Circuit_sinks F_Search_init)
  have c_Search_choice := a_Search_choice.met (ok_choice (P := P) (w := w) (base := base) (A := adOf K) T c_Circuit_sources F_Search_choice)
  have c_Search_answer := a_Search_answer.met (ok_sanswer (P := P) (w := w) (base := base) (A := adOf K) T c_sink_marks c_Search_choice c_with_bit a_Search_answer 7)
  have c_answer := a_answer.cal (ok_answer (P := P) (w := w) (base := base) (A := adOf K) T c_check_version c_Search c_Search_answer c_empty_partial F_answer)
  have c_check_pattern := a_check_pattern.cal (ok_check_pattern (P := P) (w := w) (base := base) (A := adOf K) T c_Circuit_sources c_are_bits F_check_pattern)
  have c_word_of := a_word_of.cal (ok_word_of (P := P) (w := w) (base := base) (A := adOf K) T F_word_of)
  have c_gate_word := a_gate_word.cal (ok_gate_word (P := P) (w := w) (base := base) (A := adOf K) T F_gate_word)
  have c_Many := a_Many_init.mak (ok_many_init (P := P) (w := w) (base := base) (A := adOf K) T c_Circuit_sources c_word_of F_Many_init)
  have c_Many_full := a_Many_full.met (ok_full (P := P) (w := w) (base := base) (A := adOf K) T F_Many_full)
  have c_Many_pin := a_Many_pin.met (ok_npin (P := P) (w := w) (base := base) (A := adOf K) T c_stuck_pin c_Many_full F_Many_pin)
  have c_Many_through := a_Many_through.met (ok_through (P := P) (w := w) (base := base) (A := adOf K) T c_Many_pin c_gate_word F_Many_through)
  have c_Many_words := a_Many_words.met (ok_words (P := P) (w := w) (base := base) (A := adOf K) T c_Many_full c_Many_through F_Many_words)
  have c_words_of := a_words_of.cal (ok_words_of (P := P) (w := w) (base := base) (A := adOf K) T c_check_version c_check_pattern c_Many c_Many_words F_words_of)
  have c_responses := a_responses.cal (ok_responses (P := P) (w := w) (base := base) (A := adOf K) T c_words_of c_Circuit_sinks F_responses)
  have c_check_versions := a_check_versions.cal (ok_check_versions (P := P) (w := w) (base := base) (A := adOf K) T c_check_version F_check_versions)
  have c_check_patterns := a_check_patterns.cal (ok_check_patterns (P := P) (w := w) (base := base) (A := adOf K) T c_check_pattern F_check_patterns)
  have c_check_observed := a_check_observed.cal (ok_check_observed (P := P) (w := w) (base := base) (A := adOf K) T c_are_bits c_Circuit_sinks F_check_observed)
  have c_allowed := a_allowed.cal (ok_allowed (P := P) (w := w) (base := base) (A := adOf K) T c_check_versions c_check_patterns c_check_observed c_responses F_allowed)
  have c_next_pattern := a_next_pattern.cal (ok_next_pattern (P := P) (w := w) (base := base) (A := adOf K) T c_check_versions c_answer c_filled F_next_pattern)
  have c_Finder := a_Finder_init.mak (ok_finder_init (P := P) (w := w) (base := base) (A := adOf K) T c_check_versions F_Finder_init)
  have c_Finder_versions := a_Finder_versions.met (ok_fversions (P := P) (w := w) (base := base) (A := adOf K) T F_Finder_versions)
  have c_Finder_ask := a_Finder_ask.met (ok_ask (P := P) (w := w) (base := base) (A := adOf K) T c_next_pattern F_Finder_ask)
  have c_Finder_tell := a_Finder_tell.met (ok_tell (P := P) (w := w) (base := base) (A := adOf K) T c_allowed F_Finder_tell)
  have c__law_cell := a__law_cell.cal (ok_cell (P := P) (w := w) (base := base) (A := adOf K) T F__law_cell)
  have c__law_rich := a__law_rich.cal (ok_rich (P := P) (w := w) (base := base) (A := adOf K) T F__law_rich)
  have c__law_gate := a__law_gate.cal (ok_law_gate (P := P) (w := w) (base := base) (A := adOf K) T F__law_gate)
  have c__law_parts := a__law_parts.cal (ok_parts (P := P) (w := w) (base := base) (A := adOf K) T c__law_cell c__law_rich c__law_gate F__law_parts)
  have c__law_circuit := a__law_circuit.cal (ok_law_circuit (P := P) (w := w) (base := base) (A := adOf K) T c__law_parts c_Circuit F__law_circuit)
  have c_shorts := a_shorts.cal (ok_shorts (P := P) (w := w) (base := base) (A := adOf K) T c_Circuit_lines c_Circuit_above F_shorts)
  have c__law_version := a__law_version.cal (ok_law_version (P := P) (w := w) (base := base) (A := adOf K) T c_Circuit_lines c_shorts F__law_version)
  have c__law_gate_value := a__law_gate_value.cal (ok_law_gate_value (P := P) (w := w) (base := base) (A := adOf K) T F__law_gate_value)
  have c__law_settled := a__law_settled.cal (ok_settled (P := P) (w := w) (base := base) (A := adOf K) T c_Circuit_sources c__law_gate_value F__law_settled)
  have c__law_values := a__law_values.cal (ok_values (P := P) (w := w) (base := base) (A := adOf K) T c__law_settled F__law_values)
  have c__law_response := a__law_response.cal (ok_law_response (P := P) (w := w) (base := base) (A := adOf K) T c__law_values c_Circuit_sinks F__law_response)
  have c__law_patterns := a__law_patterns.cal (ok_law_patterns (P := P) (w := w) (base := base) (A := adOf K) T F__law_patterns)
  have c__law_taken := a__law_taken.cal (ok_taken (P := P) (w := w) (base := base) (A := adOf K) T c_check_paper F__law_taken)
  have c__law_divides := a__law_divides.cal (ok_divides (P := P) (w := w) (base := base) (A := adOf K) T c__law_response F__law_divides)
  have c__law_next := a__law_next.cal (ok_law_next (P := P) (w := w) (base := base) (A := adOf K) T c_next_pattern c_Circuit_sources c__law_divides c__law_taken F__law_next)
  exact ok_law (P := P) (w := w) (base := base) (A := adOf K) T c_Circuit_sources c_Finder c_Finder_ask c_Finder_tell c_Finder_versions c__law_cell c__law_circuit c__law_divides c__law_next c__law_patterns c__law_response c__law_rich c__law_version F_law
end Pw
open PySem PySem.W PySem.Calls PyProof.Rows
theorem PySem.Challenge.cw_probewright_k67_whole_finders_find_holds : PySem.Challenge.rw_probewright_k67_whole_finders_find.Holds := by
  w_on; o_law
  refine HandSHeadRun.head_any (r := OpenLaw.row PySem.Challenge.rw_probewright_k67_whole_finders_find) (q := view (OpenLaw.row PySem.Challenge.rw_probewright_k67_whole_finders_find).prog [87]) (H := Pw.Hd.hk) (ob := Pw.Hd.ob) (M := 6000) (loose := Pw.Hd.loose) (d := HandSHeadRun.topDef (OpenLaw.row PySem.Challenge.rw_probewright_k67_whole_finders_find).prog 87) (kwd := []) Pw.Hd.ob_eq
    (by kernel_rfl) (fun s => by kernel_rfl) Pw.Hd.run (by kernel_rfl) (by kernel_rfl) (by kernel_rfl) (by rfl) (by first | assumption | decide +kernel) (by decide +kernel) ⟨rfl, rfl, rfl, rfl, rfl, by decide +kernel⟩ ?hw ?hc
  case hw => w_witness2
  case hc =>
    refine L2.walk_ofE (l := PySem.Challenge.rw_probewright_k67_whole_finders_find) (n := 63) (k := 23) (x := "_law_script") (CX := L2.CX0) rfl (by decide) (by kernel_rfl) ⟨rfl, by decide, by decide⟩ ?F (fun _ _ _ _ z => z)
    intro w mg fa h Y G hmg0
    obtain ⟨K, KX, c⟩ := Y
    have hmg : mg ("law" : PySem.Str) = some (.ref fa) := by
      have e : (HandSHeadRun.topDef (OpenLaw.row PySem.Challenge.rw_probewright_k67_whole_finders_find).prog 87).name = ("law" : PySem.Str) := by kernel_rfl
      rw [← e]
      exact hmg0
    obtain ⟨fd, hb, hF⟩ := Pw.facts (P := (PySem.Challenge.rw_probewright_k67_whole_finders_find).prog) (w := w) KX G hmg c.t.d c.more
    exact ⟨K, fd, Pw.spLaw K, KX, hb, fun H a ns hl _ hS => ⟨a, ns, rfl, hS, fun _ => rfl⟩, hF⟩
