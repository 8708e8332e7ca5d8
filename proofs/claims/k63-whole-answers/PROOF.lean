import PyProof.Rows.All
import Wide.All
import OpenK.AllK
import Wide.FinOn
import KE.KStateDown
import Lean
import HandS.ForMost
import HandS.Exc
import HandS.Defaults
import HandS.EndBits
import HandS.Head0
import HandS.Head1
import HandS.Head2
import HandS.Head3
import HandS.HeadEnd
import HandS.HeadHook1
import HandS.HeadHook2
import HandS.IsInst
import HandS.Gcd
import HandS.Style
import HandS.Steps
import HandS.DictComp
import HandS.Walk
import HandS.Wide
import KE.SortData
import KE.LtData
import KE.KDictDisplayH
import PyProof.DictCompW
import PySem.Challenge.RW_greedycuts_k63_whole_answers
-- part HeadD
set_option Elab.async false
set_option linter.all false
set_option maxRecDepth 100000
set_option maxHeartbeats 0

namespace GC
open PySem PySem.Spec PyProof.Rows L2
def top (i : Nat) : Stmt := PySem.Challenge.pw_greedycuts_k63_whole_answers.main.body.getD i (.Pass ⟨0, 0, 0, 0⟩)
abbrev st_is_between : Stmt := top 9
abbrev st_is_word : Stmt := top 10
abbrev st_is_entry : Stmt := top 11
abbrev st_is_list : Stmt := top 12
abbrev st_letters_in : Stmt := top 13
abbrev st_names_in : Stmt := top 14
abbrev st_cost_in : Stmt := top 15
abbrev st_has_word : Stmt := top 16
abbrev st_words_from : Stmt := top 18
abbrev st_longest_from : Stmt := top 19
abbrev st_is_integer : Stmt := top 21
abbrev st_check_words : Stmt := top 22
abbrev st_match_of : Stmt := top 23
abbrev st_cost_of_row : Stmt := top 24
abbrev st_can_grow : Stmt := top 25
abbrev st_read_on : Stmt := top 26
abbrev st_steps_of : Stmt := top 28
abbrev st_Graph___init__ : Stmt := inClass (top 29) 0
abbrev st_Graph_add_steps : Stmt := inClass (top 29) 1
abbrev st_is_triple : Stmt := top 31
abbrev st_is_table : Stmt := top 32
abbrev st_ends_well : Stmt := top 33
abbrev st_goes_well : Stmt := top 34
abbrev st_is_over : Stmt := top 35
abbrev st_fit : Stmt := top 36
abbrev st_Climb___init__ : Stmt := inClass (top 37) 0
abbrev st_Climb_rise : Stmt := inClass (top 37) 1
abbrev st_Climb_circle : Stmt := inClass (top 37) 2
abbrev st_is_row : Stmt := top 39
abbrev st_is_long_text : Stmt := top 41
abbrev st_read_all : Stmt := top 42
abbrev st_sums_of : Stmt := top 43
abbrev st_lowest : Stmt := top 45
abbrev st_settle : Stmt := top 46
abbrev st_excess_of : Stmt := top 47
abbrev st_worst_ratio : Stmt := top 48
abbrev st_worst_excess : Stmt := top 49
abbrev st_way_to : Stmt := top 50
abbrev st_told_by : Stmt := top 51
abbrev st_tight_circle : Stmt := top 52
abbrev st_answer_of : Stmt := top 53
abbrev st_answer_for : Stmt := top 54
abbrev st_is_ratio : Stmt := top 55
abbrev st_is_shown : Stmt := top 56
abbrev st_accepts_answer : Stmt := top 57
abbrev st__law_stream : Stmt := top 59
abbrev st__law_next : Stmt := top 60
abbrev st__law_is_integer : Stmt := top 61
abbrev st__law_equal : Stmt := top 62
abbrev st__law_cost : Stmt := top 63
abbrev st__law_words : Stmt := top 64
abbrev st__law_letters : Stmt := top 65
abbrev st__law_match : Stmt := top 67
abbrev st__law_sum : Stmt := top 68
abbrev st__law_all_texts : Stmt := top 69
abbrev st__law_least : Stmt := top 70
abbrev st__law_grows : Stmt := top 71
abbrev st__law_read : Stmt := top 72
abbrev st__law_steps : Stmt := top 73
abbrev st__law_is_row : Stmt := top 77
abbrev st__law_is_text : Stmt := top 78
abbrev st__law_sums : Stmt := top 79
abbrev st__law_are_right : Stmt := top 80
abbrev st__law_accepts : Stmt := top 81
abbrev st_law : Stmt := top 82
def df_is_between : He.DefD := ⟨("is_between", none), "is_between", "is_between", defArgs st_is_between, defBody st_is_between, defScope st_is_between, [], []⟩
def df_is_word : He.DefD := ⟨("is_word", none), "is_word", "is_word", defArgs st_is_word, defBody st_is_word, defScope st_is_word, [], []⟩
def df_is_entry : He.DefD := ⟨("is_entry", none), "is_entry", "is_entry", defArgs st_is_entry, defBody st_is_entry, defScope st_is_entry, [], []⟩
def df_is_list : He.DefD := ⟨("is_list", none), "is_list", "is_list", defArgs st_is_list, defBody st_is_list, defScope st_is_list, [], []⟩
def df_letters_in : He.DefD := ⟨("letters_in", none), "letters_in", "letters_in", defArgs st_letters_in, defBody st_letters_in, defScope st_letters_in, [], []⟩
def df_names_in : He.DefD := ⟨("names_in", none), "names_in", "names_in", defArgs st_names_in, defBody st_names_in, defScope st_names_in, [], []⟩
def df_cost_in : He.DefD := ⟨("cost_in", none), "cost_in", "cost_in", defArgs st_cost_in, defBody st_cost_in, defScope st_cost_in, [], []⟩
def df_has_word : He.DefD := ⟨("has_word", none), "has_word", "has_word", defArgs st_has_word, defBody st_has_word, defScope st_has_word, [], []⟩
def df_words_from : He.DefD := ⟨("words_from", none), "words_from", "words_from", defArgs st_words_from, defBody st_words_from, defScope st_words_from, [], []⟩
def df_longest_from : He.DefD := ⟨("longest_from", none), "longest_from", "longest_from", defArgs st_longest_from, defBody st_longest_from, defScope st_longest_from, [], []⟩
def df_is_integer : He.DefD := ⟨("is_integer", none), "is_integer", "is_integer", defArgs st_is_integer, defBody st_is_integer, defScope st_is_integer, [], []⟩
def df_check_words : He.DefD := ⟨("check_words", none), "check_words", "check_words", defArgs st_check_words, defBody st_check_words, defScope st_check_words, [], []⟩
def df_match_of : He.DefD := ⟨("match_of", none), "match_of", "match_of", defArgs st_match_of, defBody st_match_of, defScope st_match_of, [], []⟩
def df_cost_of_row : He.DefD := ⟨("cost_of_row", none), "cost_of_row", "cost_of_row", defArgs st_cost_of_row, defBody st_cost_of_row, defScope st_cost_of_row, [], []⟩
def df_can_grow : He.DefD := ⟨("can_grow", none), "can_grow", "can_grow", defArgs st_can_grow, defBody st_can_grow, defScope st_can_grow, [], []⟩
def df_read_on : He.DefD := ⟨("read_on", none), "read_on", "read_on", defArgs st_read_on, defBody st_read_on, defScope st_read_on, [], []⟩
def df_steps_of : He.DefD := ⟨("steps_of", none), "steps_of", "steps_of", defArgs st_steps_of, defBody st_steps_of, defScope st_steps_of, [], []⟩
def df_Graph___init__ : He.DefD := ⟨("Graph", some "__init__"), "__init__", "Graph.__init__", defArgs st_Graph___init__, defBody st_Graph___init__, defScope st_Graph___init__, [], []⟩
def df_Graph_add_steps : He.DefD := ⟨("Graph", some "add_steps"), "add_steps", "Graph.add_steps", defArgs st_Graph_add_steps, defBody st_Graph_add_steps, defScope st_Graph_add_steps, [], []⟩
def df_is_triple : He.DefD := ⟨("is_triple", none), "is_triple", "is_triple", defArgs st_is_triple, defBody st_is_triple, defScope st_is_triple, [], []⟩
def df_is_table : He.DefD := ⟨("is_table", none), "is_table", "is_table", defArgs st_is_table, defBody st_is_table, defScope st_is_table, [], []⟩
def df_ends_well : He.DefD := ⟨("ends_well", none), "ends_well", "ends_well", defArgs st_ends_well, defBody st_ends_well, defScope st_ends_well, [], []⟩
def df_goes_well : He.DefD := ⟨("goes_well", none), "goes_well", "goes_well", defArgs st_goes_well, defBody st_goes_well, defScope st_goes_well, [], []⟩
def df_is_over : He.DefD := ⟨("is_over", none), "is_over", "is_over", defArgs st_is_over, defBody st_is_over, defScope st_is_over, [], []⟩
def df_fit : He.DefD := ⟨("fit", none), "fit", "fit", defArgs st_fit, defBody st_fit, defScope st_fit, [], []⟩
def df_Climb___init__ : He.DefD := ⟨("Climb", some "__init__"), "__init__", "Climb.__init__", defArgs st_Climb___init__, defBody st_Climb___init__, defScope st_Climb___init__, [], []⟩
def df_Climb_rise : He.DefD := ⟨("Climb", some "rise"), "rise", "Climb.rise", defArgs st_Climb_rise, defBody st_Climb_rise, defScope st_Climb_rise, [], []⟩
def df_Climb_circle : He.DefD := ⟨("Climb", some "circle"), "circle", "Climb.circle", defArgs st_Climb_circle, defBody st_Climb_circle, defScope st_Climb_circle, [], []⟩
def df_is_row : He.DefD := ⟨("is_row", none), "is_row", "is_row", defArgs st_is_row, defBody st_is_row, defScope st_is_row, [], []⟩
def df_is_long_text : He.DefD := ⟨("is_long_text", none), "is_long_text", "is_long_text", defArgs st_is_long_text, defBody st_is_long_text, defScope st_is_long_text, [], []⟩
def df_read_all : He.DefD := ⟨("read_all", none), "read_all", "read_all", defArgs st_read_all, defBody st_read_all, defScope st_read_all, [], []⟩
def df_sums_of : He.DefD := ⟨("sums_of", none), "sums_of", "sums_of", defArgs st_sums_of, defBody st_sums_of, defScope st_sums_of, [], []⟩
def df_lowest : He.DefD := ⟨("lowest", none), "lowest", "lowest", defArgs st_lowest, defBody st_lowest, defScope st_lowest, [], []⟩
def df_settle : He.DefD := ⟨("settle", none), "settle", "settle", defArgs st_settle, defBody st_settle, defScope st_settle, [], []⟩
def df_excess_of : He.DefD := ⟨("excess_of", none), "excess_of", "excess_of", defArgs st_excess_of, defBody st_excess_of, defScope st_excess_of, [], []⟩
def df_worst_ratio : He.DefD := ⟨("worst_ratio", none), "worst_ratio", "worst_ratio", defArgs st_worst_ratio, defBody st_worst_ratio, defScope st_worst_ratio, [], []⟩
def df_worst_excess : He.DefD := ⟨("worst_excess", none), "worst_excess", "worst_excess", defArgs st_worst_excess, defBody st_worst_excess, defScope st_worst_excess, [], []⟩
def df_way_to : He.DefD := ⟨("way_to", none), "way_to", "way_to", defArgs st_way_to, defBody st_way_to, defScope st_way_to, [], []⟩
def df_told_by : He.DefD := ⟨("told_by", none), "told_by", "told_by", defArgs st_told_by, defBody st_told_by, defScope st_told_by, [], []⟩
def df_tight_circle : He.DefD := ⟨("tight_circle", none), "tight_circle", "tight_circle", defArgs st_tight_circle, defBody st_tight_circle, defScope st_tight_circle, [], []⟩
def df_answer_of : He.DefD := ⟨("answer_of", none), "answer_of", "answer_of", defArgs st_answer_of, defBody st_answer_of, defScope st_answer_of, [], []⟩
def df_answer_for : He.DefD := ⟨("answer_for", none), "answer_for", "answer_for", defArgs st_answer_for, defBody st_answer_for, defScope st_answer_for, [], []⟩
def df_is_ratio : He.DefD := ⟨("is_ratio", none), "is_ratio", "is_ratio", defArgs st_is_ratio, defBody st_is_ratio, defScope st_is_ratio, [], []⟩
def df_is_shown : He.DefD := ⟨("is_shown", none), "is_shown", "is_shown", defArgs st_is_shown, defBody st_is_shown, defScope st_is_shown, [], []⟩
def df_accepts_answer : He.DefD := ⟨("accepts_answer", none), "accepts_answer", "accepts_answer", defArgs st_accepts_answer, defBody st_accepts_answer, defScope st_accepts_answer, [], []⟩
def df__law_stream : He.DefD := ⟨("_law_stream", none), "_law_stream", "_law_stream", defArgs st__law_stream, defBody st__law_stream, defScope st__law_stream, [], []⟩
def df__law_next : He.DefD := ⟨("_law_next", none), "_law_next", "_law_next", defArgs st__law_next, defBody st__law_next, defScope st__law_next, [], []⟩
def df__law_is_integer : He.DefD := ⟨("_law_is_integer", none), "_law_is_integer", "_law_is_integer", defArgs st__law_is_integer, defBody st__law_is_integer, defScope st__law_is_integer, [], []⟩
def df__law_equal : He.DefD := ⟨("_law_equal", none), "_law_equal", "_law_equal", defArgs st__law_equal, defBody st__law_equal, defScope st__law_equal, [], []⟩
def df__law_cost : He.DefD := ⟨("_law_cost", none), "_law_cost", "_law_cost", defArgs st__law_cost, defBody st__law_cost, defScope st__law_cost, [], []⟩
def df__law_words : He.DefD := ⟨("_law_words", none), "_law_words", "_law_words", defArgs st__law_words, defBody st__law_words, defScope st__law_words, [], []⟩
def df__law_letters : He.DefD := ⟨("_law_letters", none), "_law_letters", "_law_letters", defArgs st__law_letters, defBody st__law_letters, defScope st__law_letters, [], []⟩
def df__law_match : He.DefD := ⟨("_law_match", none), "_law_match", "_law_match", defArgs st__law_match, defBody st__law_match, defScope st__law_match, [], []⟩
def df__law_sum : He.DefD := ⟨("_law_sum", none), "_law_sum", "_law_sum", defArgs st__law_sum, defBody st__law_sum, defScope st__law_sum, [], []⟩
def df__law_all_texts : He.DefD := ⟨("_law_all_texts", none), "_law_all_texts", "_law_all_texts", defArgs st__law_all_texts, defBody st__law_all_texts, defScope st__law_all_texts, [], []⟩
def df__law_least : He.DefD := ⟨("_law_least", none), "_law_least", "_law_least", defArgs st__law_least, defBody st__law_least, defScope st__law_least, [], []⟩
def df__law_grows : He.DefD := ⟨("_law_grows", none), "_law_grows", "_law_grows", defArgs st__law_grows, defBody st__law_grows, defScope st__law_grows, [], []⟩
def df__law_read : He.DefD := ⟨("_law_read", none), "_law_read", "_law_read", defArgs st__law_read, defBody st__law_read, defScope st__law_read, [], []⟩
def df__law_steps : He.DefD := ⟨("_law_steps", none), "_law_steps", "_law_steps", defArgs st__law_steps, defBody st__law_steps, defScope st__law_steps, [], []⟩
def df__law_is_row : He.DefD := ⟨("_law_is_row", none), "_law_is_row", "_law_is_row", defArgs st__law_is_row, defBody st__law_is_row, defScope st__law_is_row, [], []⟩
def df__law_is_text : He.DefD := ⟨("_law_is_text", none), "_law_is_text", "_law_is_text", defArgs st__law_is_text, defBody st__law_is_text, defScope st__law_is_text, [], []⟩
def df__law_sums : He.DefD := ⟨("_law_sums", none), "_law_sums", "_law_sums", defArgs st__law_sums, defBody st__law_sums, defScope st__law_sums, [], []⟩
def df__law_are_right : He.DefD := ⟨("_law_are_right", none), "_law_are_right", "_law_are_right", defArgs st__law_are_right, defBody st__law_are_right, defScope st__law_are_right, [], []⟩
def df__law_accepts : He.DefD := ⟨("_law_accepts", none), "_law_accepts", "_law_accepts", defArgs st__law_accepts, defBody st__law_accepts, defScope st__law_accepts, [], []⟩
def df_law : He.DefD := ⟨("law", none), "law", "law", defArgs st_law, defBody st_law, defScope st_law, [], []⟩
def fnL : List He.DefD := [df_is_between, df_is_word, df_is_entry, df_is_list, df_letters_in, df_names_in, df_cost_in, df_has_word, df_words_from, df_longest_from, df_is_integer, df_check_words, df_match_of, df_cost_of_row, df_can_grow, df_read_on, df_steps_of, df_Graph___init__, df_Graph_add_steps, df_is_triple, df_is_table, df_ends_well, df_goes_well, df_is_over, df_fit, df_Climb___init__, df_Climb_rise, df_Climb_circle, df_is_row, df_is_long_text, df_read_all, df_sums_of, df_lowest, df_settle, df_excess_of, df_worst_ratio, df_worst_excess, df_way_to, df_told_by, df_tight_circle, df_answer_of, df_answer_for, df_is_ratio, df_is_shown, df_accepts_answer, df__law_stream, df__law_next, df__law_is_integer, df__law_equal, df__law_cost, df__law_words, df__law_letters, df__law_match, df__law_sum, df__law_all_texts, df__law_least, df__law_grows, df__law_read, df__law_steps, df__law_is_row, df__law_is_text, df__law_sums, df__law_are_right, df__law_accepts, df_law]
def faL : List He.Fa := [.glo "is_between", .glo "is_word", .glo "is_entry", .glo "is_list", .glo "letters_in", .glo "names_in", .glo "cost_in", .glo "has_word", .glo "words_from", .glo "longest_from", .glo "is_integer", .glo "check_words", .glo "match_of", .glo "cost_of_row", .glo "can_grow", .glo "read_on", .glo "steps_of", .glo "is_triple", .glo "is_table", .glo "ends_well", .glo "goes_well", .glo "is_over", .glo "fit", .glo "is_row", .glo "is_long_text", .glo "read_all", .glo "sums_of", .glo "lowest", .glo "settle", .glo "excess_of", .glo "worst_ratio", .glo "worst_excess", .glo "way_to", .glo "told_by", .glo "tight_circle", .glo "answer_of", .glo "answer_for", .glo "is_ratio", .glo "is_shown", .glo "accepts_answer", .glo "_law_stream", .glo "_law_next", .glo "_law_is_integer", .glo "_law_equal", .glo "_law_cost", .glo "_law_words", .glo "_law_letters", .glo "_law_match", .glo "_law_sum", .glo "_law_all_texts", .glo "_law_least", .glo "_law_grows", .glo "_law_read", .glo "_law_steps", .glo "_law_is_row", .glo "_law_is_text", .glo "_law_sums", .glo "_law_are_right", .glo "_law_accepts", .glo "law", .glo "Graph", .cls "Graph", .mkr "Graph", .noat "Graph" "words", .noat "Graph" "pairs", .noat "Graph" "places", .noat "Graph" "edges", .meth "Graph" "add_steps", .glo "Climb", .cls "Climb", .mkr "Climb", .noat "Climb" "graph", .noat "Climb" "heights", .noat "Climb" "last", .noat "Climb" "weights", .meth "Climb" "rise", .meth "Climb" "circle", .int "LONGEST" 4, .int "MOST_WORDS" 8, .int "MOST_COST" 9, .str "ALPHABET" "abcdefghijklmnopqrstuvwxyz", .free "len", .free "range", .free "all", .free "any", .free "sum", .free "min", .free "max", .free "sorted", .free "abs", .free "int", .free "tuple", .free "list", .free "isinstance", .free "enumerate", .free "zip", .free "str", .free "bool"]
/-- the facts and one Bool more -/
def exB (K : PySem.W.Frag) : Bool := He.eqO (PySem.W.nsIn K mainGlobals "gcd") (some (some (.builtin "math.gcd")))
abbrev AlM : Type := He.AlD × Bool
def obsM (fa : List He.Fa) (fn : List He.DefD) (K : PySem.W.Frag) : AlM := (He.obsD fa fn K, exB K)
def valM (fn : List He.DefD) : AlM := (He.valD fn, true)
def obsMG (n : Nat) (fa : List He.Fa) (fn : List He.DefD) (g : Addr → Option Obj) : AlM := obsM fa fn (He.frG g (He.asD g n))
structure SaysM (fa : List He.Fa) (fn : List He.DefD) (K : PySem.W.Frag) : Prop where
  d : He.SaysD fa fn K
  e : exB K = true
def hookM (n : Nat) (fa : List He.Fa) (fn : List He.DefD) : PySem.W.Hook where
  α := AlM
  obs := fun s => obsMG n fa fn s.heap.get?
  val := fun _ => valM fn
  says := fun _ h => ∃ K : PySem.W.Frag, K.In h ∧ SaysM fa fn K
  of := fun _ _ e => ⟨_, He.frG_in, ⟨congrArg (fun z : AlM => z.1) e, congrArg (fun z : AlM => z.2) e⟩⟩
  keeps := fun _ _ _ ⟨K, hK, c⟩ k => ⟨K, PySem.W.Frag.In.keeps hK k, c⟩
theorem obsMG_eq {n : Nat} {fa : List He.Fa} {fn : List He.DefD} {g : Addr → Option Obj} {s : Shared} (h : ∀ a, g a = s.heap.get? a) : obsMG n fa fn g = (hookM n fa fn).obs s := by
  have e : g = s.heap.get? := funext h
  rw [e] <;> rfl
end GC

-- part HeadR
set_option Elab.async false
set_option linter.all false
set_option maxRecDepth 100000
set_option maxHeartbeats 0

namespace GC
open PySem PySem.Spec PyProof.Rows L2
abbrev R : PySem.W.OpenRow := PySem.W.OpenLaw.row PySem.Challenge.rw_greedycuts_k63_whole_answers
abbrev hk : PySem.W.Hook := hookM 5 faL fnL
def ob (s : PySem.W.SharedT) : AlM := obsMG 5 faL fnL (HandSHeadRun.getT s)
theorem ob_eq (s : PySem.W.SharedT) : ob s = hk.obs s.abs := obsMG_eq (HandSHeadRun.getT_eq s)

def lo0 : List PySem.Str := ["CutError", "BadValue", "ALPHABET", "LONGEST", "MOST_WORDS", "MOST_COST", "is_between", "is_word", "is_entry", "is_list", "letters_in", "names_in", "cost_in", "has_word", "words_from", "longest_from"]
def lo1 : List PySem.Str := ["is_integer", "check_words", "match_of", "cost_of_row", "can_grow", "read_on", "steps_of", "Graph", "is_triple", "is_table", "ends_well", "goes_well", "is_over", "fit", "Climb", "is_row"]
def lo2 : List PySem.Str := ["is_long_text", "read_all", "sums_of", "lowest", "settle", "excess_of", "worst_ratio", "worst_excess", "way_to", "told_by", "tight_circle", "answer_of", "answer_for", "is_ratio", "is_shown", "accepts_answer"]
def lo3 : List PySem.Str := ["_law_stream", "_law_next", "_law_is_integer", "_law_equal", "_law_cost", "_law_words", "_law_letters", "_law_text", "_law_match", "_law_sum", "_law_all_texts", "_law_least", "_law_grows", "_law_read", "_law_steps", "_law_graph"]
def lo4 : List PySem.Str := ["_law_climb", "_law_rest", "_law_is_row", "_law_is_text", "_law_sums", "_law_are_right", "_law_accepts"]
def loL : List PySem.Str := lo0 ++ lo1 ++ lo2 ++ lo3 ++ lo4
abbrev qv : Program := PySem.W.view R.prog [0, 82]
theorem run (w : World) : HandSHeadRun.RunEqI R qv hk ob 20000 loL w := by
  unfold HandSHeadRun.RunEqI
  kernel_rfl
end GC

-- part DL
set_option Elab.async false
set_option linter.all false
set_option maxRecDepth 100000
set_option maxHeartbeats 4000000
namespace GC
open PySem L2

/-! ### data: tuples are values, lists and objects are addresses -/
inductive D where
  | non | bl (b : Bool) | int (i : Int) | str (s : List Nat) | tup (xs : List D) | adr (a : Addr) | ty (n : String)
abbrev tx (s : List Nat) : Str := ⟨s.toArray⟩
mutual
def Rp (H : Hp) : D → V → Prop
  | .non, v => v = .non
  | .bl b, v => v = .bl b
  | .int i, v => v = .int i
  | .str s, v => v = .str (tx s)
  | .tup xs, v => ∃ a vs, v = .ref a ∧ H a = some (.tup vs) ∧ Rps H xs vs
  | .adr a, v => v = .ref a
  | .ty n, v => v = .ty n
def Rps (H : Hp) : List D → List V → Prop
  | [], vs => vs = []
  | d :: ds, vs => ∃ v ws, vs = v :: ws ∧ Rp H d v ∧ Rps H ds ws
end
def TEx (H H' : Hp) : Prop := ∀ a vs, H a = some (.tup vs) → H' a = some (.tup vs)
def Ex (H H' : Hp) : Prop := ∀ a o, H a = some o → H' a = some o
theorem Ex.refl (H : Hp) : Ex H H := fun _ _ h => h
theorem Ex.trans {H H1 H2 : Hp} (a : Ex H H1) (b : Ex H1 H2) : Ex H H2 := fun x o h => b x o (a x o h)
theorem Ex.tex {H H' : Hp} (e : Ex H H') : TEx H H' := fun a vs h => e a _ h
theorem Ex.new {H : Hp} {p : Addr} {o : HO} (h : H p = none) : Ex H (upd H p o) := fun a u q => by
  rw [upd_ne (ne_of_none q h)]
  exact q
theorem Ex.fresh {H H' : Hp} {p : Addr} (e : Ex H H') (h : H' p = none) : H p = none := by
  cases h1 : H p with
  | none => rfl
  | some o => rw [e p o h1] at h; cases h
/-- all but a stays -/
def ExB (a : Addr) (H H' : Hp) : Prop := ∀ b o, b ≠ a → H b = some o → H' b = some o
theorem ExB.of {a : Addr} {H H' : Hp} (e : Ex H H') : ExB a H H' := fun b o _ h => e b o h
theorem ExB.upd {a : Addr} {H : Hp} {o : HO} : ExB a H (upd H a o) := fun b u n h => by rw [upd_ne n]; exact h
theorem ExB.trans {a : Addr} {H H1 H2 : Hp} (x : ExB a H H1) (y : ExB a H1 H2) : ExB a H H2 := fun b o n h => y b o n (x b o n h)
theorem Ex.mut {H0 H H' : Hp} {a : Addr} (e : Ex H0 H) (n : H0 a = none) (x : ExB a H H') : Ex H0 H' := fun b o h => x b o (ne_of_none h n) (e b o h)
theorem ExB.tex {a : Addr} {H H' : Hp} (x : ExB a H H') (n : ∀ vs, H a ≠ some (.tup vs)) : TEx H H' := fun b vs h => x b _ (fun q => by subst q; exact n vs h) h
mutual
theorem Rp.mono {H H' : Hp} (e : TEx H H') : ∀ (d : D) (v : V), Rp H d v → Rp H' d v
  | .non, _, h => h
  | .bl _, _, h => h
  | .int _, _, h => h
  | .str _, _, h => h
  | .tup xs, v, h => by
    obtain ⟨a, vs, h1, h2, h3⟩ := h
    exact ⟨a, vs, h1, e _ _ h2, Rps.mono e xs vs h3⟩
  | .adr _, _, h => h
  | .ty _, _, h => h
theorem Rps.mono {H H' : Hp} (e : TEx H H') : ∀ (ds : List D) (vs : List V), Rps H ds vs → Rps H' ds vs
  | [], _, h => h
  | d :: ds, vs, h => by
    obtain ⟨v, ws, h1, h2, h3⟩ := h
    exact ⟨v, ws, h1, Rp.mono e d v h2, Rps.mono e ds ws h3⟩
end
theorem Rp.ex {H H' : Hp} (e : Ex H H') {d : D} {v : V} (h : Rp H d v) : Rp H' d v := Rp.mono e.tex d v h
theorem Rps.ex {H H' : Hp} (e : Ex H H') {ds : List D} {vs : List V} (h : Rps H ds vs) : Rps H' ds vs := Rps.mono e.tex ds vs h
theorem Rps.length {H : Hp} : ∀ {ds : List D} {vs : List V}, Rps H ds vs → vs.length = ds.length
  | [], vs, h => by have h : vs = [] := h; subst h; rfl
  | d :: ds, vs, h => by
    obtain ⟨v, ws, h1, h2, h3⟩ := h
    subst h1
    simp [Rps.length h3]
theorem Rps.get {H : Hp} : ∀ {ds : List D} {vs : List V} {i : Nat} {d : D}, Rps H ds vs → ds[i]? = some d → ∃ v, vs[i]? = some v ∧ Rp H d v
  | [], _, _, _, _, e => by simp at e
  | x :: ds, vs, 0, d, h, e => by
    obtain ⟨v, ws, h1, h2, h3⟩ := h
    simp at e; subst e; subst h1
    exact ⟨v, rfl, h2⟩
  | x :: ds, vs, i + 1, d, h, e => by
    obtain ⟨v, ws, h1, h2, h3⟩ := h
    subst h1
    obtain ⟨u, a, b⟩ := Rps.get (i := i) (d := d) h3 (by simpa using e)
    exact ⟨u, by simpa using a, b⟩
theorem Rps.getV {H : Hp} {ds : List D} {vs : List V} {i : Nat} {v : V} (h : Rps H ds vs) (e : vs[i]? = some v) : ∃ d, ds[i]? = some d ∧ Rp H d v := by
  have hl := h.length
  obtain ⟨hi, _⟩ := List.getElem?_eq_some_iff.mp e
  have hi' : i < ds.length := by omega
  obtain ⟨u, h1, h2⟩ := h.get (i := i) (d := ds[i]) (by simp [hi'])
  rw [e] at h1
  cases h1
  exact ⟨ds[i], by simp [hi'], h2⟩
theorem Rps.append {H : Hp} : ∀ {ds es : List D} {vs ws : List V}, Rps H ds vs → Rps H es ws → Rps H (ds ++ es) (vs ++ ws)
  | [], _, vs, _, h, k => by have h : vs = [] := h; subst h; exact k
  | d :: ds, es, vs, ws, h, k => by
    obtain ⟨v, us, h1, h2, h3⟩ := h
    subst h1
    exact ⟨v, us ++ ws, rfl, h2, Rps.append h3 k⟩
theorem Rps.one {H : Hp} {d : D} {v : V} (h : Rp H d v) : Rps H [d] [v] := ⟨v, [], rfl, h, rfl⟩
theorem Rps.set {H : Hp} {d : D} {v : V} (r : Rp H d v) : ∀ {ds : List D} {vs : List V} (i : Nat), Rps H ds vs → Rps H (ds.set i d) (vs.set i v)
  | [], vs, i, h => by have h : vs = [] := h; subst h; exact rfl
  | x :: ds, vs, 0, h => by obtain ⟨u, us, h1, h2, h3⟩ := h; subst h1; exact ⟨v, us, rfl, r, h3⟩
  | x :: ds, vs, i + 1, h => by obtain ⟨u, us, h1, h2, h3⟩ := h; subst h1; exact ⟨u, us.set i v, rfl, h2, Rps.set r i h3⟩
theorem Rps.take {H : Hp} : ∀ {ds : List D} {vs : List V} (n : Nat), Rps H ds vs → Rps H (ds.take n) (vs.take n)
  | [], vs, n, h => by have h : vs = [] := h; subst h; simp; exact rfl
  | x :: ds, vs, 0, h => by simp; exact rfl
  | x :: ds, vs, n + 1, h => by obtain ⟨u, us, h1, h2, h3⟩ := h; subst h1; exact ⟨u, us.take n, rfl, h2, Rps.take n h3⟩
theorem Rps.drop {H : Hp} : ∀ {ds : List D} {vs : List V} (n : Nat), Rps H ds vs → Rps H (ds.drop n) (vs.drop n)
  | [], vs, n, h => by have h : vs = [] := h; subst h; simp; exact rfl
  | x :: ds, vs, 0, h => by simpa using h
  | x :: ds, vs, n + 1, h => by obtain ⟨u, us, h1, h2, h3⟩ := h; subst h1; exact Rps.drop n h3
theorem Rps.reverse {H : Hp} : ∀ {ds : List D} {vs : List V}, Rps H ds vs → Rps H ds.reverse vs.reverse
  | [], vs, h => by have h : vs = [] := h; subst h; exact rfl
  | d :: ds, vs, h => by
    obtain ⟨v, us, h1, h2, h3⟩ := h
    subst h1
    rw [List.reverse_cons, List.reverse_cons]
    exact Rps.append (Rps.reverse h3) (Rps.one h2)
theorem Rps.ints {H : Hp} : ∀ (ns : List Int) {vs : List V}, Rps H (ns.map D.int) vs → vs = ns.map V.int
  | [], vs, h => h
  | n :: ns, vs, h => by
    obtain ⟨v, us, h1, h2, h3⟩ := h
    have h2 : v = .int n := h2
    rw [h1, h2, Rps.ints ns h3]; rfl
theorem Rps.bls {H : Hp} : ∀ (ns : List Bool) {vs : List V}, Rps H (ns.map D.bl) vs → vs = ns.map V.bl
  | [], vs, h => h
  | n :: ns, vs, h => by
    obtain ⟨v, us, h1, h2, h3⟩ := h
    have h2 : v = .bl n := h2
    rw [h1, h2, Rps.bls ns h3]; rfl
theorem Rps.strs {H : Hp} : ∀ (ns : List (List Nat)) {vs : List V}, Rps H (ns.map D.str) vs → vs = (ns.map tx).map V.str
  | [], vs, h => h
  | n :: ns, vs, h => by
    obtain ⟨v, us, h1, h2, h3⟩ := h
    have h2 : v = .str (tx n) := h2
    rw [h1, h2, Rps.strs ns h3]; rfl
/-- at a a list of ds -/
def LstAt (H : Hp) (a : Addr) (ds : List D) : Prop := ∃ vs, H a = some (.lst vs) ∧ Rps H ds vs
theorem LstAt.ex {H H' : Hp} {a : Addr} {ds : List D} (h : LstAt H a ds) (e : Ex H H') : LstAt H' a ds := by
  obtain ⟨vs, h1, h2⟩ := h
  exact ⟨vs, e _ _ h1, h2.ex e⟩
theorem LstAt.exB {H H' : Hp} {a b : Addr} {ds : List D} (h : LstAt H a ds) (x : ExB b H H') (ne : a ≠ b) (t : TEx H H') : LstAt H' a ds := by
  obtain ⟨vs, h1, h2⟩ := h
  exact ⟨vs, x _ _ ne h1, Rps.mono t _ _ h2⟩
theorem LstAt.nt {H : Hp} {a : Addr} {ds : List D} (h : LstAt H a ds) : ∀ vs, H a ≠ some (.tup vs) := fun vs q => by
  obtain ⟨us, h1, _⟩ := h
  rw [h1] at q; cases q

/-! ### the slots -/
structure EnvD (H : Hp) (σ : L2.St) (ρ : List (Option D)) : Prop where
  len : σ.length = ρ.length
  get : ∀ (i : Nat) (d : D), ρ[i]? = some (some d) → ∃ v, σ[i]? = some (some v) ∧ Rp H d v
section
variable {H H' : Hp} {σ : L2.St} {ρ : List (Option D)}
theorem EnvD.mono (h : EnvD H σ ρ) (e : TEx H H') : EnvD H' σ ρ := ⟨h.len, fun i d q => by
  obtain ⟨v, a, b⟩ := h.get i d q
  exact ⟨v, a, Rp.mono e _ _ b⟩⟩
theorem EnvD.ex (h : EnvD H σ ρ) (e : Ex H H') : EnvD H' σ ρ := h.mono e.tex
theorem EnvD.set (h : EnvD H σ ρ) {i : Nat} {d : D} {v : V} (r : Rp H d v) : EnvD H (σ.set i (some v)) (ρ.set i (some d)) := by
  refine ⟨by simp [h.len], fun j e q => ?_⟩
  by_cases hj : i = j
  · subst hj
    by_cases hi : i < ρ.length
    · rw [List.getElem?_set_self hi] at q
      cases q
      exact ⟨v, by rw [List.getElem?_set_self (by rw [h.len]; exact hi)], r⟩
    · rw [List.getElem?_eq_none (by simpa using hi)] at q; cases q
  · rw [List.getElem?_set_ne hj] at q
    obtain ⟨u, a, b⟩ := h.get j e q
    exact ⟨u, by rw [List.getElem?_set_ne hj]; exact a, b⟩
def wipeD (ρ : List (Option D)) : List Nat → List (Option D)
  | [] => ρ
  | v :: vs => (wipeD ρ vs).set v none
theorem EnvD.setN (h : EnvD H σ ρ) {i : Nat} : EnvD H (σ.set i none) (ρ.set i none) := by
  refine ⟨by simp [h.len], fun j e q => ?_⟩
  by_cases hj : i = j
  · subst hj
    by_cases hi : i < ρ.length
    · rw [List.getElem?_set_self hi] at q; cases q
    · rw [List.getElem?_eq_none (by simpa using hi)] at q; cases q
  · rw [List.getElem?_set_ne hj] at q
    obtain ⟨u, a, b⟩ := h.get j e q
    exact ⟨u, by rw [List.getElem?_set_ne hj]; exact a, b⟩
theorem EnvD.wipe (h : EnvD H σ ρ) : ∀ vs : List Nat, EnvD H (L2.wipe σ vs) (wipeD ρ vs)
  | [] => h
  | v :: vs => (EnvD.wipe h vs).setN
/-- fewer names known -/
theorem EnvD.weak (h : EnvD H σ ρ) {ρ' : List (Option D)} (l : ρ'.length = ρ.length) (q : ∀ (i : Nat) (d : D), ρ'[i]? = some (some d) → ρ[i]? = some (some d)) : EnvD H σ ρ' :=
  ⟨by rw [h.len, l], fun i d e => h.get i d (q i d e)⟩
end
/-- the slots that ρ' knows, ρ knows so too -/
structure Wk (ρ' ρ : List (Option D)) : Prop where
  len : ρ'.length = ρ.length
  get : ∀ (i : Nat) (d : D), ρ'[i]? = some (some d) → ρ[i]? = some (some d)
theorem EnvD.wk {H : Hp} {σ : L2.St} {ρ ρ' : List (Option D)} (h : EnvD H σ ρ) (w : Wk ρ' ρ) : EnvD H σ ρ' := h.weak w.len w.get
theorem Wk.refl (ρ : List (Option D)) : Wk ρ ρ := ⟨rfl, fun _ _ h => h⟩
theorem wk_nil : Wk [] [] := Wk.refl []
theorem wk_same {x : Option D} {a b : List (Option D)} (h : Wk a b) : Wk (x :: a) (x :: b) := ⟨by simp [h.len], fun i d q => by
  cases i with
  | zero => simpa using q
  | succ i => exact h.get i d (by simpa using q)⟩
theorem wk_none {x : Option D} {a b : List (Option D)} (h : Wk a b) : Wk (none :: a) (x :: b) := ⟨by simp [h.len], fun i d q => by
  cases i with
  | zero => simp at q
  | succ i => exact h.get i d (by simpa using q)⟩
theorem Wk.trans {a b c : List (Option D)} (x : Wk a b) (y : Wk b c) : Wk a c := ⟨x.len.trans y.len, fun i d q => y.get i d (x.get i d q)⟩
def setAll {α : Type} (σ : List (Option α)) : List Nat → List α → List (Option α)
  | j :: js, v :: vs => setAll (σ.set j (some v)) js vs
  | _, _ => σ
theorem EnvD.setAll {H : Hp} : ∀ {σ : L2.St} {ρ : List (Option D)} {js : List Nat} {ds : List D} {vs : List V}, EnvD H σ ρ → Rps H ds vs → EnvD H (GC.setAll σ js vs) (GC.setAll ρ js ds)
  | σ, ρ, [], ds, vs, h, r => by cases ds <;> cases vs <;> exact h
  | σ, ρ, j :: js, [], vs, h, r => by have r : vs = [] := r; subst r; exact h
  | σ, ρ, j :: js, d :: ds, vs, h, r => by
    obtain ⟨v, us, h1, h2, h3⟩ := r
    subst h1
    show EnvD H (GC.setAll (σ.set j (some v)) js us) (GC.setAll (ρ.set j (some d)) js ds)
    exact EnvD.setAll (h.set h2) h3
theorem wipe_set {σ : L2.St} {j : Nat} {x : Option V} : ∀ {vs : List Nat}, j ∈ vs → wipe (σ.set j x) vs = wipe σ vs
  | v :: vs, h => by
    show (wipe (σ.set j x) vs).set v none = (wipe σ vs).set v none
    by_cases hv : v = j
    · subst hv
      by_cases hm : v ∈ vs
      · rw [wipe_set hm]
      · have e : ∀ (us : List Nat), v ∉ us → wipe (σ.set v x) us = (wipe σ us).set v x := by
          intro us
          induction us with
          | nil => intro _; rfl
          | cons u us ih =>
            intro hu
            have h1 : v ≠ u := fun q => hu (by simp [q])
            have h2 : v ∉ us := fun q => hu (by simp [q])
            show (wipe (σ.set v x) us).set u none = ((wipe σ us).set u none).set v x
            rw [ih h2, List.set_comm _ _ h1]
        rw [e vs hm, List.set_set]
    · have hm : j ∈ vs := by
        rcases List.mem_cons.mp h with q | q
        · exact absurd q.symm hv
        · exact q
      rw [wipe_set hm]
theorem wipe_setAll : ∀ {σ : L2.St} {js : List Nat} {us : List V} {vs : List Nat}, (∀ j ∈ js, j ∈ vs) → wipe (setAll σ js us) vs = wipe σ vs
  | σ, [], us, vs, h => by cases us <;> rfl
  | σ, j :: js, [], vs, h => rfl
  | σ, j :: js, u :: us, vs, h => by
    show wipe (setAll (σ.set j (some u)) js us) vs = _
    rw [wipe_setAll (fun k hk => h k (by simp [hk])), wipe_set (h j (by simp))]
theorem wipe_wipe {σ : L2.St} : ∀ {us vs : List Nat}, (∀ j ∈ us, j ∈ vs) → wipe (wipe σ us) vs = wipe σ vs
  | [], _, _ => rfl
  | u :: us, vs, h => by
    show wipe ((wipe σ us).set u none) vs = _
    rw [wipe_set (h u (by simp)), wipe_wipe fun j hj => h j (by simp [hj])]

/-! ### judgements -/
def DE (te : TE) (H : Hp) (ρ : List (Option D)) (d : D) : Prop := ∀ σ H1, Ex H H1 → EnvD H1 σ ρ → ∀ Q : VK, (∀ v H2, Ex H1 H2 → Rp H2 d v → Q v H2) → te σ H1 Q
/-- a list (new or not) -/
def DL (te : TE) (H : Hp) (ρ : List (Option D)) (ds : List D) : Prop := ∀ σ H1, Ex H H1 → EnvD H1 σ ρ → ∀ Q : VK, (∀ a H2, Ex H1 H2 → LstAt H2 a ds → Q (.ref a) H2) → te σ H1 Q
/-- a new list -/
def DLn (te : TE) (H : Hp) (ρ : List (Option D)) (ds : List D) : Prop := ∀ σ H1, Ex H H1 → EnvD H1 σ ρ → ∀ Q : VK, (∀ a H2, H1 a = none → Ex H1 H2 → LstAt H2 a ds → Q (.ref a) H2) → te σ H1 Q
def DT (tt : TT) (H : Hp) (ρ : List (Option D)) (b : Bool) : Prop := ∀ σ H1, Ex H H1 → EnvD H1 σ ρ → ∀ Q : Bool → Hp → Prop, (∀ H2, Ex H1 H2 → Q b H2) → tt σ H1 Q
def DA (ta : TA) (H : Hp) (ρ : List (Option D)) (ds : List D) : Prop := ∀ σ H1, Ex H H1 → EnvD H1 σ ρ → ∀ Q : List V → Hp → Prop, (∀ vs H2, Ex H1 H2 → Rps H2 ds vs → Q vs H2) → ta σ H1 Q
def DO (to : TO) (H : Hp) (ρ : List (Option D)) (o : Option Int) : Prop := ∀ σ H1, Ex H H1 → EnvD H1 σ ρ → ∀ Q : Option Int → Hp → Prop, (∀ H2, Ex H1 H2 → Q o H2) → to σ H1 Q
def DN (p : L2.St → Hp → Prop) (H : Hp) (ρ : List (Option D)) : Prop := ∀ σ H1, Ex H H1 → EnvD H1 σ ρ → p σ H1
section
variable {H H' : Hp} {ρ : List (Option D)} {te ta tb tc : TE} {t u : TT} {d e : D} {ds es : List D} {a b : Bool} {i j : Int} {s r : List Nat} {K : PySem.W.Frag} {p : L2.St → Hp → Prop}
theorem DE.mono (x : Ex H H') (h : DE te H ρ d) : DE te H' ρ d := fun σ H1 y n Q q => h σ H1 (x.trans y) n Q q
theorem DL.mono (x : Ex H H') (h : DL te H ρ ds) : DL te H' ρ ds := fun σ H1 y n Q q => h σ H1 (x.trans y) n Q q
theorem DLn.mono (x : Ex H H') (h : DLn te H ρ ds) : DLn te H' ρ ds := fun σ H1 y n Q q => h σ H1 (x.trans y) n Q q
theorem DT.mono (x : Ex H H') (h : DT t H ρ a) : DT t H' ρ a := fun σ H1 y n Q q => h σ H1 (x.trans y) n Q q
theorem DA.mono {ta : TA} (x : Ex H H') (h : DA ta H ρ ds) : DA ta H' ρ ds := fun σ H1 y n Q q => h σ H1 (x.trans y) n Q q
theorem DN.mono (x : Ex H H') (h : DN p H ρ) : DN p H' ρ := fun σ H1 y n => h σ H1 (x.trans y) n
theorem DLn.dl (h : DLn te H ρ ds) : DL te H ρ ds := fun σ H1 x n Q q => h σ H1 x n Q fun a H2 _ y l => q a H2 y l
theorem DE.is (h : DE te H ρ d) (q : d = e) : DE te H ρ e := q ▸ h
theorem DT.is (h : DT t H ρ a) (q : a = b) : DT t H ρ b := q ▸ h
theorem DL.is (h : DL te H ρ ds) (q : ds = es) : DL te H ρ es := q ▸ h
theorem DLn.is (h : DLn te H ρ ds) (q : ds = es) : DLn te H ρ es := q ▸ h

/-! expressions -/
theorem de_var {i : Nat} (h : ρ[i]? = some (some d)) : DE (tVar i) H ρ d := fun σ H1 x n Q q => by
  obtain ⟨v, h1, h2⟩ := n.get i d h
  exact ⟨v, h1, q v H1 (Ex.refl _) h2⟩
theorem de_c {v : V} (h : ∀ H, Rp H d v) : DE (tC v) H ρ d := fun σ H1 x n Q q => q v H1 (Ex.refl _) (h H1)
theorem de_int : DE (tC (.int i)) H ρ (.int i) := de_c fun _ => rfl
theorem de_bl : DE (tC (.bl a)) H ρ (.bl a) := de_c fun _ => rfl
theorem de_non : DE (tC .non) H ρ .non := de_c fun _ => rfl
theorem de_ty {n : String} : DE (tC (.ty n)) H ρ (.ty n) := de_c fun _ => rfl
theorem de_str {x : Str} (h : x = tx s) : DE (tC (.str x)) H ρ (.str s) := de_c fun _ => by rw [h]; exact rfl
theorem de_two {te : TE} {r : R2} (ha : DE ta H ρ d) (hb : DE tb H ρ e) {z : D} (h : ∀ H1 v w, Ex H H1 → Rp H1 d v → Rp H1 e w → ∀ Q : VK, (∀ x H2, Ex H1 H2 → Rp H2 z x → Q x H2) → r v w H1 Q) : DE (tOp r ta tb) H ρ z :=
  fun σ H1 x n Q q => ha σ H1 x n _ fun v H2 y rv => hb σ H2 (x.trans y) (n.ex y) _ fun w H3 y' rw' =>
    h H3 v w ((x.trans y).trans y') (rv.ex y') rw' Q fun z' H4 y4 r4 => q z' H4 ((y.trans y').trans y4) r4
theorem de_one {te : TE} {r : V → Hp → VK → Prop} (ha : DE ta H ρ d) {z : D} (h : ∀ H1 v, Ex H H1 → Rp H1 d v → ∀ Q : VK, (∀ x H2, Ex H1 H2 → Rp H2 z x → Q x H2) → r v H1 Q) : DE (tUn r ta) H ρ z :=
  fun σ H1 x n Q q => ha σ H1 x n _ fun v H2 y rv => h H2 v (x.trans y) rv Q fun z' H4 y4 r4 => q z' H4 (y.trans y4) r4
theorem de_neg (ha : DE ta H ρ (.int i)) : DE (tUn (rU fun i => .int (-i)) ta) H ρ (.int (-i)) :=
  de_one (te := ta) ha fun H1 v _ hv Q q => ⟨i, hv, q _ H1 (Ex.refl _) rfl⟩
theorem de_add (ha : DE ta H ρ (.int i)) (hb : DE tb H ρ (.int j)) : DE (tOp (rI0 fun i j => .int (i + j)) ta tb) H ρ (.int (i + j)) :=
  de_two (te := ta) ha hb fun H1 v w _ hv hw Q q => ⟨i, j, hv, hw, q _ H1 (Ex.refl _) rfl⟩
theorem de_sub (ha : DE ta H ρ (.int i)) (hb : DE tb H ρ (.int j)) : DE (tOp (rI0 fun i j => .int (i - j)) ta tb) H ρ (.int (i - j)) :=
  de_two (te := ta) ha hb fun H1 v w _ hv hw Q q => ⟨i, j, hv, hw, q _ H1 (Ex.refl _) rfl⟩
theorem de_mul (ha : DE ta H ρ (.int i)) (hb : DE tb H ρ (.int j)) (h : CMul i j) : DE (tOp (rI CMul fun i j => .int (i * j)) ta tb) H ρ (.int (i * j)) :=
  de_two (te := ta) ha hb fun H1 v w _ hv hw Q q => ⟨i, j, hv, hw, h, q _ H1 (Ex.refl _) rfl⟩
theorem de_mod (ha : DE ta H ρ (.int i)) (hb : DE tb H ρ (.int j)) (h : 0 < j) : DE (tOp (rI (fun _ j => 0 < j) fun i j => .int (i % j)) ta tb) H ρ (.int (i % j)) :=
  de_two (te := ta) ha hb fun H1 v w _ hv hw Q q => ⟨i, j, hv, hw, h, q _ H1 (Ex.refl _) rfl⟩
theorem de_fdiv (ha : DE ta H ρ (.int i)) (hb : DE tb H ρ (.int j)) (h : CDiv i j) : DE (tOp (rI CDiv fun i j => .int (i / j)) ta tb) H ρ (.int (i / j)) :=
  de_two (te := ta) ha hb fun H1 v w _ hv hw Q q => ⟨i, j, hv, hw, h, q _ H1 (Ex.refl _) rfl⟩
theorem de_pow (ha : DE ta H ρ (.int i)) (hb : DE tb H ρ (.int j)) (h : CPow i j) : DE (tOp (rI CPow fun i j => .int (i ^ j.toNat)) ta tb) H ρ (.int (i ^ j.toNat)) :=
  de_two (te := ta) ha hb fun H1 v w _ hv hw Q q => ⟨i, j, hv, hw, h, q _ H1 (Ex.refl _) rfl⟩
/-- a comparison of ints -/
theorem de_cmpI {g : Int → Int → Bool} (ha : DE ta H ρ (.int i)) (hb : DE tb H ρ (.int j)) : DE (tOp (rI0 fun i j => .bl (g i j)) ta tb) H ρ (.bl (g i j)) :=
  de_two (te := ta) ha hb fun H1 v w _ hv hw Q q => ⟨i, j, hv, hw, q _ H1 (Ex.refl _) rfl⟩
theorem de_eqI (ha : DE ta H ρ (.int i)) (hb : DE tb H ρ (.int j)) : DE (tOp rEq ta tb) H ρ (.bl (decide (i = j))) :=
  de_two (te := ta) ha hb fun H1 v w _ hv hw Q q => by
    have hv : v = .int i := hv
    have hw : w = .int j := hw
    subst hv hw
    exact ⟨rfl, q _ H1 (Ex.refl _) (by show V.bl _ = V.bl _; congr 1; simp)⟩
theorem de_neI (ha : DE ta H ρ (.int i)) (hb : DE tb H ρ (.int j)) : DE (tOp rNe ta tb) H ρ (.bl (!decide (i = j))) :=
  de_two (te := ta) ha hb fun H1 v w _ hv hw Q q => by
    have hv : v = .int i := hv
    have hw : w = .int j := hw
    subst hv hw
    exact ⟨rfl, q _ H1 (Ex.refl _) (by show V.bl _ = V.bl _; congr 2; simp)⟩
theorem tx_inj {s r : List Nat} : tx s = tx r ↔ s = r := ⟨fun h => by
  have h1 : s.toArray = r.toArray := Str.mk.inj h
  simpa using h1, fun h => by rw [h]⟩
theorem de_eqT (ha : DE ta H ρ (.str s)) (hb : DE tb H ρ (.str r)) : DE (tOp rEq ta tb) H ρ (.bl (decide (s = r))) :=
  de_two (te := ta) ha hb fun H1 v w _ hv hw Q q => by
    have hv : v = .str (tx s) := hv
    have hw : w = .str (tx r) := hw
    subst hv hw
    refine ⟨rfl, q _ H1 (Ex.refl _) ?_⟩
    show V.bl _ = V.bl _
    congr 1
    by_cases h : s = r
    · subst h; simp
    · have h' : ¬ V.str (tx s) = V.str (tx r) := fun q => h (tx_inj.mp (V.str.inj q))
      rw [decide_eq_false h, decide_eq_false h']
theorem de_neT (ha : DE ta H ρ (.str s)) (hb : DE tb H ρ (.str r)) : DE (tOp rNe ta tb) H ρ (.bl (!decide (s = r))) :=
  de_two (te := ta) ha hb fun H1 v w _ hv hw Q q => by
    have hv : v = .str (tx s) := hv
    have hw : w = .str (tx r) := hw
    subst hv hw
    refine ⟨rfl, q _ H1 (Ex.refl _) ?_⟩
    show V.bl _ = V.bl _
    congr 2
    by_cases h : s = r
    · subst h; simp
    · have h' : ¬ V.str (tx s) = V.str (tx r) := fun q => h (tx_inj.mp (V.str.inj q))
      rw [decide_eq_false h, decide_eq_false h']
/-- text + text -/
def rCatS : R2 := fun x y H Q => ∃ i j, x = .str i ∧ y = .str j ∧ i.length + j.length ≤ sizeLine ∧ Q (.str (i ++ j)) H
theorem tx_append (s r : List Nat) : tx s ++ tx r = tx (s ++ r) := by
  show Str.append (tx s) (tx r) = _
  unfold Str.append
  simp
theorem tx_length (s : List Nat) : (tx s).length = s.length := by
  show (tx s).cps.size = _
  simp
theorem de_cat (ha : DE ta H ρ (.str s)) (hb : DE tb H ρ (.str r)) (h : s.length + r.length ≤ sizeLine) : DE (tOp rCatS ta tb) H ρ (.str (s ++ r)) :=
  de_two (te := ta) ha hb fun H1 v w _ hv hw Q q => by
    have hv : v = .str (tx s) := hv
    have hw : w = .str (tx r) := hw
    subst hv hw
    refine ⟨_, _, rfl, rfl, by rw [tx_length, tx_length]; exact h, ?_⟩
    rw [tx_append]
    exact q _ H1 (Ex.refl _) rfl
def D.isN : D → Bool
  | .non => true
  | _ => false
theorem Rp.isN {v : V} : ∀ {d : D}, Rp H d v → decide (v = .non) = d.isN
  | .non, h => by have h : v = .non := h; subst h; rfl
  | .bl b, h => by have h : v = .bl b := h; subst h; rfl
  | .int i, h => by have h : v = .int i := h; subst h; rfl
  | .str i, h => by have h : v = .str (tx i) := h; subst h; rfl
  | .tup i, h => by obtain ⟨a, vs, h, _⟩ := h; subst h; rfl
  | .adr i, h => by have h : v = .ref i := h; subst h; rfl
  | .ty i, h => by have h : v = .ty i := h; subst h; rfl
theorem de_isN (ha : DE ta H ρ d) : DE (tOp rIsN ta (tC .non)) H ρ (.bl d.isN) :=
  de_two (te := ta) ha de_non fun H1 v w _ hv hw Q q => ⟨hw, q _ H1 (Ex.refl _) (by show V.bl _ = V.bl _; rw [hv.isN])⟩
theorem de_notN (ha : DE ta H ρ d) : DE (tOp rNotN ta (tC .non)) H ρ (.bl (!d.isN)) :=
  de_two (te := ta) ha de_non fun H1 v w _ hv hw Q q => ⟨hw, q _ H1 (Ex.refl _) (by show V.bl _ = V.bl _; rw [hv.isN])⟩
theorem de_isNL (ha : DL ta H ρ ds) : DE (tOp rIsN ta (tC .non)) H ρ (.bl false) := fun σ H1 x n Q q => ha σ H1 x n _ fun a H2 y l =>
  ⟨rfl, q _ H2 y (by show V.bl _ = V.bl _; rfl)⟩
theorem de_notB (ha : DE ta H ρ (.bl a)) (hb : DE tb H ρ (.bl b)) : DE (tOp rNotB ta tb) H ρ (.bl (!decide (a = b))) :=
  de_two (te := ta) ha hb fun H1 v w _ hv hw Q q => ⟨a, b, hv, hw, q _ H1 (Ex.refl _) rfl⟩
/-! tests, and, or -/
theorem dt_test (h : DE te H ρ (.bl a)) : DT (tTest te) H ρ a := fun σ H1 x n Q q => h σ H1 x n _ fun v H2 y r => ⟨a, r, q H2 y⟩
theorem dt_B (h : DE te H ρ (.bl a)) : DT (tB te) H ρ a := fun σ H1 x n Q q => h σ H1 x n _ fun v H2 y r => ⟨a, r, q H2 y⟩
theorem dt_and (h1 : DT t H ρ a) (h2 : a = true → DT u H ρ b) : DT (tAnd t u) H ρ (a && b) := fun σ H1 x n Q q => h1 σ H1 x n _ fun H2 y => by
  cases a with
  | true => exact iteT (h2 rfl σ H2 (x.trans y) (n.ex y) Q fun H3 z => q H3 (y.trans z))
  | false => exact iteF (q H2 y)
theorem dt_or (h1 : DT t H ρ a) (h2 : a = false → DT u H ρ b) : DT (tOr t u) H ρ (a || b) := fun σ H1 x n Q q => h1 σ H1 x n _ fun H2 y => by
  cases a with
  | true => exact iteT (q H2 y)
  | false => exact iteF (h2 rfl σ H2 (x.trans y) (n.ex y) Q fun H3 z => q H3 (y.trans z))
theorem dt_orF (h1 : DT t H ρ false) (h2 : DT u H ρ false) : DT (tOr t u) H ρ false := dt_or h1 fun _ => h2
theorem dt_not (h1 : DT t H ρ a) : DT (tNot t) H ρ (!a) := fun σ H1 x n Q q => h1 σ H1 x n _ fun H2 y => q H2 y
theorem dt_notF (h1 : DT t H ρ true) : DT (tNot t) H ρ false := dt_not h1
theorem de_andV (h1 : DE ta H ρ (.bl a)) (h2 : a = true → DE tb H ρ (.bl b)) : DE (tAndV ta tb) H ρ (.bl (a && b)) := fun σ H1 x n Q q => h1 σ H1 x n _ fun v H2 y r => ⟨a, r, by
  cases a with
  | true => exact iteT (h2 rfl σ H2 (x.trans y) (n.ex y) Q fun v' H3 z => q v' H3 (y.trans z))
  | false => exact iteF (q _ H2 y rfl)⟩
theorem de_orV (h1 : DE ta H ρ (.bl a)) (h2 : a = false → DE tb H ρ (.bl b)) : DE (tOrV ta tb) H ρ (.bl (a || b)) := fun σ H1 x n Q q => h1 σ H1 x n _ fun v H2 y r => ⟨a, r, by
  cases a with
  | true => exact iteT (q _ H2 y rfl)
  | false => exact iteF (h2 rfl σ H2 (x.trans y) (n.ex y) Q fun v' H3 z => q v' H3 (y.trans z))⟩
theorem de_notV (h1 : DE ta H ρ (.bl a)) : DE (tNotV ta) H ρ (.bl (!a)) := fun σ H1 x n Q q => h1 σ H1 x n _ fun v H2 y r => ⟨a, r, q _ H2 y rfl⟩
theorem de_ifE (h : DT t H ρ a) (h1 : a = true → DE ta H ρ d) (h2 : a = false → DE tb H ρ d) : DE (tIf t ta tb) H ρ d := fun σ H1 x n Q q => h σ H1 x n _ fun H2 y => by
  cases a with
  | true => exact iteT (h1 rfl σ H2 (x.trans y) (n.ex y) Q fun v' H3 z => q v' H3 (y.trans z))
  | false => exact iteF (h2 rfl σ H2 (x.trans y) (n.ex y) Q fun v' H3 z => q v' H3 (y.trans z))
/-- i <= j <= k, ints -/
theorem de_chain {g g' : Int → Int → Bool} {k : Int} (ha : DE ta H ρ (.int i)) (hb : DE tb H ρ (.int j)) (hc : DE tc H ρ (.int k)) : DE (tChain (rI0 fun i j => .bl (g i j)) (rI0 fun i j => .bl (g' i j)) ta tb tc) H ρ (.bl (g i j && g' j k)) :=
  fun σ H1 x n Q q => ha σ H1 x n _ fun v H2 y rv => hb σ H2 (x.trans y) (n.ex y) _ fun w H3 y' rw' => ⟨i, j, rv, rw', g i j, rfl, by
    cases h : g i j with
    | true =>
      rw [h] at q
      exact iteT (hc σ H3 ((x.trans y).trans y') ((n.ex y).ex y') _ fun z H4 y4 rz => ⟨j, k, rw', rz, q _ H4 ((y.trans y').trans y4) rfl⟩)
    | false =>
      rw [h] at q
      exact iteF (q _ H3 (y.trans y') rfl)⟩
/-! arguments, displays -/
theorem da_nil : DA tNil H ρ [] := fun σ H1 x n Q q => q [] H1 (Ex.refl _) rfl
theorem da_cons {tr : TA} (h : DE te H ρ d) (hr : DA tr H ρ ds) : DA (tCons te tr) H ρ (d :: ds) := fun σ H1 x n Q q =>
  h σ H1 x n _ fun v H2 y rv => hr σ H2 (x.trans y) (n.ex y) _ fun vs H3 y' r' => q (v :: vs) H3 (y.trans y') ⟨v, vs, rfl, rv.ex y', r'⟩
theorem small_line {n : Nat} (h : n ≤ 100000) : n ≤ sizeLine := Nat.le_trans h (by decide)
theorem de_tup {ta : TA} (h : DA ta H ρ ds) (hl : ds.length ≤ 100000) : DE (tTup ta) H ρ (.tup ds) := fun σ H1 x n Q q =>
  h σ H1 x n _ fun vs H2 y r => ⟨small_line (by rw [r.length]; exact hl), fun p hp => q (.ref p) _ (y.trans (Ex.new hp)) ⟨p, vs, rfl, upd_same, r.ex (Ex.new hp)⟩⟩
theorem dl_lst {ta : TA} (h : DA ta H ρ ds) (hl : ds.length ≤ 100000) : DLn (tLst ta) H ρ ds := fun σ H1 x n Q q =>
  h σ H1 x n _ fun vs H2 y r => ⟨small_line (by rw [r.length]; exact hl), fun p hp => q p _ (y.fresh hp) (y.trans (Ex.new hp)) ⟨vs, upd_same, r.ex (Ex.new hp)⟩⟩
/-- a list at a known address -/
theorem dl_adr {a : Addr} (h : DE te H ρ (.adr a)) (l : LstAt H a ds) : DL te H ρ ds := fun σ H1 x n Q q => h σ H1 x n _ fun v H2 y r => by
  have r : v = .ref a := r
  subst r
  exact q a H2 y (l.ex (x.trans y))
/-! subscripts -/
theorem atI_get {α : Type} {xs : List α} {k : Nat} {x : α} (h : xs[k]? = some x) : atI xs (k : Int) = some x := by
  obtain ⟨hk, _⟩ := List.getElem?_eq_some_iff.mp h
  unfold atI ixN
  rw [if_pos (by omega), if_pos (by omega)]
  simpa using h
theorem Rps.atI {vs : List V} {i : Int} (h : Rps H ds vs) (e : atI ds i = some d) : ∃ v, L2.atI vs i = some v ∧ Rp H d v := by
  unfold L2.atI at e ⊢
  rw [h.length]
  cases hx : ixN ds.length i with
  | none => rw [hx] at e; cases e
  | some k =>
    rw [hx] at e
    obtain ⟨v, h1, h2⟩ := h.get (i := k) (d := d) e
    exact ⟨v, h1, h2⟩
theorem de_ixT (ha : DE ta H ρ (.tup ds)) (hb : DE tb H ρ (.int i)) (h : atI ds i = some d) : DE (tOp (rIxT K) ta tb) H ρ d :=
  de_two (te := ta) ha hb fun H1 v w _ hv hw Q q => by
    obtain ⟨a, vs, e1, e2, e3⟩ := hv
    obtain ⟨z, h1, h2⟩ := e3.atI h
    exact ⟨a, vs, i, z, e1, hw, SqT.of e2, h1, q z H1 (Ex.refl _) h2⟩
theorem de_ixL (ha : DL ta H ρ ds) (hb : DE tb H ρ (.int i)) (h : atI ds i = some d) : DE (tOp (rIxL K) ta tb) H ρ d :=
  fun σ H1 x n Q q => ha σ H1 x n _ fun a H2 y l => hb σ H2 (x.trans y) (n.ex y) _ fun w H3 y' rw' => by
    obtain ⟨vs, e2, e3⟩ := l.ex y'
    obtain ⟨z, h1, h2⟩ := e3.atI h
    exact ⟨a, vs, i, z, rfl, rw', SqL.of e2, h1, q z H3 (y.trans y') h2⟩
theorem de_ixS {c : Nat} (ha : DE ta H ρ (.str s)) (hb : DE tb H ρ (.int i)) (hs : s.length ≤ 100000) (h : atI s i = some c) : DE (tOp rIxS ta tb) H ρ (.str [c]) :=
  de_two (te := ta) ha hb fun H1 v w _ hv hw Q q => by
    exact ⟨tx s, i, c, hv, hw, by rw [tx_length]; exact small_line hs, by simpa using h, q _ H1 (Ex.refl _) rfl⟩
theorem do_none : DO tNoPart H ρ none := fun σ H1 x n Q q => q H1 (Ex.refl _)
theorem do_some (h : DE te H ρ (.int i)) : DO (tPart te) H ρ (some i) := fun σ H1 x n Q q => h σ H1 x n _ fun v H2 y r => ⟨i, r, q H2 y⟩
def cutD {α : Type} (xs : List α) (lo hi : Option Int) : List α := (xs.drop (HT.sIx xs.length 0 lo)).take (HT.sIx xs.length xs.length hi - HT.sIx xs.length 0 lo)
theorem de_slS {tl th : TO} {lo hi : Option Int} (ha : DE ta H ρ (.str s)) (hl : DO tl H ρ lo) (hh : DO th H ρ hi) (hs : s.length ≤ 100000) : DE (tSl rSlS ta tl th) H ρ (.str (cutD s lo hi)) :=
  fun σ H1 x n Q q => ha σ H1 x n _ fun v H2 y rv => hl σ H2 (x.trans y) (n.ex y) _ fun H3 y3 => hh σ H3 ((x.trans y).trans y3) ((n.ex y).ex y3) _ fun H4 y4 => by
    refine ⟨tx s, rv, by rw [tx_length]; exact small_line hs, q _ H4 ((y.trans y3).trans y4) ?_⟩
    show V.str (cutS (tx s) lo hi) = V.str (tx (cutD s lo hi))
    unfold cutS cutD
    simp [tx_length]
theorem Rps.cut {vs : List V} (h : Rps H ds vs) (lo hi : Option Int) : Rps H (cutD ds lo hi) (cutV vs lo hi) := by
  unfold cutD cutV
  rw [h.length]
  exact (h.drop _).take _
theorem de_slT {tl th : TO} {lo hi : Option Int} (ha : DE ta H ρ (.tup ds)) (hl : DO tl H ρ lo) (hh : DO th H ρ hi) (hc : ¬ (HT.sIx ds.length 0 lo = 0 ∧ HT.sIx ds.length ds.length hi = ds.length)) : DE (tSl (rSlT K) ta tl th) H ρ (.tup (cutD ds lo hi)) :=
  fun σ H1 x n Q q => ha σ H1 x n _ fun v H2 y rv => hl σ H2 (x.trans y) (n.ex y) _ fun H3 y3 => hh σ H3 ((x.trans y).trans y3) ((n.ex y).ex y3) _ fun H4 y4 => by
    obtain ⟨a, vs, e1, e2, e3⟩ := rv.ex (y3.trans y4)
    refine ⟨a, vs, e1, SqT.of e2, by rw [e3.length]; exact hc, fun p hp => q (.ref p) _ (((y.trans y3).trans y4).trans (Ex.new hp)) ⟨p, _, rfl, upd_same, (e3.cut lo hi).ex (Ex.new hp)⟩⟩
theorem dl_slL {tl th : TO} {lo hi : Option Int} (ha : DL ta H ρ ds) (hl : DO tl H ρ lo) (hh : DO th H ρ hi) : DLn (tSl (rSlL K) ta tl th) H ρ (cutD ds lo hi) :=
  fun σ H1 x n Q q => ha σ H1 x n _ fun a H2 y l => hl σ H2 (x.trans y) (n.ex y) _ fun H3 y3 => hh σ H3 ((x.trans y).trans y3) ((n.ex y).ex y3) _ fun H4 y4 => by
    obtain ⟨vs, e2, e3⟩ := l.ex (y3.trans y4)
    exact ⟨a, vs, rfl, SqL.of e2, fun p hp => q p _ (((y.trans y3).trans y4).fresh hp) (((y.trans y3).trans y4).trans (Ex.new hp)) ⟨_, upd_same, (e3.cut lo hi).ex (Ex.new hp)⟩⟩
theorem dl_rev (ha : DL ta H ρ ds) : DLn (tRevL K ta) H ρ ds.reverse :=
  fun σ H1 x n Q q => ha σ H1 x n _ fun a H2 y l => by
    obtain ⟨vs, e2, e3⟩ := l
    exact ⟨a, vs, rfl, SqL.of e2, fun p hp => q p _ (y.fresh hp) (y.trans (Ex.new hp)) ⟨_, upd_same, e3.reverse.ex (Ex.new hp)⟩⟩
theorem dl_cat (ha : DL ta H ρ ds) (hb : DL tb H ρ es) (h : ds.length + es.length ≤ 100000) : DLn (tOp rCat ta tb) H ρ (ds ++ es) :=
  fun σ H1 x n Q q => ha σ H1 x n _ fun a H2 y l => hb σ H2 (x.trans y) (n.ex y) _ fun b H3 y' l' => by
    obtain ⟨vs, e2, e3⟩ := l.ex y'
    obtain ⟨ws, f2, f3⟩ := l'
    exact ⟨a, b, vs, ws, rfl, rfl, e2, f2, by rw [e3.length, f3.length]; exact small_line h, fun p hp => q p _ ((y.trans y').fresh hp) ((y.trans y').trans (Ex.new hp)) ⟨_, upd_same, (e3.append f3).ex (Ex.new hp)⟩⟩
/-- tuple + tuple, the right one not empty -/
theorem de_catT (ha : DE ta H ρ (.tup ds)) (hb : DE tb H ρ (.tup es)) (h0 : ds ≠ []) (h1 : es ≠ []) (h : ds.length + es.length ≤ 100000) : DE (tOp (rCatT K) ta tb) H ρ (.tup (ds ++ es)) :=
  de_two (te := ta) ha hb fun H1 v w _ hv hw Q q => by
    obtain ⟨a, vs, e1, e2, e3⟩ := hv
    obtain ⟨b, ws, f1, f2, f3⟩ := hw
    have l1 := e3.length
    have l2 := f3.length
    refine ⟨a, b, vs, ws, e1, f1, SqT.of e2, SqT.of f2, fun z => h0 ?_, by rw [l1, l2]; exact small_line h, fun z => absurd ?_ h1, fun _ p hp => q (.ref p) _ (Ex.new hp) ⟨p, _, rfl, upd_same, (e3.append f3).ex (Ex.new hp)⟩⟩
    · subst z; exact List.eq_nil_of_length_eq_zero l1.symm
    · subst z; exact List.eq_nil_of_length_eq_zero l2.symm
/-! len, membership -/
theorem de_lenL (ha : DL ta H ρ ds) : DE (tCB (rLen K) (tCons ta tNil)) H ρ (.int ds.length) := fun σ H1 x n Q q => ha σ H1 x n _ fun a H2 y l => by
  obtain ⟨vs, e2, e3⟩ := l
  exact ⟨.ref a, ds.length, rfl, .inl ⟨vs, SqL.of e2, e3.length.symm⟩, q _ H2 y rfl⟩
theorem de_lenT (ha : DE ta H ρ (.tup ds)) : DE (tCB (rLen K) (tCons ta tNil)) H ρ (.int ds.length) := fun σ H1 x n Q q => ha σ H1 x n _ fun v H2 y r => by
  obtain ⟨a, vs, e1, e2, e3⟩ := r
  subst e1
  exact ⟨.ref a, ds.length, rfl, .inr ⟨vs, SqT.of e2, e3.length.symm⟩, q _ H2 y rfl⟩
theorem de_lenS (ha : DE ta H ρ (.str s)) (hs : s.length ≤ 100000) : DE (tCB (rLen K) (tCons ta tNil)) H ρ (.int s.length) := fun σ H1 x n Q q => ha σ H1 x n _ fun v H2 y r => by
  have r : v = .str (tx s) := r
  subst r
  exact ⟨.str (tx s), s.length, rfl, ⟨by rw [tx_length]; exact small_line hs, (tx_length s).symm⟩, q _ H2 y rfl⟩
theorem inV_int (i : Int) (ns : List Int) : inV (.int i) (ns.map V.int) = decide (i ∈ ns) := by
  unfold inV
  induction ns with
  | nil => rfl
  | cons n ns ih =>
    rw [List.map_cons, List.any_cons, ih]
    show ((n == i) || _) = _
    by_cases h : n = i
    · subst h; simp
    · have h' : ¬ i = n := fun q => h q.symm
      simp [h, h']
theorem inV_str (s : List Nat) (ns : List (List Nat)) : inV (.str (tx s)) ((ns.map tx).map V.str) = decide (s ∈ ns) := by
  unfold inV
  induction ns with
  | nil => rfl
  | cons n ns ih =>
    rw [List.map_cons, List.map_cons, List.any_cons, ih]
    show ((tx n == tx s) || _) = _
    by_cases h : n = s
    · subst h; simp
    · have h' : ¬ s = n := fun q => h q.symm
      have h2 : (tx n == tx s) = false := by
        rw [beq_eq_false_iff_ne]
        exact fun q => h (tx_inj.mp q)
      rw [h2]; simp [h']
theorem flat_ints (ns : List Int) : (ns.map V.int).all flatV = true := by simp [flatV]
theorem flat_strs (ns : List (List Nat)) : ((ns.map tx).map V.str).all flatV = true := by simp [flatV]
theorem de_inI {ns : List Int} (ha : DE ta H ρ (.int i)) (hb : DL tb H ρ (ns.map D.int)) : DE (tOp (rIn K false) ta tb) H ρ (.bl (decide (i ∈ ns))) :=
  fun σ H1 x n Q q => ha σ H1 x n _ fun v H2 y r => hb σ H2 (x.trans y) (n.ex y) _ fun b H3 y' l => by
    have r : v = .int i := r
    subst r
    obtain ⟨vs, e2, e3⟩ := l
    have e4 := e3.ints ns
    subst e4
    refine ⟨b, _, rfl, .inl (SqL.of e2), rfl, flat_ints ns, q _ H3 (y.trans y') ?_⟩
    show V.bl (if false = true then _ else inV _ _) = _
    rw [if_neg Bool.false_ne_true, inV_int]
theorem de_ninI {ns : List Int} (ha : DE ta H ρ (.int i)) (hb : DL tb H ρ (ns.map D.int)) : DE (tOp (rIn K true) ta tb) H ρ (.bl (!decide (i ∈ ns))) :=
  fun σ H1 x n Q q => ha σ H1 x n _ fun v H2 y r => hb σ H2 (x.trans y) (n.ex y) _ fun b H3 y' l => by
    have r : v = .int i := r
    subst r
    obtain ⟨vs, e2, e3⟩ := l
    have e4 := e3.ints ns
    subst e4
    refine ⟨b, _, rfl, .inl (SqL.of e2), rfl, flat_ints ns, q _ H3 (y.trans y') ?_⟩
    show V.bl (if true = true then !inV _ _ else _) = _
    rw [if_pos rfl, inV_int]
theorem de_inT {ns : List (List Nat)} (ha : DE ta H ρ (.str s)) (hb : DL tb H ρ (ns.map D.str)) : DE (tOp (rIn K false) ta tb) H ρ (.bl (decide (s ∈ ns))) :=
  fun σ H1 x n Q q => ha σ H1 x n _ fun v H2 y r => hb σ H2 (x.trans y) (n.ex y) _ fun b H3 y' l => by
    have r : v = .str (tx s) := r
    subst r
    obtain ⟨vs, e2, e3⟩ := l
    have e4 := e3.strs ns
    subst e4
    refine ⟨b, _, rfl, .inl (SqL.of e2), rfl, flat_strs ns, q _ H3 (y.trans y') ?_⟩
    show V.bl (if false = true then _ else inV _ _) = _
    rw [if_neg Bool.false_ne_true, inV_str]
/-- one sign in a text -/
theorem de_inS {c : Nat} (ha : DE ta H ρ (.str [c])) (hb : DE tb H ρ (.str s)) : DE (tOp rInS ta tb) H ρ (.bl (decide (c ∈ s))) :=
  de_two (te := ta) ha hb fun H1 v w _ hv hw Q q => ⟨c, tx s, hv, hw, q _ H1 (Ex.refl _) (by show V.bl _ = V.bl _; congr 1)⟩
def rLtS : R2 := fun x y H Q => ∃ i j, x = .str i ∧ y = .str j ∧ Q (.bl (decide (i.cps.toList < j.cps.toList))) H
theorem de_ltS (ha : DE ta H ρ (.str s)) (hb : DE tb H ρ (.str r)) : DE (tOp rLtS ta tb) H ρ (.bl (decide (s < r))) :=
  de_two (te := ta) ha hb fun H1 v w _ hv hw Q q => ⟨tx s, tx r, hv, hw, q _ H1 (Ex.refl _) (by show V.bl _ = V.bl _; congr 1)⟩
/-! built-ins -/
theorem de_sum {ns : List Int} (ha : DL ta H ρ (ns.map D.int)) : DE (tCB (rSum K) (tCons ta tNil)) H ρ (.int ns.sum) := fun σ H1 x n Q q => ha σ H1 x n _ fun a H2 y l => by
  obtain ⟨vs, e2, e3⟩ := l
  have e4 := e3.ints ns
  subst e4
  exact ⟨a, ns, rfl, SqL.of e2, q _ H2 y rfl⟩
theorem de_any {bs : List Bool} (ha : DL ta H ρ (bs.map D.bl)) : DE (tCB (rAny K) (tCons ta tNil)) H ρ (.bl (bs.any id)) := fun σ H1 x n Q q => ha σ H1 x n _ fun a H2 y l => by
  obtain ⟨vs, e2, e3⟩ := l
  have e4 := e3.bls bs
  subst e4
  exact ⟨a, bs, rfl, SqL.of e2, q _ H2 y rfl⟩
theorem de_all {bs : List Bool} (ha : DL ta H ρ (bs.map D.bl)) : DE (tCB (rAll K) (tCons ta tNil)) H ρ (.bl (bs.all id)) := fun σ H1 x n Q q => ha σ H1 x n _ fun a H2 y l => by
  obtain ⟨vs, e2, e3⟩ := l
  have e4 := e3.bls bs
  subst e4
  exact ⟨a, bs, rfl, SqL.of e2, q _ H2 y rfl⟩
theorem de_min {ns : List Int} {m : Int} (ha : DL ta H ρ (ns.map D.int)) (h0 : m ∈ ns) (h1 : ∀ y, y ∈ ns → m ≤ y) : DE (tCB (rMin K) (tCons ta tNil)) H ρ (.int m) := fun σ H1 x n Q q => ha σ H1 x n _ fun a H2 y l => by
  obtain ⟨vs, e2, e3⟩ := l
  have e4 := e3.ints ns
  subst e4
  refine ⟨a, ns, rfl, SqL.of e2, List.length_pos_of_mem h0, fun k hk hle => q _ H2 y ?_⟩
  have e : k = m := Int.le_antisymm (hle m h0) (h1 k hk)
  subst e
  rfl
def rAbs : List V → Hp → VK → Prop := fun xs H Q => ∃ i, xs = [.int i] ∧ Q (.int (if i < 0 then -i else i)) H
theorem de_abs (ha : DE ta H ρ (.int i)) : DE (tCB rAbs (tCons ta tNil)) H ρ (.int (if i < 0 then -i else i)) := fun σ H1 x n Q q => ha σ H1 x n _ fun v H2 y r => by
  have r : v = .int i := r
  subst r
  exact ⟨i, rfl, q _ H2 y rfl⟩
def rInt1 : List V → Hp → VK → Prop := fun xs H Q => (∃ i, xs = [.int i] ∧ Q (.int i) H) ∨ ∃ k, xs = [.bl k] ∧ Q (.int (if k then 1 else 0)) H
theorem de_int1 (ha : DE ta H ρ (.int i)) : DE (tCB rInt1 (tCons ta tNil)) H ρ (.int i) := fun σ H1 x n Q q => ha σ H1 x n _ fun v H2 y r => by
  have r : v = .int i := r
  subst r
  exact .inl ⟨i, rfl, q _ H2 y rfl⟩
def rMin2 : List V → Hp → VK → Prop := fun xs H Q => ∃ i j, xs = [.int i, .int j] ∧ Q (.int (if j < i then j else i)) H
def rMax2 : List V → Hp → VK → Prop := fun xs H Q => ∃ i j, xs = [.int i, .int j] ∧ Q (.int (if j > i then j else i)) H
theorem da_two {v w : V} (h : DA (tCons ta (tCons tb tNil)) H ρ [.int i, .int j]) {σ : L2.St} {H1 : Hp} (x : Ex H H1) (n : EnvD H1 σ ρ) {Q : List V → Hp → Prop} (q : ∀ H2, Ex H1 H2 → Q [.int i, .int j] H2) : (tCons ta (tCons tb tNil)) σ H1 Q := by
  refine h σ H1 x n Q fun vs H2 y r => ?_
  obtain ⟨v, us, e1, e2, e3⟩ := r
  obtain ⟨w, ts, f1, f2, f3⟩ := e3
  have e2 : v = .int i := e2
  have f2 : w = .int j := f2
  have f3 : ts = [] := f3
  subst f3 f2 f1 e2 e1
  exact q H2 y
theorem de_min2 (ha : DE ta H ρ (.int i)) (hb : DE tb H ρ (.int j)) : DE (tCB rMin2 (tCons ta (tCons tb tNil))) H ρ (.int (if j < i then j else i)) := fun σ H1 x n Q q =>
  da_two (v := .non) (w := .non) (da_cons ha (da_cons hb da_nil)) x n fun H2 y => ⟨i, j, rfl, q _ H2 y rfl⟩
theorem de_max2 (ha : DE ta H ρ (.int i)) (hb : DE tb H ρ (.int j)) : DE (tCB rMax2 (tCons ta (tCons tb tNil))) H ρ (.int (if j > i then j else i)) := fun σ H1 x n Q q =>
  da_two (v := .non) (w := .non) (da_cons ha (da_cons hb da_nil)) x n fun H2 y => ⟨i, j, rfl, q _ H2 y rfl⟩
theorem de_gcd (ha : DE ta H ρ (.int i)) (hb : DE tb H ρ (.int j)) : DE (tCB rGcd (tCons ta (tCons tb tNil))) H ρ (.int (Nat.gcd i.natAbs j.natAbs : Nat)) := fun σ H1 x n Q q =>
  da_two (v := .non) (w := .non) (da_cons ha (da_cons hb da_nil)) x n fun H2 y => ⟨i, j, rfl, q _ H2 y rfl⟩
def rTupleOf (K : PySem.W.Frag) : List V → Hp → VK → Prop := fun xs H Q => ∃ p ys, xs = [.ref p] ∧ ((SqL K H p ys ∧ ∀ l, H l = none → Q (.ref l) (upd H l (.tup ys))) ∨ (SqT K H p ys ∧ Q (.ref p) H))
theorem de_tupL (ha : DL ta H ρ ds) : DE (tCB (rTupleOf K) (tCons ta tNil)) H ρ (.tup ds) := fun σ H1 x n Q q => ha σ H1 x n _ fun a H2 y l => by
  obtain ⟨vs, e2, e3⟩ := l
  exact ⟨a, vs, rfl, .inl ⟨SqL.of e2, fun p hp => q _ _ (y.trans (Ex.new hp)) ⟨p, vs, rfl, upd_same, e3.ex (Ex.new hp)⟩⟩⟩
/-- sep.join(list of texts), sep empty -/
def rJoin (K : PySem.W.Frag) : V → List V → Hp → VK → Prop := fun x xs H Q => ∃ a p, ∃ ys : List Str, x = .str a ∧ xs = [.ref p] ∧ (SqL K H p (ys.map V.str) ∨ SqT K H p (ys.map V.str)) ∧ (ys.map (·.length)).sum + ys.length * a.length ≤ 16777216 ∧ Q (.str (Txt.join a ys)) H
theorem glue_fold (ss : List (List Nat)) : ∀ a : Array Nat, (ss.map tx).foldl (fun acc p => acc ++ (tx []).cps ++ p.cps) a = a ++ ss.flatten.toArray := by
  induction ss with
  | nil => intro a; simp
  | cons s ss ih =>
    intro a
    rw [List.map_cons, List.foldl_cons, ih]
    simp
theorem join_tx (ss : List (List Nat)) : Txt.join (tx []) (ss.map tx) = tx ss.flatten := by
  cases ss with
  | nil => rfl
  | cons s ss =>
    show (⟨((((s :: ss).map tx).drop 1).foldl (fun acc p => acc ++ (tx []).cps ++ p.cps) (((s :: ss).map tx).headD Str.empty).cps)⟩ : Str) = _
    have e := glue_fold ss s.toArray
    simp only [List.map_cons, List.drop_succ_cons, List.drop_zero, List.headD_cons]
    rw [e]
    try simp
theorem de_join {x : Str} {ss : List (List Nat)} (hx : x = tx []) (ha : DL ta H ρ (ss.map D.str)) (h : ss.flatten.length ≤ 100000) : DE (tM1 (rJoin K) (tC (.str x)) ta) H ρ (.str ss.flatten) := fun σ H1 y n Q q => by
  subst hx
  refine ⟨⟨_, rfl⟩, ha σ H1 y n _ fun a H2 z l => ?_⟩
  obtain ⟨vs, e2, e3⟩ := l
  have e4 := e3.strs ss
  subst e4
  refine ⟨tx [], a, ss.map tx, rfl, rfl, .inl (SqL.of e2), ?_, ?_⟩
  · have e : ((ss.map tx).map (·.length)).sum = ss.flatten.length := by
      rw [List.length_flatten, List.map_map]
      exact congrArg List.sum (List.map_congr_left fun s _ => tx_length s)
    rw [e, tx_length, List.length_map]
    show ss.flatten.length + ss.length * 0 ≤ 16777216
    omega
  · rw [join_tx]
    exact q _ H2 z rfl
theorem de_joinT {x : Str} {ss : List (List Nat)} (hx : x = tx []) (ha : DE ta H ρ (.tup (ss.map D.str))) (h : ss.flatten.length ≤ 100000) : DE (tM1 (rJoin K) (tC (.str x)) ta) H ρ (.str ss.flatten) := fun σ H1 y n Q q => by
  subst hx
  refine ⟨⟨_, rfl⟩, ha σ H1 y n _ fun v H2 z r => ?_⟩
  obtain ⟨a, vs, e1, e2, e3⟩ := r
  have e4 := e3.strs ss
  subst e4 e1
  refine ⟨tx [], a, ss.map tx, rfl, rfl, .inr (SqT.of e2), ?_, ?_⟩
  · have e : ((ss.map tx).map (·.length)).sum = ss.flatten.length := by
      rw [List.length_flatten, List.map_map]
      exact congrArg List.sum (List.map_congr_left fun s _ => tx_length s)
    rw [e, tx_length, List.length_map]
    show ss.flatten.length + ss.length * 0 ≤ 16777216
    omega
  · rw [join_tx]
    exact q _ H2 z rfl
/-! isinstance -/
def D.typ : D → Option String
  | .non => none
  | .bl _ => some "bool"
  | .int _ => some "int"
  | .str _ => some "str"
  | .tup _ => some "tuple"
  | _ => none
theorem Rp.typ {v : V} {n : String} : ∀ {d : D}, Rp H d v → d.typ = some n → TyX K H v (.type n)
  | .bl b, h, e => by have h : v = .bl b := h; subst h; cases e; exact .base (.bl b)
  | .int i, h, e => by have h : v = .int i := h; subst h; cases e; exact .base (.int i)
  | .str i, h, e => by have h : v = .str (tx i) := h; subst h; cases e; exact .base (.str _)
  | .tup i, h, e => by obtain ⟨a, vs, h1, h2, _⟩ := h; subst h1; cases e; exact .base (.tup h2)
theorem de_isi {n m : String} (ha : DE ta H ρ d) (e : d.typ = some n) (hk : PySem.W.kitOne K (.type n) (.type m) = some b) : DE (tCB (rIsi K) (tCons ta (tCons (tC (.ty m)) tNil))) H ρ (.bl b) :=
  fun σ H1 x n Q q => ha σ H1 x n _ fun v H2 y r => ⟨v, .ty m, _, _, b, rfl, .ty m, r.typ e, hk, q _ H2 y rfl⟩
theorem de_isiL {m : String} (ha : DL ta H ρ ds) (hk : PySem.W.kitOne K (.type "list") (.type m) = some b) : DE (tCB (rIsi K) (tCons ta (tCons (tC (.ty m)) tNil))) H ρ (.bl b) :=
  fun σ H1 x n Q q => ha σ H1 x n _ fun a H2 y l => by
    obtain ⟨vs, e2, e3⟩ := l
    exact ⟨.ref a, .ty m, _, _, b, rfl, .ty m, .base (.lst e2), hk, q _ H2 y rfl⟩

/-! ### promises -/
/-- data in, data out -/
def spD (R : List D → D → Prop) : Sp := fun vs H Q _ => ∃ ds d, Rps H ds vs ∧ R ds d ∧ ∀ v H', Ex H H' → Rp H' d v → Q v H'
/-- data in, a new list out -/
def spL (R : List D → List D → Prop) : Sp := fun vs H Q _ => ∃ ds es, Rps H ds vs ∧ R ds es ∧ ∀ a H', H a = none → Ex H H' → LstAt H' a es → Q (.ref a) H'
/-- data in, as the heap allows -/
def spG (R : Hp → List D → VK → Prop) : Sp := fun vs H Q _ => ∃ ds, Rps H ds vs ∧ R H ds Q
theorem de_call {R : List D → D → Prop} {E : XK} {tr : TA} (ha : DA tr H ρ ds) (h : R ds d) : DE (tCall (spD R) [] E tr) H ρ d := fun σ H1 x n Q q =>
  ha σ H1 x n _ fun vs H2 y r => by
    rw [List.append_nil]
    exact ⟨ds, d, r, h, fun v H' z rv => q v H' (y.trans z) rv⟩
theorem dl_call {R : List D → List D → Prop} {E : XK} {tr : TA} (ha : DA tr H ρ ds) (h : R ds es) : DLn (tCall (spL R) [] E tr) H ρ es := fun σ H1 x n Q q =>
  ha σ H1 x n _ fun vs H2 y r => by
    rw [List.append_nil]
    exact ⟨ds, es, r, h, fun a H' na z l => q a H' (y.fresh na) (y.trans z) l⟩
theorem de_callG {R : Hp → List D → VK → Prop} {E : XK} {tr : TA} (ha : DA tr H ρ ds) (h : ∀ H1, Ex H H1 → ∀ Q : VK, (∀ v H2, Ex H1 H2 → Rp H2 d v → Q v H2) → R H1 ds Q) : DE (tCall (spG R) [] E tr) H ρ d := fun σ H1 x n Q q =>
  ha σ H1 x n _ fun vs H2 y r => by
    rw [List.append_nil]
    exact ⟨ds, r, h H2 (x.trans y) Q fun v H' z rv => q v H' (y.trans z) rv⟩
theorem dl_callG {R : Hp → List D → VK → Prop} {E : XK} {tr : TA} (ha : DA tr H ρ ds) (h : ∀ H1, Ex H H1 → ∀ Q : VK, (∀ a H2, H1 a = none → Ex H1 H2 → LstAt H2 a es → Q (.ref a) H2) → R H1 ds Q) : DLn (tCall (spG R) [] E tr) H ρ es := fun σ H1 x n Q q =>
  ha σ H1 x n _ fun vs H2 y r => by
    rw [List.append_nil]
    exact ⟨ds, r, h H2 (x.trans y) Q fun a H' na z l => q a H' (y.fresh na) (y.trans z) l⟩

/-! ### what is walked -/
/-- ds are walked, while the objects at the addresses src (and the tuples) stand -/
def DI (wi : TI) (H : Hp) (ρ : List (Option D)) (ds : List D) : Prop := ∀ σ H1, Ex H H1 → EnvD H1 σ ρ → ∀ R : It → Hp → Prop,
  (∀ J H2 (src : List Addr), Ex H1 H2 → (∀ a ∈ src, (∃ o, H a = some o) ∨ H1 a = none) →
    (∀ Hb : Hp, TEx H2 Hb → (∀ a ∈ src, Hb a = H2 a) → Walk J ds.length (Ex Hb) fun i H3 x H4 => Ex H3 H4 ∧ ∃ d, ds[i]? = some d ∧ Rp H4 d x) → R J H2) → wi σ H1 R
theorem DI.mono {wi : TI} {H H' : Hp} {ρ : List (Option D)} {ds : List D} (x : Ex H H') (h : DI wi H ρ ds) : DI wi H' ρ ds := fun σ H1 y n R q =>
  h σ H1 (x.trans y) n R fun J H2 src z hs w => q J H2 src z (fun a ha => (hs a ha).imp (fun ⟨o, e⟩ => ⟨o, x _ _ e⟩) id) w
theorem DI.is {wi : TI} {H : Hp} {ρ : List (Option D)} {ds es : List D} (h : DI wi H ρ ds) (e : ds = es) : DI wi H ρ es := e ▸ h
theorem di_tup {tl : TE} (h : DE tl H ρ (.tup ds)) : DI (iTup K tl) H ρ ds := fun σ H1 x n R q => h σ H1 x n _ fun v H2 y r => by
  obtain ⟨a, vs, e1, e2, e3⟩ := r
  refine ⟨a, e1, ⟨vs, SqT.of e2⟩, q _ H2 [] y (fun b hb => by cases hb) fun Hb ht hs => ?_⟩
  rw [← e3.length]
  refine walk_tup.mono (fun H3 z => SqT.of (z _ _ (ht _ _ e2))) fun i H3 v H4 hi z yl => ?_
  obtain ⟨yl1, yl2⟩ := yl
  subst yl1
  obtain ⟨d, d1, d2⟩ := e3.getV yl2
  exact ⟨Ex.refl _, d, d1, Rp.mono (fun b us hb => z _ _ (ht _ _ hb)) _ _ d2⟩
theorem walk_lst {a : Addr} {H2 : Hp} (l : LstAt H2 a ds) {Hb : Hp} (ht : TEx H2 Hb) (hs : Hb a = H2 a) : Walk (Itl K a) ds.length (Ex Hb) fun i H3 x H4 => Ex H3 H4 ∧ ∃ d, ds[i]? = some d ∧ Rp H4 d x := by
  obtain ⟨vs, e2, e3⟩ := l
  rw [← e3.length]
  refine walk_list.mono (fun H3 z => SqL.of (z a _ (by rw [hs]; exact e2))) fun i H3 v H4 hi z yl => ?_
  obtain ⟨yl1, yl2⟩ := yl
  subst yl1
  obtain ⟨d, d1, d2⟩ := e3.getV yl2
  exact ⟨Ex.refl _, d, d1, Rp.mono (fun b us hb => z _ _ (ht _ _ hb)) _ _ d2⟩
theorem di_lst {tl : TE} {a : Addr} (h : DE tl H ρ (.adr a)) (l : LstAt H a ds) : DI (iList K tl) H ρ ds := fun σ H1 x n R q => h σ H1 x n _ fun v H2 y r => by
  have l2 := l.ex (x.trans y)
  obtain ⟨vs, e2, e3⟩ := id l2
  obtain ⟨ws, f2, _⟩ := l
  exact ⟨a, r, ⟨vs, SqL.of e2⟩, q _ H2 [a] y (fun b hb => by rw [List.mem_singleton.mp hb]; exact .inl ⟨_, f2⟩) fun Hb ht hs => walk_lst l2 ht (hs a (by simp))⟩
theorem di_lstN {tl : TE} (h : DLn tl H ρ ds) : DI (iList K tl) H ρ ds := fun σ H1 x n R q => h σ H1 x n _ fun a H2 na y l2 => by
  obtain ⟨vs, e2, e3⟩ := id l2
  exact ⟨a, rfl, ⟨vs, SqL.of e2⟩, q _ H2 [a] y (fun b hb => by rw [List.mem_singleton.mp hb]; exact .inr na) fun Hb ht hs => walk_lst l2 ht (hs a (by simp))⟩
theorem walk_rng {lo : Int} {k : Nat} {Hb : Hp} : Walk (Itr lo k) ((List.range k).map fun i => D.int (lo + (i : Nat))).length (Ex Hb) fun i H3 x H4 => Ex H3 H4 ∧ ∃ d, ((List.range k).map fun i => D.int (lo + (i : Nat)))[i]? = some d ∧ Rp H4 d x := by
  rw [List.length_map, List.length_range]
  refine walk_range.mono (fun _ _ => True.intro) fun i H3 v H4 hi _ yl => ?_
  obtain ⟨yl1, yl2⟩ := yl
  subst yl1
  exact ⟨Ex.refl _, D.int (lo + (i : Nat)), by simp [hi], yl2⟩
theorem di_rng1 (h : DE ta H ρ (.int i)) (h1 : i < 2 ^ 62) (h0 : -(2 ^ 62) ≤ i) : DI (iRng1 (tCons ta tNil)) H ρ ((List.range i.toNat).map fun k => D.int (0 + (k : Nat))) := fun σ H1 x n R q => h σ H1 x n _ fun v H2 y r => by
  have r : v = .int i := r
  subst r
  exact ⟨i, rfl, h0, h1, q _ H2 [] y (fun b hb => by cases hb) fun Hb ht hs => walk_rng⟩
theorem di_rng2 (h : DE ta H ρ (.int i)) (h' : DE tb H ρ (.int j)) (h1 : -(2 ^ 62) ≤ i ∧ i < 2 ^ 62 ∧ -(2 ^ 62) ≤ j ∧ j < 2 ^ 62) : DI (iRng2 (tCons ta (tCons tb tNil))) H ρ ((List.range (j - i).toNat).map fun k => D.int (i + (k : Nat))) := fun σ H1 x n R q =>
  da_two (v := .non) (w := .non) (da_cons h (da_cons h' da_nil)) x n fun H2 y => ⟨i, j, rfl, h1, q _ H2 [] y (fun b hb => by cases hb) fun Hb ht hs => walk_rng⟩
theorem di_str (h : DE te H ρ (.str s)) : DI (iStr te) H ρ (s.map fun c => D.str [c]) := fun σ H1 x n R q => h σ H1 x n _ fun v H2 y r => by
  have r : v = .str (tx s) := r
  subst r
  refine ⟨tx s, rfl, q _ H2 [] y (fun b hb => by cases hb) fun Hb ht hs => ?_⟩
  have e : (s.map fun c => D.str [c]).length = (tx s).cps.size := by simp
  rw [e]
  refine walk_str.mono (fun _ _ => True.intro) fun i H3 v H4 hi _ yl => ?_
  obtain ⟨yl1, c, yl2, yl3⟩ := yl
  subst yl1
  refine ⟨Ex.refl _, .str [c], ?_, yl3⟩
  have yl4 : s[i]? = some c := by simpa using yl2
  simp [yl4]
def enumD (ds : List D) : List D := ds.zipIdx.map fun p => .tup [.int (p.2 : Nat), p.1]
theorem pair_new {H3 : Hp} {T : Addr} {x y : V} {d e : D} (n : H3 T = none) (r1 : Rp H3 d x) (r2 : Rp H3 e y) : Ex H3 (upd H3 T (.tup [x, y])) ∧ Rp (upd H3 T (.tup [x, y])) (.tup [d, e]) (.ref T) :=
  ⟨Ex.new n, T, [x, y], rfl, upd_same, x, [y], rfl, r1.ex (Ex.new n), y, [], rfl, r2.ex (Ex.new n), rfl⟩
theorem di_enum {a : Addr} (h : DE te H ρ (.adr a)) (l : LstAt H a ds) : DI (iEnum K (tCons te tNil)) H ρ (enumD ds) := fun σ H1 x n R q => h σ H1 x n _ fun v H2 y r => by
  have r : v = .ref a := r
  subst r
  obtain ⟨vs, e2, e3⟩ := l.ex (x.trans y)
  obtain ⟨ws, f2, _⟩ := l
  refine ⟨a, vs, rfl, SqL.of e2, q _ H2 [a] y (fun b hb => by rw [List.mem_singleton.mp hb]; exact .inl ⟨_, f2⟩) fun Hb ht hs => ?_⟩
  have e : (enumD ds).length = vs.length := by unfold enumD; rw [List.length_map, List.length_zipIdx, e3.length]
  rw [e]
  refine walk_enum.mono (fun H3 z => SqL.of (z a _ (by rw [hs a (by simp)]; exact e2))) fun i H3 v H4 hi z yl => ?_
  obtain ⟨T, x, w, h1, h2, h3, h4, h5⟩ := yl
  obtain ⟨d, d1, d2⟩ := e3.getV h5
  have d3 : Rp H3 d w := Rp.mono (fun b us hb => z _ _ (ht _ _ hb)) _ _ d2
  cases h4
  obtain ⟨n1, n2⟩ := pair_new (d := .int (i : Nat)) h2 rfl d3
  subst h1 h3
  refine ⟨n1, _, ?_, n2⟩
  unfold enumD
  rw [List.getElem?_map, List.getElem?_zipIdx, d1]
  simp
theorem di_zip {a b : Addr} (ha : DE ta H ρ (.adr a)) (hb : DE tb H ρ (.adr b)) (la : LstAt H a ds) (lb : LstAt H b es) (hl : ds.length = es.length) : DI (iZip K (tCons ta (tCons tb tNil))) H ρ ((ds.zip es).map fun p => .tup [p.1, p.2]) := fun σ H1 x n R q =>
  ha σ H1 x n _ fun v H2 y r => hb σ H2 (x.trans y) (n.ex y) _ fun w H3 y' r' => by
  have r : v = .ref a := r
  have r' : w = .ref b := r'
  subst r r'
  obtain ⟨vs, e2, e3⟩ := la.ex ((x.trans y).trans y')
  obtain ⟨ws, f2, f3⟩ := lb.ex ((x.trans y).trans y')
  obtain ⟨_, g2, _⟩ := la
  obtain ⟨_, k2, _⟩ := lb
  refine ⟨a, b, vs, ws, rfl, SqL.of e2, SqL.of f2, q _ H3 [a, b] (y.trans y') (fun c hc => ?_) fun Hb ht hs => ?_⟩
  · rcases List.mem_cons.mp hc with e | hc
    · rw [e]; exact .inl ⟨_, g2⟩
    · rw [List.mem_singleton.mp hc]; exact .inl ⟨_, k2⟩
  have e : ((ds.zip es).map fun p => D.tup [p.1, p.2]).length = vs.length := by rw [List.length_map, List.length_zip, e3.length, hl]; simp
  rw [e]
  refine (walk_zip (xs := vs) (ys := ws) (by rw [e3.length, f3.length, hl]; simp)).mono (fun H4 z => ⟨SqL.of (z a _ (by rw [hs a (by simp)]; exact e2)), SqL.of (z b _ (by rw [hs b (by simp)]; exact f2))⟩) fun i H4 v H5 hi z yl => ?_
  obtain ⟨T, x, w, h1, h2, h3, h4, h5⟩ := yl
  obtain ⟨d, d1, d2⟩ := e3.getV h4
  obtain ⟨c, c1, c2⟩ := f3.getV h5
  obtain ⟨n1, n2⟩ := pair_new (d := d) (e := c) h2 (Rp.mono (fun b us hb => z _ _ (ht _ _ hb)) _ _ d2) (Rp.mono (fun b us hb => z _ _ (ht _ _ hb)) _ _ c2)
  subst h1 h3
  have ez : (ds.zip es)[i]? = some (d, c) := List.getElem?_zip_eq_some.mpr ⟨d1, c1⟩
  exact ⟨n1, .tup [d, c], by rw [List.getElem?_map, ez]; rfl, n2⟩

/-! ### targets -/
def DG (g : TG) (d : D) (js : List Nat) (ds : List D) : Prop := ∀ v σ H (Q : L2.St → Hp → Prop), Rp H d v → (∀ vs, Rps H ds vs → Q (setAll σ js vs) H) → g v σ H Q
def DGs (g : TGs) (ds : List D) (js : List Nat) : Prop := ∀ vs σ H (Q : L2.St → Hp → Prop), Rps H ds vs → Q (setAll σ js vs) H → g vs σ H Q
theorem dg_name {i : Nat} : DG (gName i) d [i] [d] := fun v σ H Q r q => q [v] (Rps.one r)
theorem dgs_nil : DGs gNil [] [] := fun vs σ H Q r q => by
  have r : vs = [] := r
  subst r
  exact ⟨rfl, q⟩
theorem dgs_cons {i : Nat} {js : List Nat} {t : TGs} (h : DGs t ds js) : DGs (gCons (gName i) t) (d :: ds) (i :: js) := fun vs σ H Q r q => by
  obtain ⟨v, us, e1, e2, e3⟩ := r
  subst e1
  exact ⟨v, us, rfl, h us _ H Q e3 q⟩
theorem dg_tup {js : List Nat} {k : Nat} {t : TGs} (h : DGs t ds js) (hk : ds.length = k) : DG (gTup K k t) (.tup ds) js ds := fun v σ H Q r q => by
  obtain ⟨a, vs, e1, e2, e3⟩ := r
  exact ⟨a, vs, e1, SqT.of e2, by rw [e3.length]; exact hk, h vs σ H Q e3 (q vs e3)⟩

/-! ### list comprehensions -/
theorem lc_D {α : Type} {wi : TI} {g : TG} {tt : TT} {te : TE} {vs : List Nat} (xs : List α) (enc : α → D) {js : List Nat} {tgt : α → List D} {p : α → Bool} {f : α → D} (hi : DI wi H ρ (xs.map enc)) (hg : ∀ x, DG g (enc x) js (tgt x)) (hv : ∀ j ∈ js, j ∈ vs) (hn : xs.length ≤ 100000)
    (ht : ∀ x ∈ xs, DT tt H (setAll (wipeD ρ vs) js (tgt x)) (p x)) (he : ∀ x ∈ xs, p x = true → DE te H (setAll (wipeD ρ vs) js (tgt x)) (f x)) : DLn (tLc wi g tt te vs) H ρ ((xs.filter p).map f) := fun σ H1 x n Q q =>
  hi σ H1 x n _ fun J H2 src y hs w => fun D0 hD => by
    have nD : ∀ a ∈ src, a ≠ D0 ∨ H2 a = none := fun a _ => by
      by_cases e : a = D0
      · exact .inr (by rw [e]; exact hD)
      · exact .inl e
    refine lc_it (w H2 (fun _ _ h => h) fun a _ => rfl) (fun i H3 => Ex H2 H3 ∧ LstAt H3 D0 (((xs.take i).filter p).map f)) ⟨Ex.new hD, [], upd_same, rfl⟩ (fun i H3 _ z => z.1) (fun i v H3 H4 hi z yl => ?_) fun H3 z => ?_
    · rw [List.length_map] at hi
      obtain ⟨z1, z2⟩ := z
      obtain ⟨y1, d, yd, yr⟩ := yl
      have ex : xs[i]? = some xs[i] := by simp [hi]
      rw [List.getElem?_map, ex] at yd
      cases yd
      have hm : xs[i] ∈ xs := List.getElem_mem hi
      have tk : xs.take (i + 1) = xs.take i ++ [xs[i]] := by rw [List.take_succ, ex]; rfl
      refine hg _ v _ H4 _ yr fun us ur => ?_
      have n4 : EnvD H4 (setAll (wipe σ vs) js us) (setAll (wipeD ρ vs) js (tgt xs[i])) := (((n.ex y).wipe vs).ex (z1.trans y1)).setAll ur
      refine ⟨by rw [wipe_setAll hv, wipe_wipe fun _ h => h], ht _ hm _ H4 ((x.trans y).trans (z1.trans y1)) n4 _ fun H5 y5 => ?_⟩
      cases hp : p xs[i] with
      | true =>
        refine iteT (he _ hm hp _ H5 (((x.trans y).trans (z1.trans y1)).trans y5) (n4.ex y5) _ fun u H6 y6 r6 => ?_)
        obtain ⟨acc, a1, a2⟩ := z2.ex ((y1.trans y5).trans y6)
        refine ⟨acc, a1, ?_, ?_, _, upd_same, ?_⟩
        · have l1 := a2.length
          rw [List.length_map] at l1
          have l2 := List.length_filter_le p (xs.take i)
          rw [List.length_take] at l2
          exact Nat.lt_of_lt_of_le (show acc.length < 100001 by omega) (by decide)
        · exact ((z1.trans y1).trans (y5.trans y6)).mut hD ExB.upd
        · rw [tk, List.filter_append, List.map_append, List.filter_cons, if_pos hp]
          refine Rps.mono (ExB.tex (a := D0) ExB.upd fun vs q => ?_) _ _ (a2.append (Rps.one r6))
          rw [a1] at q; cases q
      | false =>
        refine iteF ⟨(z1.trans y1).trans y5, ?_⟩
        rw [tk, List.filter_append, List.filter_cons, if_neg (by rw [hp]; decide)]
        show LstAt H5 D0 ((((xs.take i).filter p) ++ []).map f)
        rw [List.append_nil]
        exact z2.ex (y1.trans y5)
    · obtain ⟨z1, z2⟩ := z
      rw [List.length_map, List.take_length] at z2
      exact q D0 H3 (y.fresh hD) (y.trans z1) z2
theorem dt_yes : DT tYes H ρ true := fun σ H1 x n Q q => q H1 (Ex.refl _)
/-- without tests -/
theorem lc_M {α : Type} {wi : TI} {g : TG} {te : TE} {vs : List Nat} (xs : List α) (enc : α → D) {js : List Nat} {tgt : α → List D} {f : α → D} (hi : DI wi H ρ (xs.map enc)) (hg : ∀ x, DG g (enc x) js (tgt x)) (hv : ∀ j ∈ js, j ∈ vs) (hn : xs.length ≤ 100000)
    (he : ∀ x ∈ xs, DE te H (setAll (wipeD ρ vs) js (tgt x)) (f x)) : DLn (tLc wi g tYes te vs) H ρ (xs.map f) := by
  have h := lc_D (te := te) (vs := vs) (p := fun _ => true) (f := f) xs enc hi hg hv hn (fun _ _ => dt_yes) fun x hx _ => he x hx
  have e : xs.filter (fun _ => true) = xs := List.filter_eq_self.mpr fun _ _ => rfl
  rw [e] at h
  exact h
/-! ### statements -/
/-- what is wanted of a returned datum, a returned new list -/
def Ret (E : Ends) (H : Hp) (d : D) : Prop := ∀ v H', Ex H H' → Rp H' d v → E.rt v H'
def RetL (E : Ends) (H : Hp) (ds : List D) : Prop := ∀ a H', H a = none → Ex H H' → LstAt H' a ds → E.rt (.ref a) H'
variable {E : Ends} {t1 t2 tz : TS}
theorem dn_seq (h : DN (t1 { E with nx := t2 E }) H ρ) : DN (tSeq t1 t2 E) H ρ := h
theorem dn_next (h : DN E.nx H ρ) : DN (tNext E) H ρ := h
theorem dn_brk (h : DN E.bk H ρ) : DN (tBreak E) H ρ := h
theorem dn_asg {i : Nat} (h : DE te H ρ d) (k : DN E.nx H (ρ.set i (some d))) : DN (tAsg te (gName i) E) H ρ := fun σ H1 x n => h σ H1 x n _ fun v H2 y r => k _ H2 (x.trans y) ((n.ex y).set r)
/-- a new list into a slot -/
theorem dn_asgL {i : Nat} (h : DLn te H ρ ds) (k : ∀ a H', H a = none → Ex H H' → LstAt H' a ds → DN E.nx H' (ρ.set i (some (.adr a)))) : DN (tAsg te (gName i) E) H ρ := fun σ H1 x n => h σ H1 x n _ fun a H2 na y l =>
  k a H2 (x.fresh na) (x.trans y) l _ H2 (Ex.refl _) ((n.ex y).set rfl)
/-- unpacking a tuple -/
theorem dn_asgT {g : TG} {js : List Nat} (h : DE te H ρ d) (hg : DG g d js ds) (k : DN E.nx H (setAll ρ js ds)) : DN (tAsg te g E) H ρ := fun σ H1 x n => h σ H1 x n _ fun v H2 y r =>
  hg v σ H2 _ r fun vs rs => k _ H2 (x.trans y) ((n.ex y).setAll rs)
theorem dn_if (h : DT t H ρ a) (h1 : a = true → DN (t1 E) H ρ) (h2 : a = false → DN (t2 E) H ρ) : DN (tIfS t t1 t2 E) H ρ := fun σ H1 x n => h σ H1 x n _ fun H2 y => by
  cases a with
  | true => exact iteT (h1 rfl σ H2 (x.trans y) (n.ex y))
  | false => exact iteF (h2 rfl σ H2 (x.trans y) (n.ex y))
theorem dn_ifT (h : DT t H ρ true) (h1 : DN (t1 E) H ρ) : DN (tIfS t t1 t2 E) H ρ := dn_if h (fun _ => h1) fun q => by cases q
theorem dn_ifF (h : DT t H ρ false) (h2 : DN (t2 E) H ρ) : DN (tIfS t t1 t2 E) H ρ := dn_if h (fun q => by cases q) fun _ => h2
theorem dn_ret (h : DE te H ρ d) (k : Ret E H d) : DN (tRet te E) H ρ := fun σ H1 x n => h σ H1 x n _ fun v H2 y r => k v H2 (x.trans y) r
theorem dn_retL (h : DLn te H ρ ds) (k : RetL E H ds) : DN (tRet te E) H ρ := fun σ H1 x n => h σ H1 x n _ fun a H2 na y l => k a H2 (x.fresh na) (x.trans y) l
/-- a list of one's own is handed back -/
theorem dn_retA {H0 : Hp} {a : Addr} (h : DE te H ρ (.adr a)) (na : H0 a = none) (x0 : Ex H0 H) (l : LstAt H a ds) (k : RetL E H0 ds) : DN (tRet te E) H ρ := fun σ H1 x n => h σ H1 x n _ fun v H2 y r => by
  have r : v = .ref a := r
  subst r
  exact k a H2 na ((x0.trans x).trans y) (l.ex (x.trans y))
theorem dn_drop (h : DE te H ρ d) (k : DN E.nx H ρ) : DN (tDrop te E) H ρ := fun σ H1 x n => h σ H1 x n _ fun v H2 y r => k _ H2 (x.trans y) (n.ex y)
theorem Ret.ex (k : Ret E H d) (x : Ex H H') : Ret E H' d := fun v H2 y r => k v H2 (x.trans y) r
theorem RetL.ex (k : RetL E H ds) (x : Ex H H') : RetL E H' ds := fun a H2 na y r => k a H2 (x.fresh na) (x.trans y) r
/-- xs.append(e) -/
theorem dn_app {a : Addr} (ha : DE ta H ρ (.adr a)) (l : LstAt H a ds) (h : DE te H ρ d) (hn : ds.length < 100000) (k : ∀ H', ExB a H H' → LstAt H' a (ds ++ [d]) → DN E.nx H' ρ) :
    DN (tDrop (tBM K "list" rAppend ta (tCons te tNil)) E) H ρ := fun σ H1 x n => ha σ H1 x n _ fun v H2 y r => by
  have r : v = .ref a := r
  subst r
  obtain ⟨vs0, b2, b3⟩ := l.ex (x.trans y)
  refine ⟨.inl ⟨rfl, _, .inl (.inl b2)⟩, h σ H2 (x.trans y) (n.ex y) _ fun w H3 y' rw' => ?_⟩
  obtain ⟨vs, e2, e3⟩ := l.ex ((x.trans y).trans y')
  have tt : TEx H3 (upd H3 a (.lst (vs ++ [w]))) := ExB.tex (a := a) ExB.upd fun us q => by rw [e2] at q; cases q
  refine ⟨a, vs, w, rfl, rfl, e2, Nat.lt_of_lt_of_le (show vs.length < 100001 by rw [e3.length]; omega) (by decide), ?_⟩
  exact k _ ((ExB.of ((x.trans y).trans y')).trans ExB.upd) ⟨_, upd_same, Rps.mono tt _ _ (e3.append (Rps.one rw'))⟩ σ _ (Ex.refl _) (((n.ex y).ex y').mono tt)
/-- xs[i] = e -/
theorem ixN_nat {n k : Nat} (h : k < n) : ixN n (k : Int) = some k := by
  unfold ixN
  rw [if_pos (by omega), if_pos (by omega), Int.toNat_natCast]
theorem dn_setI {a : Addr} {k : Nat} (h : DE te H ρ d) (ha : DE ta H ρ (.adr a)) (hb : DE tb H ρ (.int (k : Int))) (l : LstAt H a ds) (hk : k < ds.length) (kk : ∀ H', ExB a H H' → LstAt H' a (ds.set k d) → DN E.nx H' ρ) :
    DN (tAsg te (gSub ta tb rSetL) E) H ρ := fun σ H1 x n => h σ H1 x n _ fun w H2 y r => ha σ H2 (x.trans y) (n.ex y) _ fun v H3 y3 rv => hb σ H3 ((x.trans y).trans y3) ((n.ex y).ex y3) _ fun u H4 y4 ru => by
  have rv : v = .ref a := rv
  have ru : u = .int (k : Int) := ru
  subst rv ru
  obtain ⟨vs, e2, e3⟩ := l.ex (((x.trans y).trans y3).trans y4)
  have tt : TEx H4 (upd H4 a (.lst (vs.set k w))) := ExB.tex (a := a) ExB.upd fun us q => by rw [e2] at q; cases q
  refine ⟨a, vs, (k : Int), k, rfl, rfl, e2, ixN_nat (by rw [e3.length]; exact hk), ?_⟩
  exact kk _ ((ExB.of (((x.trans y).trans y3).trans y4)).trans ExB.upd) ⟨_, upd_same, Rps.mono tt _ _ (Rps.set (r.ex (y3.trans y4)) k e3)⟩ σ _ (Ex.refl _) ((((n.ex y).ex y3).ex y4).mono tt)

/-! ### loops -/
def hid (M : List Addr) (H : Hp) : Hp := fun a => if a ∈ M then none else H a
theorem hid_in {M : List Addr} {a : Addr} (h : a ∈ M) : hid M H a = none := by unfold hid; rw [if_pos h]
theorem hid_out {M : List Addr} {a : Addr} (h : a ∉ M) : hid M H a = H a := by unfold hid; rw [if_neg h]
theorem hid_ex {M : List Addr} : Ex (hid M H) H := fun a o h => by
  by_cases q : a ∈ M
  · rw [hid_in q] at h; cases h
  · rw [hid_out q] at h; exact h
/-- for over typed items, a state t: its slots env t, what it holds of the heap G t; M: the addresses that the body may change; base Hb: the heap without these -/
theorem dn_forG {τ α : Type} {wi : TI} {g : TG} {tb : TS} {Hb : Hp} (M : List Addr) (xs : List α) (enc : α → D) {js : List Nat} {tgt : α → List D} (hg : ∀ x, DG g (enc x) js (tgt x))
    (P : Nat → τ → Prop) (env : τ → List (Option D)) (G : τ → Hp → Prop) (t0 : τ) (hi : DI wi Hb ρ (xs.map enc)) (hb : Ex Hb H) (hM : ∀ m ∈ M, Hb m = none ∧ ∃ o, H m = some o ∧ ∀ vs, o ≠ .tup vs)
    (stable : ∀ t H3 H4, G t H3 → Ex H3 H4 → G t H4) (p0 : P 0 t0) (e0 : Wk (env t0) ρ) (g0 : G t0 H)
    (turn : ∀ Hh, Ex Hb Hh → (∀ m ∈ M, Hh m = none) → ∀ i x t, xs[i]? = some x → P i t → ∀ H3, Ex Hh H3 → G t H3 →
      DN (tb { E with nx := fun σ' H' => ∃ t', P (i + 1) t' ∧ Ex Hh H' ∧ G t' H' ∧ EnvD H' σ' (env t'), ct := fun σ' H' => ∃ t', P (i + 1) t' ∧ Ex Hh H' ∧ G t' H' ∧ EnvD H' σ' (env t'), bk := E.nx }) H3 (setAll (env t) js (tgt x)))
    (done : ∀ t, P xs.length t → ∀ H3, Ex Hb H3 → G t H3 → DN E.nx H3 (env t)) : DN (tFor wi g tb E) H ρ := fun σ H1 x n =>
  hi σ H1 (hb.trans x) n _ fun J H2 src y hs w => by
    have nt : ∀ m ∈ M, ∀ vs, H2 m ≠ some (.tup vs) := fun m hm vs q => by
      obtain ⟨_, o, h1, h2⟩ := hM m hm
      rw [y _ _ (x _ _ h1)] at q
      exact h2 vs (Option.some.inj q)
    have nm : ∀ a ∈ src, a ∉ M := fun a ha hm => by
      obtain ⟨h0, o, h1, _⟩ := hM a hm
      rcases hs a ha with ⟨u, hu⟩ | hu
      · rw [h0] at hu; cases hu
      · rw [x _ _ h1] at hu; cases hu
    have ww := w (hid M H2) (fun a vs q => by
      rw [hid_out fun hm => nt a hm vs q]
      exact q) fun a ha => hid_out (nm a ha)
    have bh : Ex Hb (hid M H2) := fun a o q => by
      rw [hid_out fun hm => by
        obtain ⟨h0, _⟩ := hM a hm
        rw [h0] at q; cases q]
      exact y _ _ (x _ _ (hb _ _ q))
    refine for_it ww (fun i σ' H' => ∃ t', P i t' ∧ Ex (hid M H2) H' ∧ G t' H' ∧ EnvD H' σ' (env t')) ⟨t0, p0, hid_ex, stable _ _ _ g0 (x.trans y), (n.ex y).wk e0⟩ (fun i σ' H' _ z => by obtain ⟨_, _, z, _⟩ := z; exact z) (fun i v σ' H3 H4 hl z yl => ?_) fun σ' H' z => ?_
    · rw [List.length_map] at hl
      obtain ⟨t', p', z1, z2, z3⟩ := z
      obtain ⟨y1, d, yd, yr⟩ := yl
      have ex : xs[i]? = some xs[i] := by simp [hl]
      rw [List.getElem?_map, ex] at yd
      cases yd
      refine hg _ v _ H4 _ yr fun us ur => ?_
      exact turn (hid M H2) bh (fun m hm => hid_in hm) i _ t' ex p' H4 (z1.trans y1) (stable _ _ _ z2 y1) _ H4 (Ex.refl _) ((z3.ex y1).setAll ur)
    · rw [List.length_map] at z
      obtain ⟨t', p', z1, z2, z3⟩ := z
      exact done t' p' H' (bh.trans z1) z2 σ' H' (Ex.refl _) z3
theorem dn_whileG {τ : Type} {tc : TT} {tb : TS} {Hb : Hp} (P : τ → Prop) (m : τ → Nat) (env : τ → List (Option D)) (G : τ → Hp → Prop) (t0 : τ) (hb : Ex Hb H) (p0 : P t0) (e0 : Wk (env t0) ρ) (g0 : G t0 H) (stable : ∀ t H3 H4, G t H3 → Ex H3 H4 → G t H4)
    (turn : ∀ t, P t → ∀ H3, Ex Hb H3 → G t H3 → ∃ b, DT tc H3 (env t) b ∧
      (b = true → DN (tb { E with nx := fun σ' H' => ∃ t', m t' < m t ∧ P t' ∧ Ex Hb H' ∧ G t' H' ∧ EnvD H' σ' (env t'), ct := fun σ' H' => ∃ t', m t' < m t ∧ P t' ∧ Ex Hb H' ∧ G t' H' ∧ EnvD H' σ' (env t'), bk := E.nx }) H3 (env t)) ∧
      (b = false → DN E.nx H3 (env t))) : DN (tWhile tc tb E) H ρ := fun σ H1 x n => by
  refine ⟨fun k σ' H' => ∃ t', m t' = k ∧ P t' ∧ Ex Hb H' ∧ G t' H' ∧ EnvD H' σ' (env t'), ⟨m t0, t0, rfl, p0, hb.trans x, stable _ _ _ g0 x, n.wk e0⟩, ?_⟩
  rintro k σ' H' ⟨t, rfl, p, z1, z2, z3⟩
  obtain ⟨b, h1, h2, h3⟩ := turn t p H' z1 z2
  refine h1 σ' H' (Ex.refl _) z3 _ fun H2 y => ?_
  cases b with
  | true => exact iteT ⟨_, fun σ2 H3 z => by obtain ⟨t', a1, a2, a3, a4, a5⟩ := z; exact ⟨m t', a1, t', rfl, a2, a3, a4, a5⟩, h2 rfl σ' H2 y (z3.ex y)⟩
  | false => exact iteF (h3 rfl σ' H2 y (z3.ex y))
/-- for, where nothing that stands is changed -/
theorem dn_forP {τ α : Type} {wi : TI} {g : TG} {tb : TS} (xs : List α) (enc : α → D) {js : List Nat} {tgt : α → List D} (hg : ∀ x, DG g (enc x) js (tgt x))
    (P : Nat → τ → Prop) (env : τ → List (Option D)) (t0 : τ) (hi : DI wi H ρ (xs.map enc)) (p0 : P 0 t0) (e0 : Wk (env t0) ρ)
    (turn : ∀ Hh, Ex H Hh → ∀ i x t, xs[i]? = some x → P i t →
      DN (tb { E with nx := fun σ' H' => ∃ t', P (i + 1) t' ∧ Ex Hh H' ∧ True ∧ EnvD H' σ' (env t'), ct := fun σ' H' => ∃ t', P (i + 1) t' ∧ Ex Hh H' ∧ True ∧ EnvD H' σ' (env t'), bk := E.nx }) Hh (setAll (env t) js (tgt x)))
    (done : ∀ t, P xs.length t → DN E.nx H (env t)) : DN (tFor wi g tb E) H ρ :=
  dn_forG (Hb := H) [] xs enc hg P env (fun _ _ => True) t0 hi (Ex.refl _) (fun m hm => by cases hm) (fun _ _ _ _ _ => True.intro) p0 e0 True.intro
    (fun Hh hx _ i x t h1 h2 H3 h3 _ => (turn Hh hx i x t h1 h2).mono h3) (fun t h1 H3 h3 _ => (done t h1).mono h3)
/-- a loop's turn is through -/
theorem dn_turn {τ : Type} {Hh : Hp} {P : τ → Prop} {env : τ → List (Option D)} {G : τ → Hp → Prop} (t' : τ) (p : P t') (e : Wk (env t') ρ) (x : Ex Hh H) (g : G t' H) (stable : ∀ t H3 H4, G t H3 → Ex H3 H4 → G t H4) :
    DN (fun σ' H' => ∃ t', P t' ∧ Ex Hh H' ∧ G t' H' ∧ EnvD H' σ' (env t')) H ρ := fun σ H1 y n => ⟨t', p, x.trans y, stable _ _ _ g y, n.wk e⟩
theorem dn_turnW {τ : Type} {Hh : Hp} {k : Nat} {m : τ → Nat} {P : τ → Prop} {env : τ → List (Option D)} {G : τ → Hp → Prop} (t' : τ) (hm : m t' < k) (p : P t') (e : Wk (env t') ρ) (x : Ex Hh H) (g : G t' H) (stable : ∀ t H3 H4, G t H3 → Ex H3 H4 → G t H4) :
    DN (fun σ' H' => ∃ t', m t' < k ∧ P t' ∧ Ex Hh H' ∧ G t' H' ∧ EnvD H' σ' (env t')) H ρ := fun σ H1 y n => ⟨t', hm, p, x.trans y, stable _ _ _ g y, n.wk e⟩

theorem dn_turnP {τ : Type} {Hh : Hp} {P : τ → Prop} {env : τ → List (Option D)} (t' : τ) (p : P t') (e : Wk (env t') ρ) (x : Ex Hh H) :
    DN (fun σ' H' => ∃ t', P t' ∧ Ex Hh H' ∧ True ∧ EnvD H' σ' (env t')) H ρ := fun σ H1 y n => ⟨t', p, x.trans y, True.intro, n.wk e⟩

/-! ### a def's body -/
def startD (n : Nat) (ds : List D) : List (Option D) := ds.map some ++ List.replicate (n - ds.length) none
theorem start_env {N : List Str} {vs : List V} (r : Rps H ds vs) : EnvD H (L2.start N vs) (startD N.length ds) := by
  have hl := r.length
  refine ⟨by unfold L2.start startD; simp [hl], fun i d q => ?_⟩
  unfold startD at q
  unfold L2.start
  by_cases hi : i < ds.length
  · rw [List.getElem?_append_left (by simpa using hi), List.getElem?_map] at q
    cases e : ds[i]? with
    | none => rw [e] at q; cases q
    | some d' =>
      rw [e] at q
      cases q
      obtain ⟨v, h1, h2⟩ := r.get e
      exact ⟨v, by rw [List.getElem?_append_left (by simpa [hl] using hi), List.getElem?_map, h1]; rfl, h2⟩
  · rw [List.getElem?_append_right (by simpa using hi)] at q
    rw [List.getElem?_replicate] at q
    split at q <;> cases q
/-- the reading of a def's body, from its promise -/
theorem rd_D {R : List D → D → Prop} {N : List Str} {t : TS} (h : ∀ ds d, R ds d → ∀ (E : Ends) H, Ret E H d → DN (t E) H (startD N.length ds)) : ∀ vs H Q E, spD R vs H Q E → t { nx := fun _ H' => Q .non H', rt := Q } (L2.start N vs) H := fun vs H Q E z => by
  obtain ⟨ds, d, r, hr, k⟩ := z
  exact h ds d hr { nx := fun _ H' => Q .non H', rt := Q } H k _ H (Ex.refl _) (start_env r)
theorem rd_D' {R : List D → D → Prop} {N : List Str} {t : TS} (h : ∀ ds d, R ds d → ∀ (Q : VK) H, (∀ v H', Ex H H' → Rp H' d v → Q v H') → DN (t { nx := fun _ H' => Q .non H', rt := Q }) H (startD N.length ds)) : ∀ vs H Q E, spD R vs H Q E → t { nx := fun _ H' => Q .non H', rt := Q } (L2.start N vs) H := fun vs H Q E z => by
  obtain ⟨ds, d, r, hr, k⟩ := z
  exact h ds d hr Q H k _ H (Ex.refl _) (start_env r)
theorem rd_L {R : List D → List D → Prop} {N : List Str} {t : TS} (h : ∀ ds es, R ds es → ∀ (E : Ends) H, RetL E H es → DN (t E) H (startD N.length ds)) : ∀ vs H Q E, spL R vs H Q E → t { nx := fun _ H' => Q .non H', rt := Q } (L2.start N vs) H := fun vs H Q E z => by
  obtain ⟨ds, d, r, hr, k⟩ := z
  exact h ds d hr { nx := fun _ H' => Q .non H', rt := Q } H k _ H (Ex.refl _) (start_env r)
theorem rd_G {R : Hp → List D → VK → Prop} {N : List Str} {t : TS} (h : ∀ ds H Q, R H ds Q → DN (t { nx := fun _ H' => Q .non H', rt := Q }) H (startD N.length ds)) : ∀ vs H Q E, spG R vs H Q E → t { nx := fun _ H' => Q .non H', rt := Q } (L2.start N vs) H := fun vs H Q E z => by
  obtain ⟨ds, r, hr⟩ := z
  exact h ds H Q hr _ H (Ex.refl _) (start_env r)
theorem len_D {R : List D → D → Prop} {n : Nat} (h : ∀ ds d, R ds d → ds.length = n) : ∀ vs H Q E, spD R vs H Q E → vs.length = n := fun vs H Q E z => by
  obtain ⟨ds, d, r, hr, k⟩ := z
  rw [r.length]
  exact h ds d hr
theorem len_L {R : List D → List D → Prop} {n : Nat} (h : ∀ ds d, R ds d → ds.length = n) : ∀ vs H Q E, spL R vs H Q E → vs.length = n := fun vs H Q E z => by
  obtain ⟨ds, d, r, hr, k⟩ := z
  rw [r.length]
  exact h ds d hr
theorem len_G {R : Hp → List D → VK → Prop} {n : Nat} (h : ∀ H ds Q, R H ds Q → ds.length = n) : ∀ vs H Q E, spG R vs H Q E → vs.length = n := fun vs H Q E z => by
  obtain ⟨ds, r, hr⟩ := z
  rw [r.length]
  exact h H ds Q hr
end
end GC

-- part KR
set_option Elab.async false
set_option linter.all false
set_option maxRecDepth 100000
set_option maxHeartbeats 4000000
namespace GC
open PySem PySem.Spec PyProof.Rows L2
/-- the head's facts -/
structure Hd (K : PySem.W.Frag) (mg : Str → Option Value) : Prop where
  c : SaysM faL fnL K
  x : ∃ h : Heap, K.In h ∧ h.Ns mainGlobals mg
section
variable {K : PySem.W.Frag} {mg : Str → Option Value}

theorem glo_is_between (hd : Hd K mg) : mg "is_between" = some (.ref (He.ga K "is_between")) := let ⟨_, X, G⟩ := hd.x; He.glo_ok X G (hd.c.d.fact 0 (f := .glo "is_between") rfl)
theorem glo_is_word (hd : Hd K mg) : mg "is_word" = some (.ref (He.ga K "is_word")) := let ⟨_, X, G⟩ := hd.x; He.glo_ok X G (hd.c.d.fact 1 (f := .glo "is_word") rfl)
theorem glo_is_entry (hd : Hd K mg) : mg "is_entry" = some (.ref (He.ga K "is_entry")) := let ⟨_, X, G⟩ := hd.x; He.glo_ok X G (hd.c.d.fact 2 (f := .glo "is_entry") rfl)
theorem glo_is_list (hd : Hd K mg) : mg "is_list" = some (.ref (He.ga K "is_list")) := let ⟨_, X, G⟩ := hd.x; He.glo_ok X G (hd.c.d.fact 3 (f := .glo "is_list") rfl)
theorem glo_letters_in (hd : Hd K mg) : mg "letters_in" = some (.ref (He.ga K "letters_in")) := let ⟨_, X, G⟩ := hd.x; He.glo_ok X G (hd.c.d.fact 4 (f := .glo "letters_in") rfl)
theorem glo_names_in (hd : Hd K mg) : mg "names_in" = some (.ref (He.ga K "names_in")) := let ⟨_, X, G⟩ := hd.x; He.glo_ok X G (hd.c.d.fact 5 (f := .glo "names_in") rfl)
theorem glo_cost_in (hd : Hd K mg) : mg "cost_in" = some (.ref (He.ga K "cost_in")) := let ⟨_, X, G⟩ := hd.x; He.glo_ok X G (hd.c.d.fact 6 (f := .glo "cost_in") rfl)
theorem glo_has_word (hd : Hd K mg) : mg "has_word" = some (.ref (He.ga K "has_word")) := let ⟨_, X, G⟩ := hd.x; He.glo_ok X G (hd.c.d.fact 7 (f := .glo "has_word") rfl)
theorem glo_words_from (hd : Hd K mg) : mg "words_from" = some (.ref (He.ga K "words_from")) := let ⟨_, X, G⟩ := hd.x; He.glo_ok X G (hd.c.d.fact 8 (f := .glo "words_from") rfl)
theorem glo_longest_from (hd : Hd K mg) : mg "longest_from" = some (.ref (He.ga K "longest_from")) := let ⟨_, X, G⟩ := hd.x; He.glo_ok X G (hd.c.d.fact 9 (f := .glo "longest_from") rfl)
theorem glo_is_integer (hd : Hd K mg) : mg "is_integer" = some (.ref (He.ga K "is_integer")) := let ⟨_, X, G⟩ := hd.x; He.glo_ok X G (hd.c.d.fact 10 (f := .glo "is_integer") rfl)
theorem glo_check_words (hd : Hd K mg) : mg "check_words" = some (.ref (He.ga K "check_words")) := let ⟨_, X, G⟩ := hd.x; He.glo_ok X G (hd.c.d.fact 11 (f := .glo "check_words") rfl)
theorem glo_match_of (hd : Hd K mg) : mg "match_of" = some (.ref (He.ga K "match_of")) := let ⟨_, X, G⟩ := hd.x; He.glo_ok X G (hd.c.d.fact 12 (f := .glo "match_of") rfl)
theorem glo_cost_of_row (hd : Hd K mg) : mg "cost_of_row" = some (.ref (He.ga K "cost_of_row")) := let ⟨_, X, G⟩ := hd.x; He.glo_ok X G (hd.c.d.fact 13 (f := .glo "cost_of_row") rfl)
theorem glo_can_grow (hd : Hd K mg) : mg "can_grow" = some (.ref (He.ga K "can_grow")) := let ⟨_, X, G⟩ := hd.x; He.glo_ok X G (hd.c.d.fact 14 (f := .glo "can_grow") rfl)
theorem glo_read_on (hd : Hd K mg) : mg "read_on" = some (.ref (He.ga K "read_on")) := let ⟨_, X, G⟩ := hd.x; He.glo_ok X G (hd.c.d.fact 15 (f := .glo "read_on") rfl)
theorem glo_steps_of (hd : Hd K mg) : mg "steps_of" = some (.ref (He.ga K "steps_of")) := let ⟨_, X, G⟩ := hd.x; He.glo_ok X G (hd.c.d.fact 16 (f := .glo "steps_of") rfl)
theorem glo_is_triple (hd : Hd K mg) : mg "is_triple" = some (.ref (He.ga K "is_triple")) := let ⟨_, X, G⟩ := hd.x; He.glo_ok X G (hd.c.d.fact 17 (f := .glo "is_triple") rfl)
theorem glo_is_table (hd : Hd K mg) : mg "is_table" = some (.ref (He.ga K "is_table")) := let ⟨_, X, G⟩ := hd.x; He.glo_ok X G (hd.c.d.fact 18 (f := .glo "is_table") rfl)
theorem glo_ends_well (hd : Hd K mg) : mg "ends_well" = some (.ref (He.ga K "ends_well")) := let ⟨_, X, G⟩ := hd.x; He.glo_ok X G (hd.c.d.fact 19 (f := .glo "ends_well") rfl)
theorem glo_goes_well (hd : Hd K mg) : mg "goes_well" = some (.ref (He.ga K "goes_well")) := let ⟨_, X, G⟩ := hd.x; He.glo_ok X G (hd.c.d.fact 20 (f := .glo "goes_well") rfl)
theorem glo_is_over (hd : Hd K mg) : mg "is_over" = some (.ref (He.ga K "is_over")) := let ⟨_, X, G⟩ := hd.x; He.glo_ok X G (hd.c.d.fact 21 (f := .glo "is_over") rfl)
theorem glo_fit (hd : Hd K mg) : mg "fit" = some (.ref (He.ga K "fit")) := let ⟨_, X, G⟩ := hd.x; He.glo_ok X G (hd.c.d.fact 22 (f := .glo "fit") rfl)
theorem glo_is_row (hd : Hd K mg) : mg "is_row" = some (.ref (He.ga K "is_row")) := let ⟨_, X, G⟩ := hd.x; He.glo_ok X G (hd.c.d.fact 23 (f := .glo "is_row") rfl)
theorem glo_is_long_text (hd : Hd K mg) : mg "is_long_text" = some (.ref (He.ga K "is_long_text")) := let ⟨_, X, G⟩ := hd.x; He.glo_ok X G (hd.c.d.fact 24 (f := .glo "is_long_text") rfl)
theorem glo_read_all (hd : Hd K mg) : mg "read_all" = some (.ref (He.ga K "read_all")) := let ⟨_, X, G⟩ := hd.x; He.glo_ok X G (hd.c.d.fact 25 (f := .glo "read_all") rfl)
theorem glo_sums_of (hd : Hd K mg) : mg "sums_of" = some (.ref (He.ga K "sums_of")) := let ⟨_, X, G⟩ := hd.x; He.glo_ok X G (hd.c.d.fact 26 (f := .glo "sums_of") rfl)
theorem glo_lowest (hd : Hd K mg) : mg "lowest" = some (.ref (He.ga K "lowest")) := let ⟨_, X, G⟩ := hd.x; He.glo_ok X G (hd.c.d.fact 27 (f := .glo "lowest") rfl)
theorem glo_settle (hd : Hd K mg) : mg "settle" = some (.ref (He.ga K "settle")) := let ⟨_, X, G⟩ := hd.x; He.glo_ok X G (hd.c.d.fact 28 (f := .glo "settle") rfl)
theorem glo_excess_of (hd : Hd K mg) : mg "excess_of" = some (.ref (He.ga K "excess_of")) := let ⟨_, X, G⟩ := hd.x; He.glo_ok X G (hd.c.d.fact 29 (f := .glo "excess_of") rfl)
theorem glo_worst_ratio (hd : Hd K mg) : mg "worst_ratio" = some (.ref (He.ga K "worst_ratio")) := let ⟨_, X, G⟩ := hd.x; He.glo_ok X G (hd.c.d.fact 30 (f := .glo "worst_ratio") rfl)
theorem glo_worst_excess (hd : Hd K mg) : mg "worst_excess" = some (.ref (He.ga K "worst_excess")) := let ⟨_, X, G⟩ := hd.x; He.glo_ok X G (hd.c.d.fact 31 (f := .glo "worst_excess") rfl)
theorem glo_way_to (hd : Hd K mg) : mg "way_to" = some (.ref (He.ga K "way_to")) := let ⟨_, X, G⟩ := hd.x; He.glo_ok X G (hd.c.d.fact 32 (f := .glo "way_to") rfl)
theorem glo_told_by (hd : Hd K mg) : mg "told_by" = some (.ref (He.ga K "told_by")) := let ⟨_, X, G⟩ := hd.x; He.glo_ok X G (hd.c.d.fact 33 (f := .glo "told_by") rfl)
theorem glo_tight_circle (hd : Hd K mg) : mg "tight_circle" = some (.ref (He.ga K "tight_circle")) := let ⟨_, X, G⟩ := hd.x; He.glo_ok X G (hd.c.d.fact 34 (f := .glo "tight_circle") rfl)
theorem glo_answer_of (hd : Hd K mg) : mg "answer_of" = some (.ref (He.ga K "answer_of")) := let ⟨_, X, G⟩ := hd.x; He.glo_ok X G (hd.c.d.fact 35 (f := .glo "answer_of") rfl)
theorem glo_answer_for (hd : Hd K mg) : mg "answer_for" = some (.ref (He.ga K "answer_for")) := let ⟨_, X, G⟩ := hd.x; He.glo_ok X G (hd.c.d.fact 36 (f := .glo "answer_for") rfl)
theorem glo_is_ratio (hd : Hd K mg) : mg "is_ratio" = some (.ref (He.ga K "is_ratio")) := let ⟨_, X, G⟩ := hd.x; He.glo_ok X G (hd.c.d.fact 37 (f := .glo "is_ratio") rfl)
theorem glo_is_shown (hd : Hd K mg) : mg "is_shown" = some (.ref (He.ga K "is_shown")) := let ⟨_, X, G⟩ := hd.x; He.glo_ok X G (hd.c.d.fact 38 (f := .glo "is_shown") rfl)
theorem glo_accepts_answer (hd : Hd K mg) : mg "accepts_answer" = some (.ref (He.ga K "accepts_answer")) := let ⟨_, X, G⟩ := hd.x; He.glo_ok X G (hd.c.d.fact 39 (f := .glo "accepts_answer") rfl)
theorem glo__law_stream (hd : Hd K mg) : mg "_law_stream" = some (.ref (He.ga K "_law_stream")) := let ⟨_, X, G⟩ := hd.x; He.glo_ok X G (hd.c.d.fact 40 (f := .glo "_law_stream") rfl)
theorem glo__law_next (hd : Hd K mg) : mg "_law_next" = some (.ref (He.ga K "_law_next")) := let ⟨_, X, G⟩ := hd.x; He.glo_ok X G (hd.c.d.fact 41 (f := .glo "_law_next") rfl)
theorem glo__law_is_integer (hd : Hd K mg) : mg "_law_is_integer" = some (.ref (He.ga K "_law_is_integer")) := let ⟨_, X, G⟩ := hd.x; He.glo_ok X G (hd.c.d.fact 42 (f := .glo "_law_is_integer") rfl)
theorem glo__law_equal (hd : Hd K mg) : mg "_law_equal" = some (.ref (He.ga K "_law_equal")) := let ⟨_, X, G⟩ := hd.x; He.glo_ok X G (hd.c.d.fact 43 (f := .glo "_law_equal") rfl)
theorem glo__law_cost (hd : Hd K mg) : mg "_law_cost" = some (.ref (He.ga K "_law_cost")) := let ⟨_, X, G⟩ := hd.x; He.glo_ok X G (hd.c.d.fact 44 (f := .glo "_law_cost") rfl)
theorem glo__law_words (hd : Hd K mg) : mg "_law_words" = some (.ref (He.ga K "_law_words")) := let ⟨_, X, G⟩ := hd.x; He.glo_ok X G (hd.c.d.fact 45 (f := .glo "_law_words") rfl)
theorem glo__law_letters (hd : Hd K mg) : mg "_law_letters" = some (.ref (He.ga K "_law_letters")) := let ⟨_, X, G⟩ := hd.x; He.glo_ok X G (hd.c.d.fact 46 (f := .glo "_law_letters") rfl)
theorem glo__law_match (hd : Hd K mg) : mg "_law_match" = some (.ref (He.ga K "_law_match")) := let ⟨_, X, G⟩ := hd.x; He.glo_ok X G (hd.c.d.fact 47 (f := .glo "_law_match") rfl)
theorem glo__law_sum (hd : Hd K mg) : mg "_law_sum" = some (.ref (He.ga K "_law_sum")) := let ⟨_, X, G⟩ := hd.x; He.glo_ok X G (hd.c.d.fact 48 (f := .glo "_law_sum") rfl)
theorem glo__law_all_texts (hd : Hd K mg) : mg "_law_all_texts" = some (.ref (He.ga K "_law_all_texts")) := let ⟨_, X, G⟩ := hd.x; He.glo_ok X G (hd.c.d.fact 49 (f := .glo "_law_all_texts") rfl)
theorem glo__law_least (hd : Hd K mg) : mg "_law_least" = some (.ref (He.ga K "_law_least")) := let ⟨_, X, G⟩ := hd.x; He.glo_ok X G (hd.c.d.fact 50 (f := .glo "_law_least") rfl)
theorem glo__law_grows (hd : Hd K mg) : mg "_law_grows" = some (.ref (He.ga K "_law_grows")) := let ⟨_, X, G⟩ := hd.x; He.glo_ok X G (hd.c.d.fact 51 (f := .glo "_law_grows") rfl)
theorem glo__law_read (hd : Hd K mg) : mg "_law_read" = some (.ref (He.ga K "_law_read")) := let ⟨_, X, G⟩ := hd.x; He.glo_ok X G (hd.c.d.fact 52 (f := .glo "_law_read") rfl)
theorem glo__law_steps (hd : Hd K mg) : mg "_law_steps" = some (.ref (He.ga K "_law_steps")) := let ⟨_, X, G⟩ := hd.x; He.glo_ok X G (hd.c.d.fact 53 (f := .glo "_law_steps") rfl)
theorem glo__law_is_row (hd : Hd K mg) : mg "_law_is_row" = some (.ref (He.ga K "_law_is_row")) := let ⟨_, X, G⟩ := hd.x; He.glo_ok X G (hd.c.d.fact 54 (f := .glo "_law_is_row") rfl)
theorem glo__law_is_text (hd : Hd K mg) : mg "_law_is_text" = some (.ref (He.ga K "_law_is_text")) := let ⟨_, X, G⟩ := hd.x; He.glo_ok X G (hd.c.d.fact 55 (f := .glo "_law_is_text") rfl)
theorem glo__law_sums (hd : Hd K mg) : mg "_law_sums" = some (.ref (He.ga K "_law_sums")) := let ⟨_, X, G⟩ := hd.x; He.glo_ok X G (hd.c.d.fact 56 (f := .glo "_law_sums") rfl)
theorem glo__law_are_right (hd : Hd K mg) : mg "_law_are_right" = some (.ref (He.ga K "_law_are_right")) := let ⟨_, X, G⟩ := hd.x; He.glo_ok X G (hd.c.d.fact 57 (f := .glo "_law_are_right") rfl)
theorem glo__law_accepts (hd : Hd K mg) : mg "_law_accepts" = some (.ref (He.ga K "_law_accepts")) := let ⟨_, X, G⟩ := hd.x; He.glo_ok X G (hd.c.d.fact 58 (f := .glo "_law_accepts") rfl)
theorem glo_law (hd : Hd K mg) : mg "law" = some (.ref (He.ga K "law")) := let ⟨_, X, G⟩ := hd.x; He.glo_ok X G (hd.c.d.fact 59 (f := .glo "law") rfl)
theorem glo_Graph (hd : Hd K mg) : mg "Graph" = some (.ref (He.ga K "Graph")) := let ⟨_, X, G⟩ := hd.x; He.glo_ok X G (hd.c.d.fact 60 (f := .glo "Graph") rfl)
theorem cls_Graph (hd : Hd K mg) : Cls K (He.ga K "Graph") := He.cls_ok (hd.c.d.fact 61 (f := .cls "Graph") rfl)
theorem mkr_Graph (hd : Hd K mg) : Mk K (He.ga K "Graph") (He.ma K (He.ga K "Graph") "__init__") := He.mkr_ok (hd.c.d.fact 62 (f := .mkr "Graph") rfl)
theorem noat_Graph_words (hd : Hd K mg) : NoAttr K (He.ga K "Graph") "words" := He.noat_ok (hd.c.d.fact 63 (f := .noat "Graph" "words") rfl)
theorem noat_Graph_pairs (hd : Hd K mg) : NoAttr K (He.ga K "Graph") "pairs" := He.noat_ok (hd.c.d.fact 64 (f := .noat "Graph" "pairs") rfl)
theorem noat_Graph_places (hd : Hd K mg) : NoAttr K (He.ga K "Graph") "places" := He.noat_ok (hd.c.d.fact 65 (f := .noat "Graph" "places") rfl)
theorem noat_Graph_edges (hd : Hd K mg) : NoAttr K (He.ga K "Graph") "edges" := He.noat_ok (hd.c.d.fact 66 (f := .noat "Graph" "edges") rfl)
theorem meth_Graph_add_steps (hd : Hd K mg) : Meth K (He.ga K "Graph") "add_steps" (He.ma K (He.ga K "Graph") "add_steps") := He.meth_ok (hd.c.d.fact 67 (f := .meth "Graph" "add_steps") rfl)
theorem glo_Climb (hd : Hd K mg) : mg "Climb" = some (.ref (He.ga K "Climb")) := let ⟨_, X, G⟩ := hd.x; He.glo_ok X G (hd.c.d.fact 68 (f := .glo "Climb") rfl)
theorem cls_Climb (hd : Hd K mg) : Cls K (He.ga K "Climb") := He.cls_ok (hd.c.d.fact 69 (f := .cls "Climb") rfl)
theorem mkr_Climb (hd : Hd K mg) : Mk K (He.ga K "Climb") (He.ma K (He.ga K "Climb") "__init__") := He.mkr_ok (hd.c.d.fact 70 (f := .mkr "Climb") rfl)
theorem noat_Climb_graph (hd : Hd K mg) : NoAttr K (He.ga K "Climb") "graph" := He.noat_ok (hd.c.d.fact 71 (f := .noat "Climb" "graph") rfl)
theorem noat_Climb_heights (hd : Hd K mg) : NoAttr K (He.ga K "Climb") "heights" := He.noat_ok (hd.c.d.fact 72 (f := .noat "Climb" "heights") rfl)
theorem noat_Climb_last (hd : Hd K mg) : NoAttr K (He.ga K "Climb") "last" := He.noat_ok (hd.c.d.fact 73 (f := .noat "Climb" "last") rfl)
theorem noat_Climb_weights (hd : Hd K mg) : NoAttr K (He.ga K "Climb") "weights" := He.noat_ok (hd.c.d.fact 74 (f := .noat "Climb" "weights") rfl)
theorem meth_Climb_rise (hd : Hd K mg) : Meth K (He.ga K "Climb") "rise" (He.ma K (He.ga K "Climb") "rise") := He.meth_ok (hd.c.d.fact 75 (f := .meth "Climb" "rise") rfl)
theorem meth_Climb_circle (hd : Hd K mg) : Meth K (He.ga K "Climb") "circle" (He.ma K (He.ga K "Climb") "circle") := He.meth_ok (hd.c.d.fact 76 (f := .meth "Climb" "circle") rfl)
theorem int_LONGEST (hd : Hd K mg) : ∃ t, mg "LONGEST" = some (.int 4 t) := let ⟨_, X, G⟩ := hd.x; He.int_ok X G (hd.c.d.fact 77 (f := .int "LONGEST" 4) rfl)
theorem int_MOST_WORDS (hd : Hd K mg) : ∃ t, mg "MOST_WORDS" = some (.int 8 t) := let ⟨_, X, G⟩ := hd.x; He.int_ok X G (hd.c.d.fact 78 (f := .int "MOST_WORDS" 8) rfl)
theorem int_MOST_COST (hd : Hd K mg) : ∃ t, mg "MOST_COST" = some (.int 9 t) := let ⟨_, X, G⟩ := hd.x; He.int_ok X G (hd.c.d.fact 79 (f := .int "MOST_COST" 9) rfl)
theorem str_ALPHABET (hd : Hd K mg) : ∃ t, mg "ALPHABET" = some (.str "abcdefghijklmnopqrstuvwxyz" t) := let ⟨_, X, G⟩ := hd.x; He.str_ok X G (hd.c.d.fact 80 (f := .str "ALPHABET" "abcdefghijklmnopqrstuvwxyz") rfl)
theorem free_len (hd : Hd K mg) : mg "len" = none := let ⟨_, X, G⟩ := hd.x; He.free_ok X G (hd.c.d.fact 81 (f := .free "len") rfl)
theorem free_range (hd : Hd K mg) : mg "range" = none := let ⟨_, X, G⟩ := hd.x; He.free_ok X G (hd.c.d.fact 82 (f := .free "range") rfl)
theorem free_all (hd : Hd K mg) : mg "all" = none := let ⟨_, X, G⟩ := hd.x; He.free_ok X G (hd.c.d.fact 83 (f := .free "all") rfl)
theorem free_any (hd : Hd K mg) : mg "any" = none := let ⟨_, X, G⟩ := hd.x; He.free_ok X G (hd.c.d.fact 84 (f := .free "any") rfl)
theorem free_sum (hd : Hd K mg) : mg "sum" = none := let ⟨_, X, G⟩ := hd.x; He.free_ok X G (hd.c.d.fact 85 (f := .free "sum") rfl)
theorem free_min (hd : Hd K mg) : mg "min" = none := let ⟨_, X, G⟩ := hd.x; He.free_ok X G (hd.c.d.fact 86 (f := .free "min") rfl)
theorem free_max (hd : Hd K mg) : mg "max" = none := let ⟨_, X, G⟩ := hd.x; He.free_ok X G (hd.c.d.fact 87 (f := .free "max") rfl)
theorem free_sorted (hd : Hd K mg) : mg "sorted" = none := let ⟨_, X, G⟩ := hd.x; He.free_ok X G (hd.c.d.fact 88 (f := .free "sorted") rfl)
theorem free_abs (hd : Hd K mg) : mg "abs" = none := let ⟨_, X, G⟩ := hd.x; He.free_ok X G (hd.c.d.fact 89 (f := .free "abs") rfl)
theorem free_int (hd : Hd K mg) : mg "int" = none := let ⟨_, X, G⟩ := hd.x; He.free_ok X G (hd.c.d.fact 90 (f := .free "int") rfl)
theorem free_tuple (hd : Hd K mg) : mg "tuple" = none := let ⟨_, X, G⟩ := hd.x; He.free_ok X G (hd.c.d.fact 91 (f := .free "tuple") rfl)
theorem free_list (hd : Hd K mg) : mg "list" = none := let ⟨_, X, G⟩ := hd.x; He.free_ok X G (hd.c.d.fact 92 (f := .free "list") rfl)
theorem free_isinstance (hd : Hd K mg) : mg "isinstance" = none := let ⟨_, X, G⟩ := hd.x; He.free_ok X G (hd.c.d.fact 93 (f := .free "isinstance") rfl)
theorem free_enumerate (hd : Hd K mg) : mg "enumerate" = none := let ⟨_, X, G⟩ := hd.x; He.free_ok X G (hd.c.d.fact 94 (f := .free "enumerate") rfl)
theorem free_zip (hd : Hd K mg) : mg "zip" = none := let ⟨_, X, G⟩ := hd.x; He.free_ok X G (hd.c.d.fact 95 (f := .free "zip") rfl)
theorem free_str (hd : Hd K mg) : mg "str" = none := let ⟨_, X, G⟩ := hd.x; He.free_ok X G (hd.c.d.fact 96 (f := .free "str") rfl)
theorem free_bool (hd : Hd K mg) : mg "bool" = none := let ⟨_, X, G⟩ := hd.x; He.free_ok X G (hd.c.d.fact 97 (f := .free "bool") rfl)
theorem gcd_is (hd : Hd K mg) : mg "gcd" = some (.builtin "math.gcd") := let ⟨_, X, G⟩ := hd.x; PySem.W.mg_of X G (He.eqO_ok hd.c.e)
theorem fun_is_between (hd : Hd K mg) : ∃ fd, FunD K "is_between" "is_between" (defArgs st_is_between) (defBody st_is_between) (defScope st_is_between) [] [] (He.ga K "is_between") fd := hd.c.d.def_ 0 (d := df_is_between) rfl
theorem fun_is_word (hd : Hd K mg) : ∃ fd, FunD K "is_word" "is_word" (defArgs st_is_word) (defBody st_is_word) (defScope st_is_word) [] [] (He.ga K "is_word") fd := hd.c.d.def_ 1 (d := df_is_word) rfl
theorem fun_is_entry (hd : Hd K mg) : ∃ fd, FunD K "is_entry" "is_entry" (defArgs st_is_entry) (defBody st_is_entry) (defScope st_is_entry) [] [] (He.ga K "is_entry") fd := hd.c.d.def_ 2 (d := df_is_entry) rfl
theorem fun_is_list (hd : Hd K mg) : ∃ fd, FunD K "is_list" "is_list" (defArgs st_is_list) (defBody st_is_list) (defScope st_is_list) [] [] (He.ga K "is_list") fd := hd.c.d.def_ 3 (d := df_is_list) rfl
theorem fun_letters_in (hd : Hd K mg) : ∃ fd, FunD K "letters_in" "letters_in" (defArgs st_letters_in) (defBody st_letters_in) (defScope st_letters_in) [] [] (He.ga K "letters_in") fd := hd.c.d.def_ 4 (d := df_letters_in) rfl
theorem fun_names_in (hd : Hd K mg) : ∃ fd, FunD K "names_in" "names_in" (defArgs st_names_in) (defBody st_names_in) (defScope st_names_in) [] [] (He.ga K "names_in") fd := hd.c.d.def_ 5 (d := df_names_in) rfl
theorem fun_cost_in (hd : Hd K mg) : ∃ fd, FunD K "cost_in" "cost_in" (defArgs st_cost_in) (defBody st_cost_in) (defScope st_cost_in) [] [] (He.ga K "cost_in") fd := hd.c.d.def_ 6 (d := df_cost_in) rfl
theorem fun_has_word (hd : Hd K mg) : ∃ fd, FunD K "has_word" "has_word" (defArgs st_has_word) (defBody st_has_word) (defScope st_has_word) [] [] (He.ga K "has_word") fd := hd.c.d.def_ 7 (d := df_has_word) rfl
theorem fun_words_from (hd : Hd K mg) : ∃ fd, FunD K "words_from" "words_from" (defArgs st_words_from) (defBody st_words_from) (defScope st_words_from) [] [] (He.ga K "words_from") fd := hd.c.d.def_ 8 (d := df_words_from) rfl
theorem fun_longest_from (hd : Hd K mg) : ∃ fd, FunD K "longest_from" "longest_from" (defArgs st_longest_from) (defBody st_longest_from) (defScope st_longest_from) [] [] (He.ga K "longest_from") fd := hd.c.d.def_ 9 (d := df_longest_from) rfl
theorem fun_is_integer (hd : Hd K mg) : ∃ fd, FunD K "is_integer" "is_integer" (defArgs st_is_integer) (defBody st_is_integer) (defScope st_is_integer) [] [] (He.ga K "is_integer") fd := hd.c.d.def_ 10 (d := df_is_integer) rfl
theorem fun_check_words (hd : Hd K mg) : ∃ fd, FunD K "check_words" "check_words" (defArgs st_check_words) (defBody st_check_words) (defScope st_check_words) [] [] (He.ga K "check_words") fd := hd.c.d.def_ 11 (d := df_check_words) rfl
theorem fun_match_of (hd : Hd K mg) : ∃ fd, FunD K "match_of" "match_of" (defArgs st_match_of) (defBody st_match_of) (defScope st_match_of) [] [] (He.ga K "match_of") fd := hd.c.d.def_ 12 (d := df_match_of) rfl
theorem fun_cost_of_row (hd : Hd K mg) : ∃ fd, FunD K "cost_of_row" "cost_of_row" (defArgs st_cost_of_row) (defBody st_cost_of_row) (defScope st_cost_of_row) [] [] (He.ga K "cost_of_row") fd := hd.c.d.def_ 13 (d := df_cost_of_row) rfl
theorem fun_can_grow (hd : Hd K mg) : ∃ fd, FunD K "can_grow" "can_grow" (defArgs st_can_grow) (defBody st_can_grow) (defScope st_can_grow) [] [] (He.ga K "can_grow") fd := hd.c.d.def_ 14 (d := df_can_grow) rfl
theorem fun_read_on (hd : Hd K mg) : ∃ fd, FunD K "read_on" "read_on" (defArgs st_read_on) (defBody st_read_on) (defScope st_read_on) [] [] (He.ga K "read_on") fd := hd.c.d.def_ 15 (d := df_read_on) rfl
theorem fun_steps_of (hd : Hd K mg) : ∃ fd, FunD K "steps_of" "steps_of" (defArgs st_steps_of) (defBody st_steps_of) (defScope st_steps_of) [] [] (He.ga K "steps_of") fd := hd.c.d.def_ 16 (d := df_steps_of) rfl
theorem fun_Graph___init__ (hd : Hd K mg) : ∃ fd, FunD K "__init__" "Graph.__init__" (defArgs st_Graph___init__) (defBody st_Graph___init__) (defScope st_Graph___init__) [] [] (He.ma K (He.ga K "Graph") "__init__") fd := hd.c.d.def_ 17 (d := df_Graph___init__) rfl
theorem fun_Graph_add_steps (hd : Hd K mg) : ∃ fd, FunD K "add_steps" "Graph.add_steps" (defArgs st_Graph_add_steps) (defBody st_Graph_add_steps) (defScope st_Graph_add_steps) [] [] (He.ma K (He.ga K "Graph") "add_steps") fd := hd.c.d.def_ 18 (d := df_Graph_add_steps) rfl
theorem fun_is_triple (hd : Hd K mg) : ∃ fd, FunD K "is_triple" "is_triple" (defArgs st_is_triple) (defBody st_is_triple) (defScope st_is_triple) [] [] (He.ga K "is_triple") fd := hd.c.d.def_ 19 (d := df_is_triple) rfl
theorem fun_is_table (hd : Hd K mg) : ∃ fd, FunD K "is_table" "is_table" (defArgs st_is_table) (defBody st_is_table) (defScope st_is_table) [] [] (He.ga K "is_table") fd := hd.c.d.def_ 20 (d := df_is_table) rfl
theorem fun_ends_well (hd : Hd K mg) : ∃ fd, FunD K "ends_well" "ends_well" (defArgs st_ends_well) (defBody st_ends_well) (defScope st_ends_well) [] [] (He.ga K "ends_well") fd := hd.c.d.def_ 21 (d := df_ends_well) rfl
theorem fun_goes_well (hd : Hd K mg) : ∃ fd, FunD K "goes_well" "goes_well" (defArgs st_goes_well) (defBody st_goes_well) (defScope st_goes_well) [] [] (He.ga K "goes_well") fd := hd.c.d.def_ 22 (d := df_goes_well) rfl
theorem fun_is_over (hd : Hd K mg) : ∃ fd, FunD K "is_over" "is_over" (defArgs st_is_over) (defBody st_is_over) (defScope st_is_over) [] [] (He.ga K "is_over") fd := hd.c.d.def_ 23 (d := df_is_over) rfl
theorem fun_fit (hd : Hd K mg) : ∃ fd, FunD K "fit" "fit" (defArgs st_fit) (defBody st_fit) (defScope st_fit) [] [] (He.ga K "fit") fd := hd.c.d.def_ 24 (d := df_fit) rfl
theorem fun_Climb___init__ (hd : Hd K mg) : ∃ fd, FunD K "__init__" "Climb.__init__" (defArgs st_Climb___init__) (defBody st_Climb___init__) (defScope st_Climb___init__) [] [] (He.ma K (He.ga K "Climb") "__init__") fd := hd.c.d.def_ 25 (d := df_Climb___init__) rfl
theorem fun_Climb_rise (hd : Hd K mg) : ∃ fd, FunD K "rise" "Climb.rise" (defArgs st_Climb_rise) (defBody st_Climb_rise) (defScope st_Climb_rise) [] [] (He.ma K (He.ga K "Climb") "rise") fd := hd.c.d.def_ 26 (d := df_Climb_rise) rfl
theorem fun_Climb_circle (hd : Hd K mg) : ∃ fd, FunD K "circle" "Climb.circle" (defArgs st_Climb_circle) (defBody st_Climb_circle) (defScope st_Climb_circle) [] [] (He.ma K (He.ga K "Climb") "circle") fd := hd.c.d.def_ 27 (d := df_Climb_circle) rfl
theorem fun_is_row (hd : Hd K mg) : ∃ fd, FunD K "is_row" "is_row" (defArgs st_is_row) (defBody st_is_row) (defScope st_is_row) [] [] (He.ga K "is_row") fd := hd.c.d.def_ 28 (d := df_is_row) rfl
theorem fun_is_long_text (hd : Hd K mg) : ∃ fd, FunD K "is_long_text" "is_long_text" (defArgs st_is_long_text) (defBody st_is_long_text) (defScope st_is_long_text) [] [] (He.ga K "is_long_text") fd := hd.c.d.def_ 29 (d := df_is_long_text) rfl
theorem fun_read_all (hd : Hd K mg) : ∃ fd, FunD K "read_all" "read_all" (defArgs st_read_all) (defBody st_read_all) (defScope st_read_all) [] [] (He.ga K "read_all") fd := hd.c.d.def_ 30 (d := df_read_all) rfl
theorem fun_sums_of (hd : Hd K mg) : ∃ fd, FunD K "sums_of" "sums_of" (defArgs st_sums_of) (defBody st_sums_of) (defScope st_sums_of) [] [] (He.ga K "sums_of") fd := hd.c.d.def_ 31 (d := df_sums_of) rfl
theorem fun_lowest (hd : Hd K mg) : ∃ fd, FunD K "lowest" "lowest" (defArgs st_lowest) (defBody st_lowest) (defScope st_lowest) [] [] (He.ga K "lowest") fd := hd.c.d.def_ 32 (d := df_lowest) rfl
theorem fun_settle (hd : Hd K mg) : ∃ fd, FunD K "settle" "settle" (defArgs st_settle) (defBody st_settle) (defScope st_settle) [] [] (He.ga K "settle") fd := hd.c.d.def_ 33 (d := df_settle) rfl
theorem fun_excess_of (hd : Hd K mg) : ∃ fd, FunD K "excess_of" "excess_of" (defArgs st_excess_of) (defBody st_excess_of) (defScope st_excess_of) [] [] (He.ga K "excess_of") fd := hd.c.d.def_ 34 (d := df_excess_of) rfl
theorem fun_worst_ratio (hd : Hd K mg) : ∃ fd, FunD K "worst_ratio" "worst_ratio" (defArgs st_worst_ratio) (defBody st_worst_ratio) (defScope st_worst_ratio) [] [] (He.ga K "worst_ratio") fd := hd.c.d.def_ 35 (d := df_worst_ratio) rfl
theorem fun_worst_excess (hd : Hd K mg) : ∃ fd, FunD K "worst_excess" "worst_excess" (defArgs st_worst_excess) (defBody st_worst_excess) (defScope st_worst_excess) [] [] (He.ga K "worst_excess") fd := hd.c.d.def_ 36 (d := df_worst_excess) rfl
theorem fun_way_to (hd : Hd K mg) : ∃ fd, FunD K "way_to" "way_to" (defArgs st_way_to) (defBody st_way_to) (defScope st_way_to) [] [] (He.ga K "way_to") fd := hd.c.d.def_ 37 (d := df_way_to) rfl
theorem fun_told_by (hd : Hd K mg) : ∃ fd, FunD K "told_by" "told_by" (defArgs st_told_by) (defBody st_told_by) (defScope st_told_by) [] [] (He.ga K "told_by") fd := hd.c.d.def_ 38 (d := df_told_by) rfl
theorem fun_tight_circle (hd : Hd K mg) : ∃ fd, FunD K "tight_circle" "tight_circle" (defArgs st_tight_circle) (defBody st_tight_circle) (defScope st_tight_circle) [] [] (He.ga K "tight_circle") fd := hd.c.d.def_ 39 (d := df_tight_circle) rfl
theorem fun_answer_of (hd : Hd K mg) : ∃ fd, FunD K "answer_of" "answer_of" (defArgs st_answer_of) (defBody st_answer_of) (defScope st_answer_of) [] [] (He.ga K "answer_of") fd := hd.c.d.def_ 40 (d := df_answer_of) rfl
theorem fun_answer_for (hd : Hd K mg) : ∃ fd, FunD K "answer_for" "answer_for" (defArgs st_answer_for) (defBody st_answer_for) (defScope st_answer_for) [] [] (He.ga K "answer_for") fd := hd.c.d.def_ 41 (d := df_answer_for) rfl
theorem fun_is_ratio (hd : Hd K mg) : ∃ fd, FunD K "is_ratio" "is_ratio" (defArgs st_is_ratio) (defBody st_is_ratio) (defScope st_is_ratio) [] [] (He.ga K "is_ratio") fd := hd.c.d.def_ 42 (d := df_is_ratio) rfl
theorem fun_is_shown (hd : Hd K mg) : ∃ fd, FunD K "is_shown" "is_shown" (defArgs st_is_shown) (defBody st_is_shown) (defScope st_is_shown) [] [] (He.ga K "is_shown") fd := hd.c.d.def_ 43 (d := df_is_shown) rfl
theorem fun_accepts_answer (hd : Hd K mg) : ∃ fd, FunD K "accepts_answer" "accepts_answer" (defArgs st_accepts_answer) (defBody st_accepts_answer) (defScope st_accepts_answer) [] [] (He.ga K "accepts_answer") fd := hd.c.d.def_ 44 (d := df_accepts_answer) rfl
theorem fun__law_stream (hd : Hd K mg) : ∃ fd, FunD K "_law_stream" "_law_stream" (defArgs st__law_stream) (defBody st__law_stream) (defScope st__law_stream) [] [] (He.ga K "_law_stream") fd := hd.c.d.def_ 45 (d := df__law_stream) rfl
theorem fun__law_next (hd : Hd K mg) : ∃ fd, FunD K "_law_next" "_law_next" (defArgs st__law_next) (defBody st__law_next) (defScope st__law_next) [] [] (He.ga K "_law_next") fd := hd.c.d.def_ 46 (d := df__law_next) rfl
theorem fun__law_is_integer (hd : Hd K mg) : ∃ fd, FunD K "_law_is_integer" "_law_is_integer" (defArgs st__law_is_integer) (defBody st__law_is_integer) (defScope st__law_is_integer) [] [] (He.ga K "_law_is_integer") fd := hd.c.d.def_ 47 (d := df__law_is_integer) rfl
theorem fun__law_equal (hd : Hd K mg) : ∃ fd, FunD K "_law_equal" "_law_equal" (defArgs st__law_equal) (defBody st__law_equal) (defScope st__law_equal) [] [] (He.ga K "_law_equal") fd := hd.c.d.def_ 48 (d := df__law_equal) rfl
theorem fun__law_cost (hd : Hd K mg) : ∃ fd, FunD K "_law_cost" "_law_cost" (defArgs st__law_cost) (defBody st__law_cost) (defScope st__law_cost) [] [] (He.ga K "_law_cost") fd := hd.c.d.def_ 49 (d := df__law_cost) rfl
theorem fun__law_words (hd : Hd K mg) : ∃ fd, FunD K "_law_words" "_law_words" (defArgs st__law_words) (defBody st__law_words) (defScope st__law_words) [] [] (He.ga K "_law_words") fd := hd.c.d.def_ 50 (d := df__law_words) rfl
theorem fun__law_letters (hd : Hd K mg) : ∃ fd, FunD K "_law_letters" "_law_letters" (defArgs st__law_letters) (defBody st__law_letters) (defScope st__law_letters) [] [] (He.ga K "_law_letters") fd := hd.c.d.def_ 51 (d := df__law_letters) rfl
theorem fun__law_match (hd : Hd K mg) : ∃ fd, FunD K "_law_match" "_law_match" (defArgs st__law_match) (defBody st__law_match) (defScope st__law_match) [] [] (He.ga K "_law_match") fd := hd.c.d.def_ 52 (d := df__law_match) rfl
theorem fun__law_sum (hd : Hd K mg) : ∃ fd, FunD K "_law_sum" "_law_sum" (defArgs st__law_sum) (defBody st__law_sum) (defScope st__law_sum) [] [] (He.ga K "_law_sum") fd := hd.c.d.def_ 53 (d := df__law_sum) rfl
theorem fun__law_all_texts (hd : Hd K mg) : ∃ fd, FunD K "_law_all_texts" "_law_all_texts" (defArgs st__law_all_texts) (defBody st__law_all_texts) (defScope st__law_all_texts) [] [] (He.ga K "_law_all_texts") fd := hd.c.d.def_ 54 (d := df__law_all_texts) rfl
theorem fun__law_least (hd : Hd K mg) : ∃ fd, FunD K "_law_least" "_law_least" (defArgs st__law_least) (defBody st__law_least) (defScope st__law_least) [] [] (He.ga K "_law_least") fd := hd.c.d.def_ 55 (d := df__law_least) rfl
theorem fun__law_grows (hd : Hd K mg) : ∃ fd, FunD K "_law_grows" "_law_grows" (defArgs st__law_grows) (defBody st__law_grows) (defScope st__law_grows) [] [] (He.ga K "_law_grows") fd := hd.c.d.def_ 56 (d := df__law_grows) rfl
theorem fun__law_read (hd : Hd K mg) : ∃ fd, FunD K "_law_read" "_law_read" (defArgs st__law_read) (defBody st__law_read) (defScope st__law_read) [] [] (He.ga K "_law_read") fd := hd.c.d.def_ 57 (d := df__law_read) rfl
theorem fun__law_steps (hd : Hd K mg) : ∃ fd, FunD K "_law_steps" "_law_steps" (defArgs st__law_steps) (defBody st__law_steps) (defScope st__law_steps) [] [] (He.ga K "_law_steps") fd := hd.c.d.def_ 58 (d := df__law_steps) rfl
theorem fun__law_is_row (hd : Hd K mg) : ∃ fd, FunD K "_law_is_row" "_law_is_row" (defArgs st__law_is_row) (defBody st__law_is_row) (defScope st__law_is_row) [] [] (He.ga K "_law_is_row") fd := hd.c.d.def_ 59 (d := df__law_is_row) rfl
theorem fun__law_is_text (hd : Hd K mg) : ∃ fd, FunD K "_law_is_text" "_law_is_text" (defArgs st__law_is_text) (defBody st__law_is_text) (defScope st__law_is_text) [] [] (He.ga K "_law_is_text") fd := hd.c.d.def_ 60 (d := df__law_is_text) rfl
theorem fun__law_sums (hd : Hd K mg) : ∃ fd, FunD K "_law_sums" "_law_sums" (defArgs st__law_sums) (defBody st__law_sums) (defScope st__law_sums) [] [] (He.ga K "_law_sums") fd := hd.c.d.def_ 61 (d := df__law_sums) rfl
theorem fun__law_are_right (hd : Hd K mg) : ∃ fd, FunD K "_law_are_right" "_law_are_right" (defArgs st__law_are_right) (defBody st__law_are_right) (defScope st__law_are_right) [] [] (He.ga K "_law_are_right") fd := hd.c.d.def_ 62 (d := df__law_are_right) rfl
theorem fun__law_accepts (hd : Hd K mg) : ∃ fd, FunD K "_law_accepts" "_law_accepts" (defArgs st__law_accepts) (defBody st__law_accepts) (defScope st__law_accepts) [] [] (He.ga K "_law_accepts") fd := hd.c.d.def_ 63 (d := df__law_accepts) rfl
theorem fun_law (hd : Hd K mg) : ∃ fd, FunD K "law" "law" (defArgs st_law) (defBody st_law) (defScope st_law) [] [] (He.ga K "law") fd := hd.c.d.def_ 64 (d := df_law) rfl
end
/-- a def that keeps its promise, where it stands -/
def OkA (P : Program) (w : World) (K : PySem.W.Frag) (mg : Str → Option Value) (base : Heap) (k : Nat) (f : Addr) (ps : List Str) (sp : Sp) : Prop :=
  ∃ fd, FnOk P w K mg base CX0 k f fd ps sp ∧ Binds K fd ps [] ∧ PySem.W.keepIn K (.ref f) = true
theorem OkA.imp {P : Program} {w : World} {K : PySem.W.Frag} {mg : Str → Option Value} {base : Heap} {k : Nat} {f : Addr} {ps : List Str} {sp sp' : Sp} (O : OkA P w K mg base k f ps sp) (h : ∀ vs H Q E, sp' vs H Q E → sp vs H Q E) : OkA P w K mg base k f ps sp' := by
  obtain ⟨fd, F, b, kp⟩ := O
  exact ⟨fd, F.imp h, b, kp⟩
theorem ok_mk {P : Program} {w : World} {K : PySem.W.Frag} {mg : Str → Option Value} {base : Heap} {k : Nat} {f : Addr} {fd : FuncData} {x q : Str} {st : Stmt} {N ps : List Str} {sp : Sp} {t : TS} (F : FunD K x q (defArgs st) (defBody st) (defScope st) [] [] f fd) (sc : FnScope N ps (defScope st))
    (b : Binds K fd ps []) (len : ∀ vs H Q E, sp vs H Q E → vs.length = ps.length) (rd : ∀ vs H Q E, sp vs H Q E → t { nx := fun _ H' => Q .non H', rt := Q } (L2.start N vs) H)
    (dv : ∀ (cdv : Value) (A : Around) (outer : List Env) (s : Shared) (H : Hp) (E : XK), Room k (A.deeper (envOfC q (defScope st) s.heap.objs.size f cdv)) → PSs (cxOf CX0 P w K mg base N q (defScope st) f cdv A outer s H E).nox (defBody st) t) : OkA P w K mg base (k + 1) f ps sp :=
  ⟨fd, F.ok sc len (fun cdv A outer s H vs Q E hr h => ⟨t, PSs.nox (dv cdv A outer s H E hr), rd vs H Q E h⟩), b, F.kp⟩
section
variable {X : Cx} {x : Str} {p pos apos : Pos} {e o : Expr} {es : List Expr} {t : TA} {ta : TE} {k : Nat} {f C : Addr} {ps : List Str} {sp : Sp} {m : Str}
theorem pe_okf (O : OkA X.prog X.w X.K X.mg X.base k f ps sp) (hr : Room k X.A) (hg : Gl X x) (hm : X.mg x = some (.ref f)) (ha : PA X (e :: es) t) (hdb : (x == ("__debug__" : Str)) = false := by decide)
    (he : starEach (e :: es) X.env = (false, eval e X.env) :: starEach es X.env := by rfl) (hpl : (backTo pos (starEach es X.env)).any (·.1) = false := by rfl) : PE X (.Call (.Name x p) (e :: es) [] pos) (tCall sp [] E0 t) := by
  obtain ⟨fd, F, b, kp⟩ := O
  exact pe_call F hr hg hm kp b .nil pass0 ha hdb he hpl
theorem pe_okmk (M : Mk X.K C f) (O : OkA X.prog X.w X.K X.mg X.base k f ps sp) (hr : Room (k + 1) X.A) (hg : Gl X x) (hm : X.mg x = some (.ref C)) (ha : PA X (e :: es) t) (hdb : (x == ("__debug__" : Str)) = false := by decide)
    (he : starEach (e :: es) X.env = (false, eval e X.env) :: starEach es X.env := by rfl) (hpl : (backTo pos (starEach es X.env)).any (·.1) = false := by rfl) : PE X (.Call (.Name x p) (e :: es) [] pos) (tMake C sp [] E0 t) := by
  obtain ⟨fd, F, b, kp⟩ := O
  exact pe_make M F hr hg hm b .nil pass0 ha hdb he hpl
theorem pe_okm {pl : Sem Bool} (ho : PE X o ta) (c : Cls X.K C) (hm : Meth X.K C m f) (O : OkA X.prog X.w X.K X.mg X.base k f ps sp) (hr : Room k X.A) (ha : PA X (e :: es) t)
    (hst : starEach (e :: es) X.env = (false, eval e X.env) :: starEach es X.env := by rfl) (hpl : (backTo pos (starEach es X.env)).any (·.1) = false := by rfl)
    (ht : eval (.Call (.Attribute o m apos) (e :: es) [] pos) X.env = (do
      let ov ← eval o X.env
      standAt apos.atName
      let (f, first) ← holding [ov] (getMethod ov m pl)
      callWith pos f first (backTo pos (starEach (e :: es) X.env)) (backToKw pos (keywordEach [] X.env))) := by rfl) : PE X (.Call (.Attribute o m apos) (e :: es) [] pos) (tMeth C m sp [] E0 ta t) := by
  obtain ⟨fd, F, b, kp⟩ := O
  exact pe_meth ho c hm F hr b .nil pass0 ha hst hpl ht
theorem pe_okm0 {pl : Sem Bool} (ho : PE X o ta) (c : Cls X.K C) (hm : Meth X.K C m f) (O : OkA X.prog X.w X.K X.mg X.base k f ps sp) (hr : Room k X.A)
    (ht : eval (.Call (.Attribute o m apos) [] [] pos) X.env = (do
      let ov ← eval o X.env
      standAt apos.atName
      let (f, first) ← holding [ov] (getMethod ov m pl)
      callWith pos f first (backTo pos (starEach [] X.env)) (backToKw pos (keywordEach [] X.env))) := by rfl) : PE X (.Call (.Attribute o m apos) [] [] pos) (tMeth C m sp [] E0 ta tNil) := by
  obtain ⟨fd, F, b, kp⟩ := O
  exact pe_meth0 ho c hm F hr b .nil pass0 ht
end
def rListOf (K : PySem.W.Frag) : List V → Hp → VK → Prop := fun xs H Q => ∃ p ys, xs = [.ref p] ∧ (SqL K H p ys ∨ SqT K H p ys) ∧ ∀ l, H l = none → Q (.ref l) (upd H l (.lst ys))
end GC

-- part KR2
set_option Elab.async false
set_option linter.all false
set_option maxRecDepth 100000
set_option maxHeartbeats 4000000
namespace GC
open PySem PySem.Spec PyProof.Rows L2
theorem hu64_of {A : Around} {k : Nat} (hr : Room k A) : A.units + 64 < cLine := hr.units
theorem tupleKind_roomX {A : Around} {P : Program} {w : World} (hu : A.units + 1 < cLine) : (tupleKind (mixKind P w)).room A := Nat.lt_of_succ_lt hu
section
variable {X : Cx}
/-! ### a < b of data -/
def rLtD (K : PySem.W.Frag) : R2 := fun x y H Q => ∃ d e, Dp K H x d ∧ Dp K H y e ∧ PySem.W.alike d e = true ∧ d ≠ .none ∧ d.depth ≤ 60 ∧ Q (.bl (PySem.W.dataLt d e)) H
theorem op_ltD (hu : X.A.units + 64 < cLine) : OpR X (compareOp .Lt) (rLtD X.K) := by
  intro pins s σ H x y v u Q I rx ry h
  obtain ⟨d, e, h1, h2, ha, hn, hd, q⟩ := h
  obtain ⟨as, r1⟩ := Dp.reads I d x v h1 rx
  obtain ⟨bs, r2⟩ := Dp.reads I e y u h2 ry
  exact PySem.W.rcLt_alike d e X.A s v u as bs r1 r2 ha hn (by omega) X.prog X.w X.xe _ ⟨.bl _, H, I, rfl, q⟩
/-! ### sorted(a list of data) -/
def rSortedD (K : PySem.W.Frag) : List V → Hp → VK → Prop := fun vs H Q => ∃ (a : Addr) (bs : List (V × PyData)), vs = [V.ref a] ∧ SqL K H a (bs.map (·.1)) ∧ (∀ b ∈ bs, Dp K H b.1 b.2 ∧ b.2.depth ≤ 60) ∧
  PySem.W.AllAlike (bs.map (·.2)) ∧ PySem.W.Sortable (bs.map (·.2)) ∧ ∀ p, H p = none → Q (.ref p) (upd H p (.lst ((bs.mergeSort (PySem.W.dataLe false (·.2))).map (·.1))))
theorem each_of_vals {R : Value → V × PyData → Prop} : ∀ {bs : List (V × PyData)} {us : List Value}, Vals (bs.map (·.1)) us → (∀ b ∈ bs, ∀ u, RelV b.1 u → R u b) → PySem.W.EachIs R us bs
  | [], _, r, h => by cases r; exact .nil
  | b :: bs, _, r, h => by
    cases r with
    | cons r1 r2 => exact .cons (h b (by simp) _ r1) (each_of_vals r2 fun c hc => h c (by simp [hc]))
theorem vals_of_each : ∀ {bs : List (V × PyData)} {us : List Value}, PySem.W.EachIs (fun u b => RelV b.1 u) us bs → Vals (bs.map (·.1)) us
  | [], _, r => by cases r; exact .nil
  | b :: bs, _, r => by
    cases r with
    | cons r1 r2 => exact .cons r1 (vals_of_each r2)
theorem cr_sortedD (hu : X.A.units + 64 < cLine) : CallR X (.builtin "sorted") (rSortedD X.K) := by
  intro pins s σ H vs us Q I r h
  obtain ⟨a, bs, e, hs, hb, hal, hk, q⟩ := h
  subst e
  obtain ⟨its, rv, hl, hz⟩ := I.list hs
  rw [Vals.ref1 r]
  rw [List.length_map] at hz
  refine PySem.W.sorted_data (R := fun u b => RelV b.1 u) (enc := (·.2)) (bs := bs) hl.isList (each_of_vals rv fun b _ u z => z) (each_of_vals rv fun b hm u z => Dp.reads I b.2 b.1 u (hb b hm).1 z) hal hk hz (fun b hm => by have := (hb b hm).2; omega) fun out hlen ho => ?_
  obtain ⟨ep, he⟩ := PyProof.Rows.sortedAll_at s.heap its out.toArray
  have hlen2 : ((bs.mergeSort (PySem.W.dataLe false (·.2))).map (·.1)).length ≤ sizeLine := by
    rw [List.length_map, List.length_mergeSort]
    exact hz
  exact ⟨.ref _, _, I.laid (a := s.heap.objs.size + 1) (o := .lst ((bs.mergeSort (PySem.W.dataLe false (·.2))).map (·.1))) (t' := s.toks) (fun _ _ => PyProof.Rows.sortedAll_old) (Nat.le_succ _) ⟨hlen2, out, ep, vals_of_each ho, he⟩, rfl, q _ (I.hok.fresh (Nat.le_succ _))⟩
/-! ### {key tuple: value} -/
def tDisp1 (tk tv : TE) : TE := fun σ H Q => ∀ p, H p = none → tk σ (upd H p (.dT [])) fun y H1 => tv σ H1 fun z H2 => ∃ b k, y = .ref b ∧ H2 b = some (.tup (k.map kV)) ∧ H2 p = some (.dT []) ∧ Q (.ref p) (upd H2 p (.dT [(k, z)]))
theorem pe_disp1 {pos : Pos} {kx vx : Expr} {tk tv : TE} (hk : PE X kx tk) (hv : PE X vx tv) (hu : X.A.units + 1 < cLine) : PE X (.Dict [some kx] [vx] pos) (tDisp1 tk tv) := by
  refine ⟨fun pins s σ H Q I q => ?_⟩
  have hn := I.hok.fresh (Nat.le_refl s.heap.objs.size)
  have I1 := I.laid (a := s.heap.objs.size) (o := .dT []) (t' := s.toks) (h' := s.heap.push { cls := .type "dict", data := .dict #[] }) (fun _ _ z => Heap.get?_push_of_some _ z) (Nat.le_refl _) (dt_empty s.heap I.big)
  have hs : (evalEachOpt [some kx] X.env).zip ((evalEach [vx] X.env).map fun v => do let x ← v; standAt pos; pure x) = ([(eval kx X.env, (do let x ← eval vx X.env; standAt pos; pure x))] : List (Sem Value × Sem Value)).map fun p => (some p.1, p.2) := rfl
  rw [arm_eval_Dict, hs, dictDisplay_pairs _ (by simp) (by simp)]
  refine wpAny_bind (wpAny_standAt (wpAny_bind (wpAny_subDictH (knd := tupleKind (mixKind X.prog X.w)) (tupleKind_roomX hu) (by simp) ?_)))
  rw [evalPairs, evalPairs]
  refine wpAny_bind (thn (hk.run pins _ σ _ _ I1 (q _ hn)) fun u s1 z1 => ?_)
  obtain ⟨y, H1, I2, ry, q1⟩ := z1
  refine wpAny_bind (wpAny_holding (wpAny_bind (thn (hv.run pins s1 σ H1 _ I2 q1) fun v s2 z2 => ?_)))
  obtain ⟨z, H2, I3, rz, b, k, ey, eb, ep, q2⟩ := z2
  refine wpAny_bind (wpAny_standAt (wpAny_pure ?_))
  refine wpAny_bind (wpAny_holding (wpAny_pure (wpAny_pure ?_)))
  subst ey
  cases (show u = Value.ref b from ry)
  obtain ⟨_, hd, xs0, rel, dd⟩ := dt_of I3.hok ep
  cases rel
  refine ⟨[(k, b, v)], ⟨rfl, rfl, key_of I3.hok eb, trivial⟩, dd, fun h' tk dd' hs => wpAny_pure ⟨.ref s.heap.objs.size, _, ?_, rfl, q2⟩⟩
  obtain ⟨o, es, epp, ho, h2, h3, h4, _, h5⟩ := dd'
  refine d_write I3 (by rw [ep]; exact True.intro) hs ⟨o, ho⟩ ⟨?_, hd, [(k, b, v)], .cons ⟨rfl, ?_, rz⟩ .nil, o, es, epp, ho, h2, h3, h4, h5⟩
  · exact small_line (by simp)
  · rw [upd_ne (ne_of eb ep (fun w => nomatch w))]
    exact eb
/-! ### {key tuple: value for ..} -/
theorem d_dictSetT {pins : List (Addr × Obj)} {σ : L2.St} {H : Hp} {s : Shared} {E : Value → Shared → Prop} {D b : Addr} {kvs : List (List Key × V)} {k : List Key} {v : V} {r : Value} {Q : Unit → Shared → Prop} (hu : X.A.units + 1 < cLine) (I : Inv X pins σ H s) (hD : H D = some (.dT kvs)) (hz : kvs.length < sizeLine)
    (eb : H b = some (.tup (k.map kV))) (rv : RelV v r) (h : ∀ s', Inv X pins σ (upd H D (.dT (putK kvs k v))) s' → Q () s') : wpAny (model X.prog X.w) X.A (dictSet D (.ref b) r) Q E s := by
  obtain ⟨z, hd, xs, rel, dd⟩ := dt_of I.hok hD
  have hzx : xs.length ≤ sizeLine := by rw [← Paired.length rel]; exact z
  have hl : (putK kvs k v).length ≤ sizeLine := by have := length_putK kvs k v; omega
  refine wpAny_dictSet_heap (hsz := hzx) (tupleKind_roomX hu) (key_of I.hok eb) dd fun h' dd' hs => h _ ?_
  obtain ⟨o, es, ep, ho, h2, h3, h4, _, h5⟩ := dd'
  refine d_write I (by rw [hD]; exact True.intro) hs ⟨o, ho⟩ ⟨hl, hd, _, (rel.put k eb rv).keeps fun c ys ec => ?_, o, es, ep, ho, h2, h3, h4, h5⟩
  rw [upd_ne (ne_of ec hD (fun w => nomatch w))]
  exact ec
/-- D: the new dict, its keys tuples -/
def tDcT (wi : TI) (g : TG) (tt : TT) (tk tv : TE) (vs : List Nat) : TE := fun σ H Q => wi σ H fun J H1 => ∀ D, H1 D = none →
  ∃ W : Nat → Nat → Hp → Prop, (∃ m, W 0 m (upd H1 D (.dT []))) ∧ ∀ i m Hi, W i m Hi →
    (J.stop i Hi ∧ Q (.ref D) Hi) ∨ (J.go i Hi ∧ ∃ Nx : Hp → Prop, (∀ Hj, Nx Hj → ∃ m', m' < m ∧ W (i + 1) m' Hj) ∧
      ∀ x Hx, J.yld i Hi x Hx → g x (wipe σ vs) Hx fun σ2 H2 => wipe σ2 vs = wipe σ vs ∧ tt σ2 H2 fun b H3 =>
        if b = true then tk σ2 H3 fun y H4 => tv σ2 H4 fun z H5 => ∃ kvs k c, y = .ref c ∧ H5 c = some (.tup (k.map kV)) ∧ H5 D = some (.dT kvs) ∧ kvs.length < sizeLine ∧ Nx (upd H5 D (.dT (putK kvs k z)))
        else Nx H3)
theorem dcT_run {pins : List (Addr × Obj)} {s : Shared} {σ : L2.St} {H : Hp} {Q : VK} {kx vx tg iter : Expr} {ifs : List Expr} {scope : Scope} {own : List (Str × Nat)} {pos pos' : Pos} {wi : TI} {g : TG} {tt : TT} {tk tv : TE}
    (hc : X.calm = true) (nd : X.N.Nodup) (I : Inv X pins σ H s) (hi : PI X tg iter wi) (ok : BlkOk X.N X.env.scope scope own)
    (hg : ∀ (s : Shared) (H : Hp) (C : Addr) (cl : List (Str × Addr)) (fp : List Addr), PG (X.blk s H scope (compEnvC scope cl C X.env) fp) tg g)
    (ht : ∀ (s : Shared) (H : Hp) (C : Addr) (cl : List (Str × Addr)) (fp : List Addr), PTs (X.blk s H scope (compEnvC scope cl C X.env) fp) ifs tt)
    (hk : ∀ (s : Shared) (H : Hp) (C : Addr) (cl : List (Str × Addr)) (fp : List Addr), PE (X.blk s H scope (compEnvC scope cl C X.env) fp) kx tk)
    (hv : ∀ (s : Shared) (H : Hp) (C : Addr) (cl : List (Str × Addr)) (fp : List Addr), PE (X.blk s H scope (compEnvC scope cl C X.env) fp) vx tv)
    (hu : X.A.units + 1 < cLine) (hf : ∀ x, foldedSetIterable iter X.env x = pure x) (h : tDcT wi g tt tk tv (own.map (·.2)) σ H Q) :
    wpAny (model X.prog X.w) X.A (comprehension (.DictComp kx vx [⟨tg, iter, ifs, 0⟩] scope pos) scope X.env pos' newDict false (eval iter X.env)) (EP X pins σ Q) X.xe s := by
  refine wpAny_comprehension_free (use := none) rfl hf (closure_ok fun y hy e => ?_) ok.kind (fun y hy e => by rw [ok.uniq y hy, e]) ?_
  · exact (ok.free y hy e).elim (fun c => I.ok.has _ (.inl c)) fun c => I.ok.has _ (.inr c)
  refine thn (hi.run pins s σ H _ I h) fun xv s1 hx => thn hx fun itv s2 h2 => ?_
  obtain ⟨it, fp, tn, J, H2, rfl, I2, T, st2, f2, q⟩ := h2
  refine wpAny_newObj_type (newEnv_comp ?_)
  obtain ⟨L, hL⟩ : ∃ L, L = s2.heap.objs.size := ⟨_, rfl⟩
  rw [← hL]
  have nL : H2 L = none := I2.hok.fresh (by rw [hL]; exact Nat.le_refl _)
  obtain ⟨W, ⟨m0, w0⟩, turn⟩ := q L nL
  obtain ⟨s3, e3⟩ : ∃ s3 : Shared, s3 = { s2 with heap := s2.heap.push { cls := .type "dict", data := .dict #[] } } := ⟨_, rfl⟩
  obtain ⟨H3, eH3⟩ : ∃ H3, H3 = upd H2 L (.dT []) := ⟨_, rfl⟩
  rw [← eH3] at w0
  have e3h : s3.heap = s2.heap.push { cls := .type "dict", data := .dict #[] } := by rw [e3]
  have old : ∀ b o, s2.heap.get? b = some o → s3.heap.get? b = some o := fun b o e => by rw [e3h]; exact Heap.get?_push_of_some _ e
  have I3 : Inv X pins σ H3 s3 := by
    rw [e3, eH3]
    refine I2.laid (t' := s2.toks) (fun b o e => Heap.get?_push_of_some _ e) (by rw [hL]; exact Nat.le_refl _) ?_
    rw [hL]
    exact dt_empty s2.heap I2.big
  have inS : ∀ b ∈ fp, b < s2.heap.objs.size := fun b hb => by
    obtain ⟨o, e, _⟩ := T.obj _ _ st2 b hb
    exact Heap.lt_size e
  have f3 : ∀ b ∈ fp, FpOk X pins H3 b ∧ b < s3.heap.objs.size := fun b hb => by
    have lt := inS b hb
    refine ⟨⟨?_, (f2 b hb).2⟩, by rw [e3h, Heap.size_push]; exact Nat.lt_succ_of_lt lt⟩
    rw [eH3, upd_ne (by rw [hL]; exact Nat.ne_of_lt lt)]
    exact (f2 b hb).1
  have st3 : tn 0 s3.heap := T.keep _ _ _ st2 fun b _ o e => old b o e
  have I4 := block_start I3 ok nd f3
  obtain ⟨ce, ece⟩ : ∃ ce, ce = compEnvC scope (cellsFrom (s3.heap.objs.size + 1) scope.names (cloFrom X.env.cells scope.names [])) s3.heap.objs.size X.env := ⟨_, rfl⟩
  have pg := hg s3 H3 s3.heap.objs.size (cellsFrom (s3.heap.objs.size + 1) scope.names (cloFrom X.env.cells scope.names [])) fp
  have pt := ht s3 H3 s3.heap.objs.size (cellsFrom (s3.heap.objs.size + 1) scope.names (cloFrom X.env.cells scope.names [])) fp
  have pk := hk s3 H3 s3.heap.objs.size (cellsFrom (s3.heap.objs.size + 1) scope.names (cloFrom X.env.cells scope.names [])) fp
  have pv := hv s3 H3 s3.heap.objs.size (cellsFrom (s3.heap.objs.size + 1) scope.names (cloFrom X.env.cells scope.names [])) fp
  rw [← ece] at I4 pg pt pk pv
  have locs : ce.locals = s3.heap.objs.size := by rw [ece]; rfl
  have nfp : ∀ b ∈ fp, H3 b = none := fun b hb => (f3 b hb).1.1
  obtain ⟨s4, e4⟩ : ∃ s4 : Shared, s4 = { s3 with heap := pushCells (s3.heap.push { cls := .type "dict", data := .dict #[] }) scope.names } := ⟨_, rfl⟩
  have I4 : Inv (X.blk s3 H3 scope ce fp) [] (wipe σ (own.map (·.2))) H3 s4 := by rw [e4]; exact I4
  have st4 : tn 0 s4.heap := T.keep _ _ _ st3 fun b _ o e => by rw [e4]; exact pushCells_keeps _ _ _ _ (Heap.get?_push_of_some _ e)
  -- the walked thing's own objects, seen from within the block
  have seen : ∀ {σ' : L2.St} {H' : Hp} {s' : Shared}, Inv (X.blk s3 H3 scope ce fp) [] σ' H' s' → (∀ b ∈ fp, H' b = none) → ∀ b ∈ fp, FpOk (X.blk s3 H3 scope ce fp) [] H' b := fun {σ' H' s'} Ib free b hb =>
    ⟨free b hb, (Ib.ok.exf b hb).1, Ib.ok.exfs b hb, Or.inl hb, fun x c e => (Ib.ok.exf b hb).2 x c e, fun p hp => by cases hp⟩
  have body : codeAny (model X.prog X.w) X.A (.compLoop (.DictComp kx vx [⟨tg, iter, ifs, 0⟩] scope pos) 0 (.ref it) (.ref L) ce) (compPost (model X.prog X.w) X.A X.xe none (EP X pins σ Q) (.ref L) s3.heap.objs.size) s4 := by
    refine compLoop_anyD (fun n st => ∃ i Hi, Inv (X.blk s3 H3 scope ce fp) [] (wipe σ (own.map (·.2))) Hi st ∧ tn i st.heap ∧ (∀ b ∈ fp, Hi b = none) ∧ W i n Hi) ?_ m0 ⟨0, H3, I4, st4, nfp, w0⟩
    rintro n s5 ⟨i, H5, I5, t5, n5, w5⟩
    rcases turn i n H5 w5 with ⟨stp, out⟩ | ⟨go, Nx, down, step⟩
    · -- the end: back in the def's own context
      refine thnF (T.done (X.blk s3 H3 scope ce fp) rfl rfl rfl hc i [] s5 _ H5 (fun _ _ => False) I5 (seen I5 n5) t5 stp) fun r s6 z6 => ?_
      obtain ⟨rfl, I6⟩ := z6
      have I7 : Inv X pins σ H5 s6 := I3.call' (ch := fp) I6.os I6.base I6.hok I6.bare fun b hb => by
        obtain ⟨_, a1, _, a2, a3, a4⟩ := (f3 b hb).1
        exact ⟨a2, a1, a3, a4⟩
      have freeC : H5 s3.heap.objs.size = none := by rw [← locs]; exact I6.free
      obtain ⟨mm, ns, _⟩ := I6.loc
      have ns : s6.heap.Ns s3.heap.objs.size mm := by rw [← locs]; exact ns
      obtain ⟨_, g1, g2, g3, g4, g5⟩ := I3.fpOk (H' := H5) (Nat.le_refl _) freeC
      exact ⟨mm, ns, fun hh sb => ⟨.ref L, H5, I7.turned (t' := s6.toks) (fun b o hb e => (sb.2 b hb).trans e) freeC g1 g3 g4 g5, rfl, out⟩⟩
    · -- a turn
      refine thnF (T.item (X.blk s3 H3 scope ce fp) rfl rfl rfl hc i [] s5 _ H5 (fun _ _ => False) I5 (seen I5 n5) t5 go) fun r s6 z6 => ?_
      obtain ⟨u, rfl, z6⟩ := z6
      refine thnF z6 fun _ s7 z7 => ?_
      obtain ⟨x, H7, I7, r7, y7, t7, n7⟩ := z7
      have I7p := I7.pinned (seen I7 n7) (T.obj _ _ t7)
      refine thnF (pg.run _ s7 _ H7 x u _ I7p r7 (step x H7 y7)) fun _ s8 z8 => ?_
      obtain ⟨σ8, H8, I8, hw8, q8⟩ := z8
      have close : ∀ {st : Shared} {Hn : Hp}, Inv (X.blk s3 H3 scope ce fp) ([] ++ pinsAt fp s7.heap) σ8 Hn st → Nx Hn → ∃ m, m < n ∧ ∃ i Hi, Inv (X.blk s3 H3 scope ce fp) [] (wipe σ (own.map (·.2))) Hi st ∧ tn i st.heap ∧ (∀ b ∈ fp, Hi b = none) ∧ W i m Hi := fun {st Hn} In nx => by
        obtain ⟨m', hm, w'⟩ := down Hn nx
        have stays : ∀ b ∈ fp, ∀ o, s7.heap.get? b = some o → st.heap.get? b = some o ∧ Hn b = none := fun b hb o e => by
          have z := In.pin (b, o) (List.mem_append_right _ (List.mem_append_right _ (mem_pinsAt hb e)))
          exact ⟨z.1, z.2.1⟩
        refine ⟨m', hm, i + 1, Hn, (In.unpinned (pins := [])).weak (by rw [← hw8, wipe_length]) (fun j v e => ?_), T.keep _ _ _ t7 fun b hb o e => (stays b hb o e).1, fun b hb => ?_, w'⟩
        · rw [← hw8] at e
          exact (wipe_some e).1
        · obtain ⟨o, e, _⟩ := T.obj _ _ t7 b hb
          exact (stays b hb o e).2
      refine thnF (pt.run _ s8 σ8 H8 _ I8 q8) fun b s9 z9 => ?_
      obtain ⟨H9, I9, q9⟩ := z9
      cases b with
      | false =>
        rw [if_neg Bool.false_ne_true] at q9 ⊢
        exact close I9 q9
      | true =>
        rw [if_pos rfl] at q9 ⊢
        refine thnF (pk.run _ s9 σ8 H9 _ I9 q9) fun uk s10 z10 => ?_
        obtain ⟨yk, H10, I10, r10, q10⟩ := z10
        refine thnF (pv.run _ s10 σ8 H10 _ I10 q10) fun uv s11 z11 => ?_
        obtain ⟨yv, H11, I11, r11, kvs, k, c, rfl, hc11, hL11, hz11, nx⟩ := z11
        cases (show uk = Value.ref c from r10)
        exact d_dictSetT (X := X.blk s3 H3 scope ce fp) hu I11 hL11 hz11 hc11 r11 fun s12 I12 => close I12 nx
  have fin := codeAny_compStart_dict body (T.self X.A 0 _ _ _ st4 body)
  subst e4 ece e3
  exact fin
theorem pe_dcT {kx vx tg iter : Expr} {ifs : List Expr} {scope : Scope} {own : List (Str × Nat)} {pos : Pos} {wi : TI} {g : TG} {tt : TT} {tk tv : TE} (hc : X.calm = true) (nd : X.N.Nodup) (hi : PI X tg iter wi) (ok : BlkOk X.N X.env.scope scope own)
    (hg : ∀ (s : Shared) (H : Hp) (C : Addr) (cl : List (Str × Addr)) (fp : List Addr), PG (X.blk s H scope (compEnvC scope cl C X.env) fp) tg g)
    (ht : ∀ (s : Shared) (H : Hp) (C : Addr) (cl : List (Str × Addr)) (fp : List Addr), PTs (X.blk s H scope (compEnvC scope cl C X.env) fp) ifs tt)
    (hk : ∀ (s : Shared) (H : Hp) (C : Addr) (cl : List (Str × Addr)) (fp : List Addr), PE (X.blk s H scope (compEnvC scope cl C X.env) fp) kx tk)
    (hv : ∀ (s : Shared) (H : Hp) (C : Addr) (cl : List (Str × Addr)) (fp : List Addr), PE (X.blk s H scope (compEnvC scope cl C X.env) fp) vx tv)
    (hu : X.A.units + 1 < cLine) (hf : ∀ x, foldedSetIterable iter X.env x = pure x := by intro _; rfl) : PE X (.DictComp kx vx [⟨tg, iter, ifs, 0⟩] scope pos) (tDcT wi g tt tk tv (own.map (·.2))) :=
  ⟨fun pins s σ H Q I h => by
    rw [arm_eval_DictComp]
    exact dcT_run hc nd I hi ok hg ht hk hv hu hf h⟩
end
end GC

-- part DV1
set_option Elab.async false
set_option linter.all false
set_option maxRecDepth 100000
set_option maxHeartbeats 4000000
namespace GC
open PySem PySem.Spec PyProof.Rows L2
section
variable {P : Program} {w : World} {K : PySem.W.Frag} {mg : Str → Option Value} {base : Heap}

/-! is_between -/
abbrev nm_is_between : List Str := ["value", "low", "high"]
theorem sc_is_between : FnScope nm_is_between ["value", "low", "high"] (defScope st_is_between) := ⟨rfl, rfl, rfl, by decide +kernel, rfl, by decide +kernel, by decide +kernel⟩
def t_is_between (K : PySem.W.Frag)  : TS := (tRet (tAndV (tCB (rIsi K) (tCons (tVar 0) (tCons (tC (.ty "int")) tNil))) (tAndV (tNotV (tCB (rIsi K) (tCons (tVar 0) (tCons (tC (.ty "bool")) tNil)))) (tChain (rI0 fun i j => .bl (decide (i ≤ j))) (rI0 fun i j => .bl (decide (i ≤ j))) (tVar 1) (tVar 0) (tVar 2)))))
theorem ok_is_between {sp : Sp} (hd : Hd K mg)  (len : ∀ vs H Q E, sp vs H Q E → vs.length = 3) (rd : ∀ vs H Q E, sp vs H Q E → t_is_between K  { nx := fun _ H' => Q .non H', rt := Q } (L2.start nm_is_between vs) H) :
    OkA P w K mg base 1 (He.ga K "is_between") ["value", "low", "high"] sp := by
  obtain ⟨fd, F⟩ := fun_is_between hd
  refine ok_mk F sc_is_between (F.bindsN fun _ _ _ _ _ _ us hl => match us, hl with | [_, _, _], _ => rfl) len rd fun cdv A outer s H E hr => ?_
  have nd := (sc_is_between).nd
  exact (pss_one (ps_ret (pe_and (pe_callB call_isi (by rfl) (free_isinstance hd) (by decide +kernel) (pa_cons (pv 0) (pa_cons (pe_bltn (by rfl) (free_int hd) (by decide +kernel) rfl) pa_nil))) (pe_and (pe_not (pe_callB call_isi (by rfl) (free_isinstance hd) (by decide +kernel) (pa_cons (pv 0) (pa_cons (pe_bltn (by rfl) (free_bool hd) (by decide +kernel) rfl) pa_nil)))) (pe_one (pe_chain op_le op_le (pv 1) (pv 0) (pv 2)))))))
/-! is_word -/
abbrev nm_is_word : List Str := ["value", "letter"]
theorem sc_is_word : FnScope nm_is_word ["value"] (defScope st_is_word) := ⟨rfl, rfl, rfl, by decide +kernel, rfl, by decide +kernel, by decide +kernel⟩
def t_is_word (K : PySem.W.Frag)  : TS := (tSeq (tIfS (tOr (tNot (tB (tCB (rIsi K) (tCons (tVar 0) (tCons (tC (.ty "str")) tNil))))) (tNot (tTest (tChain (rI0 fun i j => .bl (decide (i ≤ j))) (rI0 fun i j => .bl (decide (i ≤ j))) (tC (.int 1)) (tCB (rLen K) (tCons (tVar 0) tNil)) (tC (.int 4)))))) (tRet (tC (.bl false))) tNext)
  (tRet (tCB (rAll K) (tCons (tLc (iStr (tVar 0)) (gName 1) tYes (tOp rInS (tVar 1) (tC (.str "abcdefghijklmnopqrstuvwxyz"))) [1]) tNil))))
theorem ok_is_word {sp : Sp} (hd : Hd K mg)  (len : ∀ vs H Q E, sp vs H Q E → vs.length = 1) (rd : ∀ vs H Q E, sp vs H Q E → t_is_word K  { nx := fun _ H' => Q .non H', rt := Q } (L2.start nm_is_word vs) H) :
    OkA P w K mg base 1 (He.ga K "is_word") ["value"] sp := by
  obtain ⟨fd, F⟩ := fun_is_word hd
  refine ok_mk F sc_is_word (F.bindsN fun _ _ _ _ _ _ us hl => match us, hl with | [_], _ => rfl) len rd fun cdv A outer s H E hr => ?_
  have nd := (sc_is_word).nd
  exact (pss_cons (ps_if (PW.pt (pw_or (pt_not (pt_val (pe_callB call_isi (by rfl) (free_isinstance hd) (by decide +kernel) (pa_cons (pv 0) (pa_cons (pe_bltn (by rfl) (free_str hd) (by decide +kernel) rfl) pa_nil))))) (pw_or1 (pt_not (pt_chain op_le op_le pe_int (pe_callB call_len (by rfl) (free_len hd) (by decide +kernel) (pa_cons (pv 0) pa_nil)) (pe_glob (by rfl) (int_LONGEST hd).choose_spec ⟨_, rfl⟩)))))) (pss_one (ps_ret pe_bl)) pss_nil)
    (pss_one (ps_ret (pe_callB (cr_all rfl) (by rfl) (free_all hd) (by decide +kernel) (pa_cons (pe_lc (own := [("letter", 1)]) (g := (gName 1)) (tt := tYes) rfl nd (pi_str (pv 0)) (blkOk_by (own := [("letter", 1)]) (N := nm_is_word) (sc := defScope st_is_word) (by decide +kernel)) (fun _ _ _ _ _ => (pg_name (i := 1) nd rfl (Or.inl rfl))) (fun _ _ _ _ _ => pts_nil) (fun _ _ _ _ _ => (pe_cmpR (r := rInS) op_inS (pv 1) (pe_glob (by rfl) (str_ALPHABET hd).choose_spec ⟨_, rfl⟩) (by rfl)))) pa_nil)))))
/-! is_entry -/
abbrev nm_is_entry : List Str := ["value"]
theorem sc_is_entry : FnScope nm_is_entry ["value"] (defScope st_is_entry) := ⟨rfl, rfl, rfl, by decide +kernel, rfl, by decide +kernel, by decide +kernel⟩
def t_is_entry (K : PySem.W.Frag) (s_is_word : Sp) (s_is_between : Sp) : TS := (tRet (tAndV (tCB (rIsi K) (tCons (tVar 0) (tCons (tC (.ty "tuple")) tNil))) (tAndV (tOp rEq (tCB (rLen K) (tCons (tVar 0) tNil)) (tC (.int 2))) (tAndV (tCall s_is_word [] E0 (tCons (tOp (rIxT K) (tVar 0) (tC (.int 0))) tNil)) (tCall s_is_between [] E0 (tCons (tOp (rIxT K) (tVar 0) (tC (.int 1))) (tCons (tC (.int 1)) (tCons (tC (.int 9)) tNil))))))))
theorem ok_is_entry {s_is_word s_is_between : Sp} {sp : Sp} (hd : Hd K mg) (O_is_word : OkA P w K mg base 1 (He.ga K "is_word") ["value"] s_is_word) (O_is_between : OkA P w K mg base 1 (He.ga K "is_between") ["value", "low", "high"] s_is_between) (len : ∀ vs H Q E, sp vs H Q E → vs.length = 1) (rd : ∀ vs H Q E, sp vs H Q E → t_is_entry K s_is_word s_is_between { nx := fun _ H' => Q .non H', rt := Q } (L2.start nm_is_entry vs) H) :
    OkA P w K mg base 2 (He.ga K "is_entry") ["value"] sp := by
  obtain ⟨fd, F⟩ := fun_is_entry hd
  refine ok_mk F sc_is_entry (F.bindsN fun _ _ _ _ _ _ us hl => match us, hl with | [_], _ => rfl) len rd fun cdv A outer s H E hr => ?_
  have nd := (sc_is_entry).nd
  exact (pss_one (ps_ret (pe_and (pe_callB call_isi (by rfl) (free_isinstance hd) (by decide +kernel) (pa_cons (pv 0) (pa_cons (pe_bltn (by rfl) (free_tuple hd) (by decide +kernel) rfl) pa_nil))) (pe_and (pe_cmpR (r := rEq) op_eq (pe_callB call_len (by rfl) (free_len hd) (by decide +kernel) (pa_cons (pv 0) pa_nil)) pe_int (nomark _)) (pe_and (pe_okf O_is_word (hr.mono (by decide)) (by rfl) (glo_is_word hd) (pa_cons (pe_ix (r := (rIxT K)) ix_tup (pv 0) pe_int (fun _ _ => rfl)) pa_nil)) (pe_one (pe_okf O_is_between (hr.mono (by decide)) (by rfl) (glo_is_between hd) (pa_cons (pe_ix (r := (rIxT K)) ix_tup (pv 0) pe_int (fun _ _ => rfl)) (pa_cons pe_int (pa_cons (pe_glob (by rfl) (int_MOST_COST hd).choose_spec ⟨_, rfl⟩) pa_nil))))))))))
/-! is_list -/
abbrev nm_is_list : List Str := ["value", "names", "one", "entry", "at", "letter"]
theorem sc_is_list : FnScope nm_is_list ["value"] (defScope st_is_list) := ⟨rfl, rfl, rfl, by decide +kernel, rfl, by decide +kernel, by decide +kernel⟩
def t_is_list (K : PySem.W.Frag) (s_is_entry : Sp) : TS := (tSeq (tIfS (tOr (tNot (tB (tCB (rIsi K) (tCons (tVar 0) (tCons (tC (.ty "tuple")) tNil))))) (tOr (tNot (tTest (tChain (rI0 fun i j => .bl (decide (i ≤ j))) (rI0 fun i j => .bl (decide (i ≤ j))) (tC (.int 1)) (tCB (rLen K) (tCons (tVar 0) tNil)) (tC (.int 8))))) (tNot (tB (tCB (rAll K) (tCons (tLc (iTup K (tVar 0)) (gName 2) tYes (tCall s_is_entry [] E0 (tCons (tVar 2) tNil)) [2]) tNil)))))) (tRet (tC (.bl false))) tNext)
  (tSeq (tAsg (tLc (iTup K (tVar 0)) (gName 3) tYes (tOp (rIxT K) (tVar 3) (tC (.int 0))) [3]) (gName 1))
  (tSeq (tIfS (tNot (tB (tCB (rAll K) (tCons (tLc (iRng1 (tCons (tOp (rI0 fun i j => .int (i - j)) (tCB (rLen K) (tCons (tVar 1) tNil)) (tC (.int 1))) tNil)) (gName 4) tYes (tOp rLtS (tOp (rIxL K) (tVar 1) (tVar 4)) (tOp (rIxL K) (tVar 1) (tOp (rI0 fun i j => .int (i + j)) (tVar 4) (tC (.int 1))))) [4]) tNil)))) (tRet (tC (.bl false))) tNext)
  (tRet (tCB (rAll K) (tCons (tLc (iStr (tM1 (rJoin K) (tC (.str "")) (tVar 1))) (gName 5) tYes (tOp (rIn K false) (tVar 5) (tVar 1)) [5]) tNil))))))
theorem ok_is_list {s_is_entry : Sp} {sp : Sp} (hd : Hd K mg) (O_is_entry : OkA P w K mg base 2 (He.ga K "is_entry") ["value"] s_is_entry) (len : ∀ vs H Q E, sp vs H Q E → vs.length = 1) (rd : ∀ vs H Q E, sp vs H Q E → t_is_list K s_is_entry { nx := fun _ H' => Q .non H', rt := Q } (L2.start nm_is_list vs) H) :
    OkA P w K mg base 3 (He.ga K "is_list") ["value"] sp := by
  obtain ⟨fd, F⟩ := fun_is_list hd
  refine ok_mk F sc_is_list (F.bindsN fun _ _ _ _ _ _ us hl => match us, hl with | [_], _ => rfl) len rd fun cdv A outer s H E hr => ?_
  have nd := (sc_is_list).nd
  exact (pss_cons (ps_if (PW.pt (pw_or (pt_not (pt_val (pe_callB call_isi (by rfl) (free_isinstance hd) (by decide +kernel) (pa_cons (pv 0) (pa_cons (pe_bltn (by rfl) (free_tuple hd) (by decide +kernel) rfl) pa_nil))))) (pw_or (pt_not (pt_chain op_le op_le pe_int (pe_callB call_len (by rfl) (free_len hd) (by decide +kernel) (pa_cons (pv 0) pa_nil)) (pe_glob (by rfl) (int_MOST_WORDS hd).choose_spec ⟨_, rfl⟩))) (pw_or1 (pt_not (pt_val (pe_callB (cr_all rfl) (by rfl) (free_all hd) (by decide +kernel) (pa_cons (pe_lc (own := [("one", 2)]) (g := (gName 2)) (tt := tYes) rfl nd (pi_tup (pv 0)) (blkOk_by (own := [("one", 2)]) (N := nm_is_list) (sc := defScope st_is_list) (by decide +kernel)) (fun _ _ _ _ _ => (pg_name (i := 2) nd rfl (Or.inl rfl))) (fun _ _ _ _ _ => pts_nil) (fun _ _ _ _ _ => (pe_okf O_is_entry (hr.mono (by decide)) (by rfl) (glo_is_entry hd) (pa_cons (pv 2) pa_nil)))) pa_nil)))))))) (pss_one (ps_ret pe_bl)) pss_nil)
    (pss_cons (ps_set (i := 1) nd rfl (Or.inr rfl) (pe_lc (own := [("entry", 3)]) (g := (gName 3)) (tt := tYes) rfl nd (pi_tup (pv 0)) (blkOk_by (own := [("entry", 3)]) (N := nm_is_list) (sc := defScope st_is_list) (by decide +kernel)) (fun _ _ _ _ _ => (pg_name (i := 3) nd rfl (Or.inl rfl))) (fun _ _ _ _ _ => pts_nil) (fun _ _ _ _ _ => (pe_ix (r := (rIxT K)) ix_tup (pv 3) pe_int (fun _ _ => rfl)))))
    (pss_cons (ps_if (pt_not (pt_val (pe_callB (cr_all rfl) (by rfl) (free_all hd) (by decide +kernel) (pa_cons (pe_lc (own := [("at", 4)]) (g := (gName 4)) (tt := tYes) rfl nd (pi_range1 rfl (free_range hd) (pa_cons (pe_op (r := (rI0 fun i j => .int (i - j))) op_sub (pe_callB call_len (by rfl) (free_len hd) (by decide +kernel) (pa_cons (pv 1) pa_nil)) pe_int) pa_nil)) (blkOk_by (own := [("at", 4)]) (N := nm_is_list) (sc := defScope st_is_list) (by decide +kernel)) (fun _ _ _ _ _ => (pg_name (i := 4) nd rfl (Or.inl rfl))) (fun _ _ _ _ _ => pts_nil) (fun _ _ _ _ _ => (pe_cmpR (r := rLtS) op_lt_str (pe_ix (r := (rIxL K)) ix_list (pv 1) (pv 4) (fun _ _ => rfl)) (pe_ix (r := (rIxL K)) ix_list (pv 1) (pe_op (r := (rI0 fun i j => .int (i + j))) op_add (pv 4) pe_int) (fun _ _ => rfl)) (nomark _)))) pa_nil)))) (pss_one (ps_ret pe_bl)) pss_nil)
    (pss_one (ps_ret (pe_callB (cr_all rfl) (by rfl) (free_all hd) (by decide +kernel) (pa_cons (pe_lc (own := [("letter", 5)]) (g := (gName 5)) (tt := tYes) rfl nd (pi_str (pe_join pe_str (pv 1))) (blkOk_by (own := [("letter", 5)]) (N := nm_is_list) (sc := defScope st_is_list) (by decide +kernel)) (fun _ _ _ _ _ => (pg_name (i := 5) nd rfl (Or.inl rfl))) (fun _ _ _ _ _ => pts_nil) (fun _ _ _ _ _ => (pe_cmpR (r := (rIn K false)) op_in_seq (pv 5) (pv 1) (by rfl)))) pa_nil)))))))
/-! letters_in -/
abbrev nm_letters_in : List Str := ["words", "entry"]
theorem sc_letters_in : FnScope nm_letters_in ["words"] (defScope st_letters_in) := ⟨rfl, rfl, rfl, by decide +kernel, rfl, by decide +kernel, by decide +kernel⟩
def t_letters_in (K : PySem.W.Frag)  : TS := (tRet (tM1 (rJoin K) (tC (.str "")) (tLc (iTup K (tVar 0)) (gName 1) (tTest (tOp rEq (tCB (rLen K) (tCons (tOp (rIxT K) (tVar 1) (tC (.int 0))) tNil)) (tC (.int 1)))) (tOp (rIxT K) (tVar 1) (tC (.int 0))) [1])))
theorem ok_letters_in {sp : Sp} (hd : Hd K mg)  (len : ∀ vs H Q E, sp vs H Q E → vs.length = 1) (rd : ∀ vs H Q E, sp vs H Q E → t_letters_in K  { nx := fun _ H' => Q .non H', rt := Q } (L2.start nm_letters_in vs) H) :
    OkA P w K mg base 1 (He.ga K "letters_in") ["words"] sp := by
  obtain ⟨fd, F⟩ := fun_letters_in hd
  refine ok_mk F sc_letters_in (F.bindsN fun _ _ _ _ _ _ us hl => match us, hl with | [_], _ => rfl) len rd fun cdv A outer s H E hr => ?_
  have nd := (sc_letters_in).nd
  exact (pss_one (ps_ret (pe_join pe_str (pe_lc (own := [("entry", 1)]) (g := (gName 1)) (tt := (tTest (tOp rEq (tCB (rLen K) (tCons (tOp (rIxT K) (tVar 1) (tC (.int 0))) tNil)) (tC (.int 1))))) rfl nd (pi_tup (pv 0)) (blkOk_by (own := [("entry", 1)]) (N := nm_letters_in) (sc := defScope st_letters_in) (by decide +kernel)) (fun _ _ _ _ _ => (pg_name (i := 1) nd rfl (Or.inl rfl))) (fun _ _ _ _ _ => (pts_one (pt_cmpR (r := rEq) op_eq (pe_callB call_len (by rfl) (free_len hd) (by decide +kernel) (pa_cons (pe_ix (r := (rIxT K)) ix_tup (pv 1) pe_int (fun _ _ => rfl)) pa_nil)) pe_int (nomark _)))) (fun _ _ _ _ _ => (pe_ix (r := (rIxT K)) ix_tup (pv 1) pe_int (fun _ _ => rfl)))))))
/-! names_in -/
abbrev nm_names_in : List Str := ["words", "entry"]
theorem sc_names_in : FnScope nm_names_in ["words"] (defScope st_names_in) := ⟨rfl, rfl, rfl, by decide +kernel, rfl, by decide +kernel, by decide +kernel⟩
def t_names_in (K : PySem.W.Frag)  : TS := (tRet (tLc (iTup K (tVar 0)) (gName 1) tYes (tOp (rIxT K) (tVar 1) (tC (.int 0))) [1]))
theorem ok_names_in {sp : Sp} (hd : Hd K mg)  (len : ∀ vs H Q E, sp vs H Q E → vs.length = 1) (rd : ∀ vs H Q E, sp vs H Q E → t_names_in K  { nx := fun _ H' => Q .non H', rt := Q } (L2.start nm_names_in vs) H) :
    OkA P w K mg base 1 (He.ga K "names_in") ["words"] sp := by
  obtain ⟨fd, F⟩ := fun_names_in hd
  refine ok_mk F sc_names_in (F.bindsN fun _ _ _ _ _ _ us hl => match us, hl with | [_], _ => rfl) len rd fun cdv A outer s H E hr => ?_
  have nd := (sc_names_in).nd
  exact (pss_one (ps_ret (pe_lc (own := [("entry", 1)]) (g := (gName 1)) (tt := tYes) rfl nd (pi_tup (pv 0)) (blkOk_by (own := [("entry", 1)]) (N := nm_names_in) (sc := defScope st_names_in) (by decide +kernel)) (fun _ _ _ _ _ => (pg_name (i := 1) nd rfl (Or.inl rfl))) (fun _ _ _ _ _ => pts_nil) (fun _ _ _ _ _ => (pe_ix (r := (rIxT K)) ix_tup (pv 1) pe_int (fun _ _ => rfl))))))
/-! cost_in -/
abbrev nm_cost_in : List Str := ["words", "word", "entry"]
theorem sc_cost_in : FnScope nm_cost_in ["words", "word"] (defScope st_cost_in) := ⟨rfl, rfl, rfl, by decide +kernel, rfl, by decide +kernel, by decide +kernel⟩
def t_cost_in (K : PySem.W.Frag)  : TS := (tRet (tOp (rIxL K) (tLc (iTup K (tVar 0)) (gName 2) (tTest (tOp rEq (tOp (rIxT K) (tVar 2) (tC (.int 0))) (tVar 1))) (tOp (rIxT K) (tVar 2) (tC (.int 1))) [2]) (tC (.int 0))))
theorem ok_cost_in {sp : Sp} (hd : Hd K mg)  (len : ∀ vs H Q E, sp vs H Q E → vs.length = 2) (rd : ∀ vs H Q E, sp vs H Q E → t_cost_in K  { nx := fun _ H' => Q .non H', rt := Q } (L2.start nm_cost_in vs) H) :
    OkA P w K mg base 1 (He.ga K "cost_in") ["words", "word"] sp := by
  obtain ⟨fd, F⟩ := fun_cost_in hd
  refine ok_mk F sc_cost_in (F.bindsN fun _ _ _ _ _ _ us hl => match us, hl with | [_, _], _ => rfl) len rd fun cdv A outer s H E hr => ?_
  have nd := (sc_cost_in).nd
  exact (pss_one (ps_ret (pe_ix (r := (rIxL K)) ix_list (pe_lc (own := [("entry", 2)]) (g := (gName 2)) (tt := (tTest (tOp rEq (tOp (rIxT K) (tVar 2) (tC (.int 0))) (tVar 1)))) rfl nd (pi_tup (pv 0)) (blkOk_by (own := [("entry", 2)]) (N := nm_cost_in) (sc := defScope st_cost_in) (by decide +kernel)) (fun _ _ _ _ _ => (pg_name (i := 2) nd rfl (Or.inl rfl))) (fun _ _ _ _ _ => (pts_one (pt_cmpR (r := rEq) op_eq (pe_ix (r := (rIxT K)) ix_tup (pv 2) pe_int (fun _ _ => rfl)) (pv 1) (nomark _)))) (fun _ _ _ _ _ => (pe_ix (r := (rIxT K)) ix_tup (pv 2) pe_int (fun _ _ => rfl)))) pe_int (fun _ _ => rfl))))
/-! has_word -/
abbrev nm_has_word : List Str := ["words", "word"]
theorem sc_has_word : FnScope nm_has_word ["words", "word"] (defScope st_has_word) := ⟨rfl, rfl, rfl, by decide +kernel, rfl, by decide +kernel, by decide +kernel⟩
def t_has_word (K : PySem.W.Frag) (s_names_in : Sp) : TS := (tRet (tOp (rIn K false) (tVar 1) (tCall s_names_in [] E0 (tCons (tVar 0) tNil))))
theorem ok_has_word {s_names_in : Sp} {sp : Sp} (hd : Hd K mg) (O_names_in : OkA P w K mg base 1 (He.ga K "names_in") ["words"] s_names_in) (len : ∀ vs H Q E, sp vs H Q E → vs.length = 2) (rd : ∀ vs H Q E, sp vs H Q E → t_has_word K s_names_in { nx := fun _ H' => Q .non H', rt := Q } (L2.start nm_has_word vs) H) :
    OkA P w K mg base 2 (He.ga K "has_word") ["words", "word"] sp := by
  obtain ⟨fd, F⟩ := fun_has_word hd
  refine ok_mk F sc_has_word (F.bindsN fun _ _ _ _ _ _ us hl => match us, hl with | [_, _], _ => rfl) len rd fun cdv A outer s H E hr => ?_
  have nd := (sc_has_word).nd
  exact (pss_one (ps_ret (pe_cmpR (r := (rIn K false)) op_in_seq (pv 1) (pe_okf O_names_in (hr.mono (by decide)) (by rfl) (glo_names_in hd) (pa_cons (pv 0) pa_nil)) (by rfl))))
/-! words_from -/
abbrev nm_words_from : List Str := ["words", "text", "index", "names", "parts", "size", "part"]
theorem sc_words_from : FnScope nm_words_from ["words", "text", "index"] (defScope st_words_from) := ⟨rfl, rfl, rfl, by decide +kernel, rfl, by decide +kernel, by decide +kernel⟩
def t_words_from (K : PySem.W.Frag) (s_names_in : Sp) : TS := (tSeq (tAsg (tCall s_names_in [] E0 (tCons (tVar 0) tNil)) (gName 3))
  (tSeq (tAsg (tLc (iRng2 (tCons (tC (.int 1)) (tCons (tOp (rI0 fun i j => .int (i + j)) (tCB rMin2 (tCons (tC (.int 4)) (tCons (tOp (rI0 fun i j => .int (i - j)) (tCB (rLen K) (tCons (tVar 1) tNil)) (tVar 2)) tNil))) (tC (.int 1))) tNil))) (gName 5) tYes (tSl rSlS (tVar 1) (tPart (tVar 2)) (tPart (tOp (rI0 fun i j => .int (i + j)) (tVar 2) (tVar 5)))) [5]) (gName 4))
  (tRet (tCB (rTupleOf K) (tCons (tLc (iList K (tVar 4)) (gName 6) (tTest (tOp (rIn K false) (tVar 6) (tVar 3))) (tVar 6) [6]) tNil)))))
theorem ok_words_from {s_names_in : Sp} {sp : Sp} (hd : Hd K mg) (O_names_in : OkA P w K mg base 1 (He.ga K "names_in") ["words"] s_names_in) (len : ∀ vs H Q E, sp vs H Q E → vs.length = 3) (rd : ∀ vs H Q E, sp vs H Q E → t_words_from K s_names_in { nx := fun _ H' => Q .non H', rt := Q } (L2.start nm_words_from vs) H) :
    OkA P w K mg base 2 (He.ga K "words_from") ["words", "text", "index"] sp := by
  obtain ⟨fd, F⟩ := fun_words_from hd
  refine ok_mk F sc_words_from (F.bindsN fun _ _ _ _ _ _ us hl => match us, hl with | [_, _, _], _ => rfl) len rd fun cdv A outer s H E hr => ?_
  have nd := (sc_words_from).nd
  exact (pss_cons (ps_set (i := 3) nd rfl (Or.inr rfl) (pe_okf O_names_in (hr.mono (by decide)) (by rfl) (glo_names_in hd) (pa_cons (pv 0) pa_nil)))
    (pss_cons (ps_setLc (i := 4) (own := [("size", 5)]) (g := (gName 5)) (tt := tYes) rfl nd rfl rfl (sw_true rfl rfl rfl (by decide +kernel)) (pi_range2 rfl (free_range hd) (pa_cons pe_int (pa_cons (pe_op (r := (rI0 fun i j => .int (i + j))) op_add (pe_callB (call_min2 rfl) (by rfl) (free_min hd) (by decide +kernel) (pa_cons (pe_glob (by rfl) (int_LONGEST hd).choose_spec ⟨_, rfl⟩) (pa_cons (pe_op (r := (rI0 fun i j => .int (i - j))) op_sub (pe_callB call_len (by rfl) (free_len hd) (by decide +kernel) (pa_cons (pv 1) pa_nil)) (pv 2)) pa_nil))) pe_int) pa_nil))) (blkOk_by (own := [("size", 5)]) (N := nm_words_from) (sc := defScope st_words_from) (by decide +kernel)) (fun _ _ _ _ _ => (pg_name (i := 5) nd rfl (Or.inl rfl))) (fun _ _ _ _ _ => pts_nil) (fun _ _ _ _ _ => (pe_slice (r := rSlS) sl_str (pv 1) (po_some (pv 2)) (po_some (pe_op (r := (rI0 fun i j => .int (i + j))) op_add (pv 2) (pv 5))))))
    (pss_one (ps_ret (pe_callTy call_tuple_of (by rfl) (free_tuple hd) (by decide +kernel) (pa_cons (pe_lc (own := [("part", 6)]) (g := (gName 6)) (tt := (tTest (tOp (rIn K false) (tVar 6) (tVar 3)))) rfl nd (pi_list (pv 4)) (blkOk_by (own := [("part", 6)]) (N := nm_words_from) (sc := defScope st_words_from) (by decide +kernel)) (fun _ _ _ _ _ => (pg_name (i := 6) nd rfl (Or.inl rfl))) (fun _ _ _ _ _ => (pts_one (pt_cmpR (r := (rIn K false)) op_in_seq (pv 6) (pv 3) (by rfl)))) (fun _ _ _ _ _ => (pv 6))) pa_nil))))))
/-! longest_from -/
abbrev nm_longest_from : List Str := ["words", "text", "index"]
theorem sc_longest_from : FnScope nm_longest_from ["words", "text", "index"] (defScope st_longest_from) := ⟨rfl, rfl, rfl, by decide +kernel, rfl, by decide +kernel, by decide +kernel⟩
def t_longest_from (K : PySem.W.Frag) (s_words_from : Sp) : TS := (tRet (tOp (rIxT K) (tCall s_words_from [] E0 (tCons (tVar 0) (tCons (tVar 1) (tCons (tVar 2) tNil)))) (tUn (rU fun i => .int (-i)) (tC (.int 1)))))
theorem ok_longest_from {s_words_from : Sp} {sp : Sp} (hd : Hd K mg) (O_words_from : OkA P w K mg base 2 (He.ga K "words_from") ["words", "text", "index"] s_words_from) (len : ∀ vs H Q E, sp vs H Q E → vs.length = 3) (rd : ∀ vs H Q E, sp vs H Q E → t_longest_from K s_words_from { nx := fun _ H' => Q .non H', rt := Q } (L2.start nm_longest_from vs) H) :
    OkA P w K mg base 3 (He.ga K "longest_from") ["words", "text", "index"] sp := by
  obtain ⟨fd, F⟩ := fun_longest_from hd
  refine ok_mk F sc_longest_from (F.bindsN fun _ _ _ _ _ _ us hl => match us, hl with | [_, _, _], _ => rfl) len rd fun cdv A outer s H E hr => ?_
  have nd := (sc_longest_from).nd
  exact (pss_one (ps_ret (pe_ix (r := (rIxT K)) ix_tup (pe_okf O_words_from (hr.mono (by decide)) (by rfl) (glo_words_from hd) (pa_cons (pv 0) (pa_cons (pv 1) (pa_cons (pv 2) pa_nil)))) (pe_un un_neg pe_int) (fun _ _ => rfl))))
/-! is_integer -/
abbrev nm_is_integer : List Str := ["value"]
theorem sc_is_integer : FnScope nm_is_integer ["value"] (defScope st_is_integer) := ⟨rfl, rfl, rfl, by decide +kernel, rfl, by decide +kernel, by decide +kernel⟩
def t_is_integer (K : PySem.W.Frag)  : TS := (tRet (tAndV (tCB (rIsi K) (tCons (tVar 0) (tCons (tC (.ty "int")) tNil))) (tNotV (tCB (rIsi K) (tCons (tVar 0) (tCons (tC (.ty "bool")) tNil))))))
theorem ok_is_integer {sp : Sp} (hd : Hd K mg)  (len : ∀ vs H Q E, sp vs H Q E → vs.length = 1) (rd : ∀ vs H Q E, sp vs H Q E → t_is_integer K  { nx := fun _ H' => Q .non H', rt := Q } (L2.start nm_is_integer vs) H) :
    OkA P w K mg base 1 (He.ga K "is_integer") ["value"] sp := by
  obtain ⟨fd, F⟩ := fun_is_integer hd
  refine ok_mk F sc_is_integer (F.bindsN fun _ _ _ _ _ _ us hl => match us, hl with | [_], _ => rfl) len rd fun cdv A outer s H E hr => ?_
  have nd := (sc_is_integer).nd
  exact (pss_one (ps_ret (pe_and (pe_callB call_isi (by rfl) (free_isinstance hd) (by decide +kernel) (pa_cons (pv 0) (pa_cons (pe_bltn (by rfl) (free_int hd) (by decide +kernel) rfl) pa_nil))) (pe_one (pe_not (pe_callB call_isi (by rfl) (free_isinstance hd) (by decide +kernel) (pa_cons (pv 0) (pa_cons (pe_bltn (by rfl) (free_bool hd) (by decide +kernel) rfl) pa_nil))))))))
/-! check_words -/
abbrev nm_check_words : List Str := ["words"]
theorem sc_check_words : FnScope nm_check_words ["words"] (defScope st_check_words) := ⟨rfl, rfl, rfl, by decide +kernel, rfl, by decide +kernel, by decide +kernel⟩
def t_check_words (K : PySem.W.Frag) (s_is_list : Sp) : TS := (tIfS (tNot (tB (tCall s_is_list [] E0 (tCons (tVar 0) tNil)))) tNever tNext)
theorem ok_check_words {s_is_list : Sp} {sp : Sp} (hd : Hd K mg) (O_is_list : OkA P w K mg base 3 (He.ga K "is_list") ["value"] s_is_list) (len : ∀ vs H Q E, sp vs H Q E → vs.length = 1) (rd : ∀ vs H Q E, sp vs H Q E → t_check_words K s_is_list { nx := fun _ H' => Q .non H', rt := Q } (L2.start nm_check_words vs) H) :
    OkA P w K mg base 4 (He.ga K "check_words") ["words"] sp := by
  obtain ⟨fd, F⟩ := fun_check_words hd
  refine ok_mk F sc_check_words (F.bindsN fun _ _ _ _ _ _ us hl => match us, hl with | [_], _ => rfl) len rd fun cdv A outer s H E hr => ?_
  have nd := (sc_check_words).nd
  exact (pss_one (ps_if (pt_not (pt_val (pe_okf O_is_list (hr.mono (by decide)) (by rfl) (glo_is_list hd) (pa_cons (pv 0) pa_nil)))) (pss_one ps_never) pss_nil))
/-! match_of -/
abbrev nm_match_of : List Str := ["words", "text", "found", "at", "word"]
theorem sc_match_of : FnScope nm_match_of ["words", "text"] (defScope st_match_of) := ⟨rfl, rfl, rfl, by decide +kernel, rfl, by decide +kernel, by decide +kernel⟩
def t_match_of (K : PySem.W.Frag) (s_longest_from : Sp) : TS := (tSeq (tAsg (tLst tNil) (gName 2))
  (tSeq (tAsg (tC (.int 0)) (gName 3))
  (tSeq (tWhile (tTest (tOp (rI0 fun i j => .bl (decide (i < j))) (tVar 3) (tCB (rLen K) (tCons (tVar 1) tNil))))
    (tSeq (tAsg (tCall s_longest_from [] E0 (tCons (tVar 0) (tCons (tVar 1) (tCons (tVar 3) tNil)))) (gName 4))
  (tSeq (tDrop (tBM K "list" rAppend (tVar 2) (tCons (tVar 4) tNil)))
  (tAsg (tOp (rI0 fun i j => .int (i + j)) (tVar 3) (tCB (rLen K) (tCons (tVar 4) tNil))) (gName 3)))))
  (tRet (tCB (rTupleOf K) (tCons (tVar 2) tNil))))))
theorem ok_match_of {s_longest_from : Sp} {sp : Sp} (hd : Hd K mg) (O_longest_from : OkA P w K mg base 3 (He.ga K "longest_from") ["words", "text", "index"] s_longest_from) (len : ∀ vs H Q E, sp vs H Q E → vs.length = 2) (rd : ∀ vs H Q E, sp vs H Q E → t_match_of K s_longest_from { nx := fun _ H' => Q .non H', rt := Q } (L2.start nm_match_of vs) H) :
    OkA P w K mg base 4 (He.ga K "match_of") ["words", "text"] sp := by
  obtain ⟨fd, F⟩ := fun_match_of hd
  refine ok_mk F sc_match_of (F.bindsN fun _ _ _ _ _ _ us hl => match us, hl with | [_, _], _ => rfl) len rd fun cdv A outer s H E hr => ?_
  have nd := (sc_match_of).nd
  exact (pss_cons (ps_set (i := 2) nd rfl (Or.inl rfl) (pe_lst pa_nil))
    (pss_cons (ps_set (i := 3) nd rfl (Or.inl rfl) pe_int)
    (pss_cons (ps_while PassesOwn.never (pt_cmpR (r := (rI0 fun i j => .bl (decide (i < j)))) op_lt (pv 3) (pe_callB call_len (by rfl) (free_len hd) (by decide +kernel) (pa_cons (pv 1) pa_nil)) (nomark _))
      (pss_cons (ps_set (i := 4) nd rfl (Or.inl rfl) (pe_okf O_longest_from (hr.mono (by decide)) (by rfl) (glo_longest_from hd) (pa_cons (pv 0) (pa_cons (pv 1) (pa_cons (pv 3) pa_nil)))))
    (pss_cons (ps_expr (pe_bm PySem.F.plainAttrs_list PySem.F.slot_list_append PySem.F.type_list_append mt_append (pv 2) (pa_cons (pv 4) pa_nil)))
    (pss_one (ps_set (i := 3) nd rfl (Or.inl rfl) (pe_op (r := (rI0 fun i j => .int (i + j))) op_add (pv 3) (pe_callB call_len (by rfl) (free_len hd) (by decide +kernel) (pa_cons (pv 4) pa_nil))))))))
    (pss_one (ps_ret (pe_callTy call_tuple_of (by rfl) (free_tuple hd) (by decide +kernel) (pa_cons (pv 2) pa_nil)))))))
/-! cost_of_row -/
abbrev nm_cost_of_row : List Str := ["words", "row", "word"]
theorem sc_cost_of_row : FnScope nm_cost_of_row ["words", "row"] (defScope st_cost_of_row) := ⟨rfl, rfl, rfl, by decide +kernel, rfl, by decide +kernel, by decide +kernel⟩
def t_cost_of_row (K : PySem.W.Frag) (s_cost_in : Sp) : TS := (tRet (tCB (rSum K) (tCons (tLc (iTup K (tVar 1)) (gName 2) tYes (tCall s_cost_in [] E0 (tCons (tVar 0) (tCons (tVar 2) tNil))) [2]) tNil)))
theorem ok_cost_of_row {s_cost_in : Sp} {sp : Sp} (hd : Hd K mg) (O_cost_in : OkA P w K mg base 1 (He.ga K "cost_in") ["words", "word"] s_cost_in) (len : ∀ vs H Q E, sp vs H Q E → vs.length = 2) (rd : ∀ vs H Q E, sp vs H Q E → t_cost_of_row K s_cost_in { nx := fun _ H' => Q .non H', rt := Q } (L2.start nm_cost_of_row vs) H) :
    OkA P w K mg base 2 (He.ga K "cost_of_row") ["words", "row"] sp := by
  obtain ⟨fd, F⟩ := fun_cost_of_row hd
  refine ok_mk F sc_cost_of_row (F.bindsN fun _ _ _ _ _ _ us hl => match us, hl with | [_, _], _ => rfl) len rd fun cdv A outer s H E hr => ?_
  have nd := (sc_cost_of_row).nd
  exact (pss_one (ps_ret (pe_callB (cr_sum rfl) (by rfl) (free_sum hd) (by decide +kernel) (pa_cons (pe_lc (own := [("word", 2)]) (g := (gName 2)) (tt := tYes) rfl nd (pi_tup (pv 1)) (blkOk_by (own := [("word", 2)]) (N := nm_cost_of_row) (sc := defScope st_cost_of_row) (by decide +kernel)) (fun _ _ _ _ _ => (pg_name (i := 2) nd rfl (Or.inl rfl))) (fun _ _ _ _ _ => pts_nil) (fun _ _ _ _ _ => (pe_okf O_cost_in (hr.mono (by decide)) (by rfl) (glo_cost_in hd) (pa_cons (pv 0) (pa_cons (pv 2) pa_nil))))) pa_nil))))
/-! can_grow -/
abbrev nm_can_grow : List Str := ["words", "text", "word", "cost"]
theorem sc_can_grow : FnScope nm_can_grow ["words", "text"] (defScope st_can_grow) := ⟨rfl, rfl, rfl, by decide +kernel, rfl, by decide +kernel, by decide +kernel⟩
def t_can_grow (K : PySem.W.Frag)  : TS := (tRet (tCB (rAny K) (tCons (tLc (iTup K (tVar 0)) (gTup K 2 (gCons (gName 2) (gCons (gName 3) gNil))) tYes (tAndV (tOp (rI0 fun i j => .bl (decide (j < i))) (tCB (rLen K) (tCons (tVar 2) tNil)) (tCB (rLen K) (tCons (tVar 1) tNil))) (tOp rEq (tSl rSlS (tVar 2) tNoPart (tPart (tCB (rLen K) (tCons (tVar 1) tNil)))) (tVar 1))) [2, 3]) tNil)))
theorem ok_can_grow {sp : Sp} (hd : Hd K mg)  (len : ∀ vs H Q E, sp vs H Q E → vs.length = 2) (rd : ∀ vs H Q E, sp vs H Q E → t_can_grow K  { nx := fun _ H' => Q .non H', rt := Q } (L2.start nm_can_grow vs) H) :
    OkA P w K mg base 1 (He.ga K "can_grow") ["words", "text"] sp := by
  obtain ⟨fd, F⟩ := fun_can_grow hd
  refine ok_mk F sc_can_grow (F.bindsN fun _ _ _ _ _ _ us hl => match us, hl with | [_, _], _ => rfl) len rd fun cdv A outer s H E hr => ?_
  have nd := (sc_can_grow).nd
  exact (pss_one (ps_ret (pe_callB (cr_any rfl) (by rfl) (free_any hd) (by decide +kernel) (pa_cons (pe_lc (own := [("word", 2), ("cost", 3)]) (g := (gTup K 2 (gCons (gName 2) (gCons (gName 3) gNil)))) (tt := tYes) rfl nd (pi_tup (pv 0)) (blkOk_by (own := [("word", 2), ("cost", 3)]) (N := nm_can_grow) (sc := defScope st_can_grow) (by decide +kernel)) (fun _ _ _ _ _ => (pg_tup rfl (pgs_cons (pg_name (i := 2) nd rfl (Or.inl rfl)) (pgs_cons (pg_name (i := 3) nd rfl (Or.inl rfl)) pgs_nil)))) (fun _ _ _ _ _ => pts_nil) (fun _ _ _ _ _ => (pe_and (pe_cmpR (r := (rI0 fun i j => .bl (decide (j < i)))) op_gt (pe_callB call_len (by rfl) (free_len hd) (by decide +kernel) (pa_cons (pv 2) pa_nil)) (pe_callB call_len (by rfl) (free_len hd) (by decide +kernel) (pa_cons (pv 1) pa_nil)) (nomark _)) (pe_one (pe_cmpR (r := rEq) op_eq (pe_slice (r := rSlS) sl_str (pv 2) po_none (po_some (pe_callB call_len (by rfl) (free_len hd) (by decide +kernel) (pa_cons (pv 1) pa_nil)))) (pv 1) (nomark _)))))) pa_nil))))
/-! read_on -/
abbrev nm_read_on : List Str := ["words", "held", "letter", "given", "word"]
theorem sc_read_on : FnScope nm_read_on ["words", "held", "letter"] (defScope st_read_on) := ⟨rfl, rfl, rfl, by decide +kernel, rfl, by decide +kernel, by decide +kernel⟩
def t_read_on (K : PySem.W.Frag) (s_can_grow : Sp) (s_longest_from : Sp) : TS := (tSeq (tAsg (tOp rCatS (tVar 1) (tVar 2)) (gName 1))
  (tSeq (tAsg (tLst tNil) (gName 3))
  (tSeq (tWhile (tAnd (tTest (tOp rNe (tVar 1) (tC (.str "")))) (tNot (tB (tCall s_can_grow [] E0 (tCons (tVar 0) (tCons (tVar 1) tNil))))))
    (tSeq (tAsg (tCall s_longest_from [] E0 (tCons (tVar 0) (tCons (tVar 1) (tCons (tC (.int 0)) tNil)))) (gName 4))
  (tSeq (tDrop (tBM K "list" rAppend (tVar 3) (tCons (tVar 4) tNil)))
  (tAsg (tSl rSlS (tVar 1) (tPart (tCB (rLen K) (tCons (tVar 4) tNil))) tNoPart) (gName 1)))))
  (tRet (tTup (tCons (tCB (rTupleOf K) (tCons (tVar 3) tNil)) (tCons (tVar 1) tNil)))))))
theorem ok_read_on {s_can_grow s_longest_from : Sp} {sp : Sp} (hd : Hd K mg) (O_can_grow : OkA P w K mg base 1 (He.ga K "can_grow") ["words", "text"] s_can_grow) (O_longest_from : OkA P w K mg base 3 (He.ga K "longest_from") ["words", "text", "index"] s_longest_from) (len : ∀ vs H Q E, sp vs H Q E → vs.length = 3) (rd : ∀ vs H Q E, sp vs H Q E → t_read_on K s_can_grow s_longest_from { nx := fun _ H' => Q .non H', rt := Q } (L2.start nm_read_on vs) H) :
    OkA P w K mg base 4 (He.ga K "read_on") ["words", "held", "letter"] sp := by
  obtain ⟨fd, F⟩ := fun_read_on hd
  refine ok_mk F sc_read_on (F.bindsN fun _ _ _ _ _ _ us hl => match us, hl with | [_, _, _], _ => rfl) len rd fun cdv A outer s H E hr => ?_
  have nd := (sc_read_on).nd
  exact (pss_cons (ps_set (i := 1) nd rfl (Or.inl rfl) (pe_op (r := rCatS) op_add_str (pv 1) (pv 2)))
    (pss_cons (ps_set (i := 3) nd rfl (Or.inl rfl) (pe_lst pa_nil))
    (pss_cons (ps_while PassesOwn.never (PW.pt (pw_and (pt_cmpR (r := rNe) op_ne (pv 1) pe_str (nomark _)) (pw_and1 (pt_not (pt_val (pe_okf O_can_grow (hr.mono (by decide)) (by rfl) (glo_can_grow hd) (pa_cons (pv 0) (pa_cons (pv 1) pa_nil))))))))
      (pss_cons (ps_set (i := 4) nd rfl (Or.inl rfl) (pe_okf O_longest_from (hr.mono (by decide)) (by rfl) (glo_longest_from hd) (pa_cons (pv 0) (pa_cons (pv 1) (pa_cons pe_int pa_nil)))))
    (pss_cons (ps_expr (pe_bm PySem.F.plainAttrs_list PySem.F.slot_list_append PySem.F.type_list_append mt_append (pv 3) (pa_cons (pv 4) pa_nil)))
    (pss_one (ps_set (i := 1) nd rfl (Or.inl rfl) (pe_slice (r := rSlS) sl_str (pv 1) (po_some (pe_callB call_len (by rfl) (free_len hd) (by decide +kernel) (pa_cons (pv 4) pa_nil))) po_none))))))
    (pss_one (ps_ret (pe_tup (pa_cons (pe_callTy call_tuple_of (by rfl) (free_tuple hd) (by decide +kernel) (pa_cons (pv 3) pa_nil)) (pa_cons (pv 1) pa_nil))))))))
/-! steps_of -/
abbrev nm_steps_of : List Str := ["words", "held", "tail", "letter", "given", "rest", "gain", "longer", "found"]
theorem sc_steps_of : FnScope nm_steps_of ["words", "held", "tail", "letter"] (defScope st_steps_of) := ⟨rfl, rfl, rfl, by decide +kernel, rfl, by decide +kernel, by decide +kernel⟩
def t_steps_of (K : PySem.W.Frag) (s_read_on : Sp) (s_cost_of_row : Sp) (s_has_word : Sp) (s_cost_in : Sp) (s_can_grow : Sp) : TS := (tSeq (tAsg (tCall s_read_on [] E0 (tCons (tVar 0) (tCons (tVar 1) (tCons (tVar 3) tNil)))) (gTup K 2 (gCons (gName 4) (gCons (gName 5) gNil))))
  (tSeq (tAsg (tCall s_cost_of_row [] E0 (tCons (tVar 0) (tCons (tVar 4) tNil))) (gName 6))
  (tSeq (tAsg (tOp rCatS (tVar 2) (tVar 3)) (gName 7))
  (tSeq (tAsg (tLst tNil) (gName 8))
  (tSeq (tIfS (tB (tCall s_has_word [] E0 (tCons (tVar 0) (tCons (tVar 7) tNil)))) (tDrop (tBM K "list" rAppend (tVar 8) (tCons (tTup (tCons (tVar 5) (tCons (tC (.str "")) (tCons (tVar 6) (tCons (tCall s_cost_in [] E0 (tCons (tVar 0) (tCons (tVar 7) tNil))) tNil))))) tNil))) tNext)
  (tSeq (tIfS (tB (tCall s_can_grow [] E0 (tCons (tVar 0) (tCons (tVar 7) tNil)))) (tDrop (tBM K "list" rAppend (tVar 8) (tCons (tTup (tCons (tVar 5) (tCons (tVar 7) (tCons (tVar 6) (tCons (tC (.int 0)) tNil))))) tNil))) tNext)
  (tRet (tVar 8))))))))
theorem ok_steps_of {s_read_on s_cost_of_row s_has_word s_cost_in s_can_grow : Sp} {sp : Sp} (hd : Hd K mg) (O_read_on : OkA P w K mg base 4 (He.ga K "read_on") ["words", "held", "letter"] s_read_on) (O_cost_of_row : OkA P w K mg base 2 (He.ga K "cost_of_row") ["words", "row"] s_cost_of_row) (O_has_word : OkA P w K mg base 2 (He.ga K "has_word") ["words", "word"] s_has_word) (O_cost_in : OkA P w K mg base 1 (He.ga K "cost_in") ["words", "word"] s_cost_in) (O_can_grow : OkA P w K mg base 1 (He.ga K "can_grow") ["words", "text"] s_can_grow) (len : ∀ vs H Q E, sp vs H Q E → vs.length = 4) (rd : ∀ vs H Q E, sp vs H Q E → t_steps_of K s_read_on s_cost_of_row s_has_word s_cost_in s_can_grow { nx := fun _ H' => Q .non H', rt := Q } (L2.start nm_steps_of vs) H) :
    OkA P w K mg base 5 (He.ga K "steps_of") ["words", "held", "tail", "letter"] sp := by
  obtain ⟨fd, F⟩ := fun_steps_of hd
  refine ok_mk F sc_steps_of (F.bindsN fun _ _ _ _ _ _ us hl => match us, hl with | [_, _, _, _], _ => rfl) len rd fun cdv A outer s H E hr => ?_
  have nd := (sc_steps_of).nd
  exact (pss_cons (ps_asg (pe_okf O_read_on (hr.mono (by decide)) (by rfl) (glo_read_on hd) (pa_cons (pv 0) (pa_cons (pv 1) (pa_cons (pv 3) pa_nil)))) (pg_tup rfl (pgs_cons (pg_name (i := 4) nd rfl (Or.inl rfl)) (pgs_cons (pg_name (i := 5) nd rfl (Or.inl rfl)) pgs_nil))))
    (pss_cons (ps_set (i := 6) nd rfl (Or.inl rfl) (pe_okf O_cost_of_row (hr.mono (by decide)) (by rfl) (glo_cost_of_row hd) (pa_cons (pv 0) (pa_cons (pv 4) pa_nil))))
    (pss_cons (ps_set (i := 7) nd rfl (Or.inl rfl) (pe_op (r := rCatS) op_add_str (pv 2) (pv 3)))
    (pss_cons (ps_set (i := 8) nd rfl (Or.inl rfl) (pe_lst pa_nil))
    (pss_cons (ps_if (pt_val (pe_okf O_has_word (hr.mono (by decide)) (by rfl) (glo_has_word hd) (pa_cons (pv 0) (pa_cons (pv 7) pa_nil)))) (pss_one (ps_expr (pe_bm PySem.F.plainAttrs_list PySem.F.slot_list_append PySem.F.type_list_append mt_append (pv 8) (pa_cons (pe_tup (pa_cons (pv 5) (pa_cons pe_str (pa_cons (pv 6) (pa_cons (pe_okf O_cost_in (hr.mono (by decide)) (by rfl) (glo_cost_in hd) (pa_cons (pv 0) (pa_cons (pv 7) pa_nil))) pa_nil))))) pa_nil)))) pss_nil)
    (pss_cons (ps_if (pt_val (pe_okf O_can_grow (hr.mono (by decide)) (by rfl) (glo_can_grow hd) (pa_cons (pv 0) (pa_cons (pv 7) pa_nil)))) (pss_one (ps_expr (pe_bm PySem.F.plainAttrs_list PySem.F.slot_list_append PySem.F.type_list_append mt_append (pv 8) (pa_cons (pe_tup (pa_cons (pv 5) (pa_cons (pv 7) (pa_cons (pv 6) (pa_cons pe_int pa_nil))))) pa_nil)))) pss_nil)
    (pss_one (ps_ret (pv 8)))))))))
end
end GC

-- part DV2
set_option Elab.async false
set_option linter.all false
set_option maxRecDepth 100000
set_option maxHeartbeats 4000000
namespace GC
open PySem PySem.Spec PyProof.Rows L2
section
variable {P : Program} {w : World} {K : PySem.W.Frag} {mg : Str → Option Value} {base : Heap}

/-! is_triple -/
abbrev nm_is_triple : List Str := ["value"]
theorem sc_is_triple : FnScope nm_is_triple ["value"] (defScope st_is_triple) := ⟨rfl, rfl, rfl, by decide +kernel, rfl, by decide +kernel, by decide +kernel⟩
def t_is_triple (K : PySem.W.Frag) (s_is_integer : Sp) : TS := (tSeq (tIfS (tOr (tNot (tB (tCB (rIsi K) (tCons (tVar 0) (tCons (tC (.ty "tuple")) tNil))))) (tOr (tTest (tOp rNe (tCB (rLen K) (tCons (tVar 0) tNil)) (tC (.int 3)))) (tNot (tB (tCall s_is_integer [] E0 (tCons (tOp (rIxT K) (tVar 0) (tC (.int 2))) tNil)))))) (tRet (tC (.bl false))) tNext)
  (tRet (tAndV (tCB (rIsi K) (tCons (tOp (rIxT K) (tVar 0) (tC (.int 0))) (tCons (tC (.ty "str")) tNil))) (tCB (rIsi K) (tCons (tOp (rIxT K) (tVar 0) (tC (.int 1))) (tCons (tC (.ty "str")) tNil))))))
theorem ok_is_triple {s_is_integer : Sp} {sp : Sp} (hd : Hd K mg) (O_is_integer : OkA P w K mg base 1 (He.ga K "is_integer") ["value"] s_is_integer) (len : ∀ vs H Q E, sp vs H Q E → vs.length = 1) (rd : ∀ vs H Q E, sp vs H Q E → t_is_triple K s_is_integer { nx := fun _ H' => Q .non H', rt := Q } (L2.start nm_is_triple vs) H) :
    OkA P w K mg base 2 (He.ga K "is_triple") ["value"] sp := by
  obtain ⟨fd, F⟩ := fun_is_triple hd
  refine ok_mk F sc_is_triple (F.bindsN fun _ _ _ _ _ _ us hl => match us, hl with | [_], _ => rfl) len rd fun cdv A outer s H E hr => ?_
  have nd := (sc_is_triple).nd
  exact (pss_cons (ps_if (PW.pt (pw_or (pt_not (pt_val (pe_callB call_isi (by rfl) (free_isinstance hd) (by decide +kernel) (pa_cons (pv 0) (pa_cons (pe_bltn (by rfl) (free_tuple hd) (by decide +kernel) rfl) pa_nil))))) (pw_or (pt_cmpR (r := rNe) op_ne (pe_callB call_len (by rfl) (free_len hd) (by decide +kernel) (pa_cons (pv 0) pa_nil)) pe_int (nomark _)) (pw_or1 (pt_not (pt_val (pe_okf O_is_integer (hr.mono (by decide)) (by rfl) (glo_is_integer hd) (pa_cons (pe_ix (r := (rIxT K)) ix_tup (pv 0) pe_int (fun _ _ => rfl)) pa_nil)))))))) (pss_one (ps_ret pe_bl)) pss_nil)
    (pss_one (ps_ret (pe_and (pe_callB call_isi (by rfl) (free_isinstance hd) (by decide +kernel) (pa_cons (pe_ix (r := (rIxT K)) ix_tup (pv 0) pe_int (fun _ _ => rfl)) (pa_cons (pe_bltn (by rfl) (free_str hd) (by decide +kernel) rfl) pa_nil))) (pe_one (pe_callB call_isi (by rfl) (free_isinstance hd) (by decide +kernel) (pa_cons (pe_ix (r := (rIxT K)) ix_tup (pv 0) pe_int (fun _ _ => rfl)) (pa_cons (pe_bltn (by rfl) (free_str hd) (by decide +kernel) rfl) pa_nil))))))))
/-! ends_well -/
abbrev nm_ends_well : List Str := ["words", "b", "c", "triple", "held", "tail", "number"]
theorem sc_ends_well : FnScope nm_ends_well ["words", "b", "c", "triple"] (defScope st_ends_well) := ⟨rfl, rfl, rfl, by decide +kernel, rfl, by decide +kernel, by decide +kernel⟩
def t_ends_well (K : PySem.W.Frag) (s_cost_of_row : Sp) (s_match_of : Sp) : TS := (tSeq (tAsg (tVar 3) (gTup K 3 (gCons (gName 4) (gCons (gName 5) (gCons (gName 6) gNil)))))
  (tRet (tOrV (tOp rNe (tVar 5) (tC (.str ""))) (tOp (rI0 fun i j => .bl (decide (i ≤ j))) (tOp (rI0 fun i j => .int (i + j)) (tVar 6) (tOp (rI CMul fun i j => .int (i * j)) (tVar 1) (tCall s_cost_of_row [] E0 (tCons (tVar 0) (tCons (tCall s_match_of [] E0 (tCons (tVar 0) (tCons (tVar 4) tNil))) tNil))))) (tVar 2)))))
theorem ok_ends_well {s_cost_of_row s_match_of : Sp} {sp : Sp} (hd : Hd K mg) (O_cost_of_row : OkA P w K mg base 2 (He.ga K "cost_of_row") ["words", "row"] s_cost_of_row) (O_match_of : OkA P w K mg base 4 (He.ga K "match_of") ["words", "text"] s_match_of) (len : ∀ vs H Q E, sp vs H Q E → vs.length = 4) (rd : ∀ vs H Q E, sp vs H Q E → t_ends_well K s_cost_of_row s_match_of { nx := fun _ H' => Q .non H', rt := Q } (L2.start nm_ends_well vs) H) :
    OkA P w K mg base 5 (He.ga K "ends_well") ["words", "b", "c", "triple"] sp := by
  obtain ⟨fd, F⟩ := fun_ends_well hd
  refine ok_mk F sc_ends_well (F.bindsN fun _ _ _ _ _ _ us hl => match us, hl with | [_, _, _, _], _ => rfl) len rd fun cdv A outer s H E hr => ?_
  have nd := (sc_ends_well).nd
  exact (pss_cons (ps_asg (pv 3) (pg_tup rfl (pgs_cons (pg_name (i := 4) nd rfl (Or.inl rfl)) (pgs_cons (pg_name (i := 5) nd rfl (Or.inl rfl)) (pgs_cons (pg_name (i := 6) nd rfl (Or.inl rfl)) pgs_nil)))))
    (pss_one (ps_ret (pe_or (pe_cmpR (r := rNe) op_ne (pv 5) pe_str (nomark _)) (pe_one (pe_cmpR (r := (rI0 fun i j => .bl (decide (i ≤ j)))) op_le (pe_op (r := (rI0 fun i j => .int (i + j))) op_add (pv 6) (pe_op (r := (rI CMul fun i j => .int (i * j))) op_mul (pv 1) (pe_okf O_cost_of_row (hr.mono (by decide)) (by rfl) (glo_cost_of_row hd) (pa_cons (pv 0) (pa_cons (pe_okf O_match_of (hr.mono (by decide)) (by rfl) (glo_match_of hd) (pa_cons (pv 0) (pa_cons (pv 4) pa_nil))) pa_nil))))) (pv 2) (nomark _)))))))
/-! goes_well -/
abbrev nm_goes_well : List Str := ["words", "a", "b", "table", "triple", "held", "tail", "number", "letter", "rest", "longer", "gain", "loss"]
theorem sc_goes_well : FnScope nm_goes_well ["words", "a", "b", "table", "triple"] (defScope st_goes_well) := ⟨rfl, rfl, rfl, by decide +kernel, rfl, by decide +kernel, by decide +kernel⟩
def t_goes_well (K : PySem.W.Frag) (s_letters_in : Sp) (s_steps_of : Sp) : TS := (tSeq (tAsg (tVar 4) (gTup K 3 (gCons (gName 5) (gCons (gName 6) (gCons (gName 7) gNil)))))
  (tSeq (tFor (iStr (tCall s_letters_in [] E0 (tCons (tVar 0) tNil))) (gName 8)
    (tFor (iList K (tCall s_steps_of [] E0 (tCons (tVar 0) (tCons (tVar 5) (tCons (tVar 6) (tCons (tVar 8) tNil)))))) (gTup K 4 (gCons (gName 9) (gCons (gName 10) (gCons (gName 11) (gCons (gName 12) gNil)))))
    (tIfS (tOr (tB (tDNotIn (tTup (tCons (tVar 9) (tCons (tVar 10) tNil))) (tVar 3))) (tTest (tOp (rI0 fun i j => .bl (decide (i < j))) (tDGet (tVar 3) (tTup (tCons (tVar 9) (tCons (tVar 10) tNil)))) (tOp (rI0 fun i j => .int (i - j)) (tOp (rI0 fun i j => .int (i + j)) (tVar 7) (tOp (rI CMul fun i j => .int (i * j)) (tVar 2) (tVar 11))) (tOp (rI CMul fun i j => .int (i * j)) (tVar 1) (tVar 12)))))) (tRet (tC (.bl false))) tNext)))
  (tRet (tC (.bl true)))))
theorem ok_goes_well {s_letters_in s_steps_of : Sp} {sp : Sp} (hd : Hd K mg) (O_letters_in : OkA P w K mg base 1 (He.ga K "letters_in") ["words"] s_letters_in) (O_steps_of : OkA P w K mg base 5 (He.ga K "steps_of") ["words", "held", "tail", "letter"] s_steps_of) (len : ∀ vs H Q E, sp vs H Q E → vs.length = 5) (rd : ∀ vs H Q E, sp vs H Q E → t_goes_well K s_letters_in s_steps_of { nx := fun _ H' => Q .non H', rt := Q } (L2.start nm_goes_well vs) H) :
    OkA P w K mg base 6 (He.ga K "goes_well") ["words", "a", "b", "table", "triple"] sp := by
  obtain ⟨fd, F⟩ := fun_goes_well hd
  refine ok_mk F sc_goes_well (F.bindsN fun _ _ _ _ _ _ us hl => match us, hl with | [_, _, _, _, _], _ => rfl) len rd fun cdv A outer s H E hr => ?_
  have nd := (sc_goes_well).nd
  have hu := hu_of hr
  exact (pss_cons (ps_asg (pv 4) (pg_tup rfl (pgs_cons (pg_name (i := 5) nd rfl (Or.inl rfl)) (pgs_cons (pg_name (i := 6) nd rfl (Or.inl rfl)) (pgs_cons (pg_name (i := 7) nd rfl (Or.inl rfl)) pgs_nil)))))
    (pss_cons (ps_for PassesOwn.never rfl (pi_str (pe_okf O_letters_in (hr.mono (by decide)) (by rfl) (glo_letters_in hd) (pa_cons (pv 0) pa_nil))) (pg_name (i := 8) nd rfl (Or.inl rfl))
      (pss_one (ps_for PassesOwn.never rfl (pi_list (pe_okf O_steps_of (hr.mono (by decide)) (by rfl) (glo_steps_of hd) (pa_cons (pv 0) (pa_cons (pv 5) (pa_cons (pv 6) (pa_cons (pv 8) pa_nil)))))) (pg_tup rfl (pgs_cons (pg_name (i := 9) nd rfl (Or.inl rfl)) (pgs_cons (pg_name (i := 10) nd rfl (Or.inl rfl)) (pgs_cons (pg_name (i := 11) nd rfl (Or.inl rfl)) (pgs_cons (pg_name (i := 12) nd rfl (Or.inl rfl)) pgs_nil)))))
      (pss_one (ps_if (PW.pt (pw_or (pt_cmp (pc_dnotin hu (pe_tup (pa_cons (pv 9) (pa_cons (pv 10) pa_nil))) (pv 3))) (pw_or1 (pt_cmpR (r := (rI0 fun i j => .bl (decide (i < j)))) op_lt (pe_dget hu (pv 3) (pe_tup (pa_cons (pv 9) (pa_cons (pv 10) pa_nil))) (fun _ _ => rfl)) (pe_op (r := (rI0 fun i j => .int (i - j))) op_sub (pe_op (r := (rI0 fun i j => .int (i + j))) op_add (pv 7) (pe_op (r := (rI CMul fun i j => .int (i * j))) op_mul (pv 2) (pv 11))) (pe_op (r := (rI CMul fun i j => .int (i * j))) op_mul (pv 1) (pv 12))) (nomark _))))) (pss_one (ps_ret pe_bl)) pss_nil)))))
    (pss_one (ps_ret pe_bl))))
/-! is_over -/
abbrev nm_is_over : List Str := ["words", "text", "sign"]
theorem sc_is_over : FnScope nm_is_over ["words", "text"] (defScope st_is_over) := ⟨rfl, rfl, rfl, by decide +kernel, rfl, by decide +kernel, by decide +kernel⟩
def t_is_over (K : PySem.W.Frag) (s_letters_in : Sp) : TS := (tRet (tCB (rAll K) (tCons (tLc (iStr (tVar 1)) (gName 2) tYes (tOp rInS (tVar 2) (tCall s_letters_in [] E0 (tCons (tVar 0) tNil))) [2]) tNil)))
theorem ok_is_over {s_letters_in : Sp} {sp : Sp} (hd : Hd K mg) (O_letters_in : OkA P w K mg base 1 (He.ga K "letters_in") ["words"] s_letters_in) (len : ∀ vs H Q E, sp vs H Q E → vs.length = 2) (rd : ∀ vs H Q E, sp vs H Q E → t_is_over K s_letters_in { nx := fun _ H' => Q .non H', rt := Q } (L2.start nm_is_over vs) H) :
    OkA P w K mg base 2 (He.ga K "is_over") ["words", "text"] sp := by
  obtain ⟨fd, F⟩ := fun_is_over hd
  refine ok_mk F sc_is_over (F.bindsN fun _ _ _ _ _ _ us hl => match us, hl with | [_, _], _ => rfl) len rd fun cdv A outer s H E hr => ?_
  have nd := (sc_is_over).nd
  exact (pss_one (ps_ret (pe_callB (cr_all rfl) (by rfl) (free_all hd) (by decide +kernel) (pa_cons (pe_lc (own := [("sign", 2)]) (g := (gName 2)) (tt := tYes) rfl nd (pi_str (pv 1)) (blkOk_by (own := [("sign", 2)]) (N := nm_is_over) (sc := defScope st_is_over) (by decide +kernel)) (fun _ _ _ _ _ => (pg_name (i := 2) nd rfl (Or.inl rfl))) (fun _ _ _ _ _ => pts_nil) (fun _ _ _ _ _ => (pe_cmpR (r := rInS) op_inS (pv 2) (pe_okf O_letters_in (hr.mono (by decide)) (by rfl) (glo_letters_in hd) (pa_cons (pv 0) pa_nil)) (by rfl)))) pa_nil))))
/-! Graph.add_steps -/
abbrev nm_Graph_add_steps : List Str := ["self", "place", "letter", "held", "tail", "gain", "loss", "other"]
theorem sc_Graph_add_steps : FnScope nm_Graph_add_steps ["self", "place", "letter"] (defScope st_Graph_add_steps) := ⟨rfl, rfl, rfl, by decide +kernel, rfl, by decide +kernel, by decide +kernel⟩
def t_Graph_add_steps (K : PySem.W.Frag) (s_steps_of : Sp) : TS := (tFor (iList K (tCall s_steps_of [] E0 (tCons (tFld K (tVar 0) "words") (tCons (tOp (rIxT K) (tOp (rIxL K) (tFld K (tVar 0) "pairs") (tVar 1)) (tC (.int 0))) (tCons (tOp (rIxT K) (tOp (rIxL K) (tFld K (tVar 0) "pairs") (tVar 1)) (tC (.int 1))) (tCons (tVar 2) tNil)))))) (gTup K 4 (gCons (gName 3) (gCons (gName 4) (gCons (gName 5) (gCons (gName 6) gNil)))))
    (tSeq (tAsg (tTup (tCons (tVar 3) (tCons (tVar 4) tNil))) (gName 7))
  (tSeq (tIfS (tB (tDNotIn (tVar 7) (tFld K (tVar 0) "places"))) (tSeq (sDPut (tFld K (tVar 0) "places") (tVar 7) (tCB (rLen K) (tCons (tFld K (tVar 0) "pairs") tNil)))
  (tDrop (tBM K "list" rAppend (tFld K (tVar 0) "pairs") (tCons (tVar 7) tNil)))) tNext)
  (tDrop (tBM K "list" rAppend (tFld K (tVar 0) "edges") (tCons (tTup (tCons (tVar 1) (tCons (tVar 2) (tCons (tDGet (tFld K (tVar 0) "places") (tVar 7)) (tCons (tVar 5) (tCons (tVar 6) tNil)))))) tNil))))))
theorem ok_Graph_add_steps {s_steps_of : Sp} {sp : Sp} (hd : Hd K mg) (O_steps_of : OkA P w K mg base 5 (He.ga K "steps_of") ["words", "held", "tail", "letter"] s_steps_of) (len : ∀ vs H Q E, sp vs H Q E → vs.length = 3) (rd : ∀ vs H Q E, sp vs H Q E → t_Graph_add_steps K s_steps_of { nx := fun _ H' => Q .non H', rt := Q } (L2.start nm_Graph_add_steps vs) H) :
    OkA P w K mg base 6 (He.ma K (He.ga K "Graph") "add_steps") ["self", "place", "letter"] sp := by
  obtain ⟨fd, F⟩ := fun_Graph_add_steps hd
  refine ok_mk F sc_Graph_add_steps (F.bindsN fun _ _ _ _ _ _ us hl => match us, hl with | [_, _, _], _ => rfl) len rd fun cdv A outer s H E hr => ?_
  have nd := (sc_Graph_add_steps).nd
  have hu := hu_of hr
  exact (pss_one (ps_for PassesOwn.never rfl (pi_list (pe_okf O_steps_of (hr.mono (by decide)) (by rfl) (glo_steps_of hd) (pa_cons (pe_fld (pv 0) (by rfl)) (pa_cons (pe_ix (r := (rIxT K)) ix_tup (pe_ix (r := (rIxL K)) ix_list (pe_fld (pv 0) (by rfl)) (pv 1) (fun _ _ => rfl)) pe_int (fun _ _ => rfl)) (pa_cons (pe_ix (r := (rIxT K)) ix_tup (pe_ix (r := (rIxL K)) ix_list (pe_fld (pv 0) (by rfl)) (pv 1) (fun _ _ => rfl)) pe_int (fun _ _ => rfl)) (pa_cons (pv 2) pa_nil)))))) (pg_tup rfl (pgs_cons (pg_name (i := 3) nd rfl (Or.inl rfl)) (pgs_cons (pg_name (i := 4) nd rfl (Or.inl rfl)) (pgs_cons (pg_name (i := 5) nd rfl (Or.inl rfl)) (pgs_cons (pg_name (i := 6) nd rfl (Or.inl rfl)) pgs_nil)))))
      (pss_cons (ps_set (i := 7) nd rfl (Or.inl rfl) (pe_tup (pa_cons (pv 3) (pa_cons (pv 4) pa_nil))))
    (pss_cons (ps_if (pt_cmp (pc_dnotin hu (pv 7) (pe_fld (pv 0) (by rfl)))) (pss_cons (ps_dput hu (pe_fld (pv 0) (by rfl)) (pv 7) (pe_callB call_len (by rfl) (free_len hd) (by decide +kernel) (pa_cons (pe_fld (pv 0) (by rfl)) pa_nil)) (by rfl))
    (pss_one (ps_expr (pe_bm PySem.F.plainAttrs_list PySem.F.slot_list_append PySem.F.type_list_append mt_append (pe_fld (pv 0) (by rfl)) (pa_cons (pv 7) pa_nil))))) pss_nil)
    (pss_one (ps_expr (pe_bm PySem.F.plainAttrs_list PySem.F.slot_list_append PySem.F.type_list_append mt_append (pe_fld (pv 0) (by rfl)) (pa_cons (pe_tup (pa_cons (pv 1) (pa_cons (pv 2) (pa_cons (pe_dget hu (pe_fld (pv 0) (by rfl)) (pv 7) (fun _ _ => rfl)) (pa_cons (pv 5) (pa_cons (pv 6) pa_nil)))))) pa_nil))))))))
/-! Climb.__init__ -/
abbrev nm_Climb_init : List Str := ["self", "graph", "a", "b", "pair", "edge"]
theorem sc_Climb_init : FnScope nm_Climb_init ["self", "graph", "a", "b"] (defScope st_Climb___init__) := ⟨rfl, rfl, rfl, by decide +kernel, rfl, by decide +kernel, by decide +kernel⟩
def t_Climb_init (K : PySem.W.Frag)  : TS := (tSeq (sFld K (tVar 0) (tVar 1) "graph")
  (tSeq (sFld K (tVar 0) (tLc (iList K (tFld K (tVar 1) "pairs")) (gName 4) tYes (tC .non) [4]) "heights")
  (tSeq (tAsg (tC (.int 0)) (gSub (tFld K (tVar 0) "heights") (tC (.int 0)) rSetL))
  (tSeq (sFld K (tVar 0) (tLc (iList K (tFld K (tVar 1) "pairs")) (gName 4) tYes (tC .non) [4]) "last")
  (sFld K (tVar 0) (tLc (iList K (tFld K (tVar 1) "edges")) (gName 5) tYes (tOp (rI0 fun i j => .int (i - j)) (tOp (rI CMul fun i j => .int (i * j)) (tVar 3) (tOp (rIxT K) (tVar 5) (tC (.int 3)))) (tOp (rI CMul fun i j => .int (i * j)) (tVar 2) (tOp (rIxT K) (tVar 5) (tC (.int 4))))) [5]) "weights")))))
theorem ok_Climb_init {sp : Sp} (hd : Hd K mg)  (len : ∀ vs H Q E, sp vs H Q E → vs.length = 4) (rd : ∀ vs H Q E, sp vs H Q E → t_Climb_init K  { nx := fun _ H' => Q .non H', rt := Q } (L2.start nm_Climb_init vs) H) :
    OkA P w K mg base 1 (He.ma K (He.ga K "Climb") "__init__") ["self", "graph", "a", "b"] sp := by
  obtain ⟨fd, F⟩ := fun_Climb___init__ hd
  refine ok_mk F sc_Climb_init (F.bindsN fun _ _ _ _ _ _ us hl => match us, hl with | [_, _, _, _], _ => rfl) len rd fun cdv A outer s H E hr => ?_
  have nd := (sc_Climb_init).nd
  exact (pss_cons (ps_fld (pv 0) (pv 1) (by rfl))
    (pss_cons (ps_fld (pv 0) (pe_lc (own := [("pair", 4)]) (g := (gName 4)) (tt := tYes) rfl nd (pi_list (pe_fld (pv 1) (by rfl))) (blkOk_by (own := [("pair", 4)]) (N := nm_Climb_init) (sc := defScope st_Climb___init__) (by decide +kernel)) (fun _ _ _ _ _ => (pg_name (i := 4) nd rfl (Or.inl rfl))) (fun _ _ _ _ _ => pts_nil) (fun _ _ _ _ _ => pe_non)) (by rfl))
    (pss_cons (ps_asg pe_int (pg_sub (pe_fld (pv 0) (by rfl)) pe_int set_list))
    (pss_cons (ps_fld (pv 0) (pe_lc (own := [("pair", 4)]) (g := (gName 4)) (tt := tYes) rfl nd (pi_list (pe_fld (pv 1) (by rfl))) (blkOk_by (own := [("pair", 4)]) (N := nm_Climb_init) (sc := defScope st_Climb___init__) (by decide +kernel)) (fun _ _ _ _ _ => (pg_name (i := 4) nd rfl (Or.inl rfl))) (fun _ _ _ _ _ => pts_nil) (fun _ _ _ _ _ => pe_non)) (by rfl))
    (pss_one (ps_fld (pv 0) (pe_lc (own := [("edge", 5)]) (g := (gName 5)) (tt := tYes) rfl nd (pi_list (pe_fld (pv 1) (by rfl))) (blkOk_by (own := [("edge", 5)]) (N := nm_Climb_init) (sc := defScope st_Climb___init__) (by decide +kernel)) (fun _ _ _ _ _ => (pg_name (i := 5) nd rfl (Or.inl rfl))) (fun _ _ _ _ _ => pts_nil) (fun _ _ _ _ _ => (pe_op (r := (rI0 fun i j => .int (i - j))) op_sub (pe_op (r := (rI CMul fun i j => .int (i * j))) op_mul (pv 3) (pe_ix (r := (rIxT K)) ix_tup (pv 5) pe_int (fun _ _ => rfl))) (pe_op (r := (rI CMul fun i j => .int (i * j))) op_mul (pv 2) (pe_ix (r := (rIxT K)) ix_tup (pv 5) pe_int (fun _ _ => rfl)))))) (by rfl)))))))
/-! Climb.rise -/
abbrev nm_Climb_rise : List Str := ["self", "raised", "number", "edge", "height"]
theorem sc_Climb_rise : FnScope nm_Climb_rise ["self"] (defScope st_Climb_rise) := ⟨rfl, rfl, rfl, by decide +kernel, rfl, by decide +kernel, by decide +kernel⟩
def t_Climb_rise (K : PySem.W.Frag)  : TS := (tSeq (tAsg (tC .non) (gName 1))
  (tSeq (tFor (iEnum K (tCons (tFld K (tFld K (tVar 0) "graph") "edges") tNil)) (gTup K 2 (gCons (gName 2) (gCons (gName 3) gNil)))
    (tIfS (tTest (tOp rNotN (tOp (rIxL K) (tFld K (tVar 0) "heights") (tOp (rIxT K) (tVar 3) (tC (.int 0)))) (tC .non))) (tSeq (tAsg (tOp (rI0 fun i j => .int (i + j)) (tOp (rIxL K) (tFld K (tVar 0) "heights") (tOp (rIxT K) (tVar 3) (tC (.int 0)))) (tOp (rIxL K) (tFld K (tVar 0) "weights") (tVar 2))) (gName 4))
  (tIfS (tOr (tTest (tOp rIsN (tOp (rIxL K) (tFld K (tVar 0) "heights") (tOp (rIxT K) (tVar 3) (tC (.int 2)))) (tC .non))) (tTest (tOp (rI0 fun i j => .bl (decide (i < j))) (tOp (rIxL K) (tFld K (tVar 0) "heights") (tOp (rIxT K) (tVar 3) (tC (.int 2)))) (tVar 4)))) (tSeq (tAsg (tVar 4) (gSub (tFld K (tVar 0) "heights") (tOp (rIxT K) (tVar 3) (tC (.int 2))) rSetL))
  (tSeq (tAsg (tVar 2) (gSub (tFld K (tVar 0) "last") (tOp (rIxT K) (tVar 3) (tC (.int 2))) rSetL))
  (tAsg (tOp (rIxT K) (tVar 3) (tC (.int 2))) (gName 1)))) tNext)) tNext))
  (tRet (tVar 1))))
theorem ok_Climb_rise {sp : Sp} (hd : Hd K mg)  (len : ∀ vs H Q E, sp vs H Q E → vs.length = 1) (rd : ∀ vs H Q E, sp vs H Q E → t_Climb_rise K  { nx := fun _ H' => Q .non H', rt := Q } (L2.start nm_Climb_rise vs) H) :
    OkA P w K mg base 1 (He.ma K (He.ga K "Climb") "rise") ["self"] sp := by
  obtain ⟨fd, F⟩ := fun_Climb_rise hd
  refine ok_mk F sc_Climb_rise (F.bindsN fun _ _ _ _ _ _ us hl => match us, hl with | [_], _ => rfl) len rd fun cdv A outer s H E hr => ?_
  have nd := (sc_Climb_rise).nd
  exact (pss_cons (ps_set (i := 1) nd rfl (Or.inl rfl) pe_non)
    (pss_cons (ps_for PassesOwn.never rfl (pi_enum (by rfl) (free_enumerate hd) (pa_cons (pe_fld (pe_fld (pv 0) (by rfl)) (by rfl)) pa_nil)) (pg_tup rfl (pgs_cons (pg_name (i := 2) nd rfl (Or.inl rfl)) (pgs_cons (pg_name (i := 3) nd rfl (Or.inl rfl)) pgs_nil)))
      (pss_one (ps_if (pt_cmpR (r := rNotN) op_notN1 (pe_ix (r := (rIxL K)) ix_list (pe_fld (pv 0) (by rfl)) (pe_ix (r := (rIxT K)) ix_tup (pv 3) pe_int (fun _ _ => rfl)) (fun _ _ => rfl)) pe_non (nomark _)) (pss_cons (ps_set (i := 4) nd rfl (Or.inl rfl) (pe_op (r := (rI0 fun i j => .int (i + j))) op_add (pe_ix (r := (rIxL K)) ix_list (pe_fld (pv 0) (by rfl)) (pe_ix (r := (rIxT K)) ix_tup (pv 3) pe_int (fun _ _ => rfl)) (fun _ _ => rfl)) (pe_ix (r := (rIxL K)) ix_list (pe_fld (pv 0) (by rfl)) (pv 2) (fun _ _ => rfl))))
    (pss_one (ps_if (PW.pt (pw_or (pt_cmpR (r := rIsN) op_isN1 (pe_ix (r := (rIxL K)) ix_list (pe_fld (pv 0) (by rfl)) (pe_ix (r := (rIxT K)) ix_tup (pv 3) pe_int (fun _ _ => rfl)) (fun _ _ => rfl)) pe_non (nomark _)) (pw_or1 (pt_cmpR (r := (rI0 fun i j => .bl (decide (i < j)))) op_lt (pe_ix (r := (rIxL K)) ix_list (pe_fld (pv 0) (by rfl)) (pe_ix (r := (rIxT K)) ix_tup (pv 3) pe_int (fun _ _ => rfl)) (fun _ _ => rfl)) (pv 4) (nomark _))))) (pss_cons (ps_asg (pv 4) (pg_sub (pe_fld (pv 0) (by rfl)) (pe_ix (r := (rIxT K)) ix_tup (pv 3) pe_int (fun _ _ => rfl)) set_list))
    (pss_cons (ps_asg (pv 2) (pg_sub (pe_fld (pv 0) (by rfl)) (pe_ix (r := (rIxT K)) ix_tup (pv 3) pe_int (fun _ _ => rfl)) set_list))
    (pss_one (ps_set (i := 1) nd rfl (Or.inl rfl) (pe_ix (r := (rIxT K)) ix_tup (pv 3) pe_int (fun _ _ => rfl)))))) pss_nil))) pss_nil)))
    (pss_one (ps_ret (pv 1)))))
/-! Climb.circle -/
abbrev nm_Climb_circle : List Str := ["self", "raised", "turn", "found", "place", "edge"]
theorem sc_Climb_circle : FnScope nm_Climb_circle ["self"] (defScope st_Climb_circle) := ⟨rfl, rfl, rfl, by decide +kernel, rfl, by decide +kernel, by decide +kernel⟩
def t_Climb_circle (K : PySem.W.Frag) (s_Climb_rise : Sp) : TS := (tSeq (tAsg (tC .non) (gName 1))
  (tSeq (tFor (iRng1 (tCons (tOp (rI0 fun i j => .int (i + j)) (tCB (rLen K) (tCons (tFld K (tFld K (tVar 0) "graph") "pairs") tNil)) (tC (.int 1))) tNil)) (gName 2)
    (tSeq (tAsg (tMeth (He.ga K "Climb") "rise" s_Climb_rise [] E0 (tVar 0) tNil) (gName 1))
  (tIfS (tTest (tOp rIsN (tVar 1) (tC .non))) (tRet (tC .non)) tNext)))
  (tSeq (tFor (iRng1 (tCons (tCB (rLen K) (tCons (tFld K (tFld K (tVar 0) "graph") "pairs") tNil)) tNil)) (gName 2)
    (tAsg (tOp (rIxT K) (tOp (rIxL K) (tFld K (tFld K (tVar 0) "graph") "edges") (tOp (rIxL K) (tFld K (tVar 0) "last") (tVar 1))) (tC (.int 0))) (gName 1)))
  (tSeq (tAsg (tLst tNil) (gName 3))
  (tSeq (tAsg (tVar 1) (gName 4))
  (tSeq (tWhile (tOr (tNot (tTru K (tVar 3))) (tTest (tOp rNe (tVar 4) (tVar 1))))
    (tSeq (tAsg (tOp (rIxL K) (tFld K (tFld K (tVar 0) "graph") "edges") (tOp (rIxL K) (tFld K (tVar 0) "last") (tVar 4))) (gName 5))
  (tSeq (tDrop (tBM K "list" rAppend (tVar 3) (tCons (tVar 5) tNil)))
  (tAsg (tOp (rIxT K) (tVar 5) (tC (.int 0))) (gName 4)))))
  (tRet (tRevL K (tVar 3)))))))))
theorem ok_Climb_circle {s_Climb_rise : Sp} {sp : Sp} (hd : Hd K mg) (O_Climb_rise : OkA P w K mg base 1 (He.ma K (He.ga K "Climb") "rise") ["self"] s_Climb_rise) (len : ∀ vs H Q E, sp vs H Q E → vs.length = 1) (rd : ∀ vs H Q E, sp vs H Q E → t_Climb_circle K s_Climb_rise { nx := fun _ H' => Q .non H', rt := Q } (L2.start nm_Climb_circle vs) H) :
    OkA P w K mg base 2 (He.ma K (He.ga K "Climb") "circle") ["self"] sp := by
  obtain ⟨fd, F⟩ := fun_Climb_circle hd
  refine ok_mk F sc_Climb_circle (F.bindsN fun _ _ _ _ _ _ us hl => match us, hl with | [_], _ => rfl) len rd fun cdv A outer s H E hr => ?_
  have nd := (sc_Climb_circle).nd
  exact (pss_cons (ps_set (i := 1) nd rfl (Or.inl rfl) pe_non)
    (pss_cons (ps_for PassesOwn.never rfl (pi_range1 rfl (free_range hd) (pa_cons (pe_op (r := (rI0 fun i j => .int (i + j))) op_add (pe_callB call_len (by rfl) (free_len hd) (by decide +kernel) (pa_cons (pe_fld (pe_fld (pv 0) (by rfl)) (by rfl)) pa_nil)) pe_int) pa_nil)) (pg_name (i := 2) nd rfl (Or.inl rfl))
      (pss_cons (ps_set (i := 1) nd rfl (Or.inl rfl) (pe_okm0 (pv 0) (cls_Climb hd) (meth_Climb_rise hd) O_Climb_rise (hr.mono (by decide))))
    (pss_one (ps_if (pt_cmpR (r := rIsN) op_isN1 (pv 1) pe_non (nomark _)) (pss_one (ps_ret pe_non)) pss_nil))))
    (pss_cons (ps_for PassesOwn.never rfl (pi_range1 rfl (free_range hd) (pa_cons (pe_callB call_len (by rfl) (free_len hd) (by decide +kernel) (pa_cons (pe_fld (pe_fld (pv 0) (by rfl)) (by rfl)) pa_nil)) pa_nil)) (pg_name (i := 2) nd rfl (Or.inl rfl))
      (pss_one (ps_set (i := 1) nd rfl (Or.inl rfl) (pe_ix (r := (rIxT K)) ix_tup (pe_ix (r := (rIxL K)) ix_list (pe_fld (pe_fld (pv 0) (by rfl)) (by rfl)) (pe_ix (r := (rIxL K)) ix_list (pe_fld (pv 0) (by rfl)) (pv 1) (fun _ _ => rfl)) (fun _ _ => rfl)) pe_int (fun _ _ => rfl)))))
    (pss_cons (ps_set (i := 3) nd rfl (Or.inl rfl) (pe_lst pa_nil))
    (pss_cons (ps_set (i := 4) nd rfl (Or.inl rfl) (pv 1))
    (pss_cons (ps_while PassesOwn.never (PW.pt (pw_or (pt_not (pt_truth (pv 3) (by intro _; rfl))) (pw_or1 (pt_cmpR (r := rNe) op_ne (pv 4) (pv 1) (nomark _)))))
      (pss_cons (ps_set (i := 5) nd rfl (Or.inl rfl) (pe_ix (r := (rIxL K)) ix_list (pe_fld (pe_fld (pv 0) (by rfl)) (by rfl)) (pe_ix (r := (rIxL K)) ix_list (pe_fld (pv 0) (by rfl)) (pv 4) (fun _ _ => rfl)) (fun _ _ => rfl)))
    (pss_cons (ps_expr (pe_bm PySem.F.plainAttrs_list PySem.F.slot_list_append PySem.F.type_list_append mt_append (pv 3) (pa_cons (pv 5) pa_nil)))
    (pss_one (ps_set (i := 4) nd rfl (Or.inl rfl) (pe_ix (r := (rIxT K)) ix_tup (pv 5) pe_int (fun _ _ => rfl)))))))
    (pss_one (ps_ret (pe_revL (pv 3))))))))))
/-! is_row -/
abbrev nm_is_row : List Str := ["words", "value", "one"]
theorem sc_is_row : FnScope nm_is_row ["words", "value"] (defScope st_is_row) := ⟨rfl, rfl, rfl, by decide +kernel, rfl, by decide +kernel, by decide +kernel⟩
def t_is_row (K : PySem.W.Frag) (s_has_word : Sp) : TS := (tRet (tAndV (tCB (rIsi K) (tCons (tVar 1) (tCons (tC (.ty "tuple")) tNil))) (tCB (rAll K) (tCons (tLc (iTup K (tVar 1)) (gName 2) tYes (tAndV (tCB (rIsi K) (tCons (tVar 2) (tCons (tC (.ty "str")) tNil))) (tCall s_has_word [] E0 (tCons (tVar 0) (tCons (tVar 2) tNil)))) [2]) tNil))))
theorem ok_is_row {s_has_word : Sp} {sp : Sp} (hd : Hd K mg) (O_has_word : OkA P w K mg base 2 (He.ga K "has_word") ["words", "word"] s_has_word) (len : ∀ vs H Q E, sp vs H Q E → vs.length = 2) (rd : ∀ vs H Q E, sp vs H Q E → t_is_row K s_has_word { nx := fun _ H' => Q .non H', rt := Q } (L2.start nm_is_row vs) H) :
    OkA P w K mg base 3 (He.ga K "is_row") ["words", "value"] sp := by
  obtain ⟨fd, F⟩ := fun_is_row hd
  refine ok_mk F sc_is_row (F.bindsN fun _ _ _ _ _ _ us hl => match us, hl with | [_, _], _ => rfl) len rd fun cdv A outer s H E hr => ?_
  have nd := (sc_is_row).nd
  exact (pss_one (ps_ret (pe_and (pe_callB call_isi (by rfl) (free_isinstance hd) (by decide +kernel) (pa_cons (pv 1) (pa_cons (pe_bltn (by rfl) (free_tuple hd) (by decide +kernel) rfl) pa_nil))) (pe_one (pe_callB (cr_all rfl) (by rfl) (free_all hd) (by decide +kernel) (pa_cons (pe_lc (own := [("one", 2)]) (g := (gName 2)) (tt := tYes) rfl nd (pi_tup (pv 1)) (blkOk_by (own := [("one", 2)]) (N := nm_is_row) (sc := defScope st_is_row) (by decide +kernel)) (fun _ _ _ _ _ => (pg_name (i := 2) nd rfl (Or.inl rfl))) (fun _ _ _ _ _ => pts_nil) (fun _ _ _ _ _ => (pe_and (pe_callB call_isi (by rfl) (free_isinstance hd) (by decide +kernel) (pa_cons (pv 2) (pa_cons (pe_bltn (by rfl) (free_str hd) (by decide +kernel) rfl) pa_nil))) (pe_one (pe_okf O_has_word (hr.mono (by decide)) (by rfl) (glo_has_word hd) (pa_cons (pv 0) (pa_cons (pv 2) pa_nil))))))) pa_nil))))))
/-! is_long_text -/
abbrev nm_is_long_text : List Str := ["words", "value", "sign"]
theorem sc_is_long_text : FnScope nm_is_long_text ["words", "value"] (defScope st_is_long_text) := ⟨rfl, rfl, rfl, by decide +kernel, rfl, by decide +kernel, by decide +kernel⟩
def t_is_long_text (K : PySem.W.Frag) (s_letters_in : Sp) : TS := (tRet (tAndV (tCB (rIsi K) (tCons (tVar 1) (tCons (tC (.ty "str")) tNil))) (tCB (rAll K) (tCons (tLc (iStr (tVar 1)) (gName 2) tYes (tOp rInS (tVar 2) (tCall s_letters_in [] E0 (tCons (tVar 0) tNil))) [2]) tNil))))
theorem ok_is_long_text {s_letters_in : Sp} {sp : Sp} (hd : Hd K mg) (O_letters_in : OkA P w K mg base 1 (He.ga K "letters_in") ["words"] s_letters_in) (len : ∀ vs H Q E, sp vs H Q E → vs.length = 2) (rd : ∀ vs H Q E, sp vs H Q E → t_is_long_text K s_letters_in { nx := fun _ H' => Q .non H', rt := Q } (L2.start nm_is_long_text vs) H) :
    OkA P w K mg base 2 (He.ga K "is_long_text") ["words", "value"] sp := by
  obtain ⟨fd, F⟩ := fun_is_long_text hd
  refine ok_mk F sc_is_long_text (F.bindsN fun _ _ _ _ _ _ us hl => match us, hl with | [_, _], _ => rfl) len rd fun cdv A outer s H E hr => ?_
  have nd := (sc_is_long_text).nd
  exact (pss_one (ps_ret (pe_and (pe_callB call_isi (by rfl) (free_isinstance hd) (by decide +kernel) (pa_cons (pv 1) (pa_cons (pe_bltn (by rfl) (free_str hd) (by decide +kernel) rfl) pa_nil))) (pe_one (pe_callB (cr_all rfl) (by rfl) (free_all hd) (by decide +kernel) (pa_cons (pe_lc (own := [("sign", 2)]) (g := (gName 2)) (tt := tYes) rfl nd (pi_str (pv 1)) (blkOk_by (own := [("sign", 2)]) (N := nm_is_long_text) (sc := defScope st_is_long_text) (by decide +kernel)) (fun _ _ _ _ _ => (pg_name (i := 2) nd rfl (Or.inl rfl))) (fun _ _ _ _ _ => pts_nil) (fun _ _ _ _ _ => (pe_cmpR (r := rInS) op_inS (pv 2) (pe_okf O_letters_in (hr.mono (by decide)) (by rfl) (glo_letters_in hd) (pa_cons (pv 0) pa_nil)) (by rfl)))) pa_nil))))))
/-! read_all -/
abbrev nm_read_all : List Str := ["words", "held", "text", "cost", "letter", "given"]
theorem sc_read_all : FnScope nm_read_all ["words", "held", "text"] (defScope st_read_all) := ⟨rfl, rfl, rfl, by decide +kernel, rfl, by decide +kernel, by decide +kernel⟩
def t_read_all (K : PySem.W.Frag) (s_read_on : Sp) (s_cost_of_row : Sp) : TS := (tSeq (tAsg (tC (.int 0)) (gName 3))
  (tSeq (tFor (iStr (tVar 2)) (gName 4)
    (tSeq (tAsg (tCall s_read_on [] E0 (tCons (tVar 0) (tCons (tVar 1) (tCons (tVar 4) tNil)))) (gTup K 2 (gCons (gName 5) (gCons (gName 1) gNil))))
  (tAsg (tOp (rI0 fun i j => .int (i + j)) (tVar 3) (tCall s_cost_of_row [] E0 (tCons (tVar 0) (tCons (tVar 5) tNil)))) (gName 3))))
  (tRet (tTup (tCons (tVar 3) (tCons (tVar 1) tNil))))))
theorem ok_read_all {s_read_on s_cost_of_row : Sp} {sp : Sp} (hd : Hd K mg) (O_read_on : OkA P w K mg base 4 (He.ga K "read_on") ["words", "held", "letter"] s_read_on) (O_cost_of_row : OkA P w K mg base 2 (He.ga K "cost_of_row") ["words", "row"] s_cost_of_row) (len : ∀ vs H Q E, sp vs H Q E → vs.length = 3) (rd : ∀ vs H Q E, sp vs H Q E → t_read_all K s_read_on s_cost_of_row { nx := fun _ H' => Q .non H', rt := Q } (L2.start nm_read_all vs) H) :
    OkA P w K mg base 5 (He.ga K "read_all") ["words", "held", "text"] sp := by
  obtain ⟨fd, F⟩ := fun_read_all hd
  refine ok_mk F sc_read_all (F.bindsN fun _ _ _ _ _ _ us hl => match us, hl with | [_, _, _], _ => rfl) len rd fun cdv A outer s H E hr => ?_
  have nd := (sc_read_all).nd
  exact (pss_cons (ps_set (i := 3) nd rfl (Or.inl rfl) pe_int)
    (pss_cons (ps_for PassesOwn.never rfl (pi_str (pv 2)) (pg_name (i := 4) nd rfl (Or.inl rfl))
      (pss_cons (ps_asg (pe_okf O_read_on (hr.mono (by decide)) (by rfl) (glo_read_on hd) (pa_cons (pv 0) (pa_cons (pv 1) (pa_cons (pv 4) pa_nil)))) (pg_tup rfl (pgs_cons (pg_name (i := 5) nd rfl (Or.inl rfl)) (pgs_cons (pg_name (i := 1) nd rfl (Or.inl rfl)) pgs_nil))))
    (pss_one (ps_set (i := 3) nd rfl (Or.inl rfl) (pe_op (r := (rI0 fun i j => .int (i + j))) op_add (pv 3) (pe_okf O_cost_of_row (hr.mono (by decide)) (by rfl) (glo_cost_of_row hd) (pa_cons (pv 0) (pa_cons (pv 5) pa_nil))))))))
    (pss_one (ps_ret (pe_tup (pa_cons (pv 3) (pa_cons (pv 1) pa_nil)))))))
/-! sums_of -/
abbrev nm_sums_of : List Str := ["words", "value", "before", "cycle", "tail", "row", "held", "gain", "rest", "one"]
theorem sc_sums_of : FnScope nm_sums_of ["words", "value"] (defScope st_sums_of) := ⟨rfl, rfl, rfl, by decide +kernel, rfl, by decide +kernel, by decide +kernel⟩
def t_sums_of (K : PySem.W.Frag) (s_is_long_text : Sp) (s_is_row : Sp) (s_read_all : Sp) (s_cost_of_row : Sp) : TS := (tSeq (tIfS (tOr (tNot (tB (tCB (rIsi K) (tCons (tVar 1) (tCons (tC (.ty "tuple")) tNil))))) (tOr (tTest (tOp rNe (tCB (rLen K) (tCons (tVar 1) tNil)) (tC (.int 4)))) (tNot (tB (tCB (rAll K) (tCons (tLc (iTup K (tSl (rSlT K) (tVar 1) tNoPart (tPart (tC (.int 3))))) (gName 9) tYes (tCall s_is_long_text [] E0 (tCons (tVar 0) (tCons (tVar 9) tNil))) [9]) tNil)))))) (tRet (tC .non)) tNext)
  (tSeq (tAsg (tVar 1) (gTup K 4 (gCons (gName 2) (gCons (gName 3) (gCons (gName 4) (gCons (gName 5) gNil))))))
  (tSeq (tIfS (tOr (tTest (tOp rEq (tVar 3) (tC (.str "")))) (tNot (tB (tCall s_is_row [] E0 (tCons (tVar 0) (tCons (tVar 5) tNil)))))) (tRet (tC .non)) tNext)
  (tSeq (tIfS (tOr (tTest (tOp rNe (tSl rSlS (tVar 2) (tPart (tCB rMax2 (tCons (tC (.int 0)) (tCons (tOp (rI0 fun i j => .int (i - j)) (tCB (rLen K) (tCons (tVar 2) tNil)) (tCB (rLen K) (tCons (tVar 4) tNil))) tNil)))) tNoPart) (tVar 4))) (tTest (tOp rNe (tOp rCatS (tVar 4) (tVar 3)) (tOp rCatS (tM1 (rJoin K) (tC (.str "")) (tVar 5)) (tVar 4))))) (tRet (tC .non)) tNext)
  (tSeq (tAsg (tOp (rIxT K) (tCall s_read_all [] E0 (tCons (tVar 0) (tCons (tC (.str "")) (tCons (tVar 2) tNil)))) (tC (.int 1))) (gName 6))
  (tSeq (tAsg (tCall s_read_all [] E0 (tCons (tVar 0) (tCons (tVar 6) (tCons (tVar 3) tNil)))) (gTup K 2 (gCons (gName 7) (gCons (gName 8) gNil))))
  (tRet (tIf (tTest (tOp rEq (tVar 8) (tVar 6))) (tTup (tCons (tVar 7) (tCons (tCall s_cost_of_row [] E0 (tCons (tVar 0) (tCons (tVar 5) tNil))) tNil))) (tC .non)))))))))
theorem ok_sums_of {s_is_long_text s_is_row s_read_all s_cost_of_row : Sp} {sp : Sp} (hd : Hd K mg) (O_is_long_text : OkA P w K mg base 2 (He.ga K "is_long_text") ["words", "value"] s_is_long_text) (O_is_row : OkA P w K mg base 3 (He.ga K "is_row") ["words", "value"] s_is_row) (O_read_all : OkA P w K mg base 5 (He.ga K "read_all") ["words", "held", "text"] s_read_all) (O_cost_of_row : OkA P w K mg base 2 (He.ga K "cost_of_row") ["words", "row"] s_cost_of_row) (len : ∀ vs H Q E, sp vs H Q E → vs.length = 2) (rd : ∀ vs H Q E, sp vs H Q E → t_sums_of K s_is_long_text s_is_row s_read_all s_cost_of_row { nx := fun _ H' => Q .non H', rt := Q } (L2.start nm_sums_of vs) H) :
    OkA P w K mg base 6 (He.ga K "sums_of") ["words", "value"] sp := by
  obtain ⟨fd, F⟩ := fun_sums_of hd
  refine ok_mk F sc_sums_of (F.bindsN fun _ _ _ _ _ _ us hl => match us, hl with | [_, _], _ => rfl) len rd fun cdv A outer s H E hr => ?_
  have nd := (sc_sums_of).nd
  exact (pss_cons (ps_if (PW.pt (pw_or (pt_not (pt_val (pe_callB call_isi (by rfl) (free_isinstance hd) (by decide +kernel) (pa_cons (pv 1) (pa_cons (pe_bltn (by rfl) (free_tuple hd) (by decide +kernel) rfl) pa_nil))))) (pw_or (pt_cmpR (r := rNe) op_ne (pe_callB call_len (by rfl) (free_len hd) (by decide +kernel) (pa_cons (pv 1) pa_nil)) pe_int (nomark _)) (pw_or1 (pt_not (pt_val (pe_callB (cr_all rfl) (by rfl) (free_all hd) (by decide +kernel) (pa_cons (pe_lc (own := [("one", 9)]) (g := (gName 9)) (tt := tYes) rfl nd (pi_tup (pe_slice (r := (rSlT K)) sl_tup (pv 1) po_none (po_some pe_int))) (blkOk_by (own := [("one", 9)]) (N := nm_sums_of) (sc := defScope st_sums_of) (by decide +kernel)) (fun _ _ _ _ _ => (pg_name (i := 9) nd rfl (Or.inl rfl))) (fun _ _ _ _ _ => pts_nil) (fun _ _ _ _ _ => (pe_okf O_is_long_text (hr.mono (by decide)) (by rfl) (glo_is_long_text hd) (pa_cons (pv 0) (pa_cons (pv 9) pa_nil))))) pa_nil)))))))) (pss_one (ps_ret pe_non)) pss_nil)
    (pss_cons (ps_asg (pv 1) (pg_tup rfl (pgs_cons (pg_name (i := 2) nd rfl (Or.inl rfl)) (pgs_cons (pg_name (i := 3) nd rfl (Or.inl rfl)) (pgs_cons (pg_name (i := 4) nd rfl (Or.inl rfl)) (pgs_cons (pg_name (i := 5) nd rfl (Or.inl rfl)) pgs_nil))))))
    (pss_cons (ps_if (PW.pt (pw_or (pt_cmpR (r := rEq) op_eq (pv 3) pe_str (nomark _)) (pw_or1 (pt_not (pt_val (pe_okf O_is_row (hr.mono (by decide)) (by rfl) (glo_is_row hd) (pa_cons (pv 0) (pa_cons (pv 5) pa_nil)))))))) (pss_one (ps_ret pe_non)) pss_nil)
    (pss_cons (ps_if (PW.pt (pw_or (pt_cmpR (r := rNe) op_ne (pe_slice (r := rSlS) sl_str (pv 2) (po_some (pe_callB (call_max2 rfl) (by rfl) (free_max hd) (by decide +kernel) (pa_cons pe_int (pa_cons (pe_op (r := (rI0 fun i j => .int (i - j))) op_sub (pe_callB call_len (by rfl) (free_len hd) (by decide +kernel) (pa_cons (pv 2) pa_nil)) (pe_callB call_len (by rfl) (free_len hd) (by decide +kernel) (pa_cons (pv 4) pa_nil))) pa_nil)))) po_none) (pv 4) (nomark _)) (pw_or1 (pt_cmpR (r := rNe) op_ne (pe_op (r := rCatS) op_add_str (pv 4) (pv 3)) (pe_op (r := rCatS) op_add_str (pe_join pe_str (pv 5)) (pv 4)) (nomark _))))) (pss_one (ps_ret pe_non)) pss_nil)
    (pss_cons (ps_set (i := 6) nd rfl (Or.inl rfl) (pe_ix (r := (rIxT K)) ix_tup (pe_okf O_read_all (hr.mono (by decide)) (by rfl) (glo_read_all hd) (pa_cons (pv 0) (pa_cons pe_str (pa_cons (pv 2) pa_nil)))) pe_int (fun _ _ => rfl)))
    (pss_cons (ps_asg (pe_okf O_read_all (hr.mono (by decide)) (by rfl) (glo_read_all hd) (pa_cons (pv 0) (pa_cons (pv 6) (pa_cons (pv 3) pa_nil)))) (pg_tup rfl (pgs_cons (pg_name (i := 7) nd rfl (Or.inl rfl)) (pgs_cons (pg_name (i := 8) nd rfl (Or.inl rfl)) pgs_nil))))
    (pss_one (ps_ret (pe_ifExp (pt_cmpR (r := rEq) op_eq (pv 8) (pv 6) (nomark _)) (pe_tup (pa_cons (pv 7) (pa_cons (pe_okf O_cost_of_row (hr.mono (by decide)) (by rfl) (glo_cost_of_row hd) (pa_cons (pv 0) (pa_cons (pv 5) pa_nil))) pa_nil))) pe_non)))))))))
/-! lowest -/
abbrev nm_lowest : List Str := ["n", "d", "shared"]
theorem sc_lowest : FnScope nm_lowest ["n", "d"] (defScope st_lowest) := ⟨rfl, rfl, rfl, by decide +kernel, rfl, by decide +kernel, by decide +kernel⟩
def t_lowest (K : PySem.W.Frag)  : TS := (tSeq (tAsg (tCB rGcd (tCons (tVar 0) (tCons (tVar 1) tNil))) (gName 2))
  (tRet (tTup (tCons (tOp (rI CDiv fun i j => .int (i / j)) (tVar 0) (tVar 2)) (tCons (tOp (rI CDiv fun i j => .int (i / j)) (tVar 1) (tVar 2)) tNil)))))
theorem ok_lowest {sp : Sp} (hd : Hd K mg)  (len : ∀ vs H Q E, sp vs H Q E → vs.length = 2) (rd : ∀ vs H Q E, sp vs H Q E → t_lowest K  { nx := fun _ H' => Q .non H', rt := Q } (L2.start nm_lowest vs) H) :
    OkA P w K mg base 1 (He.ga K "lowest") ["n", "d"] sp := by
  obtain ⟨fd, F⟩ := fun_lowest hd
  refine ok_mk F sc_lowest (F.bindsN fun _ _ _ _ _ _ us hl => match us, hl with | [_, _], _ => rfl) len rd fun cdv A outer s H E hr => ?_
  have nd := (sc_lowest).nd
  exact (pss_cons (ps_set (i := 2) nd rfl (Or.inl rfl) (pe_callBfun cr_gcd (by rfl) (gcd_is hd) (pa_cons (pv 0) (pa_cons (pv 1) pa_nil))))
    (pss_one (ps_ret (pe_tup (pa_cons (pe_op (r := (rI CDiv fun i j => .int (i / j))) op_fdiv (pv 0) (pv 2)) (pa_cons (pe_op (r := (rI CDiv fun i j => .int (i / j))) op_fdiv (pv 1) (pv 2)) pa_nil))))))
/-! settle -/
abbrev nm_settle : List Str := ["words", "graph", "ratio", "climb", "circle", "edge"]
theorem sc_settle : FnScope nm_settle ["words"] (defScope st_settle) := ⟨rfl, rfl, rfl, by decide +kernel, rfl, by decide +kernel, by decide +kernel⟩
def t_settle (K : PySem.W.Frag) (s_Graph_init : Sp) (s_Climb_init : Sp) (s_Climb_circle : Sp) (s_lowest : Sp) : TS := (tSeq (tAsg (tMake (He.ga K "Graph") s_Graph_init [] E0 (tCons (tVar 0) tNil)) (gName 1))
  (tSeq (tAsg (tTup (tCons (tC (.int 1)) (tCons (tC (.int 1)) tNil))) (gName 2))
  (tSeq (tAsg (tMake (He.ga K "Climb") s_Climb_init [] E0 (tCons (tVar 1) (tCons (tC (.int 1)) (tCons (tC (.int 1)) tNil)))) (gName 3))
  (tSeq (tAsg (tMeth (He.ga K "Climb") "circle" s_Climb_circle [] E0 (tVar 3) tNil) (gName 4))
  (tSeq (tWhile (tTest (tOp rNotN (tVar 4) (tC .non)))
    (tSeq (tAsg (tCall s_lowest [] E0 (tCons (tCB (rSum K) (tCons (tLc (iList K (tVar 4)) (gName 5) tYes (tOp (rIxT K) (tVar 5) (tC (.int 3))) [5]) tNil)) (tCons (tCB (rSum K) (tCons (tLc (iList K (tVar 4)) (gName 5) tYes (tOp (rIxT K) (tVar 5) (tC (.int 4))) [5]) tNil)) tNil))) (gName 2))
  (tSeq (tAsg (tMake (He.ga K "Climb") s_Climb_init [] E0 (tCons (tVar 1) (tCons (tOp (rIxT K) (tVar 2) (tC (.int 0))) (tCons (tOp (rIxT K) (tVar 2) (tC (.int 1))) tNil)))) (gName 3))
  (tAsg (tMeth (He.ga K "Climb") "circle" s_Climb_circle [] E0 (tVar 3) tNil) (gName 4)))))
  (tRet (tTup (tCons (tVar 1) (tCons (tVar 2) (tCons (tVar 3) tNil))))))))))
theorem ok_settle {s_Graph_init s_Climb_init s_Climb_circle s_lowest : Sp} {sp : Sp} (hd : Hd K mg) (O_Graph_init : OkA P w K mg base 7 (He.ma K (He.ga K "Graph") "__init__") ["self", "words"] s_Graph_init) (O_Climb_init : OkA P w K mg base 1 (He.ma K (He.ga K "Climb") "__init__") ["self", "graph", "a", "b"] s_Climb_init) (O_Climb_circle : OkA P w K mg base 2 (He.ma K (He.ga K "Climb") "circle") ["self"] s_Climb_circle) (O_lowest : OkA P w K mg base 1 (He.ga K "lowest") ["n", "d"] s_lowest) (len : ∀ vs H Q E, sp vs H Q E → vs.length = 1) (rd : ∀ vs H Q E, sp vs H Q E → t_settle K s_Graph_init s_Climb_init s_Climb_circle s_lowest { nx := fun _ H' => Q .non H', rt := Q } (L2.start nm_settle vs) H) :
    OkA P w K mg base 9 (He.ga K "settle") ["words"] sp := by
  obtain ⟨fd, F⟩ := fun_settle hd
  refine ok_mk F sc_settle (F.bindsN fun _ _ _ _ _ _ us hl => match us, hl with | [_], _ => rfl) len rd fun cdv A outer s H E hr => ?_
  have nd := (sc_settle).nd
  exact (pss_cons (ps_set (i := 1) nd rfl (Or.inl rfl) (pe_okmk (mkr_Graph hd) O_Graph_init (hr.mono (by decide)) (by rfl) (glo_Graph hd) (pa_cons (pv 0) pa_nil)))
    (pss_cons (ps_set (i := 2) nd rfl (Or.inl rfl) (pe_tup (pa_cons pe_int (pa_cons pe_int pa_nil))))
    (pss_cons (ps_set (i := 3) nd rfl (Or.inl rfl) (pe_okmk (mkr_Climb hd) O_Climb_init (hr.mono (by decide)) (by rfl) (glo_Climb hd) (pa_cons (pv 1) (pa_cons pe_int (pa_cons pe_int pa_nil)))))
    (pss_cons (ps_set (i := 4) nd rfl (Or.inl rfl) (pe_okm0 (pv 3) (cls_Climb hd) (meth_Climb_circle hd) O_Climb_circle (hr.mono (by decide))))
    (pss_cons (ps_while PassesOwn.never (pt_cmpR (r := rNotN) op_notN1 (pv 4) pe_non (nomark _))
      (pss_cons (ps_set (i := 2) nd rfl (Or.inl rfl) (pe_okf O_lowest (hr.mono (by decide)) (by rfl) (glo_lowest hd) (pa_cons (pe_callB (cr_sum rfl) (by rfl) (free_sum hd) (by decide +kernel) (pa_cons (pe_lc (own := [("edge", 5)]) (g := (gName 5)) (tt := tYes) rfl nd (pi_list (pv 4)) (blkOk_by (own := [("edge", 5)]) (N := nm_settle) (sc := defScope st_settle) (by decide +kernel)) (fun _ _ _ _ _ => (pg_name (i := 5) nd rfl (Or.inl rfl))) (fun _ _ _ _ _ => pts_nil) (fun _ _ _ _ _ => (pe_ix (r := (rIxT K)) ix_tup (pv 5) pe_int (fun _ _ => rfl)))) pa_nil)) (pa_cons (pe_callB (cr_sum rfl) (by rfl) (free_sum hd) (by decide +kernel) (pa_cons (pe_lc (own := [("edge", 5)]) (g := (gName 5)) (tt := tYes) rfl nd (pi_list (pv 4)) (blkOk_by (own := [("edge", 5)]) (N := nm_settle) (sc := defScope st_settle) (by decide +kernel)) (fun _ _ _ _ _ => (pg_name (i := 5) nd rfl (Or.inl rfl))) (fun _ _ _ _ _ => pts_nil) (fun _ _ _ _ _ => (pe_ix (r := (rIxT K)) ix_tup (pv 5) pe_int (fun _ _ => rfl)))) pa_nil)) pa_nil))))
    (pss_cons (ps_set (i := 3) nd rfl (Or.inl rfl) (pe_okmk (mkr_Climb hd) O_Climb_init (hr.mono (by decide)) (by rfl) (glo_Climb hd) (pa_cons (pv 1) (pa_cons (pe_ix (r := (rIxT K)) ix_tup (pv 2) pe_int (fun _ _ => rfl)) (pa_cons (pe_ix (r := (rIxT K)) ix_tup (pv 2) pe_int (fun _ _ => rfl)) pa_nil)))))
    (pss_one (ps_set (i := 4) nd rfl (Or.inl rfl) (pe_okm0 (pv 3) (cls_Climb hd) (meth_Climb_circle hd) O_Climb_circle (hr.mono (by decide))))))))
    (pss_one (ps_ret (pe_tup (pa_cons (pv 1) (pa_cons (pv 2) (pa_cons (pv 3) pa_nil)))))))))))
/-! excess_of -/
abbrev nm_excess_of : List Str := ["words", "graph", "ratio", "climb", "best", "place", "pair", "value"]
theorem sc_excess_of : FnScope nm_excess_of ["words", "graph", "ratio", "climb"] (defScope st_excess_of) := ⟨rfl, rfl, rfl, by decide +kernel, rfl, by decide +kernel, by decide +kernel⟩
def t_excess_of (K : PySem.W.Frag) (s_cost_of_row : Sp) (s_match_of : Sp) : TS := (tSeq (tAsg (tTup (tCons (tC (.int 0)) (tCons (tC (.int 0)) tNil))) (gName 4))
  (tSeq (tFor (iEnum K (tCons (tFld K (tVar 1) "pairs") tNil)) (gTup K 2 (gCons (gName 5) (gCons (gName 6) gNil)))
    (tIfS (tTest (tOp rEq (tOp (rIxT K) (tVar 6) (tC (.int 1))) (tC (.str "")))) (tSeq (tAsg (tOp (rI0 fun i j => .int (i + j)) (tOp (rIxL K) (tFld K (tVar 3) "heights") (tVar 5)) (tOp (rI CMul fun i j => .int (i * j)) (tOp (rIxT K) (tVar 2) (tC (.int 1))) (tCall s_cost_of_row [] E0 (tCons (tVar 0) (tCons (tCall s_match_of [] E0 (tCons (tVar 0) (tCons (tOp (rIxT K) (tVar 6) (tC (.int 0))) tNil))) tNil))))) (gName 7))
  (tIfS (tTest (tOp (rI0 fun i j => .bl (decide (j < i))) (tVar 7) (tOp (rIxT K) (tVar 4) (tC (.int 0))))) (tAsg (tTup (tCons (tVar 7) (tCons (tVar 5) tNil))) (gName 4)) tNext)) tNext))
  (tRet (tVar 4))))
theorem ok_excess_of {s_cost_of_row s_match_of : Sp} {sp : Sp} (hd : Hd K mg) (O_cost_of_row : OkA P w K mg base 2 (He.ga K "cost_of_row") ["words", "row"] s_cost_of_row) (O_match_of : OkA P w K mg base 4 (He.ga K "match_of") ["words", "text"] s_match_of) (len : ∀ vs H Q E, sp vs H Q E → vs.length = 4) (rd : ∀ vs H Q E, sp vs H Q E → t_excess_of K s_cost_of_row s_match_of { nx := fun _ H' => Q .non H', rt := Q } (L2.start nm_excess_of vs) H) :
    OkA P w K mg base 5 (He.ga K "excess_of") ["words", "graph", "ratio", "climb"] sp := by
  obtain ⟨fd, F⟩ := fun_excess_of hd
  refine ok_mk F sc_excess_of (F.bindsN fun _ _ _ _ _ _ us hl => match us, hl with | [_, _, _, _], _ => rfl) len rd fun cdv A outer s H E hr => ?_
  have nd := (sc_excess_of).nd
  exact (pss_cons (ps_set (i := 4) nd rfl (Or.inl rfl) (pe_tup (pa_cons pe_int (pa_cons pe_int pa_nil))))
    (pss_cons (ps_for PassesOwn.never rfl (pi_enum (by rfl) (free_enumerate hd) (pa_cons (pe_fld (pv 1) (by rfl)) pa_nil)) (pg_tup rfl (pgs_cons (pg_name (i := 5) nd rfl (Or.inl rfl)) (pgs_cons (pg_name (i := 6) nd rfl (Or.inl rfl)) pgs_nil)))
      (pss_one (ps_if (pt_cmpR (r := rEq) op_eq (pe_ix (r := (rIxT K)) ix_tup (pv 6) pe_int (fun _ _ => rfl)) pe_str (nomark _)) (pss_cons (ps_set (i := 7) nd rfl (Or.inl rfl) (pe_op (r := (rI0 fun i j => .int (i + j))) op_add (pe_ix (r := (rIxL K)) ix_list (pe_fld (pv 3) (by rfl)) (pv 5) (fun _ _ => rfl)) (pe_op (r := (rI CMul fun i j => .int (i * j))) op_mul (pe_ix (r := (rIxT K)) ix_tup (pv 2) pe_int (fun _ _ => rfl)) (pe_okf O_cost_of_row (hr.mono (by decide)) (by rfl) (glo_cost_of_row hd) (pa_cons (pv 0) (pa_cons (pe_okf O_match_of (hr.mono (by decide)) (by rfl) (glo_match_of hd) (pa_cons (pv 0) (pa_cons (pe_ix (r := (rIxT K)) ix_tup (pv 6) pe_int (fun _ _ => rfl)) pa_nil))) pa_nil))))))
    (pss_one (ps_if (pt_cmpR (r := (rI0 fun i j => .bl (decide (j < i)))) op_gt (pv 7) (pe_ix (r := (rIxT K)) ix_tup (pv 4) pe_int (fun _ _ => rfl)) (nomark _)) (pss_one (ps_set (i := 4) nd rfl (Or.inl rfl) (pe_tup (pa_cons (pv 7) (pa_cons (pv 5) pa_nil))))) pss_nil))) pss_nil)))
    (pss_one (ps_ret (pv 4)))))
/-! worst_ratio -/
abbrev nm_worst_ratio : List Str := ["words"]
theorem sc_worst_ratio : FnScope nm_worst_ratio ["words"] (defScope st_worst_ratio) := ⟨rfl, rfl, rfl, by decide +kernel, rfl, by decide +kernel, by decide +kernel⟩
def t_worst_ratio (K : PySem.W.Frag) (s_check_words : Sp) (s_settle : Sp) : TS := (tSeq (tDrop (tCall s_check_words [] E0 (tCons (tVar 0) tNil)))
  (tRet (tOp (rIxT K) (tCall s_settle [] E0 (tCons (tVar 0) tNil)) (tC (.int 1)))))
theorem ok_worst_ratio {s_check_words s_settle : Sp} {sp : Sp} (hd : Hd K mg) (O_check_words : OkA P w K mg base 4 (He.ga K "check_words") ["words"] s_check_words) (O_settle : OkA P w K mg base 9 (He.ga K "settle") ["words"] s_settle) (len : ∀ vs H Q E, sp vs H Q E → vs.length = 1) (rd : ∀ vs H Q E, sp vs H Q E → t_worst_ratio K s_check_words s_settle { nx := fun _ H' => Q .non H', rt := Q } (L2.start nm_worst_ratio vs) H) :
    OkA P w K mg base 10 (He.ga K "worst_ratio") ["words"] sp := by
  obtain ⟨fd, F⟩ := fun_worst_ratio hd
  refine ok_mk F sc_worst_ratio (F.bindsN fun _ _ _ _ _ _ us hl => match us, hl with | [_], _ => rfl) len rd fun cdv A outer s H E hr => ?_
  have nd := (sc_worst_ratio).nd
  exact (pss_cons (ps_expr (pe_okf O_check_words (hr.mono (by decide)) (by rfl) (glo_check_words hd) (pa_cons (pv 0) pa_nil)))
    (pss_one (ps_ret (pe_ix (r := (rIxT K)) ix_tup (pe_okf O_settle (hr.mono (by decide)) (by rfl) (glo_settle hd) (pa_cons (pv 0) pa_nil)) pe_int (fun _ _ => rfl)))))
/-! worst_excess -/
abbrev nm_worst_excess : List Str := ["words", "graph", "ratio", "climb"]
theorem sc_worst_excess : FnScope nm_worst_excess ["words"] (defScope st_worst_excess) := ⟨rfl, rfl, rfl, by decide +kernel, rfl, by decide +kernel, by decide +kernel⟩
def t_worst_excess (K : PySem.W.Frag) (s_check_words : Sp) (s_settle : Sp) (s_excess_of : Sp) : TS := (tSeq (tDrop (tCall s_check_words [] E0 (tCons (tVar 0) tNil)))
  (tSeq (tAsg (tCall s_settle [] E0 (tCons (tVar 0) tNil)) (gTup K 3 (gCons (gName 1) (gCons (gName 2) (gCons (gName 3) gNil)))))
  (tRet (tOp (rIxT K) (tCall s_excess_of [] E0 (tCons (tVar 0) (tCons (tVar 1) (tCons (tVar 2) (tCons (tVar 3) tNil))))) (tC (.int 0))))))
theorem ok_worst_excess {s_check_words s_settle s_excess_of : Sp} {sp : Sp} (hd : Hd K mg) (O_check_words : OkA P w K mg base 4 (He.ga K "check_words") ["words"] s_check_words) (O_settle : OkA P w K mg base 9 (He.ga K "settle") ["words"] s_settle) (O_excess_of : OkA P w K mg base 5 (He.ga K "excess_of") ["words", "graph", "ratio", "climb"] s_excess_of) (len : ∀ vs H Q E, sp vs H Q E → vs.length = 1) (rd : ∀ vs H Q E, sp vs H Q E → t_worst_excess K s_check_words s_settle s_excess_of { nx := fun _ H' => Q .non H', rt := Q } (L2.start nm_worst_excess vs) H) :
    OkA P w K mg base 10 (He.ga K "worst_excess") ["words"] sp := by
  obtain ⟨fd, F⟩ := fun_worst_excess hd
  refine ok_mk F sc_worst_excess (F.bindsN fun _ _ _ _ _ _ us hl => match us, hl with | [_], _ => rfl) len rd fun cdv A outer s H E hr => ?_
  have nd := (sc_worst_excess).nd
  exact (pss_cons (ps_expr (pe_okf O_check_words (hr.mono (by decide)) (by rfl) (glo_check_words hd) (pa_cons (pv 0) pa_nil)))
    (pss_cons (ps_asg (pe_okf O_settle (hr.mono (by decide)) (by rfl) (glo_settle hd) (pa_cons (pv 0) pa_nil)) (pg_tup rfl (pgs_cons (pg_name (i := 1) nd rfl (Or.inl rfl)) (pgs_cons (pg_name (i := 2) nd rfl (Or.inl rfl)) (pgs_cons (pg_name (i := 3) nd rfl (Or.inl rfl)) pgs_nil)))))
    (pss_one (ps_ret (pe_ix (r := (rIxT K)) ix_tup (pe_okf O_excess_of (hr.mono (by decide)) (by rfl) (glo_excess_of hd) (pa_cons (pv 0) (pa_cons (pv 1) (pa_cons (pv 2) (pa_cons (pv 3) pa_nil))))) pe_int (fun _ _ => rfl))))))
/-! way_to -/
abbrev nm_way_to : List Str := ["graph", "climb", "place", "found", "edge"]
theorem sc_way_to : FnScope nm_way_to ["graph", "climb", "place"] (defScope st_way_to) := ⟨rfl, rfl, rfl, by decide +kernel, rfl, by decide +kernel, by decide +kernel⟩
def t_way_to (K : PySem.W.Frag)  : TS := (tSeq (tAsg (tLst tNil) (gName 3))
  (tSeq (tWhile (tTest (tOp rNotN (tOp (rIxL K) (tFld K (tVar 1) "last") (tVar 2)) (tC .non)))
    (tSeq (tAsg (tOp (rIxL K) (tFld K (tVar 0) "edges") (tOp (rIxL K) (tFld K (tVar 1) "last") (tVar 2))) (gName 4))
  (tSeq (tDrop (tBM K "list" rAppend (tVar 3) (tCons (tVar 4) tNil)))
  (tAsg (tOp (rIxT K) (tVar 4) (tC (.int 0))) (gName 2)))))
  (tRet (tRevL K (tVar 3)))))
theorem ok_way_to {sp : Sp} (hd : Hd K mg)  (len : ∀ vs H Q E, sp vs H Q E → vs.length = 3) (rd : ∀ vs H Q E, sp vs H Q E → t_way_to K  { nx := fun _ H' => Q .non H', rt := Q } (L2.start nm_way_to vs) H) :
    OkA P w K mg base 1 (He.ga K "way_to") ["graph", "climb", "place"] sp := by
  obtain ⟨fd, F⟩ := fun_way_to hd
  refine ok_mk F sc_way_to (F.bindsN fun _ _ _ _ _ _ us hl => match us, hl with | [_, _, _], _ => rfl) len rd fun cdv A outer s H E hr => ?_
  have nd := (sc_way_to).nd
  exact (pss_cons (ps_set (i := 3) nd rfl (Or.inl rfl) (pe_lst pa_nil))
    (pss_cons (ps_while PassesOwn.never (pt_cmpR (r := rNotN) op_notN1 (pe_ix (r := (rIxL K)) ix_list (pe_fld (pv 1) (by rfl)) (pv 2) (fun _ _ => rfl)) pe_non (nomark _))
      (pss_cons (ps_set (i := 4) nd rfl (Or.inl rfl) (pe_ix (r := (rIxL K)) ix_list (pe_fld (pv 0) (by rfl)) (pe_ix (r := (rIxL K)) ix_list (pe_fld (pv 1) (by rfl)) (pv 2) (fun _ _ => rfl)) (fun _ _ => rfl)))
    (pss_cons (ps_expr (pe_bm PySem.F.plainAttrs_list PySem.F.slot_list_append PySem.F.type_list_append mt_append (pv 3) (pa_cons (pv 4) pa_nil)))
    (pss_one (ps_set (i := 2) nd rfl (Or.inl rfl) (pe_ix (r := (rIxT K)) ix_tup (pv 4) pe_int (fun _ _ => rfl)))))))
    (pss_one (ps_ret (pe_revL (pv 3))))))
/-! told_by -/
abbrev nm_told_by : List Str := ["graph", "steps", "tail", "text", "row", "edge", "longer"]
theorem sc_told_by : FnScope nm_told_by ["graph", "steps", "tail"] (defScope st_told_by) := ⟨rfl, rfl, rfl, by decide +kernel, rfl, by decide +kernel, by decide +kernel⟩
def t_told_by (K : PySem.W.Frag)  : TS := (tSeq (tAsg (tM1 (rJoin K) (tC (.str "")) (tLc (iList K (tVar 1)) (gName 5) tYes (tOp (rIxT K) (tVar 5) (tC (.int 1))) [5])) (gName 3))
  (tSeq (tAsg (tLst tNil) (gName 4))
  (tSeq (tFor (iList K (tVar 1)) (gName 5)
    (tSeq (tAsg (tOp rCatS (tVar 2) (tOp (rIxT K) (tVar 5) (tC (.int 1)))) (gName 6))
  (tSeq (tAsg (tOp (rIxT K) (tOp (rIxL K) (tFld K (tVar 0) "pairs") (tOp (rIxT K) (tVar 5) (tC (.int 2)))) (tC (.int 1))) (gName 2))
  (tIfS (tTest (tOp rEq (tVar 2) (tC (.str "")))) (tDrop (tBM K "list" rAppend (tVar 4) (tCons (tVar 6) tNil))) tNext))))
  (tRet (tTup (tCons (tVar 3) (tCons (tCB (rTupleOf K) (tCons (tVar 4) tNil)) tNil)))))))
theorem ok_told_by {sp : Sp} (hd : Hd K mg)  (len : ∀ vs H Q E, sp vs H Q E → vs.length = 3) (rd : ∀ vs H Q E, sp vs H Q E → t_told_by K  { nx := fun _ H' => Q .non H', rt := Q } (L2.start nm_told_by vs) H) :
    OkA P w K mg base 1 (He.ga K "told_by") ["graph", "steps", "tail"] sp := by
  obtain ⟨fd, F⟩ := fun_told_by hd
  refine ok_mk F sc_told_by (F.bindsN fun _ _ _ _ _ _ us hl => match us, hl with | [_, _, _], _ => rfl) len rd fun cdv A outer s H E hr => ?_
  have nd := (sc_told_by).nd
  exact (pss_cons (ps_set (i := 3) nd rfl (Or.inl rfl) (pe_join pe_str (pe_lc (own := [("edge", 5)]) (g := (gName 5)) (tt := tYes) rfl nd (pi_list (pv 1)) (blkOk_by (own := [("edge", 5)]) (N := nm_told_by) (sc := defScope st_told_by) (by decide +kernel)) (fun _ _ _ _ _ => (pg_name (i := 5) nd rfl (Or.inl rfl))) (fun _ _ _ _ _ => pts_nil) (fun _ _ _ _ _ => (pe_ix (r := (rIxT K)) ix_tup (pv 5) pe_int (fun _ _ => rfl))))))
    (pss_cons (ps_set (i := 4) nd rfl (Or.inl rfl) (pe_lst pa_nil))
    (pss_cons (ps_for PassesOwn.never rfl (pi_list (pv 1)) (pg_name (i := 5) nd rfl (Or.inl rfl))
      (pss_cons (ps_set (i := 6) nd rfl (Or.inl rfl) (pe_op (r := rCatS) op_add_str (pv 2) (pe_ix (r := (rIxT K)) ix_tup (pv 5) pe_int (fun _ _ => rfl))))
    (pss_cons (ps_set (i := 2) nd rfl (Or.inl rfl) (pe_ix (r := (rIxT K)) ix_tup (pe_ix (r := (rIxL K)) ix_list (pe_fld (pv 0) (by rfl)) (pe_ix (r := (rIxT K)) ix_tup (pv 5) pe_int (fun _ _ => rfl)) (fun _ _ => rfl)) pe_int (fun _ _ => rfl)))
    (pss_one (ps_if (pt_cmpR (r := rEq) op_eq (pv 2) pe_str (nomark _)) (pss_one (ps_expr (pe_bm PySem.F.plainAttrs_list PySem.F.slot_list_append PySem.F.type_list_append mt_append (pv 4) (pa_cons (pv 6) pa_nil)))) pss_nil)))))
    (pss_one (ps_ret (pe_tup (pa_cons (pv 3) (pa_cons (pe_callTy call_tuple_of (by rfl) (free_tuple hd) (by decide +kernel) (pa_cons (pv 4) pa_nil)) pa_nil))))))))
/-! tight_circle -/
abbrev nm_tight_circle : List Str := ["graph", "climb", "tight", "number", "edge", "left", "changed", "place", "kept", "seen", "steps", "pair", "at", "many"]
theorem sc_tight_circle : FnScope nm_tight_circle ["graph", "climb"] (defScope st_tight_circle) := ⟨rfl, rfl, rfl, by decide +kernel, rfl, by decide +kernel, by decide +kernel⟩
def t_tight_circle (K : PySem.W.Frag)  : TS := (tSeq (tAsg (tLc (iList K (tFld K (tVar 0) "pairs")) (gName 11) tYes (tLst tNil) [11]) (gName 2))
  (tSeq (tFor (iEnum K (tCons (tFld K (tVar 0) "edges") tNil)) (gTup K 2 (gCons (gName 3) (gCons (gName 4) gNil)))
    (tIfS (tTest (tOp rEq (tOp (rIxL K) (tFld K (tVar 1) "heights") (tOp (rIxT K) (tVar 4) (tC (.int 2)))) (tOp (rI0 fun i j => .int (i + j)) (tOp (rIxL K) (tFld K (tVar 1) "heights") (tOp (rIxT K) (tVar 4) (tC (.int 0)))) (tOp (rIxL K) (tFld K (tVar 1) "weights") (tVar 3))))) (tDrop (tBM K "list" rAppend (tOp (rIxL K) (tVar 2) (tOp (rIxT K) (tVar 4) (tC (.int 0)))) (tCons (tVar 4) tNil))) tNext))
  (tSeq (tAsg (tLc (iList K (tVar 2)) (gName 10) tYes (tCB (rLen K) (tCons (tVar 10) tNil)) [10]) (gName 5))
  (tSeq (tAsg (tC (.bl true)) (gName 6))
  (tSeq (tWhile (tB (tVar 6))
    (tSeq (tAsg (tC (.bl false)) (gName 6))
  (tFor (iRng1 (tCons (tCB (rLen K) (tCons (tVar 2) tNil)) tNil)) (gName 7)
    (tSeq (tAsg (tLc (iList K (tOp (rIxL K) (tVar 2) (tVar 7))) (gName 4) (tTest (tOp (rI0 fun i j => .bl (decide (j < i))) (tOp (rIxL K) (tVar 5) (tOp (rIxT K) (tVar 4) (tC (.int 2)))) (tC (.int 0)))) (tVar 4) [4]) (gName 8))
  (tIfS (tTest (tOp (rI0 fun i j => .bl (decide (i < j))) (tCB (rLen K) (tCons (tVar 8) tNil)) (tOp (rIxL K) (tVar 5) (tVar 7)))) (tSeq (tAsg (tVar 8) (gSub (tVar 2) (tVar 7) rSetL))
  (tSeq (tAsg (tCB (rLen K) (tCons (tVar 8) tNil)) (gSub (tVar 5) (tVar 7) rSetL))
  (tAsg (tC (.bl true)) (gName 6)))) tNext)))))
  (tSeq (tAsg (tOp (rIxL K) (tLc (iEnum K (tCons (tVar 5) tNil)) (gTup K 2 (gCons (gName 12) (gCons (gName 13) gNil))) (tTest (tOp (rI0 fun i j => .bl (decide (j < i))) (tVar 13) (tC (.int 0)))) (tVar 12) [12, 13]) (tC (.int 0))) (gName 7))
  (tSeq (tAsg (tLst tNil) (gName 9))
  (tSeq (tAsg (tLst tNil) (gName 10))
  (tSeq (tWhile (tTest (tOp (rIn K true) (tVar 7) (tVar 9)))
    (tSeq (tDrop (tBM K "list" rAppend (tVar 9) (tCons (tVar 7) tNil)))
  (tSeq (tDrop (tBM K "list" rAppend (tVar 10) (tCons (tOp (rIxL K) (tOp (rIxL K) (tVar 2) (tVar 7)) (tC (.int 0))) tNil)))
  (tAsg (tOp (rIxT K) (tOp (rIxL K) (tOp (rIxL K) (tVar 2) (tVar 7)) (tC (.int 0))) (tC (.int 2))) (gName 7)))))
  (tRet (tSl (rSlL K) (tVar 10) (tPart (tBM K "list" (rIndex K) (tVar 9) (tCons (tVar 7) tNil))) tNoPart)))))))))))
theorem ok_tight_circle {sp : Sp} (hd : Hd K mg)  (len : ∀ vs H Q E, sp vs H Q E → vs.length = 2) (rd : ∀ vs H Q E, sp vs H Q E → t_tight_circle K  { nx := fun _ H' => Q .non H', rt := Q } (L2.start nm_tight_circle vs) H) :
    OkA P w K mg base 1 (He.ga K "tight_circle") ["graph", "climb"] sp := by
  obtain ⟨fd, F⟩ := fun_tight_circle hd
  refine ok_mk F sc_tight_circle (F.bindsN fun _ _ _ _ _ _ us hl => match us, hl with | [_, _], _ => rfl) len rd fun cdv A outer s H E hr => ?_
  have nd := (sc_tight_circle).nd
  exact (pss_cons (ps_setLc (i := 2) (own := [("pair", 11)]) (g := (gName 11)) (tt := tYes) rfl nd rfl rfl (sw_true rfl rfl rfl (by decide +kernel)) (pi_list (pe_fld (pv 0) (by rfl))) (blkOk_by (own := [("pair", 11)]) (N := nm_tight_circle) (sc := defScope st_tight_circle) (by decide +kernel)) (fun _ _ _ _ _ => (pg_name (i := 11) nd rfl (Or.inl rfl))) (fun _ _ _ _ _ => pts_nil) (fun _ _ _ _ _ => (pe_lst pa_nil)))
    (pss_cons (ps_for PassesOwn.never rfl (pi_enum (by rfl) (free_enumerate hd) (pa_cons (pe_fld (pv 0) (by rfl)) pa_nil)) (pg_tup rfl (pgs_cons (pg_name (i := 3) nd rfl (Or.inl rfl)) (pgs_cons (pg_name (i := 4) nd rfl (Or.inl rfl)) pgs_nil)))
      (pss_one (ps_if (pt_cmpR (r := rEq) op_eq (pe_ix (r := (rIxL K)) ix_list (pe_fld (pv 1) (by rfl)) (pe_ix (r := (rIxT K)) ix_tup (pv 4) pe_int (fun _ _ => rfl)) (fun _ _ => rfl)) (pe_op (r := (rI0 fun i j => .int (i + j))) op_add (pe_ix (r := (rIxL K)) ix_list (pe_fld (pv 1) (by rfl)) (pe_ix (r := (rIxT K)) ix_tup (pv 4) pe_int (fun _ _ => rfl)) (fun _ _ => rfl)) (pe_ix (r := (rIxL K)) ix_list (pe_fld (pv 1) (by rfl)) (pv 3) (fun _ _ => rfl))) (nomark _)) (pss_one (ps_expr (pe_bm PySem.F.plainAttrs_list PySem.F.slot_list_append PySem.F.type_list_append mt_append (pe_ix (r := (rIxL K)) ix_list (pv 2) (pe_ix (r := (rIxT K)) ix_tup (pv 4) pe_int (fun _ _ => rfl)) (fun _ _ => rfl)) (pa_cons (pv 4) pa_nil)))) pss_nil)))
    (pss_cons (ps_set (i := 5) nd rfl (Or.inr rfl) (pe_lc (own := [("steps", 10)]) (g := (gName 10)) (tt := tYes) rfl nd (pi_list (pv 2)) (blkOk_by (own := [("steps", 10)]) (N := nm_tight_circle) (sc := defScope st_tight_circle) (by decide +kernel)) (fun _ _ _ _ _ => (pg_name (i := 10) nd rfl (Or.inl rfl))) (fun _ _ _ _ _ => pts_nil) (fun _ _ _ _ _ => (pe_callB call_len (by rfl) (free_len hd) (by decide +kernel) (pa_cons (pv 10) pa_nil)))))
    (pss_cons (ps_set (i := 6) nd rfl (Or.inl rfl) pe_bl)
    (pss_cons (ps_while PassesOwn.never (pt_val (pv 6))
      (pss_cons (ps_set (i := 6) nd rfl (Or.inl rfl) pe_bl)
    (pss_one (ps_for PassesOwn.never rfl (pi_range1 rfl (free_range hd) (pa_cons (pe_callB call_len (by rfl) (free_len hd) (by decide +kernel) (pa_cons (pv 2) pa_nil)) pa_nil)) (pg_name (i := 7) nd rfl (Or.inl rfl))
      (pss_cons (ps_setLc (i := 8) (own := [("edge", 4)]) (g := (gName 4)) (tt := (tTest (tOp (rI0 fun i j => .bl (decide (j < i))) (tOp (rIxL K) (tVar 5) (tOp (rIxT K) (tVar 4) (tC (.int 2)))) (tC (.int 0))))) rfl nd rfl rfl (sw_true rfl rfl rfl (by decide +kernel)) (pi_list (pe_ix (r := (rIxL K)) ix_list (pv 2) (pv 7) (fun _ _ => rfl))) (blkOk_by (own := [("edge", 4)]) (N := nm_tight_circle) (sc := defScope st_tight_circle) (by decide +kernel)) (fun _ _ _ _ _ => (pg_name (i := 4) nd rfl (Or.inl rfl))) (fun _ _ _ _ _ => (pts_one (pt_cmpR (r := (rI0 fun i j => .bl (decide (j < i)))) op_gt (pe_ix (r := (rIxL K)) ix_list (pv 5) (pe_ix (r := (rIxT K)) ix_tup (pv 4) pe_int (fun _ _ => rfl)) (fun _ _ => rfl)) pe_int (nomark _)))) (fun _ _ _ _ _ => (pv 4)))
    (pss_one (ps_if (pt_cmpR (r := (rI0 fun i j => .bl (decide (i < j)))) op_lt (pe_callB call_len (by rfl) (free_len hd) (by decide +kernel) (pa_cons (pv 8) pa_nil)) (pe_ix (r := (rIxL K)) ix_list (pv 5) (pv 7) (fun _ _ => rfl)) (nomark _)) (pss_cons (ps_asg (pv 8) (pg_sub (pv 2) (pv 7) set_list))
    (pss_cons (ps_asg (pe_callB call_len (by rfl) (free_len hd) (by decide +kernel) (pa_cons (pv 8) pa_nil)) (pg_sub (pv 5) (pv 7) set_list))
    (pss_one (ps_set (i := 6) nd rfl (Or.inl rfl) pe_bl)))) pss_nil)))))))
    (pss_cons (ps_set (i := 7) nd rfl (Or.inl rfl) (pe_ix (r := (rIxL K)) ix_list (pe_lc (own := [("at", 12), ("many", 13)]) (g := (gTup K 2 (gCons (gName 12) (gCons (gName 13) gNil)))) (tt := (tTest (tOp (rI0 fun i j => .bl (decide (j < i))) (tVar 13) (tC (.int 0))))) rfl nd (pi_enum (by rfl) (free_enumerate hd) (pa_cons (pv 5) pa_nil)) (blkOk_by (own := [("at", 12), ("many", 13)]) (N := nm_tight_circle) (sc := defScope st_tight_circle) (by decide +kernel)) (fun _ _ _ _ _ => (pg_tup rfl (pgs_cons (pg_name (i := 12) nd rfl (Or.inl rfl)) (pgs_cons (pg_name (i := 13) nd rfl (Or.inl rfl)) pgs_nil)))) (fun _ _ _ _ _ => (pts_one (pt_cmpR (r := (rI0 fun i j => .bl (decide (j < i)))) op_gt (pv 13) pe_int (nomark _)))) (fun _ _ _ _ _ => (pv 12))) pe_int (fun _ _ => rfl)))
    (pss_cons (ps_set (i := 9) nd rfl (Or.inl rfl) (pe_lst pa_nil))
    (pss_cons (ps_set (i := 10) nd rfl (Or.inl rfl) (pe_lst pa_nil))
    (pss_cons (ps_while PassesOwn.never (pt_cmpR (r := (rIn K true)) op_notIn_seq (pv 7) (pv 9) (by rfl))
      (pss_cons (ps_expr (pe_bm PySem.F.plainAttrs_list PySem.F.slot_list_append PySem.F.type_list_append mt_append (pv 9) (pa_cons (pv 7) pa_nil)))
    (pss_cons (ps_expr (pe_bm PySem.F.plainAttrs_list PySem.F.slot_list_append PySem.F.type_list_append mt_append (pv 10) (pa_cons (pe_ix (r := (rIxL K)) ix_list (pe_ix (r := (rIxL K)) ix_list (pv 2) (pv 7) (fun _ _ => rfl)) pe_int (fun _ _ => rfl)) pa_nil)))
    (pss_one (ps_set (i := 7) nd rfl (Or.inl rfl) (pe_ix (r := (rIxT K)) ix_tup (pe_ix (r := (rIxL K)) ix_list (pe_ix (r := (rIxL K)) ix_list (pv 2) (pv 7) (fun _ _ => rfl)) pe_int (fun _ _ => rfl)) pe_int (fun _ _ => rfl)))))))
    (pss_one (ps_ret (pe_slice (r := (rSlL K)) sl_list (pv 10) (po_some (pe_bm PySem.F.plainAttrs_list PySem.F.slot_list_index PySem.F.type_list_index mt_index (pv 9) (pa_cons (pv 7) pa_nil))) po_none))))))))))))
/-! answer_for -/
abbrev nm_answer_for : List Str := ["words"]
theorem sc_answer_for : FnScope nm_answer_for ["words"] (defScope st_answer_for) := ⟨rfl, rfl, rfl, by decide +kernel, rfl, by decide +kernel, by decide +kernel⟩
def t_answer_for (K : PySem.W.Frag) (s_check_words : Sp) (s_answer_of : Sp) : TS := (tSeq (tDrop (tCall s_check_words [] E0 (tCons (tVar 0) tNil)))
  (tRet (tCall s_answer_of [] E0 (tCons (tVar 0) tNil))))
theorem ok_answer_for {s_check_words s_answer_of : Sp} {sp : Sp} (hd : Hd K mg) (O_check_words : OkA P w K mg base 4 (He.ga K "check_words") ["words"] s_check_words) (O_answer_of : OkA P w K mg base 10 (He.ga K "answer_of") ["words"] s_answer_of) (len : ∀ vs H Q E, sp vs H Q E → vs.length = 1) (rd : ∀ vs H Q E, sp vs H Q E → t_answer_for K s_check_words s_answer_of { nx := fun _ H' => Q .non H', rt := Q } (L2.start nm_answer_for vs) H) :
    OkA P w K mg base 11 (He.ga K "answer_for") ["words"] sp := by
  obtain ⟨fd, F⟩ := fun_answer_for hd
  refine ok_mk F sc_answer_for (F.bindsN fun _ _ _ _ _ _ us hl => match us, hl with | [_], _ => rfl) len rd fun cdv A outer s H E hr => ?_
  have nd := (sc_answer_for).nd
  exact (pss_cons (ps_expr (pe_okf O_check_words (hr.mono (by decide)) (by rfl) (glo_check_words hd) (pa_cons (pv 0) pa_nil)))
    (pss_one (ps_ret (pe_okf O_answer_of (hr.mono (by decide)) (by rfl) (glo_answer_of hd) (pa_cons (pv 0) pa_nil)))))
/-! is_ratio -/
abbrev nm_is_ratio : List Str := ["value"]
theorem sc_is_ratio : FnScope nm_is_ratio ["value"] (defScope st_is_ratio) := ⟨rfl, rfl, rfl, by decide +kernel, rfl, by decide +kernel, by decide +kernel⟩
def t_is_ratio (K : PySem.W.Frag) (s_is_integer : Sp) : TS := (tSeq (tIfS (tOr (tNot (tB (tCB (rIsi K) (tCons (tVar 0) (tCons (tC (.ty "tuple")) tNil))))) (tOr (tTest (tOp rNe (tCB (rLen K) (tCons (tVar 0) tNil)) (tC (.int 2)))) (tOr (tNot (tB (tCall s_is_integer [] E0 (tCons (tOp (rIxT K) (tVar 0) (tC (.int 0))) tNil)))) (tNot (tB (tCall s_is_integer [] E0 (tCons (tOp (rIxT K) (tVar 0) (tC (.int 1))) tNil))))))) (tRet (tC (.bl false))) tNext)
  (tRet (tAndV (tOp (rI0 fun i j => .bl (decide (j ≤ i))) (tOp (rIxT K) (tVar 0) (tC (.int 0))) (tC (.int 0))) (tAndV (tOp (rI0 fun i j => .bl (decide (j ≤ i))) (tOp (rIxT K) (tVar 0) (tC (.int 1))) (tC (.int 1))) (tOp rEq (tCB rGcd (tCons (tOp (rIxT K) (tVar 0) (tC (.int 0))) (tCons (tOp (rIxT K) (tVar 0) (tC (.int 1))) tNil))) (tC (.int 1)))))))
theorem ok_is_ratio {s_is_integer : Sp} {sp : Sp} (hd : Hd K mg) (O_is_integer : OkA P w K mg base 1 (He.ga K "is_integer") ["value"] s_is_integer) (len : ∀ vs H Q E, sp vs H Q E → vs.length = 1) (rd : ∀ vs H Q E, sp vs H Q E → t_is_ratio K s_is_integer { nx := fun _ H' => Q .non H', rt := Q } (L2.start nm_is_ratio vs) H) :
    OkA P w K mg base 2 (He.ga K "is_ratio") ["value"] sp := by
  obtain ⟨fd, F⟩ := fun_is_ratio hd
  refine ok_mk F sc_is_ratio (F.bindsN fun _ _ _ _ _ _ us hl => match us, hl with | [_], _ => rfl) len rd fun cdv A outer s H E hr => ?_
  have nd := (sc_is_ratio).nd
  exact (pss_cons (ps_if (PW.pt (pw_or (pt_not (pt_val (pe_callB call_isi (by rfl) (free_isinstance hd) (by decide +kernel) (pa_cons (pv 0) (pa_cons (pe_bltn (by rfl) (free_tuple hd) (by decide +kernel) rfl) pa_nil))))) (pw_or (pt_cmpR (r := rNe) op_ne (pe_callB call_len (by rfl) (free_len hd) (by decide +kernel) (pa_cons (pv 0) pa_nil)) pe_int (nomark _)) (pw_or (pt_not (pt_val (pe_okf O_is_integer (hr.mono (by decide)) (by rfl) (glo_is_integer hd) (pa_cons (pe_ix (r := (rIxT K)) ix_tup (pv 0) pe_int (fun _ _ => rfl)) pa_nil)))) (pw_or1 (pt_not (pt_val (pe_okf O_is_integer (hr.mono (by decide)) (by rfl) (glo_is_integer hd) (pa_cons (pe_ix (r := (rIxT K)) ix_tup (pv 0) pe_int (fun _ _ => rfl)) pa_nil))))))))) (pss_one (ps_ret pe_bl)) pss_nil)
    (pss_one (ps_ret (pe_and (pe_cmpR (r := (rI0 fun i j => .bl (decide (j ≤ i)))) op_ge (pe_ix (r := (rIxT K)) ix_tup (pv 0) pe_int (fun _ _ => rfl)) pe_int (nomark _)) (pe_and (pe_cmpR (r := (rI0 fun i j => .bl (decide (j ≤ i)))) op_ge (pe_ix (r := (rIxT K)) ix_tup (pv 0) pe_int (fun _ _ => rfl)) pe_int (nomark _)) (pe_one (pe_cmpR (r := rEq) op_eq (pe_callBfun cr_gcd (by rfl) (gcd_is hd) (pa_cons (pe_ix (r := (rIxT K)) ix_tup (pv 0) pe_int (fun _ _ => rfl)) (pa_cons (pe_ix (r := (rIxT K)) ix_tup (pv 0) pe_int (fun _ _ => rfl)) pa_nil))) pe_int (nomark _))))))))
/-! is_shown -/
abbrev nm_is_shown : List Str := ["words", "value", "ratio", "excess", "text", "row", "least"]
theorem sc_is_shown : FnScope nm_is_shown ["words", "value", "ratio", "excess"] (defScope st_is_shown) := ⟨rfl, rfl, rfl, by decide +kernel, rfl, by decide +kernel, by decide +kernel⟩
def t_is_shown (K : PySem.W.Frag) (s_is_long_text : Sp) (s_is_row : Sp) (s_cost_of_row : Sp) (s_match_of : Sp) : TS := (tSeq (tIfS (tOr (tNot (tB (tCB (rIsi K) (tCons (tVar 1) (tCons (tC (.ty "tuple")) tNil))))) (tTest (tOp rNe (tCB (rLen K) (tCons (tVar 1) tNil)) (tC (.int 2))))) (tRet (tC (.bl false))) tNext)
  (tSeq (tAsg (tVar 1) (gTup K 2 (gCons (gName 4) (gCons (gName 5) gNil))))
  (tSeq (tIfS (tOr (tNot (tB (tCall s_is_long_text [] E0 (tCons (tVar 0) (tCons (tVar 4) tNil))))) (tOr (tNot (tB (tCall s_is_row [] E0 (tCons (tVar 0) (tCons (tVar 5) tNil))))) (tTest (tOp rNe (tM1 (rJoin K) (tC (.str "")) (tVar 5)) (tVar 4))))) (tRet (tC (.bl false))) tNext)
  (tSeq (tAsg (tCall s_cost_of_row [] E0 (tCons (tVar 0) (tCons (tVar 5) tNil))) (gName 6))
  (tRet (tOp rEq (tOp (rI0 fun i j => .int (i - j)) (tOp (rI CMul fun i j => .int (i * j)) (tOp (rIxT K) (tVar 2) (tC (.int 1))) (tCall s_cost_of_row [] E0 (tCons (tVar 0) (tCons (tCall s_match_of [] E0 (tCons (tVar 0) (tCons (tVar 4) tNil))) tNil)))) (tOp (rI CMul fun i j => .int (i * j)) (tOp (rIxT K) (tVar 2) (tC (.int 0))) (tVar 6))) (tVar 3)))))))
theorem ok_is_shown {s_is_long_text s_is_row s_cost_of_row s_match_of : Sp} {sp : Sp} (hd : Hd K mg) (O_is_long_text : OkA P w K mg base 2 (He.ga K "is_long_text") ["words", "value"] s_is_long_text) (O_is_row : OkA P w K mg base 3 (He.ga K "is_row") ["words", "value"] s_is_row) (O_cost_of_row : OkA P w K mg base 2 (He.ga K "cost_of_row") ["words", "row"] s_cost_of_row) (O_match_of : OkA P w K mg base 4 (He.ga K "match_of") ["words", "text"] s_match_of) (len : ∀ vs H Q E, sp vs H Q E → vs.length = 4) (rd : ∀ vs H Q E, sp vs H Q E → t_is_shown K s_is_long_text s_is_row s_cost_of_row s_match_of { nx := fun _ H' => Q .non H', rt := Q } (L2.start nm_is_shown vs) H) :
    OkA P w K mg base 5 (He.ga K "is_shown") ["words", "value", "ratio", "excess"] sp := by
  obtain ⟨fd, F⟩ := fun_is_shown hd
  refine ok_mk F sc_is_shown (F.bindsN fun _ _ _ _ _ _ us hl => match us, hl with | [_, _, _, _], _ => rfl) len rd fun cdv A outer s H E hr => ?_
  have nd := (sc_is_shown).nd
  exact (pss_cons (ps_if (PW.pt (pw_or (pt_not (pt_val (pe_callB call_isi (by rfl) (free_isinstance hd) (by decide +kernel) (pa_cons (pv 1) (pa_cons (pe_bltn (by rfl) (free_tuple hd) (by decide +kernel) rfl) pa_nil))))) (pw_or1 (pt_cmpR (r := rNe) op_ne (pe_callB call_len (by rfl) (free_len hd) (by decide +kernel) (pa_cons (pv 1) pa_nil)) pe_int (nomark _))))) (pss_one (ps_ret pe_bl)) pss_nil)
    (pss_cons (ps_asg (pv 1) (pg_tup rfl (pgs_cons (pg_name (i := 4) nd rfl (Or.inl rfl)) (pgs_cons (pg_name (i := 5) nd rfl (Or.inl rfl)) pgs_nil))))
    (pss_cons (ps_if (PW.pt (pw_or (pt_not (pt_val (pe_okf O_is_long_text (hr.mono (by decide)) (by rfl) (glo_is_long_text hd) (pa_cons (pv 0) (pa_cons (pv 4) pa_nil))))) (pw_or (pt_not (pt_val (pe_okf O_is_row (hr.mono (by decide)) (by rfl) (glo_is_row hd) (pa_cons (pv 0) (pa_cons (pv 5) pa_nil))))) (pw_or1 (pt_cmpR (r := rNe) op_ne (pe_join pe_str (pv 5)) (pv 4) (nomark _)))))) (pss_one (ps_ret pe_bl)) pss_nil)
    (pss_cons (ps_set (i := 6) nd rfl (Or.inl rfl) (pe_okf O_cost_of_row (hr.mono (by decide)) (by rfl) (glo_cost_of_row hd) (pa_cons (pv 0) (pa_cons (pv 5) pa_nil))))
    (pss_one (ps_ret (pe_cmpR (r := rEq) op_eq (pe_op (r := (rI0 fun i j => .int (i - j))) op_sub (pe_op (r := (rI CMul fun i j => .int (i * j))) op_mul (pe_ix (r := (rIxT K)) ix_tup (pv 2) pe_int (fun _ _ => rfl)) (pe_okf O_cost_of_row (hr.mono (by decide)) (by rfl) (glo_cost_of_row hd) (pa_cons (pv 0) (pa_cons (pe_okf O_match_of (hr.mono (by decide)) (by rfl) (glo_match_of hd) (pa_cons (pv 0) (pa_cons (pv 4) pa_nil))) pa_nil)))) (pe_op (r := (rI CMul fun i j => .int (i * j))) op_mul (pe_ix (r := (rIxT K)) ix_tup (pv 2) pe_int (fun _ _ => rfl)) (pv 6))) (pv 3) (nomark _))))))))
/-! accepts_answer -/
abbrev nm_accepts_answer : List Str := ["words", "value", "ratio", "excess", "told", "shown", "table", "sums"]
theorem sc_accepts_answer : FnScope nm_accepts_answer ["words", "value"] (defScope st_accepts_answer) := ⟨rfl, rfl, rfl, by decide +kernel, rfl, by decide +kernel, by decide +kernel⟩
def t_accepts_answer (K : PySem.W.Frag) (s_check_words : Sp) (s_is_ratio : Sp) (s_is_integer : Sp) (s_is_shown : Sp) (s_sums_of : Sp) (s_fit : Sp) : TS := (tSeq (tDrop (tCall s_check_words [] E0 (tCons (tVar 0) tNil)))
  (tSeq (tIfS (tOr (tNot (tB (tCB (rIsi K) (tCons (tVar 1) (tCons (tC (.ty "tuple")) tNil))))) (tTest (tOp rNe (tCB (rLen K) (tCons (tVar 1) tNil)) (tC (.int 5))))) (tRet (tC (.bl false))) tNext)
  (tSeq (tAsg (tVar 1) (gTup K 5 (gCons (gName 2) (gCons (gName 3) (gCons (gName 4) (gCons (gName 5) (gCons (gName 6) gNil)))))))
  (tSeq (tIfS (tOr (tNot (tB (tCall s_is_ratio [] E0 (tCons (tVar 2) tNil)))) (tOr (tNot (tB (tCall s_is_integer [] E0 (tCons (tVar 3) tNil)))) (tNot (tB (tCall s_is_shown [] E0 (tCons (tVar 0) (tCons (tVar 5) (tCons (tVar 2) (tCons (tVar 3) tNil))))))))) (tRet (tC (.bl false))) tNext)
  (tSeq (tAsg (tCall s_sums_of [] E0 (tCons (tVar 0) (tCons (tVar 4) tNil))) (gName 7))
  (tSeq (tIfS (tOr (tTest (tOp rIsN (tVar 7) (tC .non))) (tTest (tOp rNe (tOp (rI CMul fun i j => .int (i * j)) (tOp (rIxT K) (tVar 7) (tC (.int 0))) (tOp (rIxT K) (tVar 2) (tC (.int 1)))) (tOp (rI CMul fun i j => .int (i * j)) (tOp (rIxT K) (tVar 7) (tC (.int 1))) (tOp (rIxT K) (tVar 2) (tC (.int 0))))))) (tRet (tC (.bl false))) tNext)
  (tRet (tCall s_fit [] E0 (tCons (tVar 0) (tCons (tOp (rIxT K) (tVar 2) (tC (.int 0))) (tCons (tOp (rIxT K) (tVar 2) (tC (.int 1))) (tCons (tVar 3) (tCons (tVar 6) tNil)))))))))))))
theorem ok_accepts_answer {s_check_words s_is_ratio s_is_integer s_is_shown s_sums_of s_fit : Sp} {sp : Sp} (hd : Hd K mg) (O_check_words : OkA P w K mg base 4 (He.ga K "check_words") ["words"] s_check_words) (O_is_ratio : OkA P w K mg base 2 (He.ga K "is_ratio") ["value"] s_is_ratio) (O_is_integer : OkA P w K mg base 1 (He.ga K "is_integer") ["value"] s_is_integer) (O_is_shown : OkA P w K mg base 5 (He.ga K "is_shown") ["words", "value", "ratio", "excess"] s_is_shown) (O_sums_of : OkA P w K mg base 6 (He.ga K "sums_of") ["words", "value"] s_sums_of) (O_fit : OkA P w K mg base 7 (He.ga K "fit") ["words", "a", "b", "c", "value"] s_fit) (len : ∀ vs H Q E, sp vs H Q E → vs.length = 2) (rd : ∀ vs H Q E, sp vs H Q E → t_accepts_answer K s_check_words s_is_ratio s_is_integer s_is_shown s_sums_of s_fit { nx := fun _ H' => Q .non H', rt := Q } (L2.start nm_accepts_answer vs) H) :
    OkA P w K mg base 8 (He.ga K "accepts_answer") ["words", "value"] sp := by
  obtain ⟨fd, F⟩ := fun_accepts_answer hd
  refine ok_mk F sc_accepts_answer (F.bindsN fun _ _ _ _ _ _ us hl => match us, hl with | [_, _], _ => rfl) len rd fun cdv A outer s H E hr => ?_
  have nd := (sc_accepts_answer).nd
  exact (pss_cons (ps_expr (pe_okf O_check_words (hr.mono (by decide)) (by rfl) (glo_check_words hd) (pa_cons (pv 0) pa_nil)))
    (pss_cons (ps_if (PW.pt (pw_or (pt_not (pt_val (pe_callB call_isi (by rfl) (free_isinstance hd) (by decide +kernel) (pa_cons (pv 1) (pa_cons (pe_bltn (by rfl) (free_tuple hd) (by decide +kernel) rfl) pa_nil))))) (pw_or1 (pt_cmpR (r := rNe) op_ne (pe_callB call_len (by rfl) (free_len hd) (by decide +kernel) (pa_cons (pv 1) pa_nil)) pe_int (nomark _))))) (pss_one (ps_ret pe_bl)) pss_nil)
    (pss_cons (ps_asg (pv 1) (pg_tup rfl (pgs_cons (pg_name (i := 2) nd rfl (Or.inl rfl)) (pgs_cons (pg_name (i := 3) nd rfl (Or.inl rfl)) (pgs_cons (pg_name (i := 4) nd rfl (Or.inl rfl)) (pgs_cons (pg_name (i := 5) nd rfl (Or.inl rfl)) (pgs_cons (pg_name (i := 6) nd rfl (Or.inl rfl)) pgs_nil)))))))
    (pss_cons (ps_if (PW.pt (pw_or (pt_not (pt_val (pe_okf O_is_ratio (hr.mono (by decide)) (by rfl) (glo_is_ratio hd) (pa_cons (pv 2) pa_nil)))) (pw_or (pt_not (pt_val (pe_okf O_is_integer (hr.mono (by decide)) (by rfl) (glo_is_integer hd) (pa_cons (pv 3) pa_nil)))) (pw_or1 (pt_not (pt_val (pe_okf O_is_shown (hr.mono (by decide)) (by rfl) (glo_is_shown hd) (pa_cons (pv 0) (pa_cons (pv 5) (pa_cons (pv 2) (pa_cons (pv 3) pa_nil))))))))))) (pss_one (ps_ret pe_bl)) pss_nil)
    (pss_cons (ps_set (i := 7) nd rfl (Or.inl rfl) (pe_okf O_sums_of (hr.mono (by decide)) (by rfl) (glo_sums_of hd) (pa_cons (pv 0) (pa_cons (pv 4) pa_nil))))
    (pss_cons (ps_if (PW.pt (pw_or (pt_cmpR (r := rIsN) op_isN1 (pv 7) pe_non (nomark _)) (pw_or1 (pt_cmpR (r := rNe) op_ne (pe_op (r := (rI CMul fun i j => .int (i * j))) op_mul (pe_ix (r := (rIxT K)) ix_tup (pv 7) pe_int (fun _ _ => rfl)) (pe_ix (r := (rIxT K)) ix_tup (pv 2) pe_int (fun _ _ => rfl))) (pe_op (r := (rI CMul fun i j => .int (i * j))) op_mul (pe_ix (r := (rIxT K)) ix_tup (pv 7) pe_int (fun _ _ => rfl)) (pe_ix (r := (rIxT K)) ix_tup (pv 2) pe_int (fun _ _ => rfl))) (nomark _))))) (pss_one (ps_ret pe_bl)) pss_nil)
    (pss_one (ps_ret (pe_okf O_fit (hr.mono (by decide)) (by rfl) (glo_fit hd) (pa_cons (pv 0) (pa_cons (pe_ix (r := (rIxT K)) ix_tup (pv 2) pe_int (fun _ _ => rfl)) (pa_cons (pe_ix (r := (rIxT K)) ix_tup (pv 2) pe_int (fun _ _ => rfl)) (pa_cons (pv 3) (pa_cons (pv 6) pa_nil))))))))))))))
end
end GC

-- part DV3
set_option Elab.async false
set_option linter.all false
set_option maxRecDepth 100000
set_option maxHeartbeats 4000000
namespace GC
open PySem PySem.Spec PyProof.Rows L2
section
variable {P : Program} {w : World} {K : PySem.W.Frag} {mg : Str → Option Value} {base : Heap}

/-! _law_stream -/
abbrev nm__law_stream : List Str := ["_law_script"]
theorem sc__law_stream : FnScope nm__law_stream ["_law_script"] (defScope st__law_stream) := ⟨rfl, rfl, rfl, by decide +kernel, rfl, by decide +kernel, by decide +kernel⟩
def t__law_stream (K : PySem.W.Frag)  : TS := (tRet (tLst (tCons (tCB (rListOf K) (tCons (tVar 0) tNil)) (tCons (tC (.int 0)) (tCons (tC (.int 0)) tNil)))))
theorem ok__law_stream {sp : Sp} (hd : Hd K mg)  (len : ∀ vs H Q E, sp vs H Q E → vs.length = 1) (rd : ∀ vs H Q E, sp vs H Q E → t__law_stream K  { nx := fun _ H' => Q .non H', rt := Q } (L2.start nm__law_stream vs) H) :
    OkA P w K mg base 1 (He.ga K "_law_stream") ["_law_script"] sp := by
  obtain ⟨fd, F⟩ := fun__law_stream hd
  refine ok_mk F sc__law_stream (F.bindsN fun _ _ _ _ _ _ us hl => match us, hl with | [_], _ => rfl) len rd fun cdv A outer s H E hr => ?_
  have nd := (sc__law_stream).nd
  exact (pss_one (ps_ret (pe_lst (pa_cons (pe_callTy call_list_of (by rfl) (free_list hd) (by decide +kernel) (pa_cons (pv 0) pa_nil)) (pa_cons pe_int (pa_cons pe_int pa_nil))))))
/-! _law_next -/
abbrev nm__law_next : List Str := ["_law_stream_here", "_law_many", "_law_k", "_law_cell", "_law_digit"]
theorem sc__law_next : FnScope nm__law_next ["_law_stream_here", "_law_many"] (defScope st__law_next) := ⟨rfl, rfl, rfl, by decide +kernel, rfl, by decide +kernel, by decide +kernel⟩
def t__law_next (K : PySem.W.Frag)  : TS := (tSeq (tIfS (tTest (tOp rEq (tOp (rIxL K) (tVar 0) (tC (.int 1))) (tC (.int 0)))) (tSeq (tAsg (tOp (rIxL K) (tVar 0) (tC (.int 2))) (gName 2))
  (tSeq (tAsg (tOp (rI0 fun i j => .int (i + j)) (tC (.int 7)) (tVar 2)) (gName 3))
  (tSeq (tIfS (tTest (tOp (rI0 fun i j => .bl (decide (i < j))) (tVar 2) (tCB (rLen K) (tCons (tOp (rIxL K) (tVar 0) (tC (.int 0))) tNil)))) (tAsg (tCB rAbs (tCons (tOp (rIxL K) (tOp (rIxL K) (tVar 0) (tC (.int 0))) (tVar 2)) tNil)) (gName 3)) tNext)
  (tSeq (tIfS (tTest (tOp (rI0 fun i j => .bl (decide (i < j))) (tVar 3) (tOp (rI CPow fun i j => .int (i ^ j.toNat)) (tC (.int 10)) (tC (.int 18))))) (tSeq (tAsg (tOp (rI (fun _ j => 0 < j) fun i j => .int (i % j)) (tCB rInt1 (tCons (tOp (rI0 fun i j => .int (i + j)) (tOp (rI0 fun i j => .int (i + j)) (tOp (rI CMul fun i j => .int (i * j)) (tVar 3) (tC (.int 48271))) (tOp (rI CMul fun i j => .int (i * j)) (tVar 2) (tC (.int 69621)))) (tC (.int 11))) tNil)) (tC (.int 2147483647))) (gName 3))
  (tAsg (tOp (rI0 fun i j => .int (i + j)) (tOp (rI CMul fun i j => .int (i * j)) (tOp (rI (fun _ j => 0 < j) fun i j => .int (i % j)) (tCB rInt1 (tCons (tOp (rI0 fun i j => .int (i + j)) (tOp (rI CMul fun i j => .int (i * j)) (tVar 3) (tC (.int 16807))) (tC (.int 13))) tNil)) (tC (.int 2147483647))) (tC (.int 65537))) (tVar 3)) (gName 3))) tNext)
  (tSeq (tAsg (tVar 3) (gSub (tVar 0) (tC (.int 1)) rSetL))
  (tAsg (tOp (rI0 fun i j => .int (i + j)) (tVar 2) (tC (.int 1))) (gSub (tVar 0) (tC (.int 2)) rSetL))))))) tNext)
  (tSeq (tAsg (tOp (rI (fun _ j => 0 < j) fun i j => .int (i % j)) (tCB rInt1 (tCons (tOp (rIxL K) (tVar 0) (tC (.int 1))) tNil)) (tVar 1)) (gName 4))
  (tSeq (tAsg (tOp (rI CDiv fun i j => .int (i / j)) (tOp (rIxL K) (tVar 0) (tC (.int 1))) (tVar 1)) (gSub (tVar 0) (tC (.int 1)) rSetL))
  (tRet (tVar 4)))))
theorem ok__law_next {sp : Sp} (hd : Hd K mg)  (len : ∀ vs H Q E, sp vs H Q E → vs.length = 2) (rd : ∀ vs H Q E, sp vs H Q E → t__law_next K  { nx := fun _ H' => Q .non H', rt := Q } (L2.start nm__law_next vs) H) :
    OkA P w K mg base 1 (He.ga K "_law_next") ["_law_stream_here", "_law_many"] sp := by
  obtain ⟨fd, F⟩ := fun__law_next hd
  refine ok_mk F sc__law_next (F.bindsN fun _ _ _ _ _ _ us hl => match us, hl with | [_, _], _ => rfl) len rd fun cdv A outer s H E hr => ?_
  have nd := (sc__law_next).nd
  exact (pss_cons (ps_if (pt_cmpR (r := rEq) op_eq (pe_ix (r := (rIxL K)) ix_list (pv 0) pe_int (fun _ _ => rfl)) pe_int (nomark _)) (pss_cons (ps_set (i := 2) nd rfl (Or.inl rfl) (pe_ix (r := (rIxL K)) ix_list (pv 0) pe_int (fun _ _ => rfl)))
    (pss_cons (ps_set (i := 3) nd rfl (Or.inl rfl) (pe_op (r := (rI0 fun i j => .int (i + j))) op_add pe_int (pv 2)))
    (pss_cons (ps_if (pt_cmpR (r := (rI0 fun i j => .bl (decide (i < j)))) op_lt (pv 2) (pe_callB call_len (by rfl) (free_len hd) (by decide +kernel) (pa_cons (pe_ix (r := (rIxL K)) ix_list (pv 0) pe_int (fun _ _ => rfl)) pa_nil)) (nomark _)) (pss_one (ps_set (i := 3) nd rfl (Or.inl rfl) (pe_callB call_abs (by rfl) (free_abs hd) (by decide +kernel) (pa_cons (pe_ix (r := (rIxL K)) ix_list (pe_ix (r := (rIxL K)) ix_list (pv 0) pe_int (fun _ _ => rfl)) (pv 2) (fun _ _ => rfl)) pa_nil)))) pss_nil)
    (pss_cons (ps_if (pt_cmpR (r := (rI0 fun i j => .bl (decide (i < j)))) op_lt (pv 3) (pe_op (r := (rI CPow fun i j => .int (i ^ j.toNat))) op_pow pe_int pe_int) (nomark _)) (pss_cons (ps_set (i := 3) nd rfl (Or.inl rfl) (pe_op (r := (rI (fun _ j => 0 < j) fun i j => .int (i % j))) op_mod (pe_callTy call_int1 (by rfl) (free_int hd) (by decide +kernel) (pa_cons (pe_op (r := (rI0 fun i j => .int (i + j))) op_add (pe_op (r := (rI0 fun i j => .int (i + j))) op_add (pe_op (r := (rI CMul fun i j => .int (i * j))) op_mul (pv 3) pe_int) (pe_op (r := (rI CMul fun i j => .int (i * j))) op_mul (pv 2) pe_int)) pe_int) pa_nil)) pe_int))
    (pss_one (ps_set (i := 3) nd rfl (Or.inl rfl) (pe_op (r := (rI0 fun i j => .int (i + j))) op_add (pe_op (r := (rI CMul fun i j => .int (i * j))) op_mul (pe_op (r := (rI (fun _ j => 0 < j) fun i j => .int (i % j))) op_mod (pe_callTy call_int1 (by rfl) (free_int hd) (by decide +kernel) (pa_cons (pe_op (r := (rI0 fun i j => .int (i + j))) op_add (pe_op (r := (rI CMul fun i j => .int (i * j))) op_mul (pv 3) pe_int) pe_int) pa_nil)) pe_int) pe_int) (pv 3))))) pss_nil)
    (pss_cons (ps_asg (pv 3) (pg_sub (pv 0) pe_int set_list))
    (pss_one (ps_asg (pe_op (r := (rI0 fun i j => .int (i + j))) op_add (pv 2) pe_int) (pg_sub (pv 0) pe_int set_list)))))))) pss_nil)
    (pss_cons (ps_set (i := 4) nd rfl (Or.inl rfl) (pe_op (r := (rI (fun _ j => 0 < j) fun i j => .int (i % j))) op_mod (pe_callTy call_int1 (by rfl) (free_int hd) (by decide +kernel) (pa_cons (pe_ix (r := (rIxL K)) ix_list (pv 0) pe_int (fun _ _ => rfl)) pa_nil)) (pv 1)))
    (pss_cons (ps_asg (pe_op (r := (rI CDiv fun i j => .int (i / j))) op_fdiv (pe_ix (r := (rIxL K)) ix_list (pv 0) pe_int (fun _ _ => rfl)) (pv 1)) (pg_sub (pv 0) pe_int set_list))
    (pss_one (ps_ret (pv 4))))))
/-! _law_is_integer -/
abbrev nm__law_is_integer : List Str := ["_law_actual"]
theorem sc__law_is_integer : FnScope nm__law_is_integer ["_law_actual"] (defScope st__law_is_integer) := ⟨rfl, rfl, rfl, by decide +kernel, rfl, by decide +kernel, by decide +kernel⟩
def t__law_is_integer (K : PySem.W.Frag)  : TS := (tRet (tAndV (tCB (rIsi K) (tCons (tVar 0) (tCons (tC (.ty "int")) tNil))) (tNotV (tCB (rIsi K) (tCons (tVar 0) (tCons (tC (.ty "bool")) tNil))))))
theorem ok__law_is_integer {sp : Sp} (hd : Hd K mg)  (len : ∀ vs H Q E, sp vs H Q E → vs.length = 1) (rd : ∀ vs H Q E, sp vs H Q E → t__law_is_integer K  { nx := fun _ H' => Q .non H', rt := Q } (L2.start nm__law_is_integer vs) H) :
    OkA P w K mg base 1 (He.ga K "_law_is_integer") ["_law_actual"] sp := by
  obtain ⟨fd, F⟩ := fun__law_is_integer hd
  refine ok_mk F sc__law_is_integer (F.bindsN fun _ _ _ _ _ _ us hl => match us, hl with | [_], _ => rfl) len rd fun cdv A outer s H E hr => ?_
  have nd := (sc__law_is_integer).nd
  exact (pss_one (ps_ret (pe_and (pe_callB call_isi (by rfl) (free_isinstance hd) (by decide +kernel) (pa_cons (pv 0) (pa_cons (pe_bltn (by rfl) (free_int hd) (by decide +kernel) rfl) pa_nil))) (pe_one (pe_not (pe_callB call_isi (by rfl) (free_isinstance hd) (by decide +kernel) (pa_cons (pv 0) (pa_cons (pe_bltn (by rfl) (free_bool hd) (by decide +kernel) rfl) pa_nil))))))))
/-! _law_equal -/
abbrev nm__law_equal : List Str := ["_law_actual", "_law_due", "_law_at"]
theorem sc__law_equal : FnScope nm__law_equal ["_law_actual", "_law_due"] (defScope st__law_equal) := ⟨rfl, rfl, rfl, by decide +kernel, rfl, by decide +kernel, by decide +kernel⟩
def t__law_equal (K : PySem.W.Frag) (s__law_is_integer : Sp) (s__law_equal : Sp) : TS := (tSeq (tIfS (tTest (tOp rIsN (tVar 1) (tC .non))) (tRet (tOp rIsN (tVar 0) (tC .non))) tNext)
  (tSeq (tIfS (tB (tCB (rIsi K) (tCons (tVar 1) (tCons (tC (.ty "bool")) tNil)))) (tRet (tAndV (tCB (rIsi K) (tCons (tVar 0) (tCons (tC (.ty "bool")) tNil))) (tOp rEq (tVar 0) (tVar 1)))) tNext)
  (tSeq (tIfS (tB (tCB (rIsi K) (tCons (tVar 1) (tCons (tC (.ty "int")) tNil)))) (tRet (tAndV (tCall s__law_is_integer [] E0 (tCons (tVar 0) tNil)) (tOp rEq (tVar 0) (tVar 1)))) tNext)
  (tSeq (tIfS (tB (tCB (rIsi K) (tCons (tVar 1) (tCons (tC (.ty "str")) tNil)))) (tRet (tAndV (tCB (rIsi K) (tCons (tVar 0) (tCons (tC (.ty "str")) tNil))) (tOp rEq (tVar 0) (tVar 1)))) tNext)
  (tSeq (tIfS (tAnd (tB (tCB (rIsi K) (tCons (tVar 1) (tCons (tC (.ty "tuple")) tNil)))) (tNot (tB (tCB (rIsi K) (tCons (tVar 0) (tCons (tC (.ty "tuple")) tNil)))))) (tRet (tC (.bl false))) tNext)
  (tSeq (tIfS (tAnd (tB (tCB (rIsi K) (tCons (tVar 1) (tCons (tC (.ty "list")) tNil)))) (tNot (tB (tCB (rIsi K) (tCons (tVar 0) (tCons (tC (.ty "list")) tNil)))))) (tRet (tC (.bl false))) tNext)
  (tSeq (tIfS (tTest (tOp rNe (tCB (rLen K) (tCons (tVar 0) tNil)) (tCB (rLen K) (tCons (tVar 1) tNil)))) (tRet (tC (.bl false))) tNext)
  (tRet (tCB (rAll K) (tCons (tLc (iRng1 (tCons (tCB (rLen K) (tCons (tVar 1) tNil)) tNil)) (gName 2) tYes (tCall s__law_equal [] E0 (tCons (tOp (rIxL K) (tVar 0) (tVar 2)) (tCons (tOp (rIxL K) (tVar 1) (tVar 2)) tNil))) [2]) tNil))))))))))
theorem ok__law_equal {s__law_is_integer s__law_equal : Sp} {sp : Sp} (hd : Hd K mg) (O__law_is_integer : OkA P w K mg base 1 (He.ga K "_law_is_integer") ["_law_actual"] s__law_is_integer) (O__law_equal : OkA P w K mg base 1 (He.ga K "_law_equal") ["_law_actual", "_law_due"] s__law_equal) (len : ∀ vs H Q E, sp vs H Q E → vs.length = 2) (rd : ∀ vs H Q E, sp vs H Q E → t__law_equal K s__law_is_integer s__law_equal { nx := fun _ H' => Q .non H', rt := Q } (L2.start nm__law_equal vs) H) :
    OkA P w K mg base 2 (He.ga K "_law_equal") ["_law_actual", "_law_due"] sp := by
  obtain ⟨fd, F⟩ := fun__law_equal hd
  refine ok_mk F sc__law_equal (F.bindsN fun _ _ _ _ _ _ us hl => match us, hl with | [_, _], _ => rfl) len rd fun cdv A outer s H E hr => ?_
  have nd := (sc__law_equal).nd
  exact (pss_cons (ps_if (pt_cmpR (r := rIsN) op_isN1 (pv 1) pe_non (nomark _)) (pss_one (ps_ret (pe_cmpR (r := rIsN) op_isN1 (pv 0) pe_non (nomark _)))) pss_nil)
    (pss_cons (ps_if (pt_val (pe_callB call_isi (by rfl) (free_isinstance hd) (by decide +kernel) (pa_cons (pv 1) (pa_cons (pe_bltn (by rfl) (free_bool hd) (by decide +kernel) rfl) pa_nil)))) (pss_one (ps_ret (pe_and (pe_callB call_isi (by rfl) (free_isinstance hd) (by decide +kernel) (pa_cons (pv 0) (pa_cons (pe_bltn (by rfl) (free_bool hd) (by decide +kernel) rfl) pa_nil))) (pe_one (pe_cmpR (r := rEq) op_eq (pv 0) (pv 1) (nomark _)))))) pss_nil)
    (pss_cons (ps_if (pt_val (pe_callB call_isi (by rfl) (free_isinstance hd) (by decide +kernel) (pa_cons (pv 1) (pa_cons (pe_bltn (by rfl) (free_int hd) (by decide +kernel) rfl) pa_nil)))) (pss_one (ps_ret (pe_and (pe_okf O__law_is_integer (hr.mono (by decide)) (by rfl) (glo__law_is_integer hd) (pa_cons (pv 0) pa_nil)) (pe_one (pe_cmpR (r := rEq) op_eq (pv 0) (pv 1) (nomark _)))))) pss_nil)
    (pss_cons (ps_if (pt_val (pe_callB call_isi (by rfl) (free_isinstance hd) (by decide +kernel) (pa_cons (pv 1) (pa_cons (pe_bltn (by rfl) (free_str hd) (by decide +kernel) rfl) pa_nil)))) (pss_one (ps_ret (pe_and (pe_callB call_isi (by rfl) (free_isinstance hd) (by decide +kernel) (pa_cons (pv 0) (pa_cons (pe_bltn (by rfl) (free_str hd) (by decide +kernel) rfl) pa_nil))) (pe_one (pe_cmpR (r := rEq) op_eq (pv 0) (pv 1) (nomark _)))))) pss_nil)
    (pss_cons (ps_if (PW.pt (pw_and (pt_val (pe_callB call_isi (by rfl) (free_isinstance hd) (by decide +kernel) (pa_cons (pv 1) (pa_cons (pe_bltn (by rfl) (free_tuple hd) (by decide +kernel) rfl) pa_nil)))) (pw_and1 (pt_not (pt_val (pe_callB call_isi (by rfl) (free_isinstance hd) (by decide +kernel) (pa_cons (pv 0) (pa_cons (pe_bltn (by rfl) (free_tuple hd) (by decide +kernel) rfl) pa_nil)))))))) (pss_one (ps_ret pe_bl)) pss_nil)
    (pss_cons (ps_if (PW.pt (pw_and (pt_val (pe_callB call_isi (by rfl) (free_isinstance hd) (by decide +kernel) (pa_cons (pv 1) (pa_cons (pe_bltn (by rfl) (free_list hd) (by decide +kernel) rfl) pa_nil)))) (pw_and1 (pt_not (pt_val (pe_callB call_isi (by rfl) (free_isinstance hd) (by decide +kernel) (pa_cons (pv 0) (pa_cons (pe_bltn (by rfl) (free_list hd) (by decide +kernel) rfl) pa_nil)))))))) (pss_one (ps_ret pe_bl)) pss_nil)
    (pss_cons (ps_if (pt_cmpR (r := rNe) op_ne (pe_callB call_len (by rfl) (free_len hd) (by decide +kernel) (pa_cons (pv 0) pa_nil)) (pe_callB call_len (by rfl) (free_len hd) (by decide +kernel) (pa_cons (pv 1) pa_nil)) (nomark _)) (pss_one (ps_ret pe_bl)) pss_nil)
    (pss_one (ps_ret (pe_callB (cr_all rfl) (by rfl) (free_all hd) (by decide +kernel) (pa_cons (pe_lc (own := [("_law_at", 2)]) (g := (gName 2)) (tt := tYes) rfl nd (pi_range1 rfl (free_range hd) (pa_cons (pe_callB call_len (by rfl) (free_len hd) (by decide +kernel) (pa_cons (pv 1) pa_nil)) pa_nil)) (blkOk_by (own := [("_law_at", 2)]) (N := nm__law_equal) (sc := defScope st__law_equal) (by decide +kernel)) (fun _ _ _ _ _ => (pg_name (i := 2) nd rfl (Or.inl rfl))) (fun _ _ _ _ _ => pts_nil) (fun _ _ _ _ _ => (pe_okf O__law_equal (hr.mono (by decide)) (by rfl) (glo__law_equal hd) (pa_cons (pe_ix (r := (rIxL K)) ix_list (pv 0) (pv 2) (fun _ _ => rfl)) (pa_cons (pe_ix (r := (rIxL K)) ix_list (pv 1) (pv 2) (fun _ _ => rfl)) pa_nil))))) pa_nil)))))))))))
/-! _law_cost -/
abbrev nm__law_cost : List Str := ["_law_stream_here"]
theorem sc__law_cost : FnScope nm__law_cost ["_law_stream_here"] (defScope st__law_cost) := ⟨rfl, rfl, rfl, by decide +kernel, rfl, by decide +kernel, by decide +kernel⟩
def t__law_cost (K : PySem.W.Frag) (s__law_next : Sp) : TS := (tRet (tOp (rIxL K) (tLst (tCons (tC (.int 1)) (tCons (tC (.int 1)) (tCons (tOp (rI0 fun i j => .int (i + j)) (tC (.int 1)) (tCall s__law_next [] E0 (tCons (tVar 0) (tCons (tC (.int 3)) tNil)))) (tCons (tOp (rI0 fun i j => .int (i + j)) (tC (.int 1)) (tCall s__law_next [] E0 (tCons (tVar 0) (tCons (tC (.int 9)) tNil)))) tNil))))) (tCall s__law_next [] E0 (tCons (tVar 0) (tCons (tC (.int 4)) tNil)))))
theorem ok__law_cost {s__law_next : Sp} {sp : Sp} (hd : Hd K mg) (O__law_next : OkA P w K mg base 1 (He.ga K "_law_next") ["_law_stream_here", "_law_many"] s__law_next) (len : ∀ vs H Q E, sp vs H Q E → vs.length = 1) (rd : ∀ vs H Q E, sp vs H Q E → t__law_cost K s__law_next { nx := fun _ H' => Q .non H', rt := Q } (L2.start nm__law_cost vs) H) :
    OkA P w K mg base 2 (He.ga K "_law_cost") ["_law_stream_here"] sp := by
  obtain ⟨fd, F⟩ := fun__law_cost hd
  refine ok_mk F sc__law_cost (F.bindsN fun _ _ _ _ _ _ us hl => match us, hl with | [_], _ => rfl) len rd fun cdv A outer s H E hr => ?_
  have nd := (sc__law_cost).nd
  exact (pss_one (ps_ret (pe_ix (r := (rIxL K)) ix_list (pe_lst (pa_cons pe_int (pa_cons pe_int (pa_cons (pe_op (r := (rI0 fun i j => .int (i + j))) op_add pe_int (pe_okf O__law_next (hr.mono (by decide)) (by rfl) (glo__law_next hd) (pa_cons (pv 0) (pa_cons pe_int pa_nil)))) (pa_cons (pe_op (r := (rI0 fun i j => .int (i + j))) op_add pe_int (pe_okf O__law_next (hr.mono (by decide)) (by rfl) (glo__law_next hd) (pa_cons (pv 0) (pa_cons pe_int pa_nil)))) pa_nil))))) (pe_okf O__law_next (hr.mono (by decide)) (by rfl) (glo__law_next hd) (pa_cons (pv 0) (pa_cons pe_int pa_nil))) (fun _ _ => rfl))))
/-! _law_letters -/
abbrev nm__law_letters : List Str := ["_law_words_here", "_law_word", "_law_cost_here"]
theorem sc__law_letters : FnScope nm__law_letters ["_law_words_here"] (defScope st__law_letters) := ⟨rfl, rfl, rfl, by decide +kernel, rfl, by decide +kernel, by decide +kernel⟩
def t__law_letters (K : PySem.W.Frag)  : TS := (tRet (tLc (iTup K (tVar 0)) (gTup K 2 (gCons (gName 1) (gCons (gName 2) gNil))) (tTest (tOp rEq (tCB (rLen K) (tCons (tVar 1) tNil)) (tC (.int 1)))) (tVar 1) [1, 2]))
theorem ok__law_letters {sp : Sp} (hd : Hd K mg)  (len : ∀ vs H Q E, sp vs H Q E → vs.length = 1) (rd : ∀ vs H Q E, sp vs H Q E → t__law_letters K  { nx := fun _ H' => Q .non H', rt := Q } (L2.start nm__law_letters vs) H) :
    OkA P w K mg base 1 (He.ga K "_law_letters") ["_law_words_here"] sp := by
  obtain ⟨fd, F⟩ := fun__law_letters hd
  refine ok_mk F sc__law_letters (F.bindsN fun _ _ _ _ _ _ us hl => match us, hl with | [_], _ => rfl) len rd fun cdv A outer s H E hr => ?_
  have nd := (sc__law_letters).nd
  exact (pss_one (ps_ret (pe_lc (own := [("_law_word", 1), ("_law_cost_here", 2)]) (g := (gTup K 2 (gCons (gName 1) (gCons (gName 2) gNil)))) (tt := (tTest (tOp rEq (tCB (rLen K) (tCons (tVar 1) tNil)) (tC (.int 1))))) rfl nd (pi_tup (pv 0)) (blkOk_by (own := [("_law_word", 1), ("_law_cost_here", 2)]) (N := nm__law_letters) (sc := defScope st__law_letters) (by decide +kernel)) (fun _ _ _ _ _ => (pg_tup rfl (pgs_cons (pg_name (i := 1) nd rfl (Or.inl rfl)) (pgs_cons (pg_name (i := 2) nd rfl (Or.inl rfl)) pgs_nil)))) (fun _ _ _ _ _ => (pts_one (pt_cmpR (r := rEq) op_eq (pe_callB call_len (by rfl) (free_len hd) (by decide +kernel) (pa_cons (pv 1) pa_nil)) pe_int (nomark _)))) (fun _ _ _ _ _ => (pv 1)))))
/-! _law_match -/
abbrev nm__law_match : List Str := ["_law_words_here", "_law_text_here", "_law_found", "_law_at", "_law_turn", "_law_best", "_law_word", "_law_cost_here"]
theorem sc__law_match : FnScope nm__law_match ["_law_words_here", "_law_text_here"] (defScope st__law_match) := ⟨rfl, rfl, rfl, by decide +kernel, rfl, by decide +kernel, by decide +kernel⟩
def t__law_match (K : PySem.W.Frag)  : TS := (tSeq (tAsg (tLst tNil) (gName 2))
  (tSeq (tAsg (tC (.int 0)) (gName 3))
  (tSeq (tFor (iRng1 (tCons (tCB (rLen K) (tCons (tVar 1) tNil)) tNil)) (gName 4)
    (tIfS (tTest (tOp (rI0 fun i j => .bl (decide (i < j))) (tVar 3) (tCB (rLen K) (tCons (tVar 1) tNil)))) (tSeq (tAsg (tC (.str "")) (gName 5))
  (tSeq (tFor (iTup K (tVar 0)) (gTup K 2 (gCons (gName 6) (gCons (gName 7) gNil)))
    (tIfS (tAnd (tTest (tOp (rI0 fun i j => .bl (decide (j < i))) (tCB (rLen K) (tCons (tVar 6) tNil)) (tCB (rLen K) (tCons (tVar 5) tNil)))) (tTest (tOp rEq (tSl rSlS (tVar 1) (tPart (tVar 3)) (tPart (tOp (rI0 fun i j => .int (i + j)) (tVar 3) (tCB (rLen K) (tCons (tVar 6) tNil))))) (tVar 6)))) (tAsg (tVar 6) (gName 5)) tNext))
  (tSeq (tDrop (tBM K "list" rAppend (tVar 2) (tCons (tVar 5) tNil)))
  (tAsg (tOp (rI0 fun i j => .int (i + j)) (tVar 3) (tCB (rLen K) (tCons (tVar 5) tNil))) (gName 3))))) tNext))
  (tRet (tCB (rTupleOf K) (tCons (tVar 2) tNil))))))
theorem ok__law_match {sp : Sp} (hd : Hd K mg)  (len : ∀ vs H Q E, sp vs H Q E → vs.length = 2) (rd : ∀ vs H Q E, sp vs H Q E → t__law_match K  { nx := fun _ H' => Q .non H', rt := Q } (L2.start nm__law_match vs) H) :
    OkA P w K mg base 1 (He.ga K "_law_match") ["_law_words_here", "_law_text_here"] sp := by
  obtain ⟨fd, F⟩ := fun__law_match hd
  refine ok_mk F sc__law_match (F.bindsN fun _ _ _ _ _ _ us hl => match us, hl with | [_, _], _ => rfl) len rd fun cdv A outer s H E hr => ?_
  have nd := (sc__law_match).nd
  exact (pss_cons (ps_set (i := 2) nd rfl (Or.inl rfl) (pe_lst pa_nil))
    (pss_cons (ps_set (i := 3) nd rfl (Or.inl rfl) pe_int)
    (pss_cons (ps_for PassesOwn.never rfl (pi_range1 rfl (free_range hd) (pa_cons (pe_callB call_len (by rfl) (free_len hd) (by decide +kernel) (pa_cons (pv 1) pa_nil)) pa_nil)) (pg_name (i := 4) nd rfl (Or.inl rfl))
      (pss_one (ps_if (pt_cmpR (r := (rI0 fun i j => .bl (decide (i < j)))) op_lt (pv 3) (pe_callB call_len (by rfl) (free_len hd) (by decide +kernel) (pa_cons (pv 1) pa_nil)) (nomark _)) (pss_cons (ps_set (i := 5) nd rfl (Or.inl rfl) pe_str)
    (pss_cons (ps_for PassesOwn.never rfl (pi_tup (pv 0)) (pg_tup rfl (pgs_cons (pg_name (i := 6) nd rfl (Or.inl rfl)) (pgs_cons (pg_name (i := 7) nd rfl (Or.inl rfl)) pgs_nil)))
      (pss_one (ps_if (PW.pt (pw_and (pt_cmpR (r := (rI0 fun i j => .bl (decide (j < i)))) op_gt (pe_callB call_len (by rfl) (free_len hd) (by decide +kernel) (pa_cons (pv 6) pa_nil)) (pe_callB call_len (by rfl) (free_len hd) (by decide +kernel) (pa_cons (pv 5) pa_nil)) (nomark _)) (pw_and1 (pt_cmpR (r := rEq) op_eq (pe_slice (r := rSlS) sl_str (pv 1) (po_some (pv 3)) (po_some (pe_op (r := (rI0 fun i j => .int (i + j))) op_add (pv 3) (pe_callB call_len (by rfl) (free_len hd) (by decide +kernel) (pa_cons (pv 6) pa_nil))))) (pv 6) (nomark _))))) (pss_one (ps_set (i := 5) nd rfl (Or.inl rfl) (pv 6))) pss_nil)))
    (pss_cons (ps_expr (pe_bm PySem.F.plainAttrs_list PySem.F.slot_list_append PySem.F.type_list_append mt_append (pv 2) (pa_cons (pv 5) pa_nil)))
    (pss_one (ps_set (i := 3) nd rfl (Or.inl rfl) (pe_op (r := (rI0 fun i j => .int (i + j))) op_add (pv 3) (pe_callB call_len (by rfl) (free_len hd) (by decide +kernel) (pa_cons (pv 5) pa_nil)))))))) pss_nil)))
    (pss_one (ps_ret (pe_callTy call_tuple_of (by rfl) (free_tuple hd) (by decide +kernel) (pa_cons (pv 2) pa_nil)))))))
/-! _law_sum -/
abbrev nm__law_sum : List Str := ["_law_words_here", "_law_row", "_law_costs", "_law_word", "_law_cost_here"]
theorem sc__law_sum : FnScope nm__law_sum ["_law_words_here", "_law_row"] (defScope st__law_sum) := ⟨rfl, rfl, rfl, by decide +kernel, rfl, by decide +kernel, by decide +kernel⟩
def t__law_sum (K : PySem.W.Frag)  : TS := (tSeq (tAsg tDNewK (gName 2))
  (tSeq (tFor (iTup K (tVar 0)) (gTup K 2 (gCons (gName 3) (gCons (gName 4) gNil)))
    (sDPut (tVar 2) (tVar 3) (tVar 4)))
  (tRet (tCB (rSum K) (tCons (tLc (iTup K (tVar 1)) (gName 3) tYes (tDGet (tVar 2) (tVar 3)) [3]) tNil)))))
theorem ok__law_sum {sp : Sp} (hd : Hd K mg)  (len : ∀ vs H Q E, sp vs H Q E → vs.length = 2) (rd : ∀ vs H Q E, sp vs H Q E → t__law_sum K  { nx := fun _ H' => Q .non H', rt := Q } (L2.start nm__law_sum vs) H) :
    OkA P w K mg base 1 (He.ga K "_law_sum") ["_law_words_here", "_law_row"] sp := by
  obtain ⟨fd, F⟩ := fun__law_sum hd
  refine ok_mk F sc__law_sum (F.bindsN fun _ _ _ _ _ _ us hl => match us, hl with | [_, _], _ => rfl) len rd fun cdv A outer s H E hr => ?_
  have nd := (sc__law_sum).nd
  have hu := hu_of hr
  exact (pss_cons (ps_set (i := 2) nd rfl (Or.inr rfl) pe_dnewK)
    (pss_cons (ps_for PassesOwn.never rfl (pi_tup (pv 0)) (pg_tup rfl (pgs_cons (pg_name (i := 3) nd rfl (Or.inl rfl)) (pgs_cons (pg_name (i := 4) nd rfl (Or.inl rfl)) pgs_nil)))
      (pss_one (ps_dput hu (pv 2) (pv 3) (pv 4) (by rfl))))
    (pss_one (ps_ret (pe_callB (cr_sum rfl) (by rfl) (free_sum hd) (by decide +kernel) (pa_cons (pe_lc (own := [("_law_word", 3)]) (g := (gName 3)) (tt := tYes) rfl nd (pi_tup (pv 1)) (blkOk_by (own := [("_law_word", 3)]) (N := nm__law_sum) (sc := defScope st__law_sum) (by decide +kernel)) (fun _ _ _ _ _ => (pg_name (i := 3) nd rfl (Or.inl rfl))) (fun _ _ _ _ _ => pts_nil) (fun _ _ _ _ _ => (pe_dget hu (pv 2) (pv 3) (fun _ _ => rfl)))) pa_nil))))))
/-! _law_all_texts -/
abbrev nm__law_all_texts : List Str := ["_law_words_here", "_law_most", "_law_rows", "_law_found", "_law_k", "_law_longer", "_law_row", "_law_letter"]
theorem sc__law_all_texts : FnScope nm__law_all_texts ["_law_words_here", "_law_most"] (defScope st__law_all_texts) := ⟨rfl, rfl, rfl, by decide +kernel, rfl, by decide +kernel, by decide +kernel⟩
def t__law_all_texts (K : PySem.W.Frag) (s__law_letters : Sp) : TS := (tSeq (tAsg (tLst (tCons (tC (.str "")) tNil)) (gName 2))
  (tSeq (tAsg (tLst (tCons (tC (.str "")) tNil)) (gName 3))
  (tSeq (tFor (iRng1 (tCons (tVar 1) tNil)) (gName 4)
    (tSeq (tAsg (tLst tNil) (gName 5))
  (tSeq (tFor (iList K (tVar 2)) (gName 6)
    (tAsg (tOp rCat (tVar 5) (tLc (iList K (tCall s__law_letters [] E0 (tCons (tVar 0) tNil))) (gName 7) tYes (tOp rCatS (tVar 6) (tVar 7)) [7])) (gName 5)))
  (tSeq (tAsg (tVar 5) (gName 2))
  (tAsg (tOp rCat (tVar 3) (tVar 2)) (gName 3))))))
  (tRet (tVar 3)))))
theorem ok__law_all_texts {s__law_letters : Sp} {sp : Sp} (hd : Hd K mg) (O__law_letters : OkA P w K mg base 1 (He.ga K "_law_letters") ["_law_words_here"] s__law_letters) (len : ∀ vs H Q E, sp vs H Q E → vs.length = 2) (rd : ∀ vs H Q E, sp vs H Q E → t__law_all_texts K s__law_letters { nx := fun _ H' => Q .non H', rt := Q } (L2.start nm__law_all_texts vs) H) :
    OkA P w K mg base 2 (He.ga K "_law_all_texts") ["_law_words_here", "_law_most"] sp := by
  obtain ⟨fd, F⟩ := fun__law_all_texts hd
  refine ok_mk F sc__law_all_texts (F.bindsN fun _ _ _ _ _ _ us hl => match us, hl with | [_, _], _ => rfl) len rd fun cdv A outer s H E hr => ?_
  have nd := (sc__law_all_texts).nd
  exact (pss_cons (ps_set (i := 2) nd rfl (Or.inl rfl) (pe_lst (pa_cons pe_str pa_nil)))
    (pss_cons (ps_set (i := 3) nd rfl (Or.inl rfl) (pe_lst (pa_cons pe_str pa_nil)))
    (pss_cons (ps_for PassesOwn.never rfl (pi_range1 rfl (free_range hd) (pa_cons (pv 1) pa_nil)) (pg_name (i := 4) nd rfl (Or.inl rfl))
      (pss_cons (ps_set (i := 5) nd rfl (Or.inl rfl) (pe_lst pa_nil))
    (pss_cons (ps_for PassesOwn.never rfl (pi_list (pv 2)) (pg_name (i := 6) nd rfl (Or.inr rfl))
      (pss_one (ps_set (i := 5) nd rfl (Or.inl rfl) (pe_op (r := rCat) op_cat (pv 5) (pe_lc (own := [("_law_letter", 7)]) (g := (gName 7)) (tt := tYes) rfl nd (pi_list (pe_okf O__law_letters (hr.mono (by decide)) (by rfl) (glo__law_letters hd) (pa_cons (pv 0) pa_nil))) (blkOk_by (own := [("_law_letter", 7)]) (N := nm__law_all_texts) (sc := defScope st__law_all_texts) (by decide +kernel)) (fun _ _ _ _ _ => (pg_name (i := 7) nd rfl (Or.inl rfl))) (fun _ _ _ _ _ => pts_nil) (fun _ _ _ _ _ => (pe_op (r := rCatS) op_add_str (pv 6) (pv 7))))))))
    (pss_cons (ps_set (i := 2) nd rfl (Or.inl rfl) (pv 5))
    (pss_one (ps_set (i := 3) nd rfl (Or.inl rfl) (pe_op (r := rCat) op_cat (pv 3) (pv 2))))))))
    (pss_one (ps_ret (pv 3))))))
/-! _law_least -/
abbrev nm__law_least : List Str := ["_law_words_here", "_law_text_here", "_law_best", "_law_end", "_law_costs", "_law_word", "_law_cost_here"]
theorem sc__law_least : FnScope nm__law_least ["_law_words_here", "_law_text_here"] (defScope st__law_least) := ⟨rfl, rfl, rfl, by decide +kernel, rfl, by decide +kernel, by decide +kernel⟩
def t__law_least (K : PySem.W.Frag)  : TS := (tSeq (tAsg (tLst (tCons (tC (.int 0)) tNil)) (gName 2))
  (tSeq (tFor (iRng2 (tCons (tC (.int 1)) (tCons (tOp (rI0 fun i j => .int (i + j)) (tCB (rLen K) (tCons (tVar 1) tNil)) (tC (.int 1))) tNil))) (gName 3)
    (tSeq (tAsg (tLc (iTup K (tVar 0)) (gTup K 2 (gCons (gName 5) (gCons (gName 6) gNil))) (tTest (tOp rEq (tSl rSlS (tVar 1) (tPart (tCB rMax2 (tCons (tC (.int 0)) (tCons (tOp (rI0 fun i j => .int (i - j)) (tVar 3) (tCB (rLen K) (tCons (tVar 5) tNil))) tNil)))) (tPart (tVar 3))) (tVar 5))) (tOp (rI0 fun i j => .int (i + j)) (tOp (rIxL K) (tVar 2) (tOp (rI0 fun i j => .int (i - j)) (tVar 3) (tCB (rLen K) (tCons (tVar 5) tNil)))) (tVar 6)) [5, 6]) (gName 4))
  (tDrop (tBM K "list" rAppend (tVar 2) (tCons (tCB (rMin K) (tCons (tVar 4) tNil)) tNil)))))
  (tRet (tOp (rIxL K) (tVar 2) (tCB (rLen K) (tCons (tVar 1) tNil))))))
theorem ok__law_least {sp : Sp} (hd : Hd K mg)  (len : ∀ vs H Q E, sp vs H Q E → vs.length = 2) (rd : ∀ vs H Q E, sp vs H Q E → t__law_least K  { nx := fun _ H' => Q .non H', rt := Q } (L2.start nm__law_least vs) H) :
    OkA P w K mg base 1 (He.ga K "_law_least") ["_law_words_here", "_law_text_here"] sp := by
  obtain ⟨fd, F⟩ := fun__law_least hd
  refine ok_mk F sc__law_least (F.bindsN fun _ _ _ _ _ _ us hl => match us, hl with | [_, _], _ => rfl) len rd fun cdv A outer s H E hr => ?_
  have nd := (sc__law_least).nd
  exact (pss_cons (ps_set (i := 2) nd rfl (Or.inr rfl) (pe_lst (pa_cons pe_int pa_nil)))
    (pss_cons (ps_for PassesOwn.never rfl (pi_range2 rfl (free_range hd) (pa_cons pe_int (pa_cons (pe_op (r := (rI0 fun i j => .int (i + j))) op_add (pe_callB call_len (by rfl) (free_len hd) (by decide +kernel) (pa_cons (pv 1) pa_nil)) pe_int) pa_nil))) (pg_name (i := 3) nd rfl (Or.inr rfl))
      (pss_cons (ps_setLc (i := 4) (own := [("_law_word", 5), ("_law_cost_here", 6)]) (g := (gTup K 2 (gCons (gName 5) (gCons (gName 6) gNil)))) (tt := (tTest (tOp rEq (tSl rSlS (tVar 1) (tPart (tCB rMax2 (tCons (tC (.int 0)) (tCons (tOp (rI0 fun i j => .int (i - j)) (tVar 3) (tCB (rLen K) (tCons (tVar 5) tNil))) tNil)))) (tPart (tVar 3))) (tVar 5)))) rfl nd rfl rfl (sw_true rfl rfl rfl (by decide +kernel)) (pi_tup (pv 0)) (blkOk_by (own := [("_law_word", 5), ("_law_cost_here", 6)]) (N := nm__law_least) (sc := defScope st__law_least) (by decide +kernel)) (fun _ _ _ _ _ => (pg_tup rfl (pgs_cons (pg_name (i := 5) nd rfl (Or.inl rfl)) (pgs_cons (pg_name (i := 6) nd rfl (Or.inl rfl)) pgs_nil)))) (fun _ _ _ _ _ => (pts_one (pt_cmpR (r := rEq) op_eq (pe_slice (r := rSlS) sl_str (pv 1) (po_some (pe_callB (call_max2 rfl) (by rfl) (free_max hd) (by decide +kernel) (pa_cons pe_int (pa_cons (pe_op (r := (rI0 fun i j => .int (i - j))) op_sub (pv 3) (pe_callB call_len (by rfl) (free_len hd) (by decide +kernel) (pa_cons (pv 5) pa_nil))) pa_nil)))) (po_some (pv 3))) (pv 5) (nomark _)))) (fun _ _ _ _ _ => (pe_op (r := (rI0 fun i j => .int (i + j))) op_add (pe_ix (r := (rIxL K)) ix_list (pv 2) (pe_op (r := (rI0 fun i j => .int (i - j))) op_sub (pv 3) (pe_callB call_len (by rfl) (free_len hd) (by decide +kernel) (pa_cons (pv 5) pa_nil))) (fun _ _ => rfl)) (pv 6))))
    (pss_one (ps_expr (pe_bm PySem.F.plainAttrs_list PySem.F.slot_list_append PySem.F.type_list_append mt_append (pv 2) (pa_cons (pe_callB (cr_min rfl) (by rfl) (free_min hd) (by decide +kernel) (pa_cons (pv 4) pa_nil)) pa_nil))))))
    (pss_one (ps_ret (pe_ix (r := (rIxL K)) ix_list (pv 2) (pe_callB call_len (by rfl) (free_len hd) (by decide +kernel) (pa_cons (pv 1) pa_nil)) (fun _ _ => rfl))))))
/-! _law_grows -/
abbrev nm__law_grows : List Str := ["_law_words_here", "_law_text_here", "_law_word", "_law_cost_here"]
theorem sc__law_grows : FnScope nm__law_grows ["_law_words_here", "_law_text_here"] (defScope st__law_grows) := ⟨rfl, rfl, rfl, by decide +kernel, rfl, by decide +kernel, by decide +kernel⟩
def t__law_grows (K : PySem.W.Frag)  : TS := (tRet (tCB (rAny K) (tCons (tLc (iTup K (tVar 0)) (gTup K 2 (gCons (gName 2) (gCons (gName 3) gNil))) tYes (tAndV (tOp (rI0 fun i j => .bl (decide (j < i))) (tCB (rLen K) (tCons (tVar 2) tNil)) (tCB (rLen K) (tCons (tVar 1) tNil))) (tOp rEq (tSl rSlS (tVar 2) tNoPart (tPart (tCB (rLen K) (tCons (tVar 1) tNil)))) (tVar 1))) [2, 3]) tNil)))
theorem ok__law_grows {sp : Sp} (hd : Hd K mg)  (len : ∀ vs H Q E, sp vs H Q E → vs.length = 2) (rd : ∀ vs H Q E, sp vs H Q E → t__law_grows K  { nx := fun _ H' => Q .non H', rt := Q } (L2.start nm__law_grows vs) H) :
    OkA P w K mg base 1 (He.ga K "_law_grows") ["_law_words_here", "_law_text_here"] sp := by
  obtain ⟨fd, F⟩ := fun__law_grows hd
  refine ok_mk F sc__law_grows (F.bindsN fun _ _ _ _ _ _ us hl => match us, hl with | [_, _], _ => rfl) len rd fun cdv A outer s H E hr => ?_
  have nd := (sc__law_grows).nd
  exact (pss_one (ps_ret (pe_callB (cr_any rfl) (by rfl) (free_any hd) (by decide +kernel) (pa_cons (pe_lc (own := [("_law_word", 2), ("_law_cost_here", 3)]) (g := (gTup K 2 (gCons (gName 2) (gCons (gName 3) gNil)))) (tt := tYes) rfl nd (pi_tup (pv 0)) (blkOk_by (own := [("_law_word", 2), ("_law_cost_here", 3)]) (N := nm__law_grows) (sc := defScope st__law_grows) (by decide +kernel)) (fun _ _ _ _ _ => (pg_tup rfl (pgs_cons (pg_name (i := 2) nd rfl (Or.inl rfl)) (pgs_cons (pg_name (i := 3) nd rfl (Or.inl rfl)) pgs_nil)))) (fun _ _ _ _ _ => pts_nil) (fun _ _ _ _ _ => (pe_and (pe_cmpR (r := (rI0 fun i j => .bl (decide (j < i)))) op_gt (pe_callB call_len (by rfl) (free_len hd) (by decide +kernel) (pa_cons (pv 2) pa_nil)) (pe_callB call_len (by rfl) (free_len hd) (by decide +kernel) (pa_cons (pv 1) pa_nil)) (nomark _)) (pe_one (pe_cmpR (r := rEq) op_eq (pe_slice (r := rSlS) sl_str (pv 2) po_none (po_some (pe_callB call_len (by rfl) (free_len hd) (by decide +kernel) (pa_cons (pv 1) pa_nil)))) (pv 1) (nomark _)))))) pa_nil))))
/-! _law_read -/
abbrev nm__law_read : List Str := ["_law_words_here", "_law_held", "_law_letter", "_law_rest_here", "_law_gain", "_law_turn", "_law_word"]
theorem sc__law_read : FnScope nm__law_read ["_law_words_here", "_law_held", "_law_letter"] (defScope st__law_read) := ⟨rfl, rfl, rfl, by decide +kernel, rfl, by decide +kernel, by decide +kernel⟩
def t__law_read (K : PySem.W.Frag) (s__law_grows : Sp) (s__law_match : Sp) (s__law_sum : Sp) : TS := (tSeq (tAsg (tOp rCatS (tVar 1) (tVar 2)) (gName 3))
  (tSeq (tAsg (tC (.int 0)) (gName 4))
  (tSeq (tFor (iRng1 (tCons (tCB (rLen K) (tCons (tVar 3) tNil)) tNil)) (gName 5)
    (tIfS (tAnd (tTest (tOp rNe (tVar 3) (tC (.str "")))) (tNot (tB (tCall s__law_grows [] E0 (tCons (tVar 0) (tCons (tVar 3) tNil)))))) (tSeq (tAsg (tOp (rIxT K) (tCall s__law_match [] E0 (tCons (tVar 0) (tCons (tVar 3) tNil))) (tC (.int 0))) (gName 6))
  (tSeq (tAsg (tOp (rI0 fun i j => .int (i + j)) (tVar 4) (tCall s__law_sum [] E0 (tCons (tVar 0) (tCons (tTup (tCons (tVar 6) tNil)) tNil)))) (gName 4))
  (tAsg (tSl rSlS (tVar 3) (tPart (tCB (rLen K) (tCons (tVar 6) tNil))) tNoPart) (gName 3)))) tNext))
  (tRet (tTup (tCons (tVar 4) (tCons (tVar 3) tNil)))))))
theorem ok__law_read {s__law_grows s__law_match s__law_sum : Sp} {sp : Sp} (hd : Hd K mg) (O__law_grows : OkA P w K mg base 1 (He.ga K "_law_grows") ["_law_words_here", "_law_text_here"] s__law_grows) (O__law_match : OkA P w K mg base 1 (He.ga K "_law_match") ["_law_words_here", "_law_text_here"] s__law_match) (O__law_sum : OkA P w K mg base 1 (He.ga K "_law_sum") ["_law_words_here", "_law_row"] s__law_sum) (len : ∀ vs H Q E, sp vs H Q E → vs.length = 3) (rd : ∀ vs H Q E, sp vs H Q E → t__law_read K s__law_grows s__law_match s__law_sum { nx := fun _ H' => Q .non H', rt := Q } (L2.start nm__law_read vs) H) :
    OkA P w K mg base 2 (He.ga K "_law_read") ["_law_words_here", "_law_held", "_law_letter"] sp := by
  obtain ⟨fd, F⟩ := fun__law_read hd
  refine ok_mk F sc__law_read (F.bindsN fun _ _ _ _ _ _ us hl => match us, hl with | [_, _, _], _ => rfl) len rd fun cdv A outer s H E hr => ?_
  have nd := (sc__law_read).nd
  exact (pss_cons (ps_set (i := 3) nd rfl (Or.inl rfl) (pe_op (r := rCatS) op_add_str (pv 1) (pv 2)))
    (pss_cons (ps_set (i := 4) nd rfl (Or.inl rfl) pe_int)
    (pss_cons (ps_for PassesOwn.never rfl (pi_range1 rfl (free_range hd) (pa_cons (pe_callB call_len (by rfl) (free_len hd) (by decide +kernel) (pa_cons (pv 3) pa_nil)) pa_nil)) (pg_name (i := 5) nd rfl (Or.inl rfl))
      (pss_one (ps_if (PW.pt (pw_and (pt_cmpR (r := rNe) op_ne (pv 3) pe_str (nomark _)) (pw_and1 (pt_not (pt_val (pe_okf O__law_grows (hr.mono (by decide)) (by rfl) (glo__law_grows hd) (pa_cons (pv 0) (pa_cons (pv 3) pa_nil)))))))) (pss_cons (ps_set (i := 6) nd rfl (Or.inl rfl) (pe_ix (r := (rIxT K)) ix_tup (pe_okf O__law_match (hr.mono (by decide)) (by rfl) (glo__law_match hd) (pa_cons (pv 0) (pa_cons (pv 3) pa_nil))) pe_int (fun _ _ => rfl)))
    (pss_cons (ps_set (i := 4) nd rfl (Or.inl rfl) (pe_op (r := (rI0 fun i j => .int (i + j))) op_add (pv 4) (pe_okf O__law_sum (hr.mono (by decide)) (by rfl) (glo__law_sum hd) (pa_cons (pv 0) (pa_cons (pe_tup (pa_cons (pv 6) pa_nil)) pa_nil)))))
    (pss_one (ps_set (i := 3) nd rfl (Or.inl rfl) (pe_slice (r := rSlS) sl_str (pv 3) (po_some (pe_callB call_len (by rfl) (free_len hd) (by decide +kernel) (pa_cons (pv 6) pa_nil))) po_none))))) pss_nil)))
    (pss_one (ps_ret (pe_tup (pa_cons (pv 4) (pa_cons (pv 3) pa_nil))))))))
/-! _law_steps -/
abbrev nm__law_steps : List Str := ["_law_words_here", "_law_held", "_law_tail", "_law_letter", "_law_gain", "_law_rest_here", "_law_longer", "_law_found", "_law_word", "_law_cost_here"]
theorem sc__law_steps : FnScope nm__law_steps ["_law_words_here", "_law_held", "_law_tail", "_law_letter"] (defScope st__law_steps) := ⟨rfl, rfl, rfl, by decide +kernel, rfl, by decide +kernel, by decide +kernel⟩
def t__law_steps (K : PySem.W.Frag) (s__law_read : Sp) (s__law_grows : Sp) : TS := (tSeq (tAsg (tCall s__law_read [] E0 (tCons (tVar 0) (tCons (tVar 1) (tCons (tVar 3) tNil)))) (gTup K 2 (gCons (gName 4) (gCons (gName 5) gNil))))
  (tSeq (tAsg (tOp rCatS (tVar 2) (tVar 3)) (gName 6))
  (tSeq (tAsg (tLst tNil) (gName 7))
  (tSeq (tFor (iTup K (tVar 0)) (gTup K 2 (gCons (gName 8) (gCons (gName 9) gNil)))
    (tIfS (tTest (tOp rEq (tVar 8) (tVar 6))) (tDrop (tBM K "list" rAppend (tVar 7) (tCons (tTup (tCons (tVar 5) (tCons (tC (.str "")) (tCons (tVar 4) (tCons (tVar 9) tNil))))) tNil))) tNext))
  (tSeq (tIfS (tB (tCall s__law_grows [] E0 (tCons (tVar 0) (tCons (tVar 6) tNil)))) (tDrop (tBM K "list" rAppend (tVar 7) (tCons (tTup (tCons (tVar 5) (tCons (tVar 6) (tCons (tVar 4) (tCons (tC (.int 0)) tNil))))) tNil))) tNext)
  (tRet (tVar 7)))))))
theorem ok__law_steps {s__law_read s__law_grows : Sp} {sp : Sp} (hd : Hd K mg) (O__law_read : OkA P w K mg base 2 (He.ga K "_law_read") ["_law_words_here", "_law_held", "_law_letter"] s__law_read) (O__law_grows : OkA P w K mg base 1 (He.ga K "_law_grows") ["_law_words_here", "_law_text_here"] s__law_grows) (len : ∀ vs H Q E, sp vs H Q E → vs.length = 4) (rd : ∀ vs H Q E, sp vs H Q E → t__law_steps K s__law_read s__law_grows { nx := fun _ H' => Q .non H', rt := Q } (L2.start nm__law_steps vs) H) :
    OkA P w K mg base 3 (He.ga K "_law_steps") ["_law_words_here", "_law_held", "_law_tail", "_law_letter"] sp := by
  obtain ⟨fd, F⟩ := fun__law_steps hd
  refine ok_mk F sc__law_steps (F.bindsN fun _ _ _ _ _ _ us hl => match us, hl with | [_, _, _, _], _ => rfl) len rd fun cdv A outer s H E hr => ?_
  have nd := (sc__law_steps).nd
  exact (pss_cons (ps_asg (pe_okf O__law_read (hr.mono (by decide)) (by rfl) (glo__law_read hd) (pa_cons (pv 0) (pa_cons (pv 1) (pa_cons (pv 3) pa_nil)))) (pg_tup rfl (pgs_cons (pg_name (i := 4) nd rfl (Or.inl rfl)) (pgs_cons (pg_name (i := 5) nd rfl (Or.inl rfl)) pgs_nil))))
    (pss_cons (ps_set (i := 6) nd rfl (Or.inl rfl) (pe_op (r := rCatS) op_add_str (pv 2) (pv 3)))
    (pss_cons (ps_set (i := 7) nd rfl (Or.inl rfl) (pe_lst pa_nil))
    (pss_cons (ps_for PassesOwn.never rfl (pi_tup (pv 0)) (pg_tup rfl (pgs_cons (pg_name (i := 8) nd rfl (Or.inl rfl)) (pgs_cons (pg_name (i := 9) nd rfl (Or.inl rfl)) pgs_nil)))
      (pss_one (ps_if (pt_cmpR (r := rEq) op_eq (pv 8) (pv 6) (nomark _)) (pss_one (ps_expr (pe_bm PySem.F.plainAttrs_list PySem.F.slot_list_append PySem.F.type_list_append mt_append (pv 7) (pa_cons (pe_tup (pa_cons (pv 5) (pa_cons pe_str (pa_cons (pv 4) (pa_cons (pv 9) pa_nil))))) pa_nil)))) pss_nil)))
    (pss_cons (ps_if (pt_val (pe_okf O__law_grows (hr.mono (by decide)) (by rfl) (glo__law_grows hd) (pa_cons (pv 0) (pa_cons (pv 6) pa_nil)))) (pss_one (ps_expr (pe_bm PySem.F.plainAttrs_list PySem.F.slot_list_append PySem.F.type_list_append mt_append (pv 7) (pa_cons (pe_tup (pa_cons (pv 5) (pa_cons (pv 6) (pa_cons (pv 4) (pa_cons pe_int pa_nil))))) pa_nil)))) pss_nil)
    (pss_one (ps_ret (pv 7))))))))
/-! _law_is_row -/
abbrev nm__law_is_row : List Str := ["_law_words_here", "_law_row", "_law_names", "_law_word", "_law_cost_here", "_law_one"]
theorem sc__law_is_row : FnScope nm__law_is_row ["_law_words_here", "_law_row"] (defScope st__law_is_row) := ⟨rfl, rfl, rfl, by decide +kernel, rfl, by decide +kernel, by decide +kernel⟩
def t__law_is_row (K : PySem.W.Frag)  : TS := (tSeq (tAsg (tLc (iTup K (tVar 0)) (gTup K 2 (gCons (gName 3) (gCons (gName 4) gNil))) tYes (tVar 3) [3, 4]) (gName 2))
  (tRet (tAndV (tCB (rIsi K) (tCons (tVar 1) (tCons (tC (.ty "tuple")) tNil))) (tCB (rAll K) (tCons (tLc (iTup K (tVar 1)) (gName 5) tYes (tAndV (tCB (rIsi K) (tCons (tVar 5) (tCons (tC (.ty "str")) tNil))) (tOp (rIn K false) (tVar 5) (tVar 2))) [5]) tNil)))))
theorem ok__law_is_row {sp : Sp} (hd : Hd K mg)  (len : ∀ vs H Q E, sp vs H Q E → vs.length = 2) (rd : ∀ vs H Q E, sp vs H Q E → t__law_is_row K  { nx := fun _ H' => Q .non H', rt := Q } (L2.start nm__law_is_row vs) H) :
    OkA P w K mg base 1 (He.ga K "_law_is_row") ["_law_words_here", "_law_row"] sp := by
  obtain ⟨fd, F⟩ := fun__law_is_row hd
  refine ok_mk F sc__law_is_row (F.bindsN fun _ _ _ _ _ _ us hl => match us, hl with | [_, _], _ => rfl) len rd fun cdv A outer s H E hr => ?_
  have nd := (sc__law_is_row).nd
  exact (pss_cons (ps_set (i := 2) nd rfl (Or.inr rfl) (pe_lc (own := [("_law_word", 3), ("_law_cost_here", 4)]) (g := (gTup K 2 (gCons (gName 3) (gCons (gName 4) gNil)))) (tt := tYes) rfl nd (pi_tup (pv 0)) (blkOk_by (own := [("_law_word", 3), ("_law_cost_here", 4)]) (N := nm__law_is_row) (sc := defScope st__law_is_row) (by decide +kernel)) (fun _ _ _ _ _ => (pg_tup rfl (pgs_cons (pg_name (i := 3) nd rfl (Or.inl rfl)) (pgs_cons (pg_name (i := 4) nd rfl (Or.inl rfl)) pgs_nil)))) (fun _ _ _ _ _ => pts_nil) (fun _ _ _ _ _ => (pv 3))))
    (pss_one (ps_ret (pe_and (pe_callB call_isi (by rfl) (free_isinstance hd) (by decide +kernel) (pa_cons (pv 1) (pa_cons (pe_bltn (by rfl) (free_tuple hd) (by decide +kernel) rfl) pa_nil))) (pe_one (pe_callB (cr_all rfl) (by rfl) (free_all hd) (by decide +kernel) (pa_cons (pe_lc (own := [("_law_one", 5)]) (g := (gName 5)) (tt := tYes) rfl nd (pi_tup (pv 1)) (blkOk_by (own := [("_law_one", 5)]) (N := nm__law_is_row) (sc := defScope st__law_is_row) (by decide +kernel)) (fun _ _ _ _ _ => (pg_name (i := 5) nd rfl (Or.inl rfl))) (fun _ _ _ _ _ => pts_nil) (fun _ _ _ _ _ => (pe_and (pe_callB call_isi (by rfl) (free_isinstance hd) (by decide +kernel) (pa_cons (pv 5) (pa_cons (pe_bltn (by rfl) (free_str hd) (by decide +kernel) rfl) pa_nil))) (pe_one (pe_cmpR (r := (rIn K false)) op_in_seq (pv 5) (pv 2) (by rfl)))))) pa_nil)))))))
/-! _law_is_text -/
abbrev nm__law_is_text : List Str := ["_law_words_here", "_law_text_here", "_law_letter"]
theorem sc__law_is_text : FnScope nm__law_is_text ["_law_words_here", "_law_text_here"] (defScope st__law_is_text) := ⟨rfl, rfl, rfl, by decide +kernel, rfl, by decide +kernel, by decide +kernel⟩
def t__law_is_text (K : PySem.W.Frag) (s__law_letters : Sp) : TS := (tRet (tAndV (tCB (rIsi K) (tCons (tVar 1) (tCons (tC (.ty "str")) tNil))) (tCB (rAll K) (tCons (tLc (iStr (tVar 1)) (gName 2) tYes (tOp (rIn K false) (tVar 2) (tCall s__law_letters [] E0 (tCons (tVar 0) tNil))) [2]) tNil))))
theorem ok__law_is_text {s__law_letters : Sp} {sp : Sp} (hd : Hd K mg) (O__law_letters : OkA P w K mg base 1 (He.ga K "_law_letters") ["_law_words_here"] s__law_letters) (len : ∀ vs H Q E, sp vs H Q E → vs.length = 2) (rd : ∀ vs H Q E, sp vs H Q E → t__law_is_text K s__law_letters { nx := fun _ H' => Q .non H', rt := Q } (L2.start nm__law_is_text vs) H) :
    OkA P w K mg base 2 (He.ga K "_law_is_text") ["_law_words_here", "_law_text_here"] sp := by
  obtain ⟨fd, F⟩ := fun__law_is_text hd
  refine ok_mk F sc__law_is_text (F.bindsN fun _ _ _ _ _ _ us hl => match us, hl with | [_, _], _ => rfl) len rd fun cdv A outer s H E hr => ?_
  have nd := (sc__law_is_text).nd
  exact (pss_one (ps_ret (pe_and (pe_callB call_isi (by rfl) (free_isinstance hd) (by decide +kernel) (pa_cons (pv 1) (pa_cons (pe_bltn (by rfl) (free_str hd) (by decide +kernel) rfl) pa_nil))) (pe_one (pe_callB (cr_all rfl) (by rfl) (free_all hd) (by decide +kernel) (pa_cons (pe_lc (own := [("_law_letter", 2)]) (g := (gName 2)) (tt := tYes) rfl nd (pi_str (pv 1)) (blkOk_by (own := [("_law_letter", 2)]) (N := nm__law_is_text) (sc := defScope st__law_is_text) (by decide +kernel)) (fun _ _ _ _ _ => (pg_name (i := 2) nd rfl (Or.inl rfl))) (fun _ _ _ _ _ => pts_nil) (fun _ _ _ _ _ => (pe_cmpR (r := (rIn K false)) op_in_seq (pv 2) (pe_okf O__law_letters (hr.mono (by decide)) (by rfl) (glo__law_letters hd) (pa_cons (pv 0) pa_nil)) (by rfl)))) pa_nil))))))
/-! _law_sums -/
abbrev nm__law_sums : List Str := ["_law_words_here", "_law_value", "_law_before", "_law_cycle", "_law_tail", "_law_row", "_law_held", "_law_letter", "_law_total", "_law_rest_here", "_law_gain", "_law_one"]
theorem sc__law_sums : FnScope nm__law_sums ["_law_words_here", "_law_value"] (defScope st__law_sums) := ⟨rfl, rfl, rfl, by decide +kernel, rfl, by decide +kernel, by decide +kernel⟩
def t__law_sums (K : PySem.W.Frag) (s__law_is_text : Sp) (s__law_is_row : Sp) (s__law_read : Sp) (s__law_sum : Sp) : TS := (tSeq (tIfS (tOr (tNot (tB (tCB (rIsi K) (tCons (tVar 1) (tCons (tC (.ty "tuple")) tNil))))) (tOr (tTest (tOp rNe (tCB (rLen K) (tCons (tVar 1) tNil)) (tC (.int 4)))) (tNot (tB (tCB (rAll K) (tCons (tLc (iTup K (tSl (rSlT K) (tVar 1) tNoPart (tPart (tC (.int 3))))) (gName 11) tYes (tCall s__law_is_text [] E0 (tCons (tVar 0) (tCons (tVar 11) tNil))) [11]) tNil)))))) (tRet (tC .non)) tNext)
  (tSeq (tAsg (tVar 1) (gTup K 4 (gCons (gName 2) (gCons (gName 3) (gCons (gName 4) (gCons (gName 5) gNil))))))
  (tSeq (tIfS (tOr (tTest (tOp rEq (tVar 3) (tC (.str "")))) (tOr (tNot (tB (tCall s__law_is_row [] E0 (tCons (tVar 0) (tCons (tVar 5) tNil))))) (tTest (tOp (rI0 fun i j => .bl (decide (j < i))) (tCB (rLen K) (tCons (tVar 4) tNil)) (tCB (rLen K) (tCons (tVar 2) tNil)))))) (tRet (tC .non)) tNext)
  (tSeq (tIfS (tOr (tTest (tOp rNe (tSl rSlS (tVar 2) (tPart (tOp (rI0 fun i j => .int (i - j)) (tCB (rLen K) (tCons (tVar 2) tNil)) (tCB (rLen K) (tCons (tVar 4) tNil)))) tNoPart) (tVar 4))) (tTest (tOp rNe (tOp rCatS (tVar 4) (tVar 3)) (tOp rCatS (tM1 (rJoin K) (tC (.str "")) (tVar 5)) (tVar 4))))) (tRet (tC .non)) tNext)
  (tSeq (tAsg (tC (.str "")) (gName 6))
  (tSeq (tFor (iStr (tVar 2)) (gName 7)
    (tAsg (tOp (rIxT K) (tCall s__law_read [] E0 (tCons (tVar 0) (tCons (tVar 6) (tCons (tVar 7) tNil)))) (tC (.int 1))) (gName 6)))
  (tSeq (tAsg (tC (.int 0)) (gName 8))
  (tSeq (tAsg (tVar 6) (gName 9))
  (tSeq (tFor (iStr (tVar 3)) (gName 7)
    (tSeq (tAsg (tCall s__law_read [] E0 (tCons (tVar 0) (tCons (tVar 9) (tCons (tVar 7) tNil)))) (gTup K 2 (gCons (gName 10) (gCons (gName 9) gNil))))
  (tAsg (tOp (rI0 fun i j => .int (i + j)) (tVar 8) (tVar 10)) (gName 8))))
  (tSeq (tIfS (tTest (tOp rNe (tVar 9) (tVar 6))) (tRet (tC .non)) tNext)
  (tRet (tTup (tCons (tVar 8) (tCons (tCall s__law_sum [] E0 (tCons (tVar 0) (tCons (tVar 5) tNil))) tNil))))))))))))))
theorem ok__law_sums {s__law_is_text s__law_is_row s__law_read s__law_sum : Sp} {sp : Sp} (hd : Hd K mg) (O__law_is_text : OkA P w K mg base 2 (He.ga K "_law_is_text") ["_law_words_here", "_law_text_here"] s__law_is_text) (O__law_is_row : OkA P w K mg base 1 (He.ga K "_law_is_row") ["_law_words_here", "_law_row"] s__law_is_row) (O__law_read : OkA P w K mg base 2 (He.ga K "_law_read") ["_law_words_here", "_law_held", "_law_letter"] s__law_read) (O__law_sum : OkA P w K mg base 1 (He.ga K "_law_sum") ["_law_words_here", "_law_row"] s__law_sum) (len : ∀ vs H Q E, sp vs H Q E → vs.length = 2) (rd : ∀ vs H Q E, sp vs H Q E → t__law_sums K s__law_is_text s__law_is_row s__law_read s__law_sum { nx := fun _ H' => Q .non H', rt := Q } (L2.start nm__law_sums vs) H) :
    OkA P w K mg base 3 (He.ga K "_law_sums") ["_law_words_here", "_law_value"] sp := by
  obtain ⟨fd, F⟩ := fun__law_sums hd
  refine ok_mk F sc__law_sums (F.bindsN fun _ _ _ _ _ _ us hl => match us, hl with | [_, _], _ => rfl) len rd fun cdv A outer s H E hr => ?_
  have nd := (sc__law_sums).nd
  exact (pss_cons (ps_if (PW.pt (pw_or (pt_not (pt_val (pe_callB call_isi (by rfl) (free_isinstance hd) (by decide +kernel) (pa_cons (pv 1) (pa_cons (pe_bltn (by rfl) (free_tuple hd) (by decide +kernel) rfl) pa_nil))))) (pw_or (pt_cmpR (r := rNe) op_ne (pe_callB call_len (by rfl) (free_len hd) (by decide +kernel) (pa_cons (pv 1) pa_nil)) pe_int (nomark _)) (pw_or1 (pt_not (pt_val (pe_callB (cr_all rfl) (by rfl) (free_all hd) (by decide +kernel) (pa_cons (pe_lc (own := [("_law_one", 11)]) (g := (gName 11)) (tt := tYes) rfl nd (pi_tup (pe_slice (r := (rSlT K)) sl_tup (pv 1) po_none (po_some pe_int))) (blkOk_by (own := [("_law_one", 11)]) (N := nm__law_sums) (sc := defScope st__law_sums) (by decide +kernel)) (fun _ _ _ _ _ => (pg_name (i := 11) nd rfl (Or.inl rfl))) (fun _ _ _ _ _ => pts_nil) (fun _ _ _ _ _ => (pe_okf O__law_is_text (hr.mono (by decide)) (by rfl) (glo__law_is_text hd) (pa_cons (pv 0) (pa_cons (pv 11) pa_nil))))) pa_nil)))))))) (pss_one (ps_ret pe_non)) pss_nil)
    (pss_cons (ps_asg (pv 1) (pg_tup rfl (pgs_cons (pg_name (i := 2) nd rfl (Or.inl rfl)) (pgs_cons (pg_name (i := 3) nd rfl (Or.inl rfl)) (pgs_cons (pg_name (i := 4) nd rfl (Or.inl rfl)) (pgs_cons (pg_name (i := 5) nd rfl (Or.inl rfl)) pgs_nil))))))
    (pss_cons (ps_if (PW.pt (pw_or (pt_cmpR (r := rEq) op_eq (pv 3) pe_str (nomark _)) (pw_or (pt_not (pt_val (pe_okf O__law_is_row (hr.mono (by decide)) (by rfl) (glo__law_is_row hd) (pa_cons (pv 0) (pa_cons (pv 5) pa_nil))))) (pw_or1 (pt_cmpR (r := (rI0 fun i j => .bl (decide (j < i)))) op_gt (pe_callB call_len (by rfl) (free_len hd) (by decide +kernel) (pa_cons (pv 4) pa_nil)) (pe_callB call_len (by rfl) (free_len hd) (by decide +kernel) (pa_cons (pv 2) pa_nil)) (nomark _)))))) (pss_one (ps_ret pe_non)) pss_nil)
    (pss_cons (ps_if (PW.pt (pw_or (pt_cmpR (r := rNe) op_ne (pe_slice (r := rSlS) sl_str (pv 2) (po_some (pe_op (r := (rI0 fun i j => .int (i - j))) op_sub (pe_callB call_len (by rfl) (free_len hd) (by decide +kernel) (pa_cons (pv 2) pa_nil)) (pe_callB call_len (by rfl) (free_len hd) (by decide +kernel) (pa_cons (pv 4) pa_nil)))) po_none) (pv 4) (nomark _)) (pw_or1 (pt_cmpR (r := rNe) op_ne (pe_op (r := rCatS) op_add_str (pv 4) (pv 3)) (pe_op (r := rCatS) op_add_str (pe_join pe_str (pv 5)) (pv 4)) (nomark _))))) (pss_one (ps_ret pe_non)) pss_nil)
    (pss_cons (ps_set (i := 6) nd rfl (Or.inl rfl) pe_str)
    (pss_cons (ps_for PassesOwn.never rfl (pi_str (pv 2)) (pg_name (i := 7) nd rfl (Or.inl rfl))
      (pss_one (ps_set (i := 6) nd rfl (Or.inl rfl) (pe_ix (r := (rIxT K)) ix_tup (pe_okf O__law_read (hr.mono (by decide)) (by rfl) (glo__law_read hd) (pa_cons (pv 0) (pa_cons (pv 6) (pa_cons (pv 7) pa_nil)))) pe_int (fun _ _ => rfl)))))
    (pss_cons (ps_set (i := 8) nd rfl (Or.inl rfl) pe_int)
    (pss_cons (ps_set (i := 9) nd rfl (Or.inl rfl) (pv 6))
    (pss_cons (ps_for PassesOwn.never rfl (pi_str (pv 3)) (pg_name (i := 7) nd rfl (Or.inl rfl))
      (pss_cons (ps_asg (pe_okf O__law_read (hr.mono (by decide)) (by rfl) (glo__law_read hd) (pa_cons (pv 0) (pa_cons (pv 9) (pa_cons (pv 7) pa_nil)))) (pg_tup rfl (pgs_cons (pg_name (i := 10) nd rfl (Or.inl rfl)) (pgs_cons (pg_name (i := 9) nd rfl (Or.inl rfl)) pgs_nil))))
    (pss_one (ps_set (i := 8) nd rfl (Or.inl rfl) (pe_op (r := (rI0 fun i j => .int (i + j))) op_add (pv 8) (pv 10))))))
    (pss_cons (ps_if (pt_cmpR (r := rNe) op_ne (pv 9) (pv 6) (nomark _)) (pss_one (ps_ret pe_non)) pss_nil)
    (pss_one (ps_ret (pe_tup (pa_cons (pv 8) (pa_cons (pe_okf O__law_sum (hr.mono (by decide)) (by rfl) (glo__law_sum hd) (pa_cons (pv 0) (pa_cons (pv 5) pa_nil))) pa_nil)))))))))))))))
/-! _law_accepts -/
abbrev nm__law_accepts : List Str := ["_law_words_here", "_law_value", "_law_ratio", "_law_excess", "_law_told", "_law_shown", "_law_table", "_law_sums_here", "_law_cost_here", "_law_k"]
theorem sc__law_accepts : FnScope nm__law_accepts ["_law_words_here", "_law_value"] (defScope st__law_accepts) := ⟨rfl, rfl, rfl, by decide +kernel, rfl, by decide +kernel, by decide +kernel⟩
def t__law_accepts (K : PySem.W.Frag) (s__law_is_integer : Sp) (s__law_sums : Sp) (s__law_is_text : Sp) (s__law_is_row : Sp) (s__law_sum : Sp) (s__law_match : Sp) (s__law_are_right : Sp) : TS := (tSeq (tIfS (tOr (tNot (tB (tCB (rIsi K) (tCons (tVar 1) (tCons (tC (.ty "tuple")) tNil))))) (tTest (tOp rNe (tCB (rLen K) (tCons (tVar 1) tNil)) (tC (.int 5))))) (tRet (tC (.bl false))) tNext)
  (tSeq (tAsg (tVar 1) (gTup K 5 (gCons (gName 2) (gCons (gName 3) (gCons (gName 4) (gCons (gName 5) (gCons (gName 6) gNil)))))))
  (tSeq (tIfS (tOr (tNot (tB (tCB (rIsi K) (tCons (tVar 2) (tCons (tC (.ty "tuple")) tNil))))) (tOr (tTest (tOp rNe (tCB (rLen K) (tCons (tVar 2) tNil)) (tC (.int 2)))) (tNot (tB (tCall s__law_is_integer [] E0 (tCons (tVar 3) tNil)))))) (tRet (tC (.bl false))) tNext)
  (tSeq (tIfS (tOr (tNot (tB (tCall s__law_is_integer [] E0 (tCons (tOp (rIxT K) (tVar 2) (tC (.int 0))) tNil)))) (tOr (tNot (tB (tCall s__law_is_integer [] E0 (tCons (tOp (rIxT K) (tVar 2) (tC (.int 1))) tNil)))) (tOr (tTest (tOp (rI0 fun i j => .bl (decide (i < j))) (tOp (rIxT K) (tVar 2) (tC (.int 1))) (tC (.int 1)))) (tTest (tOp (rI0 fun i j => .bl (decide (i < j))) (tOp (rIxT K) (tVar 2) (tC (.int 0))) (tC (.int 0))))))) (tRet (tC (.bl false))) tNext)
  (tSeq (tIfS (tOr (tAnd (tTest (tOp rEq (tOp (rIxT K) (tVar 2) (tC (.int 0))) (tC (.int 0)))) (tTest (tOp (rI0 fun i j => .bl (decide (j < i))) (tOp (rIxT K) (tVar 2) (tC (.int 1))) (tC (.int 1))))) (tTest (tOp (rI0 fun i j => .bl (decide (j < i))) (tOp (rIxT K) (tVar 2) (tC (.int 1))) (tC (.int 2000))))) (tRet (tC (.bl false))) tNext)
  (tSeq (tIfS (tB (tCB (rAny K) (tCons (tLc (iRng2 (tCons (tC (.int 2)) (tCons (tOp (rI0 fun i j => .int (i + j)) (tOp (rIxT K) (tVar 2) (tC (.int 1))) (tC (.int 1))) tNil))) (gName 9) tYes (tAndV (tOp rEq (tOp (rI (fun _ j => 0 < j) fun i j => .int (i % j)) (tCB rInt1 (tCons (tOp (rIxT K) (tVar 2) (tC (.int 0))) tNil)) (tVar 9)) (tC (.int 0))) (tOp rEq (tOp (rI (fun _ j => 0 < j) fun i j => .int (i % j)) (tCB rInt1 (tCons (tOp (rIxT K) (tVar 2) (tC (.int 1))) tNil)) (tVar 9)) (tC (.int 0)))) [9]) tNil))) (tRet (tC (.bl false))) tNext)
  (tSeq (tAsg (tCall s__law_sums [] E0 (tCons (tVar 0) (tCons (tVar 4) tNil))) (gName 7))
  (tSeq (tIfS (tOr (tTest (tOp rIsN (tVar 7) (tC .non))) (tTest (tOp rNe (tOp (rI CMul fun i j => .int (i * j)) (tOp (rIxT K) (tVar 7) (tC (.int 0))) (tOp (rIxT K) (tVar 2) (tC (.int 1)))) (tOp (rI CMul fun i j => .int (i * j)) (tOp (rIxT K) (tVar 7) (tC (.int 1))) (tOp (rIxT K) (tVar 2) (tC (.int 0))))))) (tRet (tC (.bl false))) tNext)
  (tSeq (tIfS (tOr (tNot (tB (tCB (rIsi K) (tCons (tVar 5) (tCons (tC (.ty "tuple")) tNil))))) (tOr (tTest (tOp rNe (tCB (rLen K) (tCons (tVar 5) tNil)) (tC (.int 2)))) (tNot (tB (tCall s__law_is_text [] E0 (tCons (tVar 0) (tCons (tOp (rIxT K) (tVar 5) (tC (.int 0))) tNil))))))) (tRet (tC (.bl false))) tNext)
  (tSeq (tIfS (tOr (tNot (tB (tCall s__law_is_row [] E0 (tCons (tVar 0) (tCons (tOp (rIxT K) (tVar 5) (tC (.int 1))) tNil))))) (tTest (tOp rNe (tM1 (rJoin K) (tC (.str "")) (tOp (rIxT K) (tVar 5) (tC (.int 1)))) (tOp (rIxT K) (tVar 5) (tC (.int 0)))))) (tRet (tC (.bl false))) tNext)
  (tSeq (tAsg (tCall s__law_sum [] E0 (tCons (tVar 0) (tCons (tCall s__law_match [] E0 (tCons (tVar 0) (tCons (tOp (rIxT K) (tVar 5) (tC (.int 0))) tNil))) tNil))) (gName 8))
  (tSeq (tIfS (tTest (tOp rNe (tOp (rI0 fun i j => .int (i - j)) (tOp (rI CMul fun i j => .int (i * j)) (tOp (rIxT K) (tVar 2) (tC (.int 1))) (tVar 8)) (tOp (rI CMul fun i j => .int (i * j)) (tOp (rIxT K) (tVar 2) (tC (.int 0))) (tCall s__law_sum [] E0 (tCons (tVar 0) (tCons (tOp (rIxT K) (tVar 5) (tC (.int 1))) tNil))))) (tVar 3))) (tRet (tC (.bl false))) tNext)
  (tRet (tCall s__law_are_right [] E0 (tCons (tVar 0) (tCons (tOp (rIxT K) (tVar 2) (tC (.int 0))) (tCons (tOp (rIxT K) (tVar 2) (tC (.int 1))) (tCons (tVar 3) (tCons (tVar 6) tNil)))))))))))))))))))
theorem ok__law_accepts {s__law_is_integer s__law_sums s__law_is_text s__law_is_row s__law_sum s__law_match s__law_are_right : Sp} {sp : Sp} (hd : Hd K mg) (O__law_is_integer : OkA P w K mg base 1 (He.ga K "_law_is_integer") ["_law_actual"] s__law_is_integer) (O__law_sums : OkA P w K mg base 3 (He.ga K "_law_sums") ["_law_words_here", "_law_value"] s__law_sums) (O__law_is_text : OkA P w K mg base 2 (He.ga K "_law_is_text") ["_law_words_here", "_law_text_here"] s__law_is_text) (O__law_is_row : OkA P w K mg base 1 (He.ga K "_law_is_row") ["_law_words_here", "_law_row"] s__law_is_row) (O__law_sum : OkA P w K mg base 1 (He.ga K "_law_sum") ["_law_words_here", "_law_row"] s__law_sum) (O__law_match : OkA P w K mg base 1 (He.ga K "_law_match") ["_law_words_here", "_law_text_here"] s__law_match) (O__law_are_right : OkA P w K mg base 4 (He.ga K "_law_are_right") ["_law_words_here", "_law_a", "_law_b", "_law_c", "_law_table"] s__law_are_right) (len : ∀ vs H Q E, sp vs H Q E → vs.length = 2) (rd : ∀ vs H Q E, sp vs H Q E → t__law_accepts K s__law_is_integer s__law_sums s__law_is_text s__law_is_row s__law_sum s__law_match s__law_are_right { nx := fun _ H' => Q .non H', rt := Q } (L2.start nm__law_accepts vs) H) :
    OkA P w K mg base 5 (He.ga K "_law_accepts") ["_law_words_here", "_law_value"] sp := by
  obtain ⟨fd, F⟩ := fun__law_accepts hd
  refine ok_mk F sc__law_accepts (F.bindsN fun _ _ _ _ _ _ us hl => match us, hl with | [_, _], _ => rfl) len rd fun cdv A outer s H E hr => ?_
  have nd := (sc__law_accepts).nd
  exact (pss_cons (ps_if (PW.pt (pw_or (pt_not (pt_val (pe_callB call_isi (by rfl) (free_isinstance hd) (by decide +kernel) (pa_cons (pv 1) (pa_cons (pe_bltn (by rfl) (free_tuple hd) (by decide +kernel) rfl) pa_nil))))) (pw_or1 (pt_cmpR (r := rNe) op_ne (pe_callB call_len (by rfl) (free_len hd) (by decide +kernel) (pa_cons (pv 1) pa_nil)) pe_int (nomark _))))) (pss_one (ps_ret pe_bl)) pss_nil)
    (pss_cons (ps_asg (pv 1) (pg_tup rfl (pgs_cons (pg_name (i := 2) nd rfl (Or.inr rfl)) (pgs_cons (pg_name (i := 3) nd rfl (Or.inl rfl)) (pgs_cons (pg_name (i := 4) nd rfl (Or.inl rfl)) (pgs_cons (pg_name (i := 5) nd rfl (Or.inl rfl)) (pgs_cons (pg_name (i := 6) nd rfl (Or.inl rfl)) pgs_nil)))))))
    (pss_cons (ps_if (PW.pt (pw_or (pt_not (pt_val (pe_callB call_isi (by rfl) (free_isinstance hd) (by decide +kernel) (pa_cons (pv 2) (pa_cons (pe_bltn (by rfl) (free_tuple hd) (by decide +kernel) rfl) pa_nil))))) (pw_or (pt_cmpR (r := rNe) op_ne (pe_callB call_len (by rfl) (free_len hd) (by decide +kernel) (pa_cons (pv 2) pa_nil)) pe_int (nomark _)) (pw_or1 (pt_not (pt_val (pe_okf O__law_is_integer (hr.mono (by decide)) (by rfl) (glo__law_is_integer hd) (pa_cons (pv 3) pa_nil)))))))) (pss_one (ps_ret pe_bl)) pss_nil)
    (pss_cons (ps_if (PW.pt (pw_or (pt_not (pt_val (pe_okf O__law_is_integer (hr.mono (by decide)) (by rfl) (glo__law_is_integer hd) (pa_cons (pe_ix (r := (rIxT K)) ix_tup (pv 2) pe_int (fun _ _ => rfl)) pa_nil)))) (pw_or (pt_not (pt_val (pe_okf O__law_is_integer (hr.mono (by decide)) (by rfl) (glo__law_is_integer hd) (pa_cons (pe_ix (r := (rIxT K)) ix_tup (pv 2) pe_int (fun _ _ => rfl)) pa_nil)))) (pw_or (pt_cmpR (r := (rI0 fun i j => .bl (decide (i < j)))) op_lt (pe_ix (r := (rIxT K)) ix_tup (pv 2) pe_int (fun _ _ => rfl)) pe_int (nomark _)) (pw_or1 (pt_cmpR (r := (rI0 fun i j => .bl (decide (i < j)))) op_lt (pe_ix (r := (rIxT K)) ix_tup (pv 2) pe_int (fun _ _ => rfl)) pe_int (nomark _))))))) (pss_one (ps_ret pe_bl)) pss_nil)
    (pss_cons (ps_if (PW.pt (pw_or (PW.pt (pw_and (pt_cmpR (r := rEq) op_eq (pe_ix (r := (rIxT K)) ix_tup (pv 2) pe_int (fun _ _ => rfl)) pe_int (nomark _)) (pw_and1 (pt_cmpR (r := (rI0 fun i j => .bl (decide (j < i)))) op_gt (pe_ix (r := (rIxT K)) ix_tup (pv 2) pe_int (fun _ _ => rfl)) pe_int (nomark _))))) (pw_or1 (pt_cmpR (r := (rI0 fun i j => .bl (decide (j < i)))) op_gt (pe_ix (r := (rIxT K)) ix_tup (pv 2) pe_int (fun _ _ => rfl)) pe_int (nomark _))))) (pss_one (ps_ret pe_bl)) pss_nil)
    (pss_cons (ps_if (pt_val (pe_callB (cr_any rfl) (by rfl) (free_any hd) (by decide +kernel) (pa_cons (pe_lc (own := [("_law_k", 9)]) (g := (gName 9)) (tt := tYes) rfl nd (pi_range2 rfl (free_range hd) (pa_cons pe_int (pa_cons (pe_op (r := (rI0 fun i j => .int (i + j))) op_add (pe_ix (r := (rIxT K)) ix_tup (pv 2) pe_int (fun _ _ => rfl)) pe_int) pa_nil))) (blkOk_by (own := [("_law_k", 9)]) (N := nm__law_accepts) (sc := defScope st__law_accepts) (by decide +kernel)) (fun _ _ _ _ _ => (pg_name (i := 9) nd rfl (Or.inl rfl))) (fun _ _ _ _ _ => pts_nil) (fun _ _ _ _ _ => (pe_and (pe_cmpR (r := rEq) op_eq (pe_op (r := (rI (fun _ j => 0 < j) fun i j => .int (i % j))) op_mod (pe_callTy call_int1 (by rfl) (free_int hd) (by decide +kernel) (pa_cons (pe_ix (r := (rIxT K)) ix_tup (pv 2) pe_int (fun _ _ => rfl)) pa_nil)) (pv 9)) pe_int (nomark _)) (pe_one (pe_cmpR (r := rEq) op_eq (pe_op (r := (rI (fun _ j => 0 < j) fun i j => .int (i % j))) op_mod (pe_callTy call_int1 (by rfl) (free_int hd) (by decide +kernel) (pa_cons (pe_ix (r := (rIxT K)) ix_tup (pv 2) pe_int (fun _ _ => rfl)) pa_nil)) (pv 9)) pe_int (nomark _)))))) pa_nil))) (pss_one (ps_ret pe_bl)) pss_nil)
    (pss_cons (ps_set (i := 7) nd rfl (Or.inl rfl) (pe_okf O__law_sums (hr.mono (by decide)) (by rfl) (glo__law_sums hd) (pa_cons (pv 0) (pa_cons (pv 4) pa_nil))))
    (pss_cons (ps_if (PW.pt (pw_or (pt_cmpR (r := rIsN) op_isN1 (pv 7) pe_non (nomark _)) (pw_or1 (pt_cmpR (r := rNe) op_ne (pe_op (r := (rI CMul fun i j => .int (i * j))) op_mul (pe_ix (r := (rIxT K)) ix_tup (pv 7) pe_int (fun _ _ => rfl)) (pe_ix (r := (rIxT K)) ix_tup (pv 2) pe_int (fun _ _ => rfl))) (pe_op (r := (rI CMul fun i j => .int (i * j))) op_mul (pe_ix (r := (rIxT K)) ix_tup (pv 7) pe_int (fun _ _ => rfl)) (pe_ix (r := (rIxT K)) ix_tup (pv 2) pe_int (fun _ _ => rfl))) (nomark _))))) (pss_one (ps_ret pe_bl)) pss_nil)
    (pss_cons (ps_if (PW.pt (pw_or (pt_not (pt_val (pe_callB call_isi (by rfl) (free_isinstance hd) (by decide +kernel) (pa_cons (pv 5) (pa_cons (pe_bltn (by rfl) (free_tuple hd) (by decide +kernel) rfl) pa_nil))))) (pw_or (pt_cmpR (r := rNe) op_ne (pe_callB call_len (by rfl) (free_len hd) (by decide +kernel) (pa_cons (pv 5) pa_nil)) pe_int (nomark _)) (pw_or1 (pt_not (pt_val (pe_okf O__law_is_text (hr.mono (by decide)) (by rfl) (glo__law_is_text hd) (pa_cons (pv 0) (pa_cons (pe_ix (r := (rIxT K)) ix_tup (pv 5) pe_int (fun _ _ => rfl)) pa_nil))))))))) (pss_one (ps_ret pe_bl)) pss_nil)
    (pss_cons (ps_if (PW.pt (pw_or (pt_not (pt_val (pe_okf O__law_is_row (hr.mono (by decide)) (by rfl) (glo__law_is_row hd) (pa_cons (pv 0) (pa_cons (pe_ix (r := (rIxT K)) ix_tup (pv 5) pe_int (fun _ _ => rfl)) pa_nil))))) (pw_or1 (pt_cmpR (r := rNe) op_ne (pe_join pe_str (pe_ix (r := (rIxT K)) ix_tup (pv 5) pe_int (fun _ _ => rfl))) (pe_ix (r := (rIxT K)) ix_tup (pv 5) pe_int (fun _ _ => rfl)) (nomark _))))) (pss_one (ps_ret pe_bl)) pss_nil)
    (pss_cons (ps_set (i := 8) nd rfl (Or.inl rfl) (pe_okf O__law_sum (hr.mono (by decide)) (by rfl) (glo__law_sum hd) (pa_cons (pv 0) (pa_cons (pe_okf O__law_match (hr.mono (by decide)) (by rfl) (glo__law_match hd) (pa_cons (pv 0) (pa_cons (pe_ix (r := (rIxT K)) ix_tup (pv 5) pe_int (fun _ _ => rfl)) pa_nil))) pa_nil))))
    (pss_cons (ps_if (pt_cmpR (r := rNe) op_ne (pe_op (r := (rI0 fun i j => .int (i - j))) op_sub (pe_op (r := (rI CMul fun i j => .int (i * j))) op_mul (pe_ix (r := (rIxT K)) ix_tup (pv 2) pe_int (fun _ _ => rfl)) (pv 8)) (pe_op (r := (rI CMul fun i j => .int (i * j))) op_mul (pe_ix (r := (rIxT K)) ix_tup (pv 2) pe_int (fun _ _ => rfl)) (pe_okf O__law_sum (hr.mono (by decide)) (by rfl) (glo__law_sum hd) (pa_cons (pv 0) (pa_cons (pe_ix (r := (rIxT K)) ix_tup (pv 5) pe_int (fun _ _ => rfl)) pa_nil))))) (pv 3) (nomark _)) (pss_one (ps_ret pe_bl)) pss_nil)
    (pss_one (ps_ret (pe_okf O__law_are_right (hr.mono (by decide)) (by rfl) (glo__law_are_right hd) (pa_cons (pv 0) (pa_cons (pe_ix (r := (rIxT K)) ix_tup (pv 2) pe_int (fun _ _ => rfl)) (pa_cons (pe_ix (r := (rIxT K)) ix_tup (pv 2) pe_int (fun _ _ => rfl)) (pa_cons (pv 3) (pa_cons (pv 6) pa_nil))))))))))))))))))))
/-! law -/
abbrev nm_law : List Str := ["_law_script", "_law_stream_here", "_law_words_here", "_law_answer", "_law_ratio", "_law_excess", "_law_told", "_law_shown", "_law_table", "_law_text_here", "_law_cost_here"]
theorem sc_law : FnScope nm_law ["_law_script"] (defScope st_law) := ⟨rfl, rfl, rfl, by decide +kernel, rfl, by decide +kernel, by decide +kernel⟩
def t_law (K : PySem.W.Frag) (s__law_stream : Sp) (s__law_words : Sp) (s_answer_for : Sp) (s__law_accepts : Sp) (s_accepts_answer : Sp) (s__law_equal : Sp) (s_worst_excess : Sp) (s_worst_ratio : Sp) (s__law_sum : Sp) (s__law_least : Sp) (s__law_all_texts : Sp) (s__law_match : Sp) : TS := (tSeq (tAsg (tCall s__law_stream [] E0 (tCons (tVar 0) tNil)) (gName 1))
  (tSeq (tAsg (tCall s__law_words [] E0 (tCons (tVar 1) tNil)) (gName 2))
  (tSeq (tAsg (tCall s_answer_for [] E0 (tCons (tVar 2) tNil)) (gName 3))
  (tSeq (tIfS (tOr (tNot (tB (tCall s__law_accepts [] E0 (tCons (tVar 2) (tCons (tVar 3) tNil))))) (tTest (tOp rNotB (tCall s_accepts_answer [] E0 (tCons (tVar 2) (tCons (tVar 3) tNil))) (tC (.bl true))))) (tRet (tC (.bl false))) tNext)
  (tSeq (tAsg (tVar 3) (gTup K 5 (gCons (gName 4) (gCons (gName 5) (gCons (gName 6) (gCons (gName 7) (gCons (gName 8) gNil)))))))
  (tSeq (tIfS (tNot (tB (tCall s__law_equal [] E0 (tCons (tLst (tCons (tCall s_worst_ratio [] E0 (tCons (tVar 2) tNil)) (tCons (tCall s_worst_excess [] E0 (tCons (tVar 2) tNil)) tNil))) (tCons (tLst (tCons (tVar 4) (tCons (tVar 5) tNil))) tNil))))) (tRet (tC (.bl false))) tNext)
  (tSeq (tIfS (tTest (tOp rNe (tCall s__law_sum [] E0 (tCons (tVar 2) (tCons (tOp (rIxT K) (tVar 7) (tC (.int 1))) tNil))) (tCall s__law_least [] E0 (tCons (tVar 2) (tCons (tOp (rIxT K) (tVar 7) (tC (.int 0))) tNil))))) (tRet (tC (.bl false))) tNext)
  (tSeq (tFor (iList K (tCall s__law_all_texts [] E0 (tCons (tVar 2) (tCons (tC (.int 3)) tNil)))) (gName 9)
    (tSeq (tAsg (tCall s__law_sum [] E0 (tCons (tVar 2) (tCons (tCall s__law_match [] E0 (tCons (tVar 2) (tCons (tVar 9) tNil))) tNil))) (gName 10))
  (tIfS (tTest (tOp (rI0 fun i j => .bl (decide (j < i))) (tOp (rI CMul fun i j => .int (i * j)) (tOp (rIxT K) (tVar 4) (tC (.int 1))) (tVar 10)) (tOp (rI0 fun i j => .int (i + j)) (tOp (rI CMul fun i j => .int (i * j)) (tOp (rIxT K) (tVar 4) (tC (.int 0))) (tCall s__law_least [] E0 (tCons (tVar 2) (tCons (tVar 9) tNil)))) (tVar 5)))) (tRet (tC (.bl false))) tNext)))
  (tRet (tC (.bl true)))))))))))
theorem ok_law {s__law_stream s__law_words s_answer_for s__law_accepts s_accepts_answer s__law_equal s_worst_excess s_worst_ratio s__law_sum s__law_least s__law_all_texts s__law_match : Sp} {sp : Sp} (hd : Hd K mg) (O__law_stream : OkA P w K mg base 1 (He.ga K "_law_stream") ["_law_script"] s__law_stream) (O__law_words : OkA P w K mg base 3 (He.ga K "_law_words") ["_law_stream_here"] s__law_words) (O_answer_for : OkA P w K mg base 11 (He.ga K "answer_for") ["words"] s_answer_for) (O__law_accepts : OkA P w K mg base 5 (He.ga K "_law_accepts") ["_law_words_here", "_law_value"] s__law_accepts) (O_accepts_answer : OkA P w K mg base 8 (He.ga K "accepts_answer") ["words", "value"] s_accepts_answer) (O__law_equal : OkA P w K mg base 2 (He.ga K "_law_equal") ["_law_actual", "_law_due"] s__law_equal) (O_worst_excess : OkA P w K mg base 10 (He.ga K "worst_excess") ["words"] s_worst_excess) (O_worst_ratio : OkA P w K mg base 10 (He.ga K "worst_ratio") ["words"] s_worst_ratio) (O__law_sum : OkA P w K mg base 1 (He.ga K "_law_sum") ["_law_words_here", "_law_row"] s__law_sum) (O__law_least : OkA P w K mg base 1 (He.ga K "_law_least") ["_law_words_here", "_law_text_here"] s__law_least) (O__law_all_texts : OkA P w K mg base 2 (He.ga K "_law_all_texts") ["_law_words_here", "_law_most"] s__law_all_texts) (O__law_match : OkA P w K mg base 1 (He.ga K "_law_match") ["_law_words_here", "_law_text_here"] s__law_match) (len : ∀ vs H Q E, sp vs H Q E → vs.length = 1) (rd : ∀ vs H Q E, sp vs H Q E → t_law K s__law_stream s__law_words s_answer_for s__law_accepts s_accepts_answer s__law_equal s_worst_excess s_worst_ratio s__law_sum s__law_least s__law_all_texts s__law_match { nx := fun _ H' => Q .non H', rt := Q } (L2.start nm_law vs) H) :
    OkA P w K mg base 12 (He.ga K "law") ["_law_script"] sp := by
  obtain ⟨fd, F⟩ := fun_law hd
  refine ok_mk F sc_law (F.bindsN fun _ _ _ _ _ _ us hl => match us, hl with | [_], _ => rfl) len rd fun cdv A outer s H E hr => ?_
  have nd := (sc_law).nd
  exact (pss_cons (ps_set (i := 1) nd rfl (Or.inl rfl) (pe_okf O__law_stream (hr.mono (by decide)) (by rfl) (glo__law_stream hd) (pa_cons (pv 0) pa_nil)))
    (pss_cons (ps_set (i := 2) nd rfl (Or.inl rfl) (pe_okf O__law_words (hr.mono (by decide)) (by rfl) (glo__law_words hd) (pa_cons (pv 1) pa_nil)))
    (pss_cons (ps_set (i := 3) nd rfl (Or.inl rfl) (pe_okf O_answer_for (hr.mono (by decide)) (by rfl) (glo_answer_for hd) (pa_cons (pv 2) pa_nil)))
    (pss_cons (ps_if (PW.pt (pw_or (pt_not (pt_val (pe_okf O__law_accepts (hr.mono (by decide)) (by rfl) (glo__law_accepts hd) (pa_cons (pv 2) (pa_cons (pv 3) pa_nil))))) (pw_or1 (pt_cmpR (r := rNotB) op_notBl (pe_okf O_accepts_answer (hr.mono (by decide)) (by rfl) (glo_accepts_answer hd) (pa_cons (pv 2) (pa_cons (pv 3) pa_nil))) pe_bl (nomark _))))) (pss_one (ps_ret pe_bl)) pss_nil)
    (pss_cons (ps_asg (pv 3) (pg_tup rfl (pgs_cons (pg_name (i := 4) nd rfl (Or.inl rfl)) (pgs_cons (pg_name (i := 5) nd rfl (Or.inl rfl)) (pgs_cons (pg_name (i := 6) nd rfl (Or.inl rfl)) (pgs_cons (pg_name (i := 7) nd rfl (Or.inl rfl)) (pgs_cons (pg_name (i := 8) nd rfl (Or.inl rfl)) pgs_nil)))))))
    (pss_cons (ps_if (pt_not (pt_val (pe_okf O__law_equal (hr.mono (by decide)) (by rfl) (glo__law_equal hd) (pa_cons (pe_lst (pa_cons (pe_okf O_worst_ratio (hr.mono (by decide)) (by rfl) (glo_worst_ratio hd) (pa_cons (pv 2) pa_nil)) (pa_cons (pe_okf O_worst_excess (hr.mono (by decide)) (by rfl) (glo_worst_excess hd) (pa_cons (pv 2) pa_nil)) pa_nil))) (pa_cons (pe_lst (pa_cons (pv 4) (pa_cons (pv 5) pa_nil))) pa_nil))))) (pss_one (ps_ret pe_bl)) pss_nil)
    (pss_cons (ps_if (pt_cmpR (r := rNe) op_ne (pe_okf O__law_sum (hr.mono (by decide)) (by rfl) (glo__law_sum hd) (pa_cons (pv 2) (pa_cons (pe_ix (r := (rIxT K)) ix_tup (pv 7) pe_int (fun _ _ => rfl)) pa_nil))) (pe_okf O__law_least (hr.mono (by decide)) (by rfl) (glo__law_least hd) (pa_cons (pv 2) (pa_cons (pe_ix (r := (rIxT K)) ix_tup (pv 7) pe_int (fun _ _ => rfl)) pa_nil))) (nomark _)) (pss_one (ps_ret pe_bl)) pss_nil)
    (pss_cons (ps_for PassesOwn.never rfl (pi_list (pe_okf O__law_all_texts (hr.mono (by decide)) (by rfl) (glo__law_all_texts hd) (pa_cons (pv 2) (pa_cons pe_int pa_nil)))) (pg_name (i := 9) nd rfl (Or.inl rfl))
      (pss_cons (ps_set (i := 10) nd rfl (Or.inl rfl) (pe_okf O__law_sum (hr.mono (by decide)) (by rfl) (glo__law_sum hd) (pa_cons (pv 2) (pa_cons (pe_okf O__law_match (hr.mono (by decide)) (by rfl) (glo__law_match hd) (pa_cons (pv 2) (pa_cons (pv 9) pa_nil))) pa_nil))))
    (pss_one (ps_if (pt_cmpR (r := (rI0 fun i j => .bl (decide (j < i)))) op_gt (pe_op (r := (rI CMul fun i j => .int (i * j))) op_mul (pe_ix (r := (rIxT K)) ix_tup (pv 4) pe_int (fun _ _ => rfl)) (pv 10)) (pe_op (r := (rI0 fun i j => .int (i + j))) op_add (pe_op (r := (rI CMul fun i j => .int (i * j))) op_mul (pe_ix (r := (rIxT K)) ix_tup (pv 4) pe_int (fun _ _ => rfl)) (pe_okf O__law_least (hr.mono (by decide)) (by rfl) (glo__law_least hd) (pa_cons (pv 2) (pa_cons (pv 9) pa_nil)))) (pv 5)) (nomark _)) (pss_one (ps_ret pe_bl)) pss_nil))))
    (pss_one (ps_ret pe_bl))))))))))
end
end GC

-- part DV4
set_option Elab.async false
set_option linter.all false
set_option maxRecDepth 100000
set_option maxHeartbeats 4000000
namespace GC
open PySem PySem.Spec PyProof.Rows L2
section
variable {P : Program} {w : World} {K : PySem.W.Frag} {mg : Str → Option Value} {base : Heap}

/-! Graph.__init__ -/
abbrev nm_Graph_init : List Str := ["self", "words", "place", "letter"]
theorem sc_Graph_init : FnScope nm_Graph_init ["self", "words"] (defScope st_Graph___init__) := ⟨rfl, rfl, rfl, by decide +kernel, rfl, by decide +kernel, by decide +kernel⟩
def t_Graph_init (K : PySem.W.Frag) (s_letters_in : Sp) (s_Graph_add_steps : Sp) : TS := (tSeq (sFld K (tVar 0) (tVar 1) "words")
  (tSeq (sFld K (tVar 0) (tLst (tCons (tTup (tCons (tC (.str "")) (tCons (tC (.str "")) tNil))) tNil)) "pairs")
  (tSeq (sFld K (tVar 0) (tDisp1 (tTup (tCons (tC (.str "")) (tCons (tC (.str "")) tNil))) (tC (.int 0))) "places")
  (tSeq (sFld K (tVar 0) (tLst tNil) "edges")
  (tSeq (tAsg (tC (.int 0)) (gName 2))
  (tWhile (tTest (tOp (rI0 fun i j => .bl (decide (i < j))) (tVar 2) (tCB (rLen K) (tCons (tFld K (tVar 0) "pairs") tNil))))
    (tSeq (tFor (iStr (tCall s_letters_in [] E0 (tCons (tVar 1) tNil))) (gName 3)
    (tDrop (tMeth (He.ga K "Graph") "add_steps" s_Graph_add_steps [] E0 (tVar 0) (tCons (tVar 2) (tCons (tVar 3) tNil)))))
  (tAsg (tOp (rI0 fun i j => .int (i + j)) (tVar 2) (tC (.int 1))) (gName 2)))))))))
theorem ok_Graph_init {s_letters_in s_Graph_add_steps : Sp} {sp : Sp} (hd : Hd K mg) (O_letters_in : OkA P w K mg base 1 (He.ga K "letters_in") ["words"] s_letters_in) (O_Graph_add_steps : OkA P w K mg base 6 (He.ma K (He.ga K "Graph") "add_steps") ["self", "place", "letter"] s_Graph_add_steps) (len : ∀ vs H Q E, sp vs H Q E → vs.length = 2) (rd : ∀ vs H Q E, sp vs H Q E → t_Graph_init K s_letters_in s_Graph_add_steps { nx := fun _ H' => Q .non H', rt := Q } (L2.start nm_Graph_init vs) H) :
    OkA P w K mg base 7 (He.ma K (He.ga K "Graph") "__init__") ["self", "words"] sp := by
  obtain ⟨fd, F⟩ := fun_Graph___init__ hd
  refine ok_mk F sc_Graph_init (F.bindsN fun _ _ _ _ _ _ us hl => match us, hl with | [_, _], _ => rfl) len rd fun cdv A outer s H E hr => ?_
  have nd := (sc_Graph_init).nd
  have hu := hu_of hr
  exact (pss_cons (ps_fld (pv 0) (pv 1) (by rfl))
    (pss_cons (ps_fld (pv 0) (pe_lst (pa_cons (pe_tup (pa_cons pe_str (pa_cons pe_str pa_nil))) pa_nil)) (by rfl))
    (pss_cons (ps_fld (pv 0) (pe_disp1 (pe_tup (pa_cons pe_str (pa_cons pe_str pa_nil))) pe_int hu) (by rfl))
    (pss_cons (ps_fld (pv 0) (pe_lst pa_nil) (by rfl))
    (pss_cons (ps_set (i := 2) nd rfl (Or.inl rfl) pe_int)
    (pss_one (ps_while PassesOwn.never (pt_cmpR (r := (rI0 fun i j => .bl (decide (i < j)))) op_lt (pv 2) (pe_callB call_len (by rfl) (free_len hd) (by decide +kernel) (pa_cons (pe_fld (pv 0) (by rfl)) pa_nil)) (nomark _))
      (pss_cons (ps_for PassesOwn.never rfl (pi_str (pe_okf O_letters_in (hr.mono (by decide)) (by rfl) (glo_letters_in hd) (pa_cons (pv 1) pa_nil))) (pg_name (i := 3) nd rfl (Or.inl rfl))
      (pss_one (ps_expr (pe_okm (pv 0) (cls_Graph hd) (meth_Graph_add_steps hd) O_Graph_add_steps (hr.mono (by decide)) (pa_cons (pv 2) (pa_cons (pv 3) pa_nil))))))
    (pss_one (ps_set (i := 2) nd rfl (Or.inl rfl) (pe_op (r := (rI0 fun i j => .int (i + j))) op_add (pv 2) pe_int)))))))))))
/-! is_table -/
abbrev nm_is_table : List Str := ["value", "one", "at"]
theorem sc_is_table : FnScope nm_is_table ["value"] (defScope st_is_table) := ⟨rfl, rfl, rfl, by decide +kernel, rfl, by decide +kernel, by decide +kernel⟩
def t_is_table (K : PySem.W.Frag) (s_is_triple : Sp) : TS := (tSeq (tIfS (tOr (tNot (tB (tCB (rIsi K) (tCons (tVar 0) (tCons (tC (.ty "tuple")) tNil))))) (tNot (tB (tCB (rAll K) (tCons (tLc (iTup K (tVar 0)) (gName 1) tYes (tCall s_is_triple [] E0 (tCons (tVar 1) tNil)) [1]) tNil))))) (tRet (tC (.bl false))) tNext)
  (tRet (tCB (rAll K) (tCons (tLc (iRng1 (tCons (tOp (rI0 fun i j => .int (i - j)) (tCB (rLen K) (tCons (tVar 0) tNil)) (tC (.int 1))) tNil)) (gName 2) tYes (tOp (rLtD K) (tSl (rSlT K) (tOp (rIxT K) (tVar 0) (tVar 2)) tNoPart (tPart (tC (.int 2)))) (tSl (rSlT K) (tOp (rIxT K) (tVar 0) (tOp (rI0 fun i j => .int (i + j)) (tVar 2) (tC (.int 1)))) tNoPart (tPart (tC (.int 2))))) [2]) tNil))))
theorem ok_is_table {s_is_triple : Sp} {sp : Sp} (hd : Hd K mg) (O_is_triple : OkA P w K mg base 2 (He.ga K "is_triple") ["value"] s_is_triple) (len : ∀ vs H Q E, sp vs H Q E → vs.length = 1) (rd : ∀ vs H Q E, sp vs H Q E → t_is_table K s_is_triple { nx := fun _ H' => Q .non H', rt := Q } (L2.start nm_is_table vs) H) :
    OkA P w K mg base 3 (He.ga K "is_table") ["value"] sp := by
  obtain ⟨fd, F⟩ := fun_is_table hd
  refine ok_mk F sc_is_table (F.bindsN fun _ _ _ _ _ _ us hl => match us, hl with | [_], _ => rfl) len rd fun cdv A outer s H E hr => ?_
  have nd := (sc_is_table).nd
  have hu64 := hu64_of hr
  exact (pss_cons (ps_if (PW.pt (pw_or (pt_not (pt_val (pe_callB call_isi (by rfl) (free_isinstance hd) (by decide +kernel) (pa_cons (pv 0) (pa_cons (pe_bltn (by rfl) (free_tuple hd) (by decide +kernel) rfl) pa_nil))))) (pw_or1 (pt_not (pt_val (pe_callB (cr_all rfl) (by rfl) (free_all hd) (by decide +kernel) (pa_cons (pe_lc (own := [("one", 1)]) (g := (gName 1)) (tt := tYes) rfl nd (pi_tup (pv 0)) (blkOk_by (own := [("one", 1)]) (N := nm_is_table) (sc := defScope st_is_table) (by decide +kernel)) (fun _ _ _ _ _ => (pg_name (i := 1) nd rfl (Or.inl rfl))) (fun _ _ _ _ _ => pts_nil) (fun _ _ _ _ _ => (pe_okf O_is_triple (hr.mono (by decide)) (by rfl) (glo_is_triple hd) (pa_cons (pv 1) pa_nil)))) pa_nil))))))) (pss_one (ps_ret pe_bl)) pss_nil)
    (pss_one (ps_ret (pe_callB (cr_all rfl) (by rfl) (free_all hd) (by decide +kernel) (pa_cons (pe_lc (own := [("at", 2)]) (g := (gName 2)) (tt := tYes) rfl nd (pi_range1 rfl (free_range hd) (pa_cons (pe_op (r := (rI0 fun i j => .int (i - j))) op_sub (pe_callB call_len (by rfl) (free_len hd) (by decide +kernel) (pa_cons (pv 0) pa_nil)) pe_int) pa_nil)) (blkOk_by (own := [("at", 2)]) (N := nm_is_table) (sc := defScope st_is_table) (by decide +kernel)) (fun _ _ _ _ _ => (pg_name (i := 2) nd rfl (Or.inl rfl))) (fun _ _ _ _ _ => pts_nil) (fun _ _ _ _ _ => (pe_cmpR (r := (rLtD K)) (op_ltD hu64) (pe_slice (r := (rSlT K)) sl_tup (pe_ix (r := (rIxT K)) ix_tup (pv 0) (pv 2) (fun _ _ => rfl)) po_none (po_some pe_int)) (pe_slice (r := (rSlT K)) sl_tup (pe_ix (r := (rIxT K)) ix_tup (pv 0) (pe_op (r := (rI0 fun i j => .int (i + j))) op_add (pv 2) pe_int) (fun _ _ => rfl)) po_none (po_some pe_int)) (nomark _)))) pa_nil)))))
/-! fit -/
abbrev nm_fit : List Str := ["words", "a", "b", "c", "value", "table", "one", "held", "tail", "number"]
theorem sc_fit : FnScope nm_fit ["words", "a", "b", "c", "value"] (defScope st_fit) := ⟨rfl, rfl, rfl, by decide +kernel, rfl, by decide +kernel, by decide +kernel⟩
def t_fit (K : PySem.W.Frag) (s_is_table : Sp) (s_is_over : Sp) (s_ends_well : Sp) (s_goes_well : Sp) : TS := (tSeq (tIfS (tOr (tNot (tB (tCall s_is_table [] E0 (tCons (tVar 4) tNil)))) (tNot (tB (tCB (rAll K) (tCons (tLc (iTup K (tVar 4)) (gName 6) tYes (tCall s_is_over [] E0 (tCons (tVar 0) (tCons (tOp rCatS (tOp (rIxT K) (tVar 6) (tC (.int 0))) (tOp (rIxT K) (tVar 6) (tC (.int 1)))) tNil))) [6]) tNil))))) (tRet (tC (.bl false))) tNext)
  (tSeq (tAsg (tDcT (iTup K (tVar 4)) (gTup K 3 (gCons (gName 7) (gCons (gName 8) (gCons (gName 9) gNil)))) tYes (tTup (tCons (tVar 7) (tCons (tVar 8) tNil))) (tVar 9) [7, 8, 9]) (gName 5))
  (tSeq (tIfS (tTest (tOp (rI0 fun i j => .bl (decide (i < j))) (tDGet2 (tVar 5) (tTup (tCons (tC (.str "")) (tCons (tC (.str "")) tNil))) (tUn (rU fun i => .int (-i)) (tC (.int 1)))) (tC (.int 0)))) (tRet (tC (.bl false))) tNext)
  (tRet (tCB (rAll K) (tCons (tLc (iTup K (tVar 4)) (gName 6) tYes (tAndV (tCall s_ends_well [] E0 (tCons (tVar 0) (tCons (tVar 2) (tCons (tVar 3) (tCons (tVar 6) tNil))))) (tCall s_goes_well [] E0 (tCons (tVar 0) (tCons (tVar 1) (tCons (tVar 2) (tCons (tVar 5) (tCons (tVar 6) tNil))))))) [6]) tNil))))))
theorem ok_fit {s_is_table s_is_over s_ends_well s_goes_well : Sp} {sp : Sp} (hd : Hd K mg) (O_is_table : OkA P w K mg base 3 (He.ga K "is_table") ["value"] s_is_table) (O_is_over : OkA P w K mg base 2 (He.ga K "is_over") ["words", "text"] s_is_over) (O_ends_well : OkA P w K mg base 5 (He.ga K "ends_well") ["words", "b", "c", "triple"] s_ends_well) (O_goes_well : OkA P w K mg base 6 (He.ga K "goes_well") ["words", "a", "b", "table", "triple"] s_goes_well) (len : ∀ vs H Q E, sp vs H Q E → vs.length = 5) (rd : ∀ vs H Q E, sp vs H Q E → t_fit K s_is_table s_is_over s_ends_well s_goes_well { nx := fun _ H' => Q .non H', rt := Q } (L2.start nm_fit vs) H) :
    OkA P w K mg base 7 (He.ga K "fit") ["words", "a", "b", "c", "value"] sp := by
  obtain ⟨fd, F⟩ := fun_fit hd
  refine ok_mk F sc_fit (F.bindsN fun _ _ _ _ _ _ us hl => match us, hl with | [_, _, _, _, _], _ => rfl) len rd fun cdv A outer s H E hr => ?_
  have nd := (sc_fit).nd
  have hu := hu_of hr
  exact (pss_cons (ps_if (PW.pt (pw_or (pt_not (pt_val (pe_okf O_is_table (hr.mono (by decide)) (by rfl) (glo_is_table hd) (pa_cons (pv 4) pa_nil)))) (pw_or1 (pt_not (pt_val (pe_callB (cr_all rfl) (by rfl) (free_all hd) (by decide +kernel) (pa_cons (pe_lc (own := [("one", 6)]) (g := (gName 6)) (tt := tYes) rfl nd (pi_tup (pv 4)) (blkOk_by (own := [("one", 6)]) (N := nm_fit) (sc := defScope st_fit) (by decide +kernel)) (fun _ _ _ _ _ => (pg_name (i := 6) nd rfl (Or.inl rfl))) (fun _ _ _ _ _ => pts_nil) (fun _ _ _ _ _ => (pe_okf O_is_over (hr.mono (by decide)) (by rfl) (glo_is_over hd) (pa_cons (pv 0) (pa_cons (pe_op (r := rCatS) op_add_str (pe_ix (r := (rIxT K)) ix_tup (pv 6) pe_int (fun _ _ => rfl)) (pe_ix (r := (rIxT K)) ix_tup (pv 6) pe_int (fun _ _ => rfl))) pa_nil))))) pa_nil))))))) (pss_one (ps_ret pe_bl)) pss_nil)
    (pss_cons (ps_set (i := 5) nd rfl (Or.inr rfl) (pe_dcT (own := [("held", 7), ("tail", 8), ("number", 9)]) (g := (gTup K 3 (gCons (gName 7) (gCons (gName 8) (gCons (gName 9) gNil))))) (tt := tYes) rfl nd (pi_tup (pv 4)) (blkOk_by (own := [("held", 7), ("tail", 8), ("number", 9)]) (N := nm_fit) (sc := defScope st_fit) (by decide +kernel)) (fun _ _ _ _ _ => (pg_tup rfl (pgs_cons (pg_name (i := 7) nd rfl (Or.inl rfl)) (pgs_cons (pg_name (i := 8) nd rfl (Or.inl rfl)) (pgs_cons (pg_name (i := 9) nd rfl (Or.inl rfl)) pgs_nil))))) (fun _ _ _ _ _ => pts_nil) (fun _ _ _ _ _ => (pe_tup (pa_cons (pv 7) (pa_cons (pv 8) pa_nil)))) (fun _ _ _ _ _ => (pv 9)) hu))
    (pss_cons (ps_if (pt_cmpR (r := (rI0 fun i j => .bl (decide (i < j)))) op_lt (pe_dget2 hu (pv 5) (pe_tup (pa_cons pe_str (pa_cons pe_str pa_nil))) (pe_un un_neg pe_int) ⟨by rfl, by rfl, by rfl, by rfl⟩) pe_int (nomark _)) (pss_one (ps_ret pe_bl)) pss_nil)
    (pss_one (ps_ret (pe_callB (cr_all rfl) (by rfl) (free_all hd) (by decide +kernel) (pa_cons (pe_lc (own := [("one", 6)]) (g := (gName 6)) (tt := tYes) rfl nd (pi_tup (pv 4)) (blkOk_by (own := [("one", 6)]) (N := nm_fit) (sc := defScope st_fit) (by decide +kernel)) (fun _ _ _ _ _ => (pg_name (i := 6) nd rfl (Or.inl rfl))) (fun _ _ _ _ _ => pts_nil) (fun _ _ _ _ _ => (pe_and (pe_okf O_ends_well (hr.mono (by decide)) (by rfl) (glo_ends_well hd) (pa_cons (pv 0) (pa_cons (pv 2) (pa_cons (pv 3) (pa_cons (pv 6) pa_nil))))) (pe_one (pe_okf O_goes_well (hr.mono (by decide)) (by rfl) (glo_goes_well hd) (pa_cons (pv 0) (pa_cons (pv 1) (pa_cons (pv 2) (pa_cons (pv 5) (pa_cons (pv 6) pa_nil)))))))))) pa_nil)))))))
/-! answer_of -/
abbrev nm_answer_of : List Str := ["words", "graph", "ratio", "climb", "circle", "first", "tail", "cycle", "row", "before", "excess", "place", "shown", "table", "pair", "height"]
theorem sc_answer_of : FnScope nm_answer_of ["words"] (defScope st_answer_of) := ⟨rfl, rfl, rfl, by decide +kernel, rfl, by decide +kernel, by decide +kernel⟩
def t_answer_of (K : PySem.W.Frag) (s_settle : Sp) (s_tight_circle : Sp) (s_told_by : Sp) (s_way_to : Sp) (s_excess_of : Sp) : TS := (tSeq (tAsg (tCall s_settle [] E0 (tCons (tVar 0) tNil)) (gTup K 3 (gCons (gName 1) (gCons (gName 2) (gCons (gName 3) gNil)))))
  (tSeq (tAsg (tCall s_tight_circle [] E0 (tCons (tVar 1) (tCons (tVar 3) tNil))) (gName 4))
  (tSeq (tAsg (tOp (rIxT K) (tOp (rIxL K) (tVar 4) (tC (.int 0))) (tC (.int 0))) (gName 5))
  (tSeq (tAsg (tOp (rIxT K) (tOp (rIxL K) (tFld K (tVar 1) "pairs") (tVar 5)) (tC (.int 1))) (gName 6))
  (tSeq (tAsg (tCall s_told_by [] E0 (tCons (tVar 1) (tCons (tVar 4) (tCons (tVar 6) tNil)))) (gTup K 2 (gCons (gName 7) (gCons (gName 8) gNil))))
  (tSeq (tAsg (tOp (rIxT K) (tCall s_told_by [] E0 (tCons (tVar 1) (tCons (tCall s_way_to [] E0 (tCons (tVar 1) (tCons (tVar 3) (tCons (tVar 5) tNil)))) (tCons (tC (.str "")) tNil)))) (tC (.int 0))) (gName 9))
  (tSeq (tAsg (tCall s_excess_of [] E0 (tCons (tVar 0) (tCons (tVar 1) (tCons (tVar 2) (tCons (tVar 3) tNil))))) (gTup K 2 (gCons (gName 10) (gCons (gName 11) gNil))))
  (tSeq (tAsg (tIf (tOr (tTest (tOp (rI0 fun i j => .bl (decide (j < i))) (tVar 11) (tC (.int 0)))) (tTest (tOp (rI0 fun i j => .bl (decide (j < i))) (tVar 10) (tC (.int 0))))) (tCall s_told_by [] E0 (tCons (tVar 1) (tCons (tCall s_way_to [] E0 (tCons (tVar 1) (tCons (tVar 3) (tCons (tVar 11) tNil)))) (tCons (tC (.str "")) tNil)))) (tTup (tCons (tC (.str "")) (tCons (tTup tNil) tNil)))) (gName 12))
  (tSeq (tAsg (tCB (rTupleOf K) (tCons (tCB (rSortedD K) (tCons (tLc (iZip K (tCons (tFld K (tVar 1) "pairs") (tCons (tFld K (tVar 3) "heights") tNil))) (gTup K 2 (gCons (gName 14) (gCons (gName 15) gNil))) tYes (tOp (rCatT K) (tVar 14) (tTup (tCons (tVar 15) tNil))) [14, 15]) tNil)) tNil)) (gName 13))
  (tRet (tTup (tCons (tVar 2) (tCons (tVar 10) (tCons (tTup (tCons (tVar 9) (tCons (tVar 7) (tCons (tVar 6) (tCons (tVar 8) tNil))))) (tCons (tVar 12) (tCons (tVar 13) tNil))))))))))))))))
theorem ok_answer_of {s_settle s_tight_circle s_told_by s_way_to s_excess_of : Sp} {sp : Sp} (hd : Hd K mg) (O_settle : OkA P w K mg base 9 (He.ga K "settle") ["words"] s_settle) (O_tight_circle : OkA P w K mg base 1 (He.ga K "tight_circle") ["graph", "climb"] s_tight_circle) (O_told_by : OkA P w K mg base 1 (He.ga K "told_by") ["graph", "steps", "tail"] s_told_by) (O_way_to : OkA P w K mg base 1 (He.ga K "way_to") ["graph", "climb", "place"] s_way_to) (O_excess_of : OkA P w K mg base 5 (He.ga K "excess_of") ["words", "graph", "ratio", "climb"] s_excess_of) (len : ∀ vs H Q E, sp vs H Q E → vs.length = 1) (rd : ∀ vs H Q E, sp vs H Q E → t_answer_of K s_settle s_tight_circle s_told_by s_way_to s_excess_of { nx := fun _ H' => Q .non H', rt := Q } (L2.start nm_answer_of vs) H) :
    OkA P w K mg base 10 (He.ga K "answer_of") ["words"] sp := by
  obtain ⟨fd, F⟩ := fun_answer_of hd
  refine ok_mk F sc_answer_of (F.bindsN fun _ _ _ _ _ _ us hl => match us, hl with | [_], _ => rfl) len rd fun cdv A outer s H E hr => ?_
  have nd := (sc_answer_of).nd
  have hu64 := hu64_of hr
  exact (pss_cons (ps_asg (pe_okf O_settle (hr.mono (by decide)) (by rfl) (glo_settle hd) (pa_cons (pv 0) pa_nil)) (pg_tup rfl (pgs_cons (pg_name (i := 1) nd rfl (Or.inl rfl)) (pgs_cons (pg_name (i := 2) nd rfl (Or.inl rfl)) (pgs_cons (pg_name (i := 3) nd rfl (Or.inl rfl)) pgs_nil)))))
    (pss_cons (ps_set (i := 4) nd rfl (Or.inl rfl) (pe_okf O_tight_circle (hr.mono (by decide)) (by rfl) (glo_tight_circle hd) (pa_cons (pv 1) (pa_cons (pv 3) pa_nil))))
    (pss_cons (ps_set (i := 5) nd rfl (Or.inl rfl) (pe_ix (r := (rIxT K)) ix_tup (pe_ix (r := (rIxL K)) ix_list (pv 4) pe_int (fun _ _ => rfl)) pe_int (fun _ _ => rfl)))
    (pss_cons (ps_set (i := 6) nd rfl (Or.inl rfl) (pe_ix (r := (rIxT K)) ix_tup (pe_ix (r := (rIxL K)) ix_list (pe_fld (pv 1) (by rfl)) (pv 5) (fun _ _ => rfl)) pe_int (fun _ _ => rfl)))
    (pss_cons (ps_asg (pe_okf O_told_by (hr.mono (by decide)) (by rfl) (glo_told_by hd) (pa_cons (pv 1) (pa_cons (pv 4) (pa_cons (pv 6) pa_nil)))) (pg_tup rfl (pgs_cons (pg_name (i := 7) nd rfl (Or.inl rfl)) (pgs_cons (pg_name (i := 8) nd rfl (Or.inl rfl)) pgs_nil))))
    (pss_cons (ps_set (i := 9) nd rfl (Or.inl rfl) (pe_ix (r := (rIxT K)) ix_tup (pe_okf O_told_by (hr.mono (by decide)) (by rfl) (glo_told_by hd) (pa_cons (pv 1) (pa_cons (pe_okf O_way_to (hr.mono (by decide)) (by rfl) (glo_way_to hd) (pa_cons (pv 1) (pa_cons (pv 3) (pa_cons (pv 5) pa_nil)))) (pa_cons pe_str pa_nil)))) pe_int (fun _ _ => rfl)))
    (pss_cons (ps_asg (pe_okf O_excess_of (hr.mono (by decide)) (by rfl) (glo_excess_of hd) (pa_cons (pv 0) (pa_cons (pv 1) (pa_cons (pv 2) (pa_cons (pv 3) pa_nil))))) (pg_tup rfl (pgs_cons (pg_name (i := 10) nd rfl (Or.inl rfl)) (pgs_cons (pg_name (i := 11) nd rfl (Or.inl rfl)) pgs_nil))))
    (pss_cons (ps_set (i := 12) nd rfl (Or.inl rfl) (pe_ifExp (PW.pt (pw_or (pt_cmpR (r := (rI0 fun i j => .bl (decide (j < i)))) op_gt (pv 11) pe_int (nomark _)) (pw_or1 (pt_cmpR (r := (rI0 fun i j => .bl (decide (j < i)))) op_gt (pv 10) pe_int (nomark _))))) (pe_okf O_told_by (hr.mono (by decide)) (by rfl) (glo_told_by hd) (pa_cons (pv 1) (pa_cons (pe_okf O_way_to (hr.mono (by decide)) (by rfl) (glo_way_to hd) (pa_cons (pv 1) (pa_cons (pv 3) (pa_cons (pv 11) pa_nil)))) (pa_cons pe_str pa_nil)))) (pe_tup (pa_cons pe_str (pa_cons (pe_tup pa_nil) pa_nil)))))
    (pss_cons (ps_set (i := 13) nd rfl (Or.inl rfl) (pe_callTy call_tuple_of (by rfl) (free_tuple hd) (by decide +kernel) (pa_cons (pe_callB (cr_sortedD hu64) (by rfl) (free_sorted hd) (by decide +kernel) (pa_cons (pe_lc (own := [("pair", 14), ("height", 15)]) (g := (gTup K 2 (gCons (gName 14) (gCons (gName 15) gNil)))) (tt := tYes) rfl nd (pi_zip (by rfl) (free_zip hd) (pa_cons (pe_fld (pv 1) (by rfl)) (pa_cons (pe_fld (pv 3) (by rfl)) pa_nil))) (blkOk_by (own := [("pair", 14), ("height", 15)]) (N := nm_answer_of) (sc := defScope st_answer_of) (by decide +kernel)) (fun _ _ _ _ _ => (pg_tup rfl (pgs_cons (pg_name (i := 14) nd rfl (Or.inl rfl)) (pgs_cons (pg_name (i := 15) nd rfl (Or.inl rfl)) pgs_nil)))) (fun _ _ _ _ _ => pts_nil) (fun _ _ _ _ _ => (pe_op (r := (rCatT K)) op_catT (pv 14) (pe_tup (pa_cons (pv 15) pa_nil))))) pa_nil)) pa_nil)))
    (pss_one (ps_ret (pe_tup (pa_cons (pv 2) (pa_cons (pv 10) (pa_cons (pe_tup (pa_cons (pv 9) (pa_cons (pv 7) (pa_cons (pv 6) (pa_cons (pv 8) pa_nil))))) (pa_cons (pv 12) (pa_cons (pv 13) pa_nil)))))))))))))))))
/-! _law_words -/
abbrev nm__law_words : List Str := ["_law_stream_here", "_law_letters_here", "_law_found", "_law_letter", "_law_turn", "_law_word", "_law_k"]
theorem sc__law_words : FnScope nm__law_words ["_law_stream_here"] (defScope st__law_words) := ⟨rfl, rfl, rfl, by decide +kernel, rfl, by decide +kernel, by decide +kernel⟩
def t__law_words (K : PySem.W.Frag) (s__law_next : Sp) (s__law_cost : Sp) : TS := (tSeq (tAsg (tSl rSlS (tC (.str "abc")) tNoPart (tPart (tOp (rI0 fun i j => .int (i + j)) (tC (.int 1)) (tCall s__law_next [] E0 (tCons (tVar 0) (tCons (tC (.int 3)) tNil)))))) (gName 1))
  (tSeq (tAsg tDNewK (gName 2))
  (tSeq (tFor (iStr (tVar 1)) (gName 3)
    (sDPut (tVar 2) (tVar 3) (tCall s__law_cost [] E0 (tCons (tVar 0) tNil))))
  (tSeq (tFor (iRng1 (tCons (tCall s__law_next [] E0 (tCons (tVar 0) (tCons (tC (.int 5)) tNil))) tNil)) (gName 4)
    (tSeq (tAsg (tC (.str "")) (gName 5))
  (tSeq (tFor (iRng1 (tCons (tOp (rI0 fun i j => .int (i + j)) (tC (.int 2)) (tCall s__law_next [] E0 (tCons (tVar 0) (tCons (tC (.int 3)) tNil)))) tNil)) (gName 6)
    (tAsg (tOp rCatS (tVar 5) (tOp rIxS (tVar 1) (tCall s__law_next [] E0 (tCons (tVar 0) (tCons (tCB (rLen K) (tCons (tVar 1) tNil)) tNil))))) (gName 5)))
  (sDPut (tVar 2) (tVar 5) (tCall s__law_cost [] E0 (tCons (tVar 0) tNil))))))
  (tRet (tCB (rTupleOf K) (tCons (tCB (rSortedD K) (tCons (tLockE (tLc (iKeys (tVar 2)) (gName 5) tYes (tTup (tCons (tVar 5) (tCons (tDGet (tVar 2) (tVar 5)) tNil))) [5])) tNil)) tNil)))))))
theorem ok__law_words {s__law_next s__law_cost : Sp} {sp : Sp} (hd : Hd K mg) (O__law_next : OkA P w K mg base 1 (He.ga K "_law_next") ["_law_stream_here", "_law_many"] s__law_next) (O__law_cost : OkA P w K mg base 2 (He.ga K "_law_cost") ["_law_stream_here"] s__law_cost) (len : ∀ vs H Q E, sp vs H Q E → vs.length = 1) (rd : ∀ vs H Q E, sp vs H Q E → t__law_words K s__law_next s__law_cost { nx := fun _ H' => Q .non H', rt := Q } (L2.start nm__law_words vs) H) :
    OkA P w K mg base 3 (He.ga K "_law_words") ["_law_stream_here"] sp := by
  obtain ⟨fd, F⟩ := fun__law_words hd
  refine ok_mk F sc__law_words (F.bindsN fun _ _ _ _ _ _ us hl => match us, hl with | [_], _ => rfl) len rd fun cdv A outer s H E hr => ?_
  have nd := (sc__law_words).nd
  have hu := hu_of hr
  have hu64 := hu64_of hr
  exact (pss_cons (ps_set (i := 1) nd rfl (Or.inl rfl) (pe_slice (r := rSlS) sl_str pe_str po_none (po_some (pe_op (r := (rI0 fun i j => .int (i + j))) op_add pe_int (pe_okf O__law_next (hr.mono (by decide)) (by rfl) (glo__law_next hd) (pa_cons (pv 0) (pa_cons pe_int pa_nil)))))))
    (pss_cons (ps_set (i := 2) nd rfl (Or.inr rfl) pe_dnewK)
    (pss_cons (ps_for PassesOwn.never rfl (pi_str (pv 1)) (pg_name (i := 3) nd rfl (Or.inl rfl))
      (pss_one (ps_dput hu (pv 2) (pv 3) (pe_okf O__law_cost (hr.mono (by decide)) (by rfl) (glo__law_cost hd) (pa_cons (pv 0) pa_nil)) (by rfl))))
    (pss_cons (ps_for PassesOwn.never rfl (pi_range1 rfl (free_range hd) (pa_cons (pe_okf O__law_next (hr.mono (by decide)) (by rfl) (glo__law_next hd) (pa_cons (pv 0) (pa_cons pe_int pa_nil))) pa_nil)) (pg_name (i := 4) nd rfl (Or.inl rfl))
      (pss_cons (ps_set (i := 5) nd rfl (Or.inl rfl) pe_str)
    (pss_cons (ps_for PassesOwn.never rfl (pi_range1 rfl (free_range hd) (pa_cons (pe_op (r := (rI0 fun i j => .int (i + j))) op_add pe_int (pe_okf O__law_next (hr.mono (by decide)) (by rfl) (glo__law_next hd) (pa_cons (pv 0) (pa_cons pe_int pa_nil)))) pa_nil)) (pg_name (i := 6) nd rfl (Or.inl rfl))
      (pss_one (ps_set (i := 5) nd rfl (Or.inl rfl) (pe_op (r := rCatS) op_add_str (pv 5) (pe_ix (r := rIxS) ix_str (pv 1) (pe_okf O__law_next (hr.mono (by decide)) (by rfl) (glo__law_next hd) (pa_cons (pv 0) (pa_cons (pe_callB call_len (by rfl) (free_len hd) (by decide +kernel) (pa_cons (pv 1) pa_nil)) pa_nil))) (fun _ _ => rfl))))))
    (pss_one (ps_dput hu (pv 2) (pv 5) (pe_okf O__law_cost (hr.mono (by decide)) (by rfl) (glo__law_cost hd) (pa_cons (pv 0) pa_nil)) (by rfl))))))
    (pss_one (ps_ret (pe_callTy call_tuple_of (by rfl) (free_tuple hd) (by decide +kernel) (pa_cons (pe_callB (cr_sortedD hu64) (by rfl) (free_sorted hd) (by decide +kernel) (pa_cons (pe_lock (pe_lc (own := [("_law_word", 5)]) (g := (gName 5)) (tt := tYes) rfl nd (pi_keys (pv 2)) (blkOk_by (own := [("_law_word", 5)]) (N := nm__law_words) (sc := defScope st__law_words) (by decide +kernel)) (fun _ _ _ _ _ => (pg_name (i := 5) nd rfl (Or.inl rfl))) (fun _ _ _ _ _ => pts_nil) (fun _ _ _ _ _ => (pe_tup (pa_cons (pv 5) (pa_cons (pe_dget hu (pv 2) (pv 5) (fun _ _ => rfl)) pa_nil)))))) pa_nil)) pa_nil))))))))
/-! _law_are_right -/
abbrev nm__law_are_right : List Str := ["_law_words_here", "_law_a", "_law_b", "_law_c", "_law_table", "_law_one", "_law_numbers", "_law_held", "_law_tail", "_law_number", "_law_letter", "_law_rest_here", "_law_longer", "_law_gain", "_law_loss", "_law_k"]
theorem sc__law_are_right : FnScope nm__law_are_right ["_law_words_here", "_law_a", "_law_b", "_law_c", "_law_table"] (defScope st__law_are_right) := ⟨rfl, rfl, rfl, by decide +kernel, rfl, by decide +kernel, by decide +kernel⟩
def t__law_are_right (K : PySem.W.Frag) (s__law_is_integer : Sp) (s__law_is_text : Sp) (s__law_sum : Sp) (s__law_match : Sp) (s__law_letters : Sp) (s__law_steps : Sp) : TS := (tSeq (tIfS (tNot (tB (tCB (rIsi K) (tCons (tVar 4) (tCons (tC (.ty "tuple")) tNil))))) (tRet (tC (.bl false))) tNext)
  (tSeq (tFor (iTup K (tVar 4)) (gName 5)
    (tSeq (tIfS (tOr (tNot (tB (tCB (rIsi K) (tCons (tVar 5) (tCons (tC (.ty "tuple")) tNil))))) (tOr (tTest (tOp rNe (tCB (rLen K) (tCons (tVar 5) tNil)) (tC (.int 3)))) (tNot (tB (tCall s__law_is_integer [] E0 (tCons (tOp (rIxT K) (tVar 5) (tC (.int 2))) tNil)))))) (tRet (tC (.bl false))) tNext)
  (tIfS (tOr (tNot (tB (tCall s__law_is_text [] E0 (tCons (tVar 0) (tCons (tOp (rIxT K) (tVar 5) (tC (.int 0))) tNil))))) (tNot (tB (tCall s__law_is_text [] E0 (tCons (tVar 0) (tCons (tOp (rIxT K) (tVar 5) (tC (.int 1))) tNil)))))) (tRet (tC (.bl false))) tNext)))
  (tSeq (tIfS (tNot (tB (tCB (rAll K) (tCons (tLc (iRng1 (tCons (tOp (rI0 fun i j => .int (i - j)) (tCB (rLen K) (tCons (tVar 4) tNil)) (tC (.int 1))) tNil)) (gName 15) tYes (tOp (rLtD K) (tSl (rSlT K) (tOp (rIxT K) (tVar 4) (tVar 15)) tNoPart (tPart (tC (.int 2)))) (tSl (rSlT K) (tOp (rIxT K) (tVar 4) (tOp (rI0 fun i j => .int (i + j)) (tVar 15) (tC (.int 1)))) tNoPart (tPart (tC (.int 2))))) [15]) tNil)))) (tRet (tC (.bl false))) tNext)
  (tSeq (tAsg tDNewT (gName 6))
  (tSeq (tFor (iTup K (tVar 4)) (gTup K 3 (gCons (gName 7) (gCons (gName 8) (gCons (gName 9) gNil))))
    (sDPut (tVar 6) (tTup (tCons (tVar 7) (tCons (tVar 8) tNil))) (tVar 9)))
  (tSeq (tIfS (tOr (tB (tDNotIn (tTup (tCons (tC (.str "")) (tCons (tC (.str "")) tNil))) (tVar 6))) (tTest (tOp (rI0 fun i j => .bl (decide (i < j))) (tDGet (tVar 6) (tTup (tCons (tC (.str "")) (tCons (tC (.str "")) tNil)))) (tC (.int 0))))) (tRet (tC (.bl false))) tNext)
  (tSeq (tFor (iTup K (tVar 4)) (gTup K 3 (gCons (gName 7) (gCons (gName 8) (gCons (gName 9) gNil))))
    (tSeq (tIfS (tAnd (tTest (tOp rEq (tVar 8) (tC (.str "")))) (tTest (tOp (rI0 fun i j => .bl (decide (j < i))) (tOp (rI0 fun i j => .int (i + j)) (tVar 9) (tOp (rI CMul fun i j => .int (i * j)) (tVar 2) (tCall s__law_sum [] E0 (tCons (tVar 0) (tCons (tCall s__law_match [] E0 (tCons (tVar 0) (tCons (tVar 7) tNil))) tNil))))) (tVar 3)))) (tRet (tC (.bl false))) tNext)
  (tFor (iList K (tCall s__law_letters [] E0 (tCons (tVar 0) tNil))) (gName 10)
    (tFor (iList K (tCall s__law_steps [] E0 (tCons (tVar 0) (tCons (tVar 7) (tCons (tVar 8) (tCons (tVar 10) tNil)))))) (gTup K 4 (gCons (gName 11) (gCons (gName 12) (gCons (gName 13) (gCons (gName 14) gNil)))))
    (tIfS (tOr (tB (tDNotIn (tTup (tCons (tVar 11) (tCons (tVar 12) tNil))) (tVar 6))) (tTest (tOp (rI0 fun i j => .bl (decide (i < j))) (tDGet (tVar 6) (tTup (tCons (tVar 11) (tCons (tVar 12) tNil)))) (tOp (rI0 fun i j => .int (i - j)) (tOp (rI0 fun i j => .int (i + j)) (tVar 9) (tOp (rI CMul fun i j => .int (i * j)) (tVar 2) (tVar 13))) (tOp (rI CMul fun i j => .int (i * j)) (tVar 1) (tVar 14)))))) (tRet (tC (.bl false))) tNext)))))
  (tRet (tC (.bl true))))))))))
theorem ok__law_are_right {s__law_is_integer s__law_is_text s__law_sum s__law_match s__law_letters s__law_steps : Sp} {sp : Sp} (hd : Hd K mg) (O__law_is_integer : OkA P w K mg base 1 (He.ga K "_law_is_integer") ["_law_actual"] s__law_is_integer) (O__law_is_text : OkA P w K mg base 2 (He.ga K "_law_is_text") ["_law_words_here", "_law_text_here"] s__law_is_text) (O__law_sum : OkA P w K mg base 1 (He.ga K "_law_sum") ["_law_words_here", "_law_row"] s__law_sum) (O__law_match : OkA P w K mg base 1 (He.ga K "_law_match") ["_law_words_here", "_law_text_here"] s__law_match) (O__law_letters : OkA P w K mg base 1 (He.ga K "_law_letters") ["_law_words_here"] s__law_letters) (O__law_steps : OkA P w K mg base 3 (He.ga K "_law_steps") ["_law_words_here", "_law_held", "_law_tail", "_law_letter"] s__law_steps) (len : ∀ vs H Q E, sp vs H Q E → vs.length = 5) (rd : ∀ vs H Q E, sp vs H Q E → t__law_are_right K s__law_is_integer s__law_is_text s__law_sum s__law_match s__law_letters s__law_steps { nx := fun _ H' => Q .non H', rt := Q } (L2.start nm__law_are_right vs) H) :
    OkA P w K mg base 4 (He.ga K "_law_are_right") ["_law_words_here", "_law_a", "_law_b", "_law_c", "_law_table"] sp := by
  obtain ⟨fd, F⟩ := fun__law_are_right hd
  refine ok_mk F sc__law_are_right (F.bindsN fun _ _ _ _ _ _ us hl => match us, hl with | [_, _, _, _, _], _ => rfl) len rd fun cdv A outer s H E hr => ?_
  have nd := (sc__law_are_right).nd
  have hu := hu_of hr
  have hu64 := hu64_of hr
  exact (pss_cons (ps_if (pt_not (pt_val (pe_callB call_isi (by rfl) (free_isinstance hd) (by decide +kernel) (pa_cons (pv 4) (pa_cons (pe_bltn (by rfl) (free_tuple hd) (by decide +kernel) rfl) pa_nil))))) (pss_one (ps_ret pe_bl)) pss_nil)
    (pss_cons (ps_for PassesOwn.never rfl (pi_tup (pv 4)) (pg_name (i := 5) nd rfl (Or.inl rfl))
      (pss_cons (ps_if (PW.pt (pw_or (pt_not (pt_val (pe_callB call_isi (by rfl) (free_isinstance hd) (by decide +kernel) (pa_cons (pv 5) (pa_cons (pe_bltn (by rfl) (free_tuple hd) (by decide +kernel) rfl) pa_nil))))) (pw_or (pt_cmpR (r := rNe) op_ne (pe_callB call_len (by rfl) (free_len hd) (by decide +kernel) (pa_cons (pv 5) pa_nil)) pe_int (nomark _)) (pw_or1 (pt_not (pt_val (pe_okf O__law_is_integer (hr.mono (by decide)) (by rfl) (glo__law_is_integer hd) (pa_cons (pe_ix (r := (rIxT K)) ix_tup (pv 5) pe_int (fun _ _ => rfl)) pa_nil)))))))) (pss_one (ps_ret pe_bl)) pss_nil)
    (pss_one (ps_if (PW.pt (pw_or (pt_not (pt_val (pe_okf O__law_is_text (hr.mono (by decide)) (by rfl) (glo__law_is_text hd) (pa_cons (pv 0) (pa_cons (pe_ix (r := (rIxT K)) ix_tup (pv 5) pe_int (fun _ _ => rfl)) pa_nil))))) (pw_or1 (pt_not (pt_val (pe_okf O__law_is_text (hr.mono (by decide)) (by rfl) (glo__law_is_text hd) (pa_cons (pv 0) (pa_cons (pe_ix (r := (rIxT K)) ix_tup (pv 5) pe_int (fun _ _ => rfl)) pa_nil)))))))) (pss_one (ps_ret pe_bl)) pss_nil))))
    (pss_cons (ps_if (pt_not (pt_val (pe_callB (cr_all rfl) (by rfl) (free_all hd) (by decide +kernel) (pa_cons (pe_lc (own := [("_law_k", 15)]) (g := (gName 15)) (tt := tYes) rfl nd (pi_range1 rfl (free_range hd) (pa_cons (pe_op (r := (rI0 fun i j => .int (i - j))) op_sub (pe_callB call_len (by rfl) (free_len hd) (by decide +kernel) (pa_cons (pv 4) pa_nil)) pe_int) pa_nil)) (blkOk_by (own := [("_law_k", 15)]) (N := nm__law_are_right) (sc := defScope st__law_are_right) (by decide +kernel)) (fun _ _ _ _ _ => (pg_name (i := 15) nd rfl (Or.inl rfl))) (fun _ _ _ _ _ => pts_nil) (fun _ _ _ _ _ => (pe_cmpR (r := (rLtD K)) (op_ltD hu64) (pe_slice (r := (rSlT K)) sl_tup (pe_ix (r := (rIxT K)) ix_tup (pv 4) (pv 15) (fun _ _ => rfl)) po_none (po_some pe_int)) (pe_slice (r := (rSlT K)) sl_tup (pe_ix (r := (rIxT K)) ix_tup (pv 4) (pe_op (r := (rI0 fun i j => .int (i + j))) op_add (pv 15) pe_int) (fun _ _ => rfl)) po_none (po_some pe_int)) (nomark _)))) pa_nil)))) (pss_one (ps_ret pe_bl)) pss_nil)
    (pss_cons (ps_set (i := 6) nd rfl (Or.inl rfl) pe_dnewT)
    (pss_cons (ps_for PassesOwn.never rfl (pi_tup (pv 4)) (pg_tup rfl (pgs_cons (pg_name (i := 7) nd rfl (Or.inl rfl)) (pgs_cons (pg_name (i := 8) nd rfl (Or.inl rfl)) (pgs_cons (pg_name (i := 9) nd rfl (Or.inl rfl)) pgs_nil))))
      (pss_one (ps_dput hu (pv 6) (pe_tup (pa_cons (pv 7) (pa_cons (pv 8) pa_nil))) (pv 9) (by rfl))))
    (pss_cons (ps_if (PW.pt (pw_or (pt_cmp (pc_dnotin hu (pe_tup (pa_cons pe_str (pa_cons pe_str pa_nil))) (pv 6))) (pw_or1 (pt_cmpR (r := (rI0 fun i j => .bl (decide (i < j)))) op_lt (pe_dget hu (pv 6) (pe_tup (pa_cons pe_str (pa_cons pe_str pa_nil))) (fun _ _ => rfl)) pe_int (nomark _))))) (pss_one (ps_ret pe_bl)) pss_nil)
    (pss_cons (ps_for PassesOwn.never rfl (pi_tup (pv 4)) (pg_tup rfl (pgs_cons (pg_name (i := 7) nd rfl (Or.inl rfl)) (pgs_cons (pg_name (i := 8) nd rfl (Or.inl rfl)) (pgs_cons (pg_name (i := 9) nd rfl (Or.inl rfl)) pgs_nil))))
      (pss_cons (ps_if (PW.pt (pw_and (pt_cmpR (r := rEq) op_eq (pv 8) pe_str (nomark _)) (pw_and1 (pt_cmpR (r := (rI0 fun i j => .bl (decide (j < i)))) op_gt (pe_op (r := (rI0 fun i j => .int (i + j))) op_add (pv 9) (pe_op (r := (rI CMul fun i j => .int (i * j))) op_mul (pv 2) (pe_okf O__law_sum (hr.mono (by decide)) (by rfl) (glo__law_sum hd) (pa_cons (pv 0) (pa_cons (pe_okf O__law_match (hr.mono (by decide)) (by rfl) (glo__law_match hd) (pa_cons (pv 0) (pa_cons (pv 7) pa_nil))) pa_nil))))) (pv 3) (nomark _))))) (pss_one (ps_ret pe_bl)) pss_nil)
    (pss_one (ps_for PassesOwn.never rfl (pi_list (pe_okf O__law_letters (hr.mono (by decide)) (by rfl) (glo__law_letters hd) (pa_cons (pv 0) pa_nil))) (pg_name (i := 10) nd rfl (Or.inl rfl))
      (pss_one (ps_for PassesOwn.never rfl (pi_list (pe_okf O__law_steps (hr.mono (by decide)) (by rfl) (glo__law_steps hd) (pa_cons (pv 0) (pa_cons (pv 7) (pa_cons (pv 8) (pa_cons (pv 10) pa_nil)))))) (pg_tup rfl (pgs_cons (pg_name (i := 11) nd rfl (Or.inl rfl)) (pgs_cons (pg_name (i := 12) nd rfl (Or.inl rfl)) (pgs_cons (pg_name (i := 13) nd rfl (Or.inl rfl)) (pgs_cons (pg_name (i := 14) nd rfl (Or.inl rfl)) pgs_nil)))))
      (pss_one (ps_if (PW.pt (pw_or (pt_cmp (pc_dnotin hu (pe_tup (pa_cons (pv 11) (pa_cons (pv 12) pa_nil))) (pv 6))) (pw_or1 (pt_cmpR (r := (rI0 fun i j => .bl (decide (i < j)))) op_lt (pe_dget hu (pv 6) (pe_tup (pa_cons (pv 11) (pa_cons (pv 12) pa_nil))) (fun _ _ => rfl)) (pe_op (r := (rI0 fun i j => .int (i - j))) op_sub (pe_op (r := (rI0 fun i j => .int (i + j))) op_add (pv 9) (pe_op (r := (rI CMul fun i j => .int (i * j))) op_mul (pv 2) (pv 13))) (pe_op (r := (rI CMul fun i j => .int (i * j))) op_mul (pv 1) (pv 14))) (nomark _))))) (pss_one (ps_ret pe_bl)) pss_nil))))))))
    (pss_one (ps_ret pe_bl)))))))))
end
end GC

-- part DV5
set_option Elab.async false
set_option linter.all false
set_option maxRecDepth 100000
set_option maxHeartbeats 4000000
namespace GC
open PySem PySem.Spec PyProof.Rows L2
section
variable {P : Program} {w : World} {K : PySem.W.Frag} {mg : Str → Option Value} {base : Heap}

def t_eqT (K : PySem.W.Frag) (s__law_is_integer : Sp) (s__law_equal : Sp) : TS := (tSeq (tIfS (tTest (tOp rIsN (tVar 1) (tC .non))) (tRet (tOp rIsN (tVar 0) (tC .non))) tNext)
  (tSeq (tIfS (tB (tCB (rIsi K) (tCons (tVar 1) (tCons (tC (.ty "bool")) tNil)))) (tRet (tAndV (tCB (rIsi K) (tCons (tVar 0) (tCons (tC (.ty "bool")) tNil))) (tOp rEq (tVar 0) (tVar 1)))) tNext)
  (tSeq (tIfS (tB (tCB (rIsi K) (tCons (tVar 1) (tCons (tC (.ty "int")) tNil)))) (tRet (tAndV (tCall s__law_is_integer [] E0 (tCons (tVar 0) tNil)) (tOp rEq (tVar 0) (tVar 1)))) tNext)
  (tSeq (tIfS (tB (tCB (rIsi K) (tCons (tVar 1) (tCons (tC (.ty "str")) tNil)))) (tRet (tAndV (tCB (rIsi K) (tCons (tVar 0) (tCons (tC (.ty "str")) tNil))) (tOp rEq (tVar 0) (tVar 1)))) tNext)
  (tSeq (tIfS (tAnd (tB (tCB (rIsi K) (tCons (tVar 1) (tCons (tC (.ty "tuple")) tNil)))) (tNot (tB (tCB (rIsi K) (tCons (tVar 0) (tCons (tC (.ty "tuple")) tNil)))))) (tRet (tC (.bl false))) tNext)
  (tSeq (tIfS (tAnd (tB (tCB (rIsi K) (tCons (tVar 1) (tCons (tC (.ty "list")) tNil)))) (tNot (tB (tCB (rIsi K) (tCons (tVar 0) (tCons (tC (.ty "list")) tNil)))))) (tRet (tC (.bl false))) tNext)
  (tSeq (tIfS (tTest (tOp rNe (tCB (rLen K) (tCons (tVar 0) tNil)) (tCB (rLen K) (tCons (tVar 1) tNil)))) (tRet (tC (.bl false))) tNext)
  (tRet (tCB (rAll K) (tCons (tLc (iRng1 (tCons (tCB (rLen K) (tCons (tVar 1) tNil)) tNil)) (gName 2) tYes (tCall s__law_equal [] E0 (tCons (tOp (rIxT K) (tVar 0) (tVar 2)) (tCons (tOp (rIxT K) (tVar 1) (tVar 2)) tNil))) [2]) tNil))))))))))
theorem ok_eqT {s__law_is_integer s__law_equal : Sp} {sp : Sp} {k : Nat} (hk : 1 ≤ k) (hd : Hd K mg) (O__law_is_integer : OkA P w K mg base 1 (He.ga K "_law_is_integer") ["_law_actual"] s__law_is_integer) (O__law_equal : OkA P w K mg base k (He.ga K "_law_equal") ["_law_actual", "_law_due"] s__law_equal) (len : ∀ vs H Q E, sp vs H Q E → vs.length = 2) (rd : ∀ vs H Q E, sp vs H Q E → t_eqT K s__law_is_integer s__law_equal { nx := fun _ H' => Q .non H', rt := Q } (L2.start nm__law_equal vs) H) :
    OkA P w K mg base (k + 1) (He.ga K "_law_equal") ["_law_actual", "_law_due"] sp := by
  obtain ⟨fd, F⟩ := fun__law_equal hd
  refine ok_mk F sc__law_equal (F.bindsN fun _ _ _ _ _ _ us hl => match us, hl with | [_, _], _ => rfl) len rd fun cdv A outer s H E hr => ?_
  have nd := (sc__law_equal).nd
  exact (pss_cons (ps_if (pt_cmpR (r := rIsN) op_isN1 (pv 1) pe_non (nomark _)) (pss_one (ps_ret (pe_cmpR (r := rIsN) op_isN1 (pv 0) pe_non (nomark _)))) pss_nil)
    (pss_cons (ps_if (pt_val (pe_callB call_isi (by rfl) (free_isinstance hd) (by decide +kernel) (pa_cons (pv 1) (pa_cons (pe_bltn (by rfl) (free_bool hd) (by decide +kernel) rfl) pa_nil)))) (pss_one (ps_ret (pe_and (pe_callB call_isi (by rfl) (free_isinstance hd) (by decide +kernel) (pa_cons (pv 0) (pa_cons (pe_bltn (by rfl) (free_bool hd) (by decide +kernel) rfl) pa_nil))) (pe_one (pe_cmpR (r := rEq) op_eq (pv 0) (pv 1) (nomark _)))))) pss_nil)
    (pss_cons (ps_if (pt_val (pe_callB call_isi (by rfl) (free_isinstance hd) (by decide +kernel) (pa_cons (pv 1) (pa_cons (pe_bltn (by rfl) (free_int hd) (by decide +kernel) rfl) pa_nil)))) (pss_one (ps_ret (pe_and (pe_okf O__law_is_integer (hr.mono (by omega)) (by rfl) (glo__law_is_integer hd) (pa_cons (pv 0) pa_nil)) (pe_one (pe_cmpR (r := rEq) op_eq (pv 0) (pv 1) (nomark _)))))) pss_nil)
    (pss_cons (ps_if (pt_val (pe_callB call_isi (by rfl) (free_isinstance hd) (by decide +kernel) (pa_cons (pv 1) (pa_cons (pe_bltn (by rfl) (free_str hd) (by decide +kernel) rfl) pa_nil)))) (pss_one (ps_ret (pe_and (pe_callB call_isi (by rfl) (free_isinstance hd) (by decide +kernel) (pa_cons (pv 0) (pa_cons (pe_bltn (by rfl) (free_str hd) (by decide +kernel) rfl) pa_nil))) (pe_one (pe_cmpR (r := rEq) op_eq (pv 0) (pv 1) (nomark _)))))) pss_nil)
    (pss_cons (ps_if (PW.pt (pw_and (pt_val (pe_callB call_isi (by rfl) (free_isinstance hd) (by decide +kernel) (pa_cons (pv 1) (pa_cons (pe_bltn (by rfl) (free_tuple hd) (by decide +kernel) rfl) pa_nil)))) (pw_and1 (pt_not (pt_val (pe_callB call_isi (by rfl) (free_isinstance hd) (by decide +kernel) (pa_cons (pv 0) (pa_cons (pe_bltn (by rfl) (free_tuple hd) (by decide +kernel) rfl) pa_nil)))))))) (pss_one (ps_ret pe_bl)) pss_nil)
    (pss_cons (ps_if (PW.pt (pw_and (pt_val (pe_callB call_isi (by rfl) (free_isinstance hd) (by decide +kernel) (pa_cons (pv 1) (pa_cons (pe_bltn (by rfl) (free_list hd) (by decide +kernel) rfl) pa_nil)))) (pw_and1 (pt_not (pt_val (pe_callB call_isi (by rfl) (free_isinstance hd) (by decide +kernel) (pa_cons (pv 0) (pa_cons (pe_bltn (by rfl) (free_list hd) (by decide +kernel) rfl) pa_nil)))))))) (pss_one (ps_ret pe_bl)) pss_nil)
    (pss_cons (ps_if (pt_cmpR (r := rNe) op_ne (pe_callB call_len (by rfl) (free_len hd) (by decide +kernel) (pa_cons (pv 0) pa_nil)) (pe_callB call_len (by rfl) (free_len hd) (by decide +kernel) (pa_cons (pv 1) pa_nil)) (nomark _)) (pss_one (ps_ret pe_bl)) pss_nil)
    (pss_one (ps_ret (pe_callB (cr_all rfl) (by rfl) (free_all hd) (by decide +kernel) (pa_cons (pe_lc (own := [("_law_at", 2)]) (g := (gName 2)) (tt := tYes) rfl nd (pi_range1 rfl (free_range hd) (pa_cons (pe_callB call_len (by rfl) (free_len hd) (by decide +kernel) (pa_cons (pv 1) pa_nil)) pa_nil)) (blkOk_by (own := [("_law_at", 2)]) (N := nm__law_equal) (sc := defScope st__law_equal) (by decide +kernel)) (fun _ _ _ _ _ => (pg_name (i := 2) nd rfl (Or.inl rfl))) (fun _ _ _ _ _ => pts_nil) (fun _ _ _ _ _ => (pe_okf O__law_equal (hr.mono (by omega)) (by rfl) (glo__law_equal hd) (pa_cons (pe_ix (r := (rIxT K)) ix_tup (pv 0) (pv 2) (fun _ _ => rfl)) (pa_cons (pe_ix (r := (rIxT K)) ix_tup (pv 1) (pv 2) (fun _ _ => rfl)) pa_nil))))) pa_nil)))))))))))
theorem ok_eqL {s__law_is_integer s__law_equal : Sp} {sp : Sp} {k : Nat} (hk : 1 ≤ k) (hd : Hd K mg) (O__law_is_integer : OkA P w K mg base 1 (He.ga K "_law_is_integer") ["_law_actual"] s__law_is_integer) (O__law_equal : OkA P w K mg base k (He.ga K "_law_equal") ["_law_actual", "_law_due"] s__law_equal) (len : ∀ vs H Q E, sp vs H Q E → vs.length = 2) (rd : ∀ vs H Q E, sp vs H Q E → t__law_equal K s__law_is_integer s__law_equal { nx := fun _ H' => Q .non H', rt := Q } (L2.start nm__law_equal vs) H) :
    OkA P w K mg base (k + 1) (He.ga K "_law_equal") ["_law_actual", "_law_due"] sp := by
  obtain ⟨fd, F⟩ := fun__law_equal hd
  refine ok_mk F sc__law_equal (F.bindsN fun _ _ _ _ _ _ us hl => match us, hl with | [_, _], _ => rfl) len rd fun cdv A outer s H E hr => ?_
  have nd := (sc__law_equal).nd
  exact (pss_cons (ps_if (pt_cmpR (r := rIsN) op_isN1 (pv 1) pe_non (nomark _)) (pss_one (ps_ret (pe_cmpR (r := rIsN) op_isN1 (pv 0) pe_non (nomark _)))) pss_nil)
    (pss_cons (ps_if (pt_val (pe_callB call_isi (by rfl) (free_isinstance hd) (by decide +kernel) (pa_cons (pv 1) (pa_cons (pe_bltn (by rfl) (free_bool hd) (by decide +kernel) rfl) pa_nil)))) (pss_one (ps_ret (pe_and (pe_callB call_isi (by rfl) (free_isinstance hd) (by decide +kernel) (pa_cons (pv 0) (pa_cons (pe_bltn (by rfl) (free_bool hd) (by decide +kernel) rfl) pa_nil))) (pe_one (pe_cmpR (r := rEq) op_eq (pv 0) (pv 1) (nomark _)))))) pss_nil)
    (pss_cons (ps_if (pt_val (pe_callB call_isi (by rfl) (free_isinstance hd) (by decide +kernel) (pa_cons (pv 1) (pa_cons (pe_bltn (by rfl) (free_int hd) (by decide +kernel) rfl) pa_nil)))) (pss_one (ps_ret (pe_and (pe_okf O__law_is_integer (hr.mono (by omega)) (by rfl) (glo__law_is_integer hd) (pa_cons (pv 0) pa_nil)) (pe_one (pe_cmpR (r := rEq) op_eq (pv 0) (pv 1) (nomark _)))))) pss_nil)
    (pss_cons (ps_if (pt_val (pe_callB call_isi (by rfl) (free_isinstance hd) (by decide +kernel) (pa_cons (pv 1) (pa_cons (pe_bltn (by rfl) (free_str hd) (by decide +kernel) rfl) pa_nil)))) (pss_one (ps_ret (pe_and (pe_callB call_isi (by rfl) (free_isinstance hd) (by decide +kernel) (pa_cons (pv 0) (pa_cons (pe_bltn (by rfl) (free_str hd) (by decide +kernel) rfl) pa_nil))) (pe_one (pe_cmpR (r := rEq) op_eq (pv 0) (pv 1) (nomark _)))))) pss_nil)
    (pss_cons (ps_if (PW.pt (pw_and (pt_val (pe_callB call_isi (by rfl) (free_isinstance hd) (by decide +kernel) (pa_cons (pv 1) (pa_cons (pe_bltn (by rfl) (free_tuple hd) (by decide +kernel) rfl) pa_nil)))) (pw_and1 (pt_not (pt_val (pe_callB call_isi (by rfl) (free_isinstance hd) (by decide +kernel) (pa_cons (pv 0) (pa_cons (pe_bltn (by rfl) (free_tuple hd) (by decide +kernel) rfl) pa_nil)))))))) (pss_one (ps_ret pe_bl)) pss_nil)
    (pss_cons (ps_if (PW.pt (pw_and (pt_val (pe_callB call_isi (by rfl) (free_isinstance hd) (by decide +kernel) (pa_cons (pv 1) (pa_cons (pe_bltn (by rfl) (free_list hd) (by decide +kernel) rfl) pa_nil)))) (pw_and1 (pt_not (pt_val (pe_callB call_isi (by rfl) (free_isinstance hd) (by decide +kernel) (pa_cons (pv 0) (pa_cons (pe_bltn (by rfl) (free_list hd) (by decide +kernel) rfl) pa_nil)))))))) (pss_one (ps_ret pe_bl)) pss_nil)
    (pss_cons (ps_if (pt_cmpR (r := rNe) op_ne (pe_callB call_len (by rfl) (free_len hd) (by decide +kernel) (pa_cons (pv 0) pa_nil)) (pe_callB call_len (by rfl) (free_len hd) (by decide +kernel) (pa_cons (pv 1) pa_nil)) (nomark _)) (pss_one (ps_ret pe_bl)) pss_nil)
    (pss_one (ps_ret (pe_callB (cr_all rfl) (by rfl) (free_all hd) (by decide +kernel) (pa_cons (pe_lc (own := [("_law_at", 2)]) (g := (gName 2)) (tt := tYes) rfl nd (pi_range1 rfl (free_range hd) (pa_cons (pe_callB call_len (by rfl) (free_len hd) (by decide +kernel) (pa_cons (pv 1) pa_nil)) pa_nil)) (blkOk_by (own := [("_law_at", 2)]) (N := nm__law_equal) (sc := defScope st__law_equal) (by decide +kernel)) (fun _ _ _ _ _ => (pg_name (i := 2) nd rfl (Or.inl rfl))) (fun _ _ _ _ _ => pts_nil) (fun _ _ _ _ _ => (pe_okf O__law_equal (hr.mono (by omega)) (by rfl) (glo__law_equal hd) (pa_cons (pe_ix (r := (rIxL K)) ix_list (pv 0) (pv 2) (fun _ _ => rfl)) (pa_cons (pe_ix (r := (rIxL K)) ix_list (pv 1) (pv 2) (fun _ _ => rfl)) pa_nil))))) pa_nil)))))))))))
theorem ok_law4 {s__law_stream s__law_words s_answer_for s__law_accepts s_accepts_answer s__law_equal s_worst_excess s_worst_ratio s__law_sum s__law_least s__law_all_texts s__law_match : Sp} {sp : Sp} (hd : Hd K mg) (O__law_stream : OkA P w K mg base 1 (He.ga K "_law_stream") ["_law_script"] s__law_stream) (O__law_words : OkA P w K mg base 3 (He.ga K "_law_words") ["_law_stream_here"] s__law_words) (O_answer_for : OkA P w K mg base 11 (He.ga K "answer_for") ["words"] s_answer_for) (O__law_accepts : OkA P w K mg base 5 (He.ga K "_law_accepts") ["_law_words_here", "_law_value"] s__law_accepts) (O_accepts_answer : OkA P w K mg base 8 (He.ga K "accepts_answer") ["words", "value"] s_accepts_answer) (O__law_equal : OkA P w K mg base 4 (He.ga K "_law_equal") ["_law_actual", "_law_due"] s__law_equal) (O_worst_excess : OkA P w K mg base 10 (He.ga K "worst_excess") ["words"] s_worst_excess) (O_worst_ratio : OkA P w K mg base 10 (He.ga K "worst_ratio") ["words"] s_worst_ratio) (O__law_sum : OkA P w K mg base 1 (He.ga K "_law_sum") ["_law_words_here", "_law_row"] s__law_sum) (O__law_least : OkA P w K mg base 1 (He.ga K "_law_least") ["_law_words_here", "_law_text_here"] s__law_least) (O__law_all_texts : OkA P w K mg base 2 (He.ga K "_law_all_texts") ["_law_words_here", "_law_most"] s__law_all_texts) (O__law_match : OkA P w K mg base 1 (He.ga K "_law_match") ["_law_words_here", "_law_text_here"] s__law_match) (len : ∀ vs H Q E, sp vs H Q E → vs.length = 1) (rd : ∀ vs H Q E, sp vs H Q E → t_law K s__law_stream s__law_words s_answer_for s__law_accepts s_accepts_answer s__law_equal s_worst_excess s_worst_ratio s__law_sum s__law_least s__law_all_texts s__law_match { nx := fun _ H' => Q .non H', rt := Q } (L2.start nm_law vs) H) :
    OkA P w K mg base 12 (He.ga K "law") ["_law_script"] sp := by
  obtain ⟨fd, F⟩ := fun_law hd
  refine ok_mk F sc_law (F.bindsN fun _ _ _ _ _ _ us hl => match us, hl with | [_], _ => rfl) len rd fun cdv A outer s H E hr => ?_
  have nd := (sc_law).nd
  exact (pss_cons (ps_set (i := 1) nd rfl (Or.inl rfl) (pe_okf O__law_stream (hr.mono (by decide)) (by rfl) (glo__law_stream hd) (pa_cons (pv 0) pa_nil)))
    (pss_cons (ps_set (i := 2) nd rfl (Or.inl rfl) (pe_okf O__law_words (hr.mono (by decide)) (by rfl) (glo__law_words hd) (pa_cons (pv 1) pa_nil)))
    (pss_cons (ps_set (i := 3) nd rfl (Or.inl rfl) (pe_okf O_answer_for (hr.mono (by decide)) (by rfl) (glo_answer_for hd) (pa_cons (pv 2) pa_nil)))
    (pss_cons (ps_if (PW.pt (pw_or (pt_not (pt_val (pe_okf O__law_accepts (hr.mono (by decide)) (by rfl) (glo__law_accepts hd) (pa_cons (pv 2) (pa_cons (pv 3) pa_nil))))) (pw_or1 (pt_cmpR (r := rNotB) op_notBl (pe_okf O_accepts_answer (hr.mono (by decide)) (by rfl) (glo_accepts_answer hd) (pa_cons (pv 2) (pa_cons (pv 3) pa_nil))) pe_bl (nomark _))))) (pss_one (ps_ret pe_bl)) pss_nil)
    (pss_cons (ps_asg (pv 3) (pg_tup rfl (pgs_cons (pg_name (i := 4) nd rfl (Or.inl rfl)) (pgs_cons (pg_name (i := 5) nd rfl (Or.inl rfl)) (pgs_cons (pg_name (i := 6) nd rfl (Or.inl rfl)) (pgs_cons (pg_name (i := 7) nd rfl (Or.inl rfl)) (pgs_cons (pg_name (i := 8) nd rfl (Or.inl rfl)) pgs_nil)))))))
    (pss_cons (ps_if (pt_not (pt_val (pe_okf O__law_equal (hr.mono (by decide)) (by rfl) (glo__law_equal hd) (pa_cons (pe_lst (pa_cons (pe_okf O_worst_ratio (hr.mono (by decide)) (by rfl) (glo_worst_ratio hd) (pa_cons (pv 2) pa_nil)) (pa_cons (pe_okf O_worst_excess (hr.mono (by decide)) (by rfl) (glo_worst_excess hd) (pa_cons (pv 2) pa_nil)) pa_nil))) (pa_cons (pe_lst (pa_cons (pv 4) (pa_cons (pv 5) pa_nil))) pa_nil))))) (pss_one (ps_ret pe_bl)) pss_nil)
    (pss_cons (ps_if (pt_cmpR (r := rNe) op_ne (pe_okf O__law_sum (hr.mono (by decide)) (by rfl) (glo__law_sum hd) (pa_cons (pv 2) (pa_cons (pe_ix (r := (rIxT K)) ix_tup (pv 7) pe_int (fun _ _ => rfl)) pa_nil))) (pe_okf O__law_least (hr.mono (by decide)) (by rfl) (glo__law_least hd) (pa_cons (pv 2) (pa_cons (pe_ix (r := (rIxT K)) ix_tup (pv 7) pe_int (fun _ _ => rfl)) pa_nil))) (nomark _)) (pss_one (ps_ret pe_bl)) pss_nil)
    (pss_cons (ps_for PassesOwn.never rfl (pi_list (pe_okf O__law_all_texts (hr.mono (by decide)) (by rfl) (glo__law_all_texts hd) (pa_cons (pv 2) (pa_cons pe_int pa_nil)))) (pg_name (i := 9) nd rfl (Or.inl rfl))
      (pss_cons (ps_set (i := 10) nd rfl (Or.inl rfl) (pe_okf O__law_sum (hr.mono (by decide)) (by rfl) (glo__law_sum hd) (pa_cons (pv 2) (pa_cons (pe_okf O__law_match (hr.mono (by decide)) (by rfl) (glo__law_match hd) (pa_cons (pv 2) (pa_cons (pv 9) pa_nil))) pa_nil))))
    (pss_one (ps_if (pt_cmpR (r := (rI0 fun i j => .bl (decide (j < i)))) op_gt (pe_op (r := (rI CMul fun i j => .int (i * j))) op_mul (pe_ix (r := (rIxT K)) ix_tup (pv 4) pe_int (fun _ _ => rfl)) (pv 10)) (pe_op (r := (rI0 fun i j => .int (i + j))) op_add (pe_op (r := (rI CMul fun i j => .int (i * j))) op_mul (pe_ix (r := (rIxT K)) ix_tup (pv 4) pe_int (fun _ _ => rfl)) (pe_okf O__law_least (hr.mono (by decide)) (by rfl) (glo__law_least hd) (pa_cons (pv 2) (pa_cons (pv 9) pa_nil)))) (pv 5)) (nomark _)) (pss_one (ps_ret pe_bl)) pss_nil))))
    (pss_one (ps_ret pe_bl))))))))))
end
end GC

-- part DV6
set_option Elab.async false
set_option linter.all false
set_option maxRecDepth 100000
set_option maxHeartbeats 4000000
namespace GC
open PySem PySem.Spec PyProof.Rows L2
section
variable {P : Program} {w : World} {K : PySem.W.Frag} {mg : Str → Option Value} {base : Heap}

theorem ok_mkF {P : Program} {w : World} {K : PySem.W.Frag} {mg : Str → Option Value} {base : Heap} {k : Nat} {f : Addr} {fd : FuncData} {x q : Str} {st : Stmt} {N ps : List Str} {sp : Sp} {t : TS} (F : FunD K x q (defArgs st) (defBody st) (defScope st) [] [] f fd) (sc : FnScope N ps (defScope st))
    (b : Binds K fd ps []) (len : ∀ vs H Q E, sp vs H Q E → vs.length = ps.length) (rd : ∀ vs H Q E, sp vs H Q E → t { nx := fun _ H' => Q .non H', rt := Q } (L2.start N vs) H)
    (dv : ∀ (cdv : Value) (A : Around) (outer : List Env) (s : Shared) (H : Hp) (E : XK), Room k (A.deeper (envOfC q (defScope st) s.heap.objs.size f cdv)) → PSs (cxOf CX0 P w K mg base N q (defScope st) f cdv A outer s H E).nox (defBody st) t) : FnOk P w K mg base CX0 (k + 1) f fd ps sp :=
  F.ok sc len (fun cdv A outer s H vs Q E hr h => ⟨t, PSs.nox (dv cdv A outer s H E hr), rd vs H Q E h⟩)
theorem ok_law5 {s__law_stream s__law_words s_answer_for s__law_accepts s_accepts_answer s__law_equal s_worst_excess s_worst_ratio s__law_sum s__law_least s__law_all_texts s__law_match : Sp} {sp : Sp} (hd : Hd K mg) {fd : FuncData} (F : FunD K "law" "law" (defArgs st_law) (defBody st_law) (defScope st_law) [] [] (He.ga K "law") fd) (O__law_stream : OkA P w K mg base 1 (He.ga K "_law_stream") ["_law_script"] s__law_stream) (O__law_words : OkA P w K mg base 3 (He.ga K "_law_words") ["_law_stream_here"] s__law_words) (O_answer_for : OkA P w K mg base 11 (He.ga K "answer_for") ["words"] s_answer_for) (O__law_accepts : OkA P w K mg base 5 (He.ga K "_law_accepts") ["_law_words_here", "_law_value"] s__law_accepts) (O_accepts_answer : OkA P w K mg base 8 (He.ga K "accepts_answer") ["words", "value"] s_accepts_answer) (O__law_equal : OkA P w K mg base 4 (He.ga K "_law_equal") ["_law_actual", "_law_due"] s__law_equal) (O_worst_excess : OkA P w K mg base 10 (He.ga K "worst_excess") ["words"] s_worst_excess) (O_worst_ratio : OkA P w K mg base 10 (He.ga K "worst_ratio") ["words"] s_worst_ratio) (O__law_sum : OkA P w K mg base 1 (He.ga K "_law_sum") ["_law_words_here", "_law_row"] s__law_sum) (O__law_least : OkA P w K mg base 1 (He.ga K "_law_least") ["_law_words_here", "_law_text_here"] s__law_least) (O__law_all_texts : OkA P w K mg base 2 (He.ga K "_law_all_texts") ["_law_words_here", "_law_most"] s__law_all_texts) (O__law_match : OkA P w K mg base 1 (He.ga K "_law_match") ["_law_words_here", "_law_text_here"] s__law_match) (len : ∀ vs H Q E, sp vs H Q E → vs.length = 1) (rd : ∀ vs H Q E, sp vs H Q E → t_law K s__law_stream s__law_words s_answer_for s__law_accepts s_accepts_answer s__law_equal s_worst_excess s_worst_ratio s__law_sum s__law_least s__law_all_texts s__law_match { nx := fun _ H' => Q .non H', rt := Q } (L2.start nm_law vs) H) :
    FnOk P w K mg base CX0 12 (He.ga K "law") fd ["_law_script"] sp := by
  refine ok_mkF F sc_law (F.bindsN fun _ _ _ _ _ _ us hl => match us, hl with | [_], _ => rfl) len rd fun cdv A outer s H E hr => ?_
  have nd := (sc_law).nd
  exact (pss_cons (ps_set (i := 1) nd rfl (Or.inl rfl) (pe_okf O__law_stream (hr.mono (by decide)) (by rfl) (glo__law_stream hd) (pa_cons (pv 0) pa_nil)))
    (pss_cons (ps_set (i := 2) nd rfl (Or.inl rfl) (pe_okf O__law_words (hr.mono (by decide)) (by rfl) (glo__law_words hd) (pa_cons (pv 1) pa_nil)))
    (pss_cons (ps_set (i := 3) nd rfl (Or.inl rfl) (pe_okf O_answer_for (hr.mono (by decide)) (by rfl) (glo_answer_for hd) (pa_cons (pv 2) pa_nil)))
    (pss_cons (ps_if (PW.pt (pw_or (pt_not (pt_val (pe_okf O__law_accepts (hr.mono (by decide)) (by rfl) (glo__law_accepts hd) (pa_cons (pv 2) (pa_cons (pv 3) pa_nil))))) (pw_or1 (pt_cmpR (r := rNotB) op_notBl (pe_okf O_accepts_answer (hr.mono (by decide)) (by rfl) (glo_accepts_answer hd) (pa_cons (pv 2) (pa_cons (pv 3) pa_nil))) pe_bl (nomark _))))) (pss_one (ps_ret pe_bl)) pss_nil)
    (pss_cons (ps_asg (pv 3) (pg_tup rfl (pgs_cons (pg_name (i := 4) nd rfl (Or.inl rfl)) (pgs_cons (pg_name (i := 5) nd rfl (Or.inl rfl)) (pgs_cons (pg_name (i := 6) nd rfl (Or.inl rfl)) (pgs_cons (pg_name (i := 7) nd rfl (Or.inl rfl)) (pgs_cons (pg_name (i := 8) nd rfl (Or.inl rfl)) pgs_nil)))))))
    (pss_cons (ps_if (pt_not (pt_val (pe_okf O__law_equal (hr.mono (by decide)) (by rfl) (glo__law_equal hd) (pa_cons (pe_lst (pa_cons (pe_okf O_worst_ratio (hr.mono (by decide)) (by rfl) (glo_worst_ratio hd) (pa_cons (pv 2) pa_nil)) (pa_cons (pe_okf O_worst_excess (hr.mono (by decide)) (by rfl) (glo_worst_excess hd) (pa_cons (pv 2) pa_nil)) pa_nil))) (pa_cons (pe_lst (pa_cons (pv 4) (pa_cons (pv 5) pa_nil))) pa_nil))))) (pss_one (ps_ret pe_bl)) pss_nil)
    (pss_cons (ps_if (pt_cmpR (r := rNe) op_ne (pe_okf O__law_sum (hr.mono (by decide)) (by rfl) (glo__law_sum hd) (pa_cons (pv 2) (pa_cons (pe_ix (r := (rIxT K)) ix_tup (pv 7) pe_int (fun _ _ => rfl)) pa_nil))) (pe_okf O__law_least (hr.mono (by decide)) (by rfl) (glo__law_least hd) (pa_cons (pv 2) (pa_cons (pe_ix (r := (rIxT K)) ix_tup (pv 7) pe_int (fun _ _ => rfl)) pa_nil))) (nomark _)) (pss_one (ps_ret pe_bl)) pss_nil)
    (pss_cons (ps_for PassesOwn.never rfl (pi_list (pe_okf O__law_all_texts (hr.mono (by decide)) (by rfl) (glo__law_all_texts hd) (pa_cons (pv 2) (pa_cons pe_int pa_nil)))) (pg_name (i := 9) nd rfl (Or.inl rfl))
      (pss_cons (ps_set (i := 10) nd rfl (Or.inl rfl) (pe_okf O__law_sum (hr.mono (by decide)) (by rfl) (glo__law_sum hd) (pa_cons (pv 2) (pa_cons (pe_okf O__law_match (hr.mono (by decide)) (by rfl) (glo__law_match hd) (pa_cons (pv 2) (pa_cons (pv 9) pa_nil))) pa_nil))))
    (pss_one (ps_if (pt_cmpR (r := (rI0 fun i j => .bl (decide (j < i)))) op_gt (pe_op (r := (rI CMul fun i j => .int (i * j))) op_mul (pe_ix (r := (rIxT K)) ix_tup (pv 4) pe_int (fun _ _ => rfl)) (pv 10)) (pe_op (r := (rI0 fun i j => .int (i + j))) op_add (pe_op (r := (rI CMul fun i j => .int (i * j))) op_mul (pe_ix (r := (rIxT K)) ix_tup (pv 4) pe_int (fun _ _ => rfl)) (pe_okf O__law_least (hr.mono (by decide)) (by rfl) (glo__law_least hd) (pa_cons (pv 2) (pa_cons (pv 9) pa_nil)))) (pv 5)) (nomark _)) (pss_one (ps_ret pe_bl)) pss_nil))))
    (pss_one (ps_ret pe_bl))))))))))
end
end GC

-- part M1
set_option linter.all false
set_option maxRecDepth 100000
set_option maxHeartbeats 4000000
namespace GC
/-! ### word lists, longest match, the reader: plain -/
abbrev Tx := List Nat
abbrev WL := List (Tx × Int)
def names (W : WL) : List Tx := W.map (·.1)
def costIn (W : WL) (w : Tx) : Int := ((W.filter fun p => decide (p.1 = w)).map (·.2)).headD 0
def letters (W : WL) : List Nat := ((W.filter fun p => decide (p.1.length = 1)).map (·.1)).flatten
def canGrow (W : WL) (t : Tx) : Bool := W.any fun p => decide (t.length < p.1.length) && decide (p.1.take t.length = t)
def wordsFrom (W : WL) (t : Tx) : List Tx := ((List.range (min 4 t.length)).map fun k => t.take (k + 1)).filter fun w => decide (w ∈ names W)
def lon (W : WL) (t : Tx) : Tx := (wordsFrom W t).getLastD []
structure Wd (W : WL) : Prop where
  len : 1 ≤ W.length ∧ W.length ≤ 8
  ent : ∀ p ∈ W, (1 ≤ p.1.length ∧ p.1.length ≤ 4) ∧ (1 ≤ p.2 ∧ p.2 ≤ 9) ∧ ∀ x ∈ p.1, 97 ≤ x ∧ x ≤ 122
  srt : W.Pairwise fun p q => p.1 < q.1
  clo : ∀ p ∈ W, ∀ x ∈ p.1, [x] ∈ names W
  few : (W.filter fun p => decide (2 ≤ p.1.length)).length ≤ 4
def Over (W : WL) (t : Tx) : Prop := ∀ x ∈ t, x ∈ letters W
section
variable {W : WL}
theorem Over.nil : Over W [] := fun _ h => by cases h
theorem Over.append {s t : Tx} (h : Over W s) (k : Over W t) : Over W (s ++ t) := fun x hx => (List.mem_append.mp hx).elim (h x) (k x)
theorem Over.left {s t : Tx} (h : Over W (s ++ t)) : Over W s := fun x hx => h x (List.mem_append_left _ hx)
theorem Over.right {s t : Tx} (h : Over W (s ++ t)) : Over W t := fun x hx => h x (List.mem_append_right _ hx)
theorem Over.drop {t : Tx} (h : Over W t) (n : Nat) : Over W (t.drop n) := fun x hx => h x (List.mem_of_mem_drop hx)
theorem Over.take {t : Tx} (h : Over W t) (n : Nat) : Over W (t.take n) := fun x hx => h x (List.mem_of_mem_take hx)
theorem Over.one {x : Nat} (h : x ∈ letters W) : Over W [x] := fun y hy => by rw [List.mem_singleton.mp hy]; exact h
theorem mem_names {w : Tx} : w ∈ names W ↔ ∃ c, (w, c) ∈ W := by
  unfold names
  rw [List.mem_map]
  exact ⟨fun ⟨p, h, e⟩ => ⟨p.2, by rw [← e]; exact h⟩, fun ⟨c, h⟩ => ⟨(w, c), h, rfl⟩⟩
theorem mem_letters {x : Nat} : x ∈ letters W ↔ [x] ∈ names W := by
  unfold letters names
  rw [List.mem_flatten]
  constructor
  · rintro ⟨w, hw, hx⟩
    obtain ⟨p, hp, rfl⟩ := List.mem_map.mp hw
    obtain ⟨hp1, hp2⟩ := List.mem_filter.mp hp
    have l : p.1.length = 1 := of_decide_eq_true hp2
    obtain ⟨y, hy⟩ := List.length_eq_one_iff.mp l
    rw [hy] at hx
    rw [List.mem_singleton.mp hx, ← hy]
    exact List.mem_map_of_mem (f := (·.1)) hp1
  · intro h
    obtain ⟨p, hp, e⟩ := List.mem_map.mp h
    have e : p.1 = [x] := e
    exact ⟨p.1, List.mem_map_of_mem (f := (·.1)) (List.mem_filter.mpr ⟨hp, by rw [e]; rfl⟩), by rw [e]; simp⟩
theorem Wd.over (h : Wd W) {w : Tx} (hw : w ∈ names W) : Over W w := fun x hx => by
  obtain ⟨c, hc⟩ := mem_names.mp hw
  exact mem_letters.mpr (h.clo _ hc x hx)
theorem Wd.size (h : Wd W) {w : Tx} (hw : w ∈ names W) : 1 ≤ w.length ∧ w.length ≤ 4 := by
  obtain ⟨c, hc⟩ := mem_names.mp hw
  exact (h.ent _ hc).1
theorem Wd.ndp (h : Wd W) : (names W).Pairwise (· < ·) := List.pairwise_map.mpr h.srt
theorem tx_irrefl (s : Tx) : ¬ s < s := List.lt_irrefl s
theorem Wd.nodup (h : Wd W) : (names W).Nodup := h.ndp.imp fun {a b} q e => by
  rw [e] at q
  exact tx_irrefl _ q
/-- one cost a word -/
theorem cost_of {w : Tx} {c : Int} : ∀ {W : WL}, (names W).Nodup → (w, c) ∈ W → W.filter (fun p => decide (p.1 = w)) = [(w, c)]
  | [], _, h => by cases h
  | p :: W, nd, h => by
    have nd' : (p.1 :: names W).Nodup := nd
    obtain ⟨n1, n2⟩ := List.nodup_cons.mp nd'
    rcases List.mem_cons.mp h with e | h
    · subst e
      rw [List.filter_cons, if_pos (by simp)]
      congr 1
      refine List.filter_eq_nil_iff.mpr fun q hq e => n1 ?_
      have e : q.1 = w := of_decide_eq_true e
      show w ∈ names W
      rw [← e]
      exact List.mem_map_of_mem (f := (·.1)) hq
    · have ne : ¬ p.1 = w := fun e => n1 (by
        rw [e]
        exact mem_names.mpr ⟨c, h⟩)
      rw [List.filter_cons, if_neg (by simpa using ne)]
      exact cost_of n2 h
theorem Wd.filt (h : Wd W) {w : Tx} {c : Int} (hc : (w, c) ∈ W) : W.filter (fun p => decide (p.1 = w)) = [(w, c)] := cost_of h.nodup hc
theorem Wd.cost (h : Wd W) {w : Tx} {c : Int} (hc : (w, c) ∈ W) : costIn W w = c := by
  unfold costIn
  rw [h.filt hc]
  rfl
theorem Wd.in_ (h : Wd W) {w : Tx} (hw : w ∈ names W) : (w, costIn W w) ∈ W := by
  obtain ⟨c, hc⟩ := mem_names.mp hw
  rw [h.cost hc]
  exact hc
theorem Wd.cb (h : Wd W) {w : Tx} (hw : w ∈ names W) : 1 ≤ costIn W w ∧ costIn W w ≤ 9 := (h.ent _ (h.in_ hw)).2.1
/-! the longest word -/
theorem mem_wf {t w : Tx} : w ∈ wordsFrom W t ↔ w ∈ names W ∧ ∃ k, k < 4 ∧ k < t.length ∧ w = t.take (k + 1) := by
  unfold wordsFrom
  rw [List.mem_filter, List.mem_map]
  constructor
  · rintro ⟨⟨k, hk, rfl⟩, hw⟩
    rw [List.mem_range] at hk
    exact ⟨of_decide_eq_true hw, k, by omega, by omega, rfl⟩
  · rintro ⟨hw, k, h1, h2, rfl⟩
    exact ⟨⟨k, List.mem_range.mpr (by omega), rfl⟩, decide_eq_true hw⟩
theorem wf_sorted (t : Tx) : (wordsFrom W t).Pairwise fun a b => a.length < b.length := by
  unfold wordsFrom
  refine List.Pairwise.filter _ (List.pairwise_map.mpr ?_)
  refine (List.pairwise_lt_range (n := min 4 t.length)).imp_of_mem fun {a b} ha hb h => ?_
  rw [List.mem_range] at ha hb
  rw [List.length_take, List.length_take]
  omega
theorem last_max {l : List Tx} (hs : l.Pairwise fun a b => a.length < b.length) (hn : l ≠ []) : l.getLastD [] ∈ l ∧ ∀ w ∈ l, w.length ≤ (l.getLastD []).length := by
  have e : l.getLastD [] = l.getLast hn := by
    rw [List.getLastD_eq_getLast?, List.getLast?_eq_some_getLast hn]
    rfl
  rw [e]
  refine ⟨List.getLast_mem hn, fun w hw => ?_⟩
  have q : l = l.dropLast ++ [l.getLast hn] := (List.dropLast_concat_getLast hn).symm
  rw [q] at hs hw
  rcases List.mem_append.mp hw with h | h
  · exact Nat.le_of_lt ((List.pairwise_append.mp hs).2.2 w h _ (by simp))
  · rw [List.mem_singleton.mp h]
    exact Nat.le_refl _
/-- what the longest word that begins t is -/
structure Lon (W : WL) (t w : Tx) : Prop where
  nm : w ∈ names W
  pre : w = t.take w.length
  top : ∀ u ∈ names W, u = t.take u.length → u.length ≤ w.length
theorem Lon.uniq {t w u : Tx} (a : Lon W t w) (b : Lon W t u) : w = u := by
  have l : w.length = u.length := Nat.le_antisymm (b.top w a.nm a.pre) (a.top u b.nm b.pre)
  rw [a.pre, b.pre, l]
theorem Lon.le {t w : Tx} (a : Lon W t w) : w.length ≤ t.length := by
  have h : w.length = (t.take w.length).length := congrArg List.length a.pre
  rw [List.length_take] at h
  omega
theorem wf_ne (h : Wd W) {t : Tx} (ho : Over W t) (hn : t ≠ []) : wordsFrom W t ≠ [] := by
  cases t with
  | nil => exact absurd rfl hn
  | cons x t =>
    intro e
    have q : [x] ∈ wordsFrom W (x :: t) := mem_wf.mpr ⟨mem_letters.mp (ho x (by simp)), 0, by omega, by simp, by simp⟩
    rw [e] at q
    cases q
theorem Wd.isLon (h : Wd W) {t : Tx} (ho : Over W t) (hn : t ≠ []) : Lon W t (lon W t) := by
  obtain ⟨m1, m2⟩ := last_max (wf_sorted (W := W) t) (wf_ne h ho hn)
  obtain ⟨m3, k, k1, k2, k3⟩ := mem_wf.mp m1
  have l : (GC.lon W t).length = k + 1 := by
    show ((wordsFrom W t).getLastD []).length = _
    rw [k3, List.length_take]
    omega
  refine ⟨m3, ?_, fun u hu hp => ?_⟩
  · rw [l]; exact k3
  · have s := h.size hu
    refine m2 u (mem_wf.mpr ⟨hu, u.length - 1, by omega, ?_, ?_⟩)
    · have q : u.length = (t.take u.length).length := congrArg List.length hp
      rw [List.length_take] at q
      omega
    · have e : u.length - 1 + 1 = u.length := by omega
      rw [e]; exact hp
/-! the longest match -/
def mt (W : WL) : Nat → Tx → List Tx
  | 0, _ => []
  | n + 1, t => if t = [] then [] else lon W t :: mt W n (t.drop (lon W t).length)
def matchOf (W : WL) (t : Tx) : List Tx := mt W t.length t
theorem mt_more (h : Wd W) : ∀ (n m : Nat) (t : Tx), Over W t → t.length ≤ n → t.length ≤ m → mt W n t = mt W m t
  | 0, 0, _, _, _, _ => rfl
  | 0, m + 1, t, _, h0, _ => by
    have e : t = [] := List.eq_nil_of_length_eq_zero (by omega)
    subst e
    rfl
  | n + 1, 0, t, _, _, h0 => by
    have e : t = [] := List.eq_nil_of_length_eq_zero (by omega)
    subst e
    rfl
  | n + 1, m + 1, t, ho, h1, h2 => by
    unfold mt
    by_cases e : t = []
    · rw [if_pos e, if_pos e]
    · rw [if_neg e, if_neg e]
      have L := h.isLon ho e
      have s := h.size L.nm
      congr 1
      exact mt_more h n m _ (ho.drop _) (by rw [List.length_drop]; omega) (by rw [List.length_drop]; omega)
theorem match_nil : matchOf W [] = [] := rfl
theorem Wd.match_cons (h : Wd W) {t : Tx} (ho : Over W t) (hn : t ≠ []) : matchOf W t = lon W t :: matchOf W (t.drop (GC.lon W t).length) := by
  have L := h.isLon ho hn
  have s := h.size L.nm
  have e : t.length = (t.length - 1) + 1 := by
    have := List.length_pos_iff.mpr hn
    omega
  unfold matchOf
  rw [e]
  show (if t = [] then [] else GC.lon W t :: mt W (t.length - 1) (t.drop (GC.lon W t).length)) = _
  rw [if_neg hn]
  congr 1
  exact mt_more h _ _ _ (ho.drop _) (by rw [List.length_drop]; omega) (Nat.le_refl _)
theorem match_ind (h : Wd W) {P : Tx → List Tx → Prop} (h0 : P [] []) (h1 : ∀ t, Over W t → t ≠ [] → P (t.drop (lon W t).length) (matchOf W (t.drop (lon W t).length)) → P t (lon W t :: matchOf W (t.drop (lon W t).length))) : ∀ (n : Nat) (t : Tx), t.length ≤ n → Over W t → P t (matchOf W t)
  | 0, t, hl, _ => by
    have e : t = [] := List.eq_nil_of_length_eq_zero (by omega)
    subst e
    exact h0
  | n + 1, t, hl, ho => by
    by_cases e : t = []
    · subst e; exact h0
    · rw [h.match_cons ho e]
      have s := h.size (h.isLon ho e).nm
      exact h1 t ho e (match_ind h h0 h1 n _ (by rw [List.length_drop]; omega) (ho.drop _))
theorem Wd.match_flat (h : Wd W) {t : Tx} (ho : Over W t) : (matchOf W t).flatten = t := match_ind h (P := fun t r => r.flatten = t) rfl (fun t ho hn ih => by
  rw [List.flatten_cons, ih]
  have L := h.isLon ho hn
  have e := List.take_append_drop (GC.lon W t).length t
  rw [← L.pre] at e
  exact e) t.length t (Nat.le_refl _) ho
theorem Wd.match_names (h : Wd W) {t : Tx} (ho : Over W t) : ∀ w ∈ matchOf W t, w ∈ names W := match_ind h (P := fun t r => ∀ w ∈ r, w ∈ names W) (fun w hw => by cases hw) (fun t ho hn ih w hw => by
  rcases List.mem_cons.mp hw with e | hw
  · rw [e]; exact (h.isLon ho hn).nm
  · exact ih w hw) t.length t (Nat.le_refl _) ho
def costRow (W : WL) (r : List Tx) : Int := (r.map (costIn W)).sum
theorem costRow_nil : costRow W [] = 0 := rfl
theorem costRow_cons (w : Tx) (r : List Tx) : costRow W (w :: r) = costIn W w + costRow W r := by unfold costRow; rw [List.map_cons, List.sum_cons]
theorem costRow_append (r s : List Tx) : costRow W (r ++ s) = costRow W r + costRow W s := by unfold costRow; rw [List.map_append, List.sum_append]
/-! growing -/
theorem grow_iff {t : Tx} : canGrow W t = true ↔ ∃ w ∈ names W, t.length < w.length ∧ w.take t.length = t := by
  unfold canGrow
  rw [List.any_eq_true]
  constructor
  · rintro ⟨p, hp, e⟩
    rw [Bool.and_eq_true, decide_eq_true_eq, decide_eq_true_eq] at e
    exact ⟨p.1, List.mem_map_of_mem (f := (·.1)) hp, e.1, e.2⟩
  · rintro ⟨w, hw, h1, h2⟩
    obtain ⟨c, hc⟩ := mem_names.mp hw
    exact ⟨(w, c), hc, by rw [Bool.and_eq_true, decide_eq_true_eq, decide_eq_true_eq]; exact ⟨h1, h2⟩⟩
/-- no word goes on: the longest word of what follows is settled -/
theorem Wd.lon_app (h : Wd W) {t s : Tx} (ho : Over W t) (os : Over W s) (hn : t ≠ []) (hg : canGrow W t = false) : lon W (t ++ s) = lon W t := by
  have L := h.isLon ho hn
  have L2 := h.isLon (ho.append os) (fun e => hn (List.append_eq_nil_iff.mp e).1)
  refine L2.uniq ⟨L.nm, ?_, fun u hu hp => ?_⟩
  · rw [List.take_append_of_le_length L.le]
    exact L.pre
  · by_cases hl : u.length ≤ t.length
    · rw [List.take_append_of_le_length hl] at hp
      exact L.top u hu hp
    · have g : canGrow W t = true := grow_iff.mpr ⟨u, hu, by omega, by
        rw [hp, List.take_take, Nat.min_eq_left (by omega), List.take_append_of_le_length (Nat.le_refl _), List.take_length]⟩
      rw [hg] at g
      cases g
def Held (W : WL) (t : Tx) : Prop := t = [] ∨ canGrow W t = true
theorem Held.over (h : Wd W) {t : Tx} (k : Held W t) : Over W t := by
  rcases k with e | g
  · subst e; exact Over.nil
  · obtain ⟨w, hw, _, e⟩ := grow_iff.mp g
    rw [← e]
    exact (h.over hw).take _
theorem Held.len (h : Wd W) {t : Tx} (k : Held W t) : t.length ≤ 3 := by
  rcases k with e | g
  · subst e; simp
  · obtain ⟨w, hw, l, e⟩ := grow_iff.mp g
    have := h.size hw
    omega
/-! the reader -/
def rd (W : WL) : Nat → Tx → List Tx × Tx
  | 0, t => ([], t)
  | n + 1, t => if t ≠ [] ∧ canGrow W t = false then (lon W t :: (rd W n (t.drop (lon W t).length)).1, (rd W n (t.drop (lon W t).length)).2) else ([], t)
def readOn (W : WL) (held : Tx) (x : Nat) : List Tx × Tx := rd W (held.length + 1) (held ++ [x])
structure Rd' (W : WL) (t : Tx) (r : List Tx × Tx) : Prop where
  held : Held W r.2
  nm : ∀ w ∈ r.1, w ∈ names W
  flat : r.1.flatten ++ r.2 = t
  mtch : ∀ s, Over W s → matchOf W (t ++ s) = r.1 ++ matchOf W (r.2 ++ s)
theorem Wd.isRd (h : Wd W) : ∀ (n : Nat) (t : Tx), t.length ≤ n → Over W t → Rd' W t (rd W n t)
  | 0, t, hl, _ => by
    have e : t = [] := List.eq_nil_of_length_eq_zero (by omega)
    subst e
    exact ⟨.inl rfl, fun w hw => (by cases hw), rfl, fun s _ => rfl⟩
  | n + 1, t, hl, ho => by
    unfold GC.rd
    by_cases c : t ≠ [] ∧ canGrow W t = false
    · rw [if_pos c]
      obtain ⟨hn, hg⟩ := c
      have L := h.isLon ho hn
      have s := h.size L.nm
      have ih := Wd.isRd h n (t.drop (GC.lon W t).length) (by rw [List.length_drop]; omega) (ho.drop _)
      have e := List.take_append_drop (GC.lon W t).length t
      rw [← L.pre] at e
      refine ⟨ih.held, fun w hw => ?_, ?_, fun s os => ?_⟩
      · rcases List.mem_cons.mp hw with q | hw
        · rw [q]; exact L.nm
        · exact ih.nm w hw
      · show (GC.lon W t :: _).flatten ++ _ = t
        rw [List.flatten_cons, List.append_assoc, ih.flat]
        exact e
      · show matchOf W (t ++ s) = GC.lon W t :: _ ++ _
        rw [h.match_cons (ho.append os) (fun q => hn (List.append_eq_nil_iff.mp q).1), h.lon_app ho os hn hg, List.drop_append_of_le_length L.le, ih.mtch s os]
        rfl
    · rw [if_neg c]
      refine ⟨?_, fun w hw => (by cases hw), rfl, fun s _ => rfl⟩
      by_cases e : t = []
      · exact .inl e
      · cases hg : canGrow W t with
        | true => exact .inr hg
        | false => exact absurd ⟨e, hg⟩ c
theorem Wd.isRead (h : Wd W) {held : Tx} {x : Nat} (ho : Over W held) (hx : x ∈ letters W) : Rd' W (held ++ [x]) (readOn W held x) :=
  h.isRd _ _ (by rw [List.length_append]; simp) (ho.append (Over.one hx))
def Step := Tx × Tx × Int × Int
def steps (W : WL) (held tail : Tx) (x : Nat) : List (Tx × Tx × Int × Int) :=
  (if tail ++ [x] ∈ names W then [((readOn W held x).2, [], costRow W (readOn W held x).1, costIn W (tail ++ [x]))] else []) ++
  (if canGrow W (tail ++ [x]) = true then [((readOn W held x).2, tail ++ [x], costRow W (readOn W held x).1, 0)] else [])
/-- reading a text: what it costs, what is held then -/
def readAll (W : WL) (held : Tx) : Tx → Int × Tx
  | [] => (0, held)
  | x :: t => (costRow W (readOn W held x).1 + (readAll W (readOn W held x).2 t).1, (readAll W (readOn W held x).2 t).2)
theorem readAll_append (W : WL) : ∀ (s t : Tx) (held : Tx), readAll W held (s ++ t) = ((readAll W held s).1 + (readAll W (readAll W held s).2 t).1, (readAll W (readAll W held s).2 t).2)
  | [], t, held => by simp [readAll]
  | x :: s, t, held => by
    have e := readAll_append W s t (readOn W held x).2
    show (costRow W (readOn W held x).1 + (readAll W (readOn W held x).2 (s ++ t)).1, (readAll W (readOn W held x).2 (s ++ t)).2) = (costRow W (readOn W held x).1 + (readAll W (readOn W held x).2 s).1 + (readAll W (readAll W (readOn W held x).2 s).2 t).1, (readAll W (readAll W (readOn W held x).2 s).2 t).2)
    rw [e, Int.add_assoc]
theorem Wd.readAll_held (h : Wd W) : ∀ (t held : Tx), Held W held → Over W t → Held W (readAll W held t).2
  | [], held, hh, _ => hh
  | x :: t, held, hh, ho => Wd.readAll_held h t _ (h.isRead (hh.over h) (ho x (by simp))).held fun y hy => ho y (by simp [hy])
theorem Wd.readAll_cost (h : Wd W) : ∀ (t held : Tx), Held W held → Over W t → costRow W (matchOf W (held ++ t)) = (readAll W held t).1 + costRow W (matchOf W (readAll W held t).2)
  | [], held, hh, _ => by simp [readAll]
  | x :: t, held, hh, ho => by
    have R := h.isRead (hh.over h) (ho x (by simp))
    have ot : Over W t := fun y hy => ho y (by simp [hy])
    have e : held ++ x :: t = (held ++ [x]) ++ t := by simp
    rw [e, R.mtch t ot, costRow_append, Wd.readAll_cost h t _ R.held ot]
    show _ = costRow W (GC.readOn W held x).1 + (readAll W (GC.readOn W held x).2 t).1 + costRow W (matchOf W (readAll W (GC.readOn W held x).2 t).2)
    rw [Int.add_assoc]
end
end GC

-- part M2
set_option linter.all false
set_option maxRecDepth 100000
set_option maxHeartbeats 4000000
namespace GC
/-! ### pairs, potentials, bounds: plain -/
section
variable {W : WL}
theorem mem_steps {h t : Tx} {x : Nat} {s : Tx × Tx × Int × Int} : s ∈ steps W h t x ↔
    (t ++ [x] ∈ names W ∧ s = ((readOn W h x).2, [], costRow W (readOn W h x).1, costIn W (t ++ [x]))) ∨ (canGrow W (t ++ [x]) = true ∧ s = ((readOn W h x).2, t ++ [x], costRow W (readOn W h x).1, 0)) := by
  unfold steps
  rw [List.mem_append]
  by_cases a : t ++ [x] ∈ names W <;> by_cases b : canGrow W (t ++ [x]) = true <;> simp [a, b]
theorem Wd.steps_held (h : Wd W) {u t : Tx} {x : Nat} {s : Tx × Tx × Int × Int} (hu : Held W u) (hx : x ∈ letters W) (hs : s ∈ steps W u t x) : Held W s.1 ∧ Held W s.2.1 ∧ 0 ≤ s.2.2.2 ∧ s.2.2.2 ≤ 9 := by
  have R := h.isRead (hu.over h) hx
  rcases mem_steps.mp hs with ⟨a, rfl⟩ | ⟨a, rfl⟩
  · have c := h.cb a
    exact ⟨R.held, .inl rfl, by show 0 ≤ costIn W (t ++ [x]); omega, c.2⟩
  · exact ⟨R.held, .inr a, Int.le_refl _, by show (0 : Int) ≤ 9; omega⟩
/-- a table of potentials is right -/
structure RightP (W : WL) (a b c : Int) (f : Tx × Tx → Option Int) : Prop where
  zero : ∃ n, f ([], []) = some n ∧ 0 ≤ n
  step : ∀ h t n, f (h, t) = some n → ∀ x ∈ letters W, ∀ s ∈ steps W h t x, ∃ m, f (s.1, s.2.1) = some m ∧ n + b * s.2.2.1 - a * s.2.2.2 ≤ m
  fin : ∀ h n, f (h, []) = some n → n + b * costRow W (matchOf W h) ≤ c
/-- along a word -/
theorem RightP.word (h : Wd W) {a b c : Int} {f : Tx × Tx → Option Int} (R : RightP W a b c f) : ∀ (v u held : Tx) (n : Int), u ++ v ∈ names W → v ≠ [] → f (held, u) = some n →
    ∃ m, f ((readAll W held v).2, []) = some m ∧ n + b * (readAll W held v).1 - a * costIn W (u ++ v) ≤ m
  | [], _, _, _, _, hv, _ => absurd rfl hv
  | x :: v, u, held, n, hw, _, hf => by
    have ox : x ∈ letters W := h.over hw x (by simp)
    by_cases hv : v = []
    · subst hv
      obtain ⟨m, m1, m2⟩ := R.step held u n hf x ox _ (mem_steps.mpr (.inl ⟨hw, rfl⟩))
      refine ⟨m, m1, ?_⟩
      show n + b * (costRow W (readOn W held x).1 + 0) - a * costIn W (u ++ [x]) ≤ m
      rw [Int.add_zero]
      exact m2
    · have e : u ++ x :: v = (u ++ [x]) ++ v := by simp
      have hg : canGrow W (u ++ [x]) = true := grow_iff.mpr ⟨u ++ x :: v, hw, by
        rw [List.length_append, List.length_append]
        have := List.length_pos_iff.mpr hv
        simp
        omega, by rw [e, List.take_left]⟩
      obtain ⟨m, m1, m2⟩ := R.step held u n hf x ox _ (mem_steps.mpr (.inr ⟨hg, rfl⟩))
      obtain ⟨k, k1, k2⟩ := RightP.word h R v (u ++ [x]) (readOn W held x).2 m (by rw [← e]; exact hw) hv m1
      refine ⟨k, k1, ?_⟩
      show n + b * (costRow W (readOn W held x).1 + (readAll W (readOn W held x).2 v).1) - a * costIn W (u ++ x :: v) ≤ k
      rw [e, Int.mul_add]
      have m2 : n + b * costRow W (readOn W held x).1 - a * 0 ≤ m := m2
      rw [Int.mul_zero] at m2
      omega
theorem RightP.row (h : Wd W) {a b c : Int} {f : Tx × Tx → Option Int} (R : RightP W a b c f) : ∀ (r : List Tx) (held : Tx) (n : Int), (∀ w ∈ r, w ∈ names W) → f (held, []) = some n →
    ∃ m, f ((readAll W held r.flatten).2, []) = some m ∧ n + b * (readAll W held r.flatten).1 - a * costRow W r ≤ m
  | [], held, n, _, hf => ⟨n, hf, by show n + b * 0 - a * 0 ≤ n; simp⟩
  | w :: r, held, n, hr, hf => by
    have hw := hr w (by simp)
    have s := h.size hw
    obtain ⟨m, m1, m2⟩ := R.word h w [] held n hw (fun e => by rw [e] at s; simp at s) hf
    obtain ⟨k, k1, k2⟩ := RightP.row h R r _ m (fun u hu => hr u (by simp [hu])) m1
    rw [List.flatten_cons, readAll_append]
    refine ⟨k, k1, ?_⟩
    show n + b * ((readAll W held w).1 + (readAll W (readAll W held w).2 r.flatten).1) - a * costRow W (w :: r) ≤ k
    rw [costRow_cons, Int.mul_add, Int.mul_add]
    have m2 : n + b * (readAll W held w).1 - a * costIn W w ≤ m := m2
    omega
/-- a bound that potentials show -/
theorem RightP.bound (h : Wd W) {a b c : Int} {f : Tx × Tx → Option Int} (R : RightP W a b c f) {r : List Tx} (hr : ∀ w ∈ r, w ∈ names W) : b * costRow W (matchOf W r.flatten) ≤ a * costRow W r + c := by
  obtain ⟨n, n1, n2⟩ := R.zero
  obtain ⟨m, m1, m2⟩ := R.row h r [] n hr n1
  have f := R.fin _ m m1
  have o : Over W r.flatten := fun x hx => by
    obtain ⟨w, hw, hx⟩ := List.mem_flatten.mp hx
    exact h.over (hr w hw) x hx
  have e := h.readAll_cost r.flatten [] (.inl rfl) o
  rw [List.nil_append] at e
  rw [e, Int.mul_add]
  omega
/-! the pairs are few -/
def props (W : WL) : List Tx := [] :: (W.filter fun p => decide (2 ≤ p.1.length)).flatMap fun p => [p.1.take 1, p.1.take 2, p.1.take 3]
theorem Held.props (h : Wd W) {t : Tx} (k : Held W t) : t ∈ props W := by
  unfold GC.props
  rcases k with e | g
  · rw [e]; simp
  · by_cases e : t = []
    · rw [e]; simp
    · obtain ⟨w, hw, l, e2⟩ := grow_iff.mp g
      obtain ⟨c, hc⟩ := mem_names.mp hw
      have s := h.size hw
      have p := List.length_pos_iff.mpr e
      refine List.mem_cons_of_mem _ (List.mem_flatMap.mpr ⟨(w, c), List.mem_filter.mpr ⟨hc, decide_eq_true (by show 2 ≤ w.length; omega)⟩, ?_⟩)
      show t ∈ [w.take 1, w.take 2, w.take 3]
      have q : t.length = 1 ∨ t.length = 2 ∨ t.length = 3 := by omega
      rcases q with q | q | q <;> (rw [q] at e2; simp [e2])
theorem Wd.props_len (h : Wd W) : (props W).length ≤ 13 := by
  unfold GC.props
  have e : ∀ l : List (Tx × Int), (l.flatMap fun p => [p.1.take 1, p.1.take 2, p.1.take 3]).length = 3 * l.length := by
    intro l
    induction l with
    | nil => rfl
    | cons p l ih =>
      rw [List.flatMap_cons, List.length_append, ih]
      show 3 + 3 * l.length = 3 * (l.length + 1)
      omega
  rw [List.length_cons, e]
  have := h.few
  omega
theorem nodup_le {α : Type} [DecidableEq α] : ∀ {l m : List α}, l.Nodup → (∀ x ∈ l, x ∈ m) → l.length ≤ m.length
  | [], _, _, _ => Nat.zero_le _
  | x :: l, m, nd, h => by
    obtain ⟨n1, n2⟩ := List.nodup_cons.mp nd
    have hx : x ∈ m := h x (by simp)
    have := nodup_le (l := l) (m := m.erase x) n2 fun y hy => (List.mem_erase_of_ne fun e => n1 (by rw [← e]; exact hy)).mpr (h y (by simp [hy]))
    rw [List.length_erase_of_mem hx] at this
    have p : 0 < m.length := List.length_pos_of_mem hx
    rw [List.length_cons]
    omega
def prod2 (l : List Tx) : List (Tx × Tx) := l.flatMap fun a => l.map fun b => (a, b)
theorem prod2_len (l : List Tx) : (prod2 l).length = l.length * l.length := by
  unfold prod2
  have e : ∀ k m : List Tx, (k.flatMap fun a => m.map fun b => (a, b)).length = k.length * m.length := by
    intro k m
    induction k with
    | nil => simp
    | cons a k ih => rw [List.flatMap_cons, List.length_append, ih, List.length_map, List.length_cons, Nat.succ_mul, Nat.add_comm]
  exact e l l
theorem Wd.pairs_len (h : Wd W) {l : List (Tx × Tx)} (nd : l.Nodup) (hl : ∀ p ∈ l, Held W p.1 ∧ Held W p.2) : l.length ≤ 169 := by
  have q : l.length ≤ (prod2 (props W)).length := nodup_le nd fun p hp => by
    obtain ⟨a, b⟩ := hl p hp
    unfold prod2
    exact List.mem_flatMap.mpr ⟨p.1, a.props h, List.mem_map.mpr ⟨p.2, b.props h, rfl⟩⟩
  rw [prod2_len] at q
  have k := h.props_len
  have : (props W).length * (props W).length ≤ 13 * 13 := Nat.mul_le_mul k k
  omega
theorem Wd.letters_len (h : Wd W) : (letters W).length ≤ 8 := by
  have e : ∀ l : WL, (((l.filter fun p => decide (p.1.length = 1)).map (·.1)).flatten).length ≤ l.length := by
    intro l
    induction l with
    | nil => simp
    | cons p l ih =>
      rw [List.filter_cons]
      split
      · rename_i q
        have q : p.1.length = 1 := of_decide_eq_true q
        rw [List.map_cons, List.flatten_cons, List.length_append, q]
        show 1 + _ ≤ l.length + 1
        omega
      · show _ ≤ l.length + 1
        omega
  exact Nat.le_trans (e W) h.len.2
end
end GC

-- part M3
set_option linter.all false
set_option maxRecDepth 100000
set_option maxHeartbeats 4000000
namespace GC
/-! ### the graph of the pairs: plain -/
structure Ed where
  src : Nat
  x : Nat
  dst : Nat
  g : Int
  l : Int
  deriving DecidableEq
abbrev Pr := Tx × Tx
/-- an edge is a step of the list -/
def EdOk (W : WL) (ps : List Pr) (e : Ed) : Prop := ∃ u v, ps[e.src]? = some u ∧ ps[e.dst]? = some v ∧ e.x ∈ letters W ∧ (v.1, v.2, e.g, e.l) ∈ steps W u.1 u.2 e.x
structure GI (W : WL) (ps : List Pr) (es : List Ed) (Dn : Nat → Nat → (Tx × Tx × Int × Int) → Prop) : Prop where
  zero : ps[0]? = some ([], [])
  nd : ps.Nodup
  held : ∀ q ∈ ps, Held W q.1 ∧ Held W q.2
  ed : ∀ e ∈ es, EdOk W ps e
  reach : ∀ j, 0 < j → j < ps.length → ∃ e ∈ es, e.dst = j ∧ e.src < j
  closed : ∀ i x s, Dn i x s → ∃ e ∈ es, e.src = i ∧ e.x = x ∧ ps[e.dst]? = some (s.1, s.2.1) ∧ e.g = s.2.2.1 ∧ e.l = s.2.2.2
section
variable {W : WL} {ps : List Pr} {es : List Ed} {Dn : Nat → Nat → (Tx × Tx × Int × Int) → Prop}
theorem GI.start : GI W [([], [])] [] (fun _ _ _ => False) :=
  ⟨rfl, by simp, fun q hq => by rw [List.mem_singleton.mp hq]; exact ⟨.inl rfl, .inl rfl⟩, fun e he => (by cases he), fun j h0 h1 => (by simp at h1; omega), fun _ _ _ h => h.elim⟩
theorem GI.imp (G : GI W ps es Dn) {Dn' : Nat → Nat → (Tx × Tx × Int × Int) → Prop} (h : ∀ i x s, Dn' i x s → Dn i x s) : GI W ps es Dn' :=
  ⟨G.zero, G.nd, G.held, G.ed, G.reach, fun i x s d => G.closed i x s (h i x s d)⟩
/-- the place of a pair, told by the list of pairs so far -/
def place (ps : List Pr) (o : Pr) : Nat := ps.idxOf o
def addP (ps : List Pr) (o : Pr) : List Pr := if o ∈ ps then ps else ps ++ [o]
theorem place_get {o : Pr} (h : o ∈ ps) : ps[place ps o]? = some o := by
  unfold place
  rw [List.getElem?_eq_some_iff]
  exact ⟨List.idxOf_lt_length_of_mem h, List.getElem_idxOf _⟩
theorem addP_mem (ps : List Pr) (o : Pr) : o ∈ addP ps o := by
  unfold addP
  split
  · assumption
  · simp
theorem addP_old {o q : Pr} {i : Nat} (h : ps[i]? = some q) : (addP ps o)[i]? = some q := by
  unfold addP
  split
  · exact h
  · obtain ⟨hi, _⟩ := List.getElem?_eq_some_iff.mp h
    rw [List.getElem?_append_left hi]
    exact h
theorem EdOk.add {o : Pr} {e : Ed} (h : EdOk W ps e) : EdOk W (addP ps o) e := by
  obtain ⟨u, v, h1, h2, h3, h4⟩ := h
  exact ⟨u, v, addP_old h1, addP_old h2, h3, h4⟩
theorem GI.add (hW : Wd W) (G : GI W ps es Dn) {p x : Nat} {u : Pr} {s : Tx × Tx × Int × Int} (hp : ps[p]? = some u) (hx : x ∈ letters W) (hs : s ∈ steps W u.1 u.2 x) :
    GI W (addP ps (s.1, s.2.1)) (es ++ [⟨p, x, place (addP ps (s.1, s.2.1)) (s.1, s.2.1), s.2.2.1, s.2.2.2⟩]) (fun i y r => Dn i y r ∨ (i = p ∧ y = x ∧ r = s)) := by
  have hu : u ∈ ps := List.mem_of_getElem? hp
  have hh := hW.steps_held (G.held u hu).1 hx hs
  have hpl := place_get (addP_mem ps (s.1, s.2.1))
  have ps0 : p < ps.length := (List.getElem?_eq_some_iff.mp hp).1
  refine ⟨addP_old G.zero, ?_, fun q hq => ?_, fun e he => ?_, fun j h0 h1 => ?_, fun i y r d => ?_⟩
  · unfold addP
    split
    · exact G.nd
    · rename_i hn
      exact List.nodup_append.mpr ⟨G.nd, by simp, fun a ha b hb e => hn (by rw [List.mem_singleton.mp hb] at e; rw [← e]; exact ha)⟩
  · unfold addP at hq
    split at hq
    · exact G.held q hq
    · rcases List.mem_append.mp hq with hq | hq
      · exact G.held q hq
      · rw [List.mem_singleton.mp hq]; exact ⟨hh.1, hh.2.1⟩
  · rcases List.mem_append.mp he with he | he
    · exact (G.ed e he).add
    · rw [List.mem_singleton.mp he]
      exact ⟨u, _, addP_old hp, hpl, hx, hs⟩
  · by_cases hj : j < ps.length
    · obtain ⟨e, e1, e2, e3⟩ := G.reach j h0 hj
      exact ⟨e, List.mem_append_left _ e1, e2, e3⟩
    · refine ⟨_, List.mem_append_right _ (List.mem_singleton.mpr rfl), ?_, ?_⟩
      · show place (addP ps (s.1, s.2.1)) (s.1, s.2.1) = j
        unfold addP at h1
        split at h1
        · exact absurd h1 hj
        · rename_i hn
          have ej : j = ps.length := by simp at h1; omega
          unfold addP place
          rw [if_neg hn, List.idxOf_append, if_neg hn, ej]
          simp
      · show p < j
        omega
  · rcases d with d | ⟨rfl, rfl, rfl⟩
    · obtain ⟨e, e1, e2, e3, e4, e5⟩ := G.closed i y r d
      exact ⟨e, List.mem_append_left _ e1, e2, e3, addP_old e4, e5⟩
    · exact ⟨_, List.mem_append_right _ (List.mem_singleton.mpr rfl), rfl, rfl, hpl, rfl, rfl⟩
/-- the whole graph -/
structure Gr (W : WL) (ps : List Pr) (es : List Ed) : Prop where
  zero : ps[0]? = some ([], [])
  nd : ps.Nodup
  held : ∀ q ∈ ps, Held W q.1 ∧ Held W q.2
  ed : ∀ e ∈ es, EdOk W ps e
  reach : ∀ j, 0 < j → j < ps.length → ∃ e ∈ es, e.dst = j ∧ e.src < j
  closed : ∀ i u x s, ps[i]? = some u → x ∈ letters W → s ∈ steps W u.1 u.2 x → ∃ e ∈ es, e.src = i ∧ e.x = x ∧ ps[e.dst]? = some (s.1, s.2.1) ∧ e.g = s.2.2.1 ∧ e.l = s.2.2.2
  few : es.length ≤ 10000
theorem GI.done (G : GI W ps es Dn) (h : ∀ i u x s, ps[i]? = some u → x ∈ letters W → s ∈ steps W u.1 u.2 x → Dn i x s) (hl : es.length ≤ 10000) : Gr W ps es :=
  ⟨G.zero, G.nd, G.held, G.ed, G.reach, fun i u x s a b c => G.closed i x s (h i u x s a b c), hl⟩
theorem Gr.len (hW : Wd W) (G : Gr W ps es) : 1 ≤ ps.length ∧ ps.length ≤ 169 := ⟨by
  obtain ⟨h, _⟩ := List.getElem?_eq_some_iff.mp G.zero
  omega, hW.pairs_len G.nd G.held⟩
theorem Gr.src (G : Gr W ps es) {e : Ed} (h : e ∈ es) : e.src < ps.length ∧ e.dst < ps.length := by
  obtain ⟨u, v, h1, h2, _⟩ := G.ed e h
  exact ⟨(List.getElem?_eq_some_iff.mp h1).1, (List.getElem?_eq_some_iff.mp h2).1⟩
/-! chains of edges -/
def Chain (es : List Ed) : Nat → List Ed → Nat → Prop
  | i, [], j => i = j
  | i, e :: p, j => e ∈ es ∧ e.src = i ∧ Chain es e.dst p j
theorem Chain.append : ∀ {p q : List Ed} {i j k : Nat}, Chain es i p j → Chain es j q k → Chain es i (p ++ q) k
  | [], _, i, j, k, h, h' => by have h : i = j := h; subst h; exact h'
  | e :: p, q, i, j, k, h, h' => by
    obtain ⟨h1, h2, h3⟩ := h
    exact ⟨h1, h2, Chain.append h3 h'⟩
theorem Chain.one {e : Ed} (h : e ∈ es) : Chain es e.src [e] e.dst := ⟨h, rfl, rfl⟩
theorem Chain.mem : ∀ {p : List Ed} {i j : Nat}, Chain es i p j → ∀ e ∈ p, e ∈ es
  | [], _, _, _, _, h => by cases h
  | e :: p, i, j, h, d, hd => by
    obtain ⟨h1, h2, h3⟩ := h
    rcases List.mem_cons.mp hd with q | hd
    · rw [q]; exact h1
    · exact Chain.mem h3 d hd
def txt (p : List Ed) : Tx := p.map (·.x)
def gains (p : List Ed) : Int := (p.map (·.g)).sum
def losses (p : List Ed) : Int := (p.map (·.l)).sum
/-- the words that a chain closes, beginning with a tail -/
def rowOf (ps : List Pr) : Tx → List Ed → List Tx
  | _, [] => []
  | t, e :: p => (if ((ps[e.dst]?).getD ([], [])).2 = [] then [t ++ [e.x]] else []) ++ rowOf ps ((ps[e.dst]?).getD ([], [])).2 p
structure Told (W : WL) (ps : List Pr) (i : Nat) (p : List Ed) (j : Nat) : Prop where
  ex : ∃ u v, ps[i]? = some u ∧ ps[j]? = some v ∧ readAll W u.1 (txt p) = (gains p, v.1) ∧ u.2 ++ txt p = (rowOf ps u.2 p).flatten ++ v.2 ∧ costRow W (rowOf ps u.2 p) = losses p ∧ (∀ w ∈ rowOf ps u.2 p, w ∈ names W) ∧ ∀ y ∈ txt p, y ∈ letters W
theorem Gr.told (hW : Wd W) (G : Gr W ps es) : ∀ {p : List Ed} {i j : Nat}, i < ps.length → Chain es i p j → Told W ps i p j
  | [], i, j, hi, h => by
    have h : i = j := h
    subst h
    have e : ps[i]? = some ps[i] := by simp [hi]
    exact ⟨_, _, e, e, rfl, by simp [txt, rowOf], rfl, fun w hw => (by cases hw), fun y hy => (by cases hy)⟩
  | e :: p, i, j, hi, h => by
    obtain ⟨h1, h2, h3⟩ := h
    obtain ⟨u, v, e1, e2, e3, e4⟩ := G.ed e h1
    rw [h2] at e1
    obtain ⟨v', z, f1, f2, f3, f4, f5, f6, f7⟩ := (Gr.told hW G (G.src h1).2 h3).ex
    rw [e2] at f1
    cases f1
    have gd : (ps[e.dst]?).getD ([], []) = v := by rw [e2]; rfl
    refine ⟨u, z, e1, f2, ?_, ?_, ?_, ?_, ?_⟩
    · have r1 : v.1 = (readOn W u.1 e.x).2 ∧ e.g = costRow W (readOn W u.1 e.x).1 := by
        rcases mem_steps.mp e4 with ⟨_, q⟩ | ⟨_, q⟩ <;> (injection q with q1 q2; injection q2 with q2 q3; injection q3 with q3 q4; exact ⟨q1, q3⟩)
      show (costRow W (readOn W u.1 e.x).1 + (readAll W (readOn W u.1 e.x).2 (txt p)).1, (readAll W (readOn W u.1 e.x).2 (txt p)).2) = (e.g + gains p, z.1)
      rw [← r1.1, f3, ← r1.2]
    · show u.2 ++ e.x :: txt p = ((if ((ps[e.dst]?).getD ([], [])).2 = [] then [u.2 ++ [e.x]] else []) ++ rowOf ps ((ps[e.dst]?).getD ([], [])).2 p).flatten ++ z.2
      rw [gd]
      rcases mem_steps.mp e4 with ⟨_, q⟩ | ⟨_, q⟩
      · injection q with q1 q2
        injection q2 with q2 q3
        rw [q2] at f4
        rw [q2, if_pos rfl]
        simp only [List.nil_append] at f4
        simp [f4]
      · injection q with q1 q2
        injection q2 with q2 q3
        rw [q2] at f4
        rw [q2, if_neg (by simp)]
        simp only [List.append_assoc] at f4
        simpa using f4
    · show costRow W ((if ((ps[e.dst]?).getD ([], [])).2 = [] then [u.2 ++ [e.x]] else []) ++ rowOf ps ((ps[e.dst]?).getD ([], [])).2 p) = e.l + losses p
      rw [gd, costRow_append, f5]
      rcases mem_steps.mp e4 with ⟨_, q⟩ | ⟨_, q⟩ <;> (injection q with q1 q2; injection q2 with q2 q3; injection q3 with q3 q4)
      · rw [q2, if_pos rfl, q4, costRow_cons, costRow_nil, Int.add_zero]
      · rw [q2, if_neg (by simp), q4]; rfl
    · intro w hw
      have hw : w ∈ (if ((ps[e.dst]?).getD ([], [])).2 = [] then [u.2 ++ [e.x]] else []) ++ rowOf ps ((ps[e.dst]?).getD ([], [])).2 p := hw
      rw [gd] at hw
      rcases List.mem_append.mp hw with hw | hw
      · rcases mem_steps.mp e4 with ⟨q0, q⟩ | ⟨q0, q⟩ <;> (injection q with q1 q2; injection q2 with q2 q3)
        · rw [q2, if_pos rfl] at hw
          rw [List.mem_singleton.mp hw]; exact q0
        · rw [q2, if_neg (by simp)] at hw; cases hw
      · exact f6 w hw
    · intro y hy
      rcases List.mem_cons.mp hy with q | hy
      · rw [q]; exact e3
      · exact f7 y hy
/-- a closed chain closes a word -/
theorem Gr.loss (hW : Wd W) (G : Gr W ps es) {e : Ed} (h : e ∈ es) : 0 ≤ e.l ∧ e.l ≤ 9 ∧ (e.l = 0 → ∃ u v : Pr, ps[e.src]? = some u ∧ ps[e.dst]? = some v ∧ v.2.length = u.2.length + 1) := by
  obtain ⟨u, v, e1, e2, e3, e4⟩ := G.ed e h
  have hu := (G.held u (List.mem_of_getElem? e1))
  have b := hW.steps_held hu.1 e3 e4
  refine ⟨b.2.2.1, b.2.2.2, fun z => ⟨u, v, e1, e2, ?_⟩⟩
  rcases mem_steps.mp e4 with ⟨q0, q⟩ | ⟨q0, q⟩ <;> (injection q with q1 q2; injection q2 with q2 q3; injection q3 with q3 q4)
  · have := (hW.cb q0).1
    rw [← q4, z] at this
    omega
  · rw [q2]; simp
theorem Gr.losses_nn (hW : Wd W) (G : Gr W ps es) : ∀ {p : List Ed}, (∀ e ∈ p, e ∈ es) → 0 ≤ losses p ∧ losses p ≤ 9 * p.length
  | [], _ => by simp [losses]
  | e :: p, h => by
    have a := G.loss hW (h e (by simp))
    have b := Gr.losses_nn hW G (p := p) fun d hd => h d (by simp [hd])
    have q : losses (e :: p) = e.l + losses p := rfl
    rw [q, List.length_cons]
    omega
theorem Gr.losses_zero (hW : Wd W) (G : Gr W ps es) : ∀ {p : List Ed} {i j : Nat}, i < ps.length → Chain es i p j → losses p = 0 → ∃ u v : Pr, ps[i]? = some u ∧ ps[j]? = some v ∧ v.2.length = u.2.length + p.length
  | [], i, j, hi, h, _ => by
    have h : i = j := h
    subst h
    exact ⟨ps[i], ps[i], by simp [hi], by simp [hi], rfl⟩
  | e :: p, i, j, hi, h, z => by
    obtain ⟨h1, h2, h3⟩ := h
    have q : losses (e :: p) = e.l + losses p := rfl
    have a := G.loss hW h1
    have b := G.losses_nn hW (p := p) h3.mem
    obtain ⟨u, v, e1, e2, e3⟩ := a.2.2 (by omega)
    obtain ⟨v', t, f1, f2, f3⟩ := Gr.losses_zero hW G (G.src h1).2 h3 (by omega)
    rw [e2] at f1
    cases f1
    rw [h2] at e1
    exact ⟨u, t, e1, f2, by rw [List.length_cons]; omega⟩
theorem Gr.losses_pos (hW : Wd W) (G : Gr W ps es) {p : List Ed} {i : Nat} (hi : i < ps.length) (h : Chain es i p i) (hp : p ≠ []) : 1 ≤ losses p := by
  have b := G.losses_nn hW (p := p) h.mem
  by_cases z : losses p = 0
  · obtain ⟨u, v, e1, e2, e3⟩ := G.losses_zero hW hi h z
    rw [e1] at e2
    cases e2
    have := List.length_pos_iff.mpr hp
    omega
  · omega
theorem rd_cost (hW : Wd W) : ∀ (n : Nat) (t : Tx), t.length ≤ n → Over W t → 0 ≤ costRow W (rd W n t).1 ∧ costRow W (rd W n t).1 ≤ 9 * t.length
  | 0, t, _, _ => by simp [rd, costRow]; omega
  | n + 1, t, hl, ho => by
    unfold rd
    by_cases c : t ≠ [] ∧ canGrow W t = false
    · rw [if_pos c]
      have L := hW.isLon ho c.1
      have s := hW.size L.nm
      have ih := rd_cost hW n (t.drop (lon W t).length) (by rw [List.length_drop]; omega) (ho.drop _)
      show 0 ≤ costRow W (_ :: _) ∧ costRow W (_ :: _) ≤ _
      rw [costRow_cons]
      have cb := hW.cb L.nm
      have l := L.le
      rw [List.length_drop] at ih
      omega
    · rw [if_neg c]
      show 0 ≤ costRow W [] ∧ costRow W [] ≤ _
      rw [costRow_nil]
      omega
theorem Gr.gain (hW : Wd W) (G : Gr W ps es) {e : Ed} (h : e ∈ es) : 0 ≤ e.g ∧ e.g ≤ 36 := by
  obtain ⟨u, v, e1, e2, e3, e4⟩ := G.ed e h
  have hu := (G.held u (List.mem_of_getElem? e1)).1
  have l := hu.len hW
  have r := rd_cost hW (u.1.length + 1) (u.1 ++ [e.x]) (by simp) ((hu.over hW).append (Over.one e3))
  rw [List.length_append] at r
  have q : e.g = costRow W (readOn W u.1 e.x).1 := by
    rcases mem_steps.mp e4 with ⟨_, q⟩ | ⟨_, q⟩ <;> (injection q with q1 q2; injection q2 with q2 q3; injection q3 with q3 q4)
  rw [q]
  unfold readOn
  simp at r
  omega
theorem Gr.gains_nn (hW : Wd W) (G : Gr W ps es) : ∀ {p : List Ed}, (∀ e ∈ p, e ∈ es) → 0 ≤ gains p ∧ gains p ≤ 36 * p.length
  | [], _ => by simp [gains]
  | e :: p, h => by
    have a := G.gain hW (h e (by simp))
    have b := Gr.gains_nn hW G (p := p) fun d hd => h d (by simp [hd])
    have q : gains (e :: p) = e.g + gains p := rfl
    rw [q, List.length_cons]
    omega
end
end GC

-- part M4
set_option linter.all false
set_option maxRecDepth 100000
set_option maxHeartbeats 4000000
namespace GC
/-! ### greatest sums of weights, raised along edges: plain -/
structure BS where
  h : List (Option Int)
  l : List (Option Nat)
  r : Option Nat
/-- one edge is tried -/
def relax (wt : Ed → Int) (st : BS) (e : Ed) (k : Nat) : BS :=
  match (st.h[e.src]?).getD none with
  | none => st
  | some hu =>
    match (st.h[e.dst]?).getD none with
    | none => ⟨st.h.set e.dst (some (hu + wt e)), st.l.set e.dst (some k), some e.dst⟩
    | some hv => if hv < hu + wt e then ⟨st.h.set e.dst (some (hu + wt e)), st.l.set e.dst (some k), some e.dst⟩ else st
def riseFrom (wt : Ed → Int) : Nat → List Ed → BS → BS
  | _, [], st => st
  | k, e :: es, st => riseFrom wt (k + 1) es (relax wt st e k)
def riseF (wt : Ed → Int) (es : List Ed) (h : List (Option Int)) (l : List (Option Nat)) : BS := riseFrom wt 0 es ⟨h, l, none⟩
def hAt (h : List (Option Int)) (v : Nat) : Option Int := (h[v]?).getD none
def lAt (l : List (Option Nat)) (v : Nat) : Option Nat := (l[v]?).getD none
/-- an edge is satisfied -/
def Sat (wt : Ed → Int) (h : List (Option Int)) (e : Ed) : Prop := ∀ hu, hAt h e.src = some hu → ∃ hv, hAt h e.dst = some hv ∧ hu + wt e ≤ hv
/-- rounds: Rj tells in which round an edge was tried last; r in which round a height was raised last; τ when -/
structure BF (n : Nat) (es : List Ed) (wt : Ed → Int) (h : List (Option Int)) (l : List (Option Nat)) (Rj : Nat → Nat) (R : Nat) (r τ : Nat → Nat) (clk : Nat) : Prop where
  hl : h.length = n
  ll : l.length = n
  zero : ∃ z, hAt h 0 = some z ∧ 0 ≤ z ∧ (lAt l 0 = none → z = 0)
  from_ : ∀ v k, lAt l v = some k → ∃ e hu hv, es[k]? = some e ∧ e.dst = v ∧ hAt h e.src = some hu ∧ hAt h v = some hv ∧ hv ≤ hu + wt e ∧ (hv < hu + wt e ∨ τ e.src < τ v) ∧ r v ≤ r e.src + 1
  some_ : ∀ v, v ≠ 0 → (hAt h v).isSome = true → (lAt l v).isSome = true
  rl : ∀ v, 1 ≤ r v → (lAt l v).isSome = true
  rR : ∀ v, r v ≤ R
  tc : ∀ v, τ v ≤ clk
  sat : ∀ k e, es[k]? = some e → r e.src < Rj k → Sat wt h e
section
variable {n : Nat} {es : List Ed} {wt : Ed → Int} {h : List (Option Int)} {l : List (Option Nat)} {Rj : Nat → Nat} {R : Nat} {r τ : Nat → Nat} {clk : Nat}
theorem hAt_set {v u : Nat} {x : Option Int} (hv : v < h.length) : hAt (h.set v x) u = if u = v then x else hAt h u := by
  unfold hAt
  by_cases e : u = v
  · subst e
    rw [if_pos rfl, List.getElem?_set_self hv]
    rfl
  · rw [if_neg e, List.getElem?_set_ne (Ne.symm e)]
theorem lAt_set {v u : Nat} {x : Option Nat} (hv : v < l.length) : lAt (l.set v x) u = if u = v then x else lAt l u := by
  unfold lAt
  by_cases e : u = v
  · subst e
    rw [if_pos rfl, List.getElem?_set_self hv]
    rfl
  · rw [if_neg e, List.getElem?_set_ne (Ne.symm e)]
/-- a height is raised -/
theorem BF.raise (B : BF n es wt h l Rj R r τ clk) {k : Nat} {e : Ed} {hu : Int} (he : es[k]? = some e) (hn : e.dst < n) (h1 : hAt h e.src = some hu) (h2 : ∀ hv, hAt h e.dst = some hv → hv < hu + wt e) (hR : R ≤ Rj k + 1) (hj : ∀ j, Rj j ≤ R) (h1R : 1 ≤ R) :
    BF n es wt (h.set e.dst (some (hu + wt e))) (l.set e.dst (some k)) (fun j => if j = k then R else Rj j) R (fun v => if v = e.dst then R else r v) (fun v => if v = e.dst then clk + 1 else τ v) (clk + 1) := by
  have hd : e.dst < h.length := by rw [B.hl]; exact hn
  have ld : e.dst < l.length := by rw [B.ll]; exact hn
  have notSat : ¬ Sat wt h e := fun s => by
    obtain ⟨hv, a, b⟩ := s hu h1
    have := h2 hv a
    omega
  have rsrc : R ≤ r e.src + 1 := by
    by_cases q : r e.src < Rj k
    · exact absurd (B.sat k e he q) notSat
    · omega
  have up : ∀ hv, hAt h e.dst = some hv → hv < hu + wt e := h2
  refine ⟨by simpa using B.hl, by simpa using B.ll, ?_, fun v j q => ?_, fun v hv q => ?_, fun v q => ?_, fun v => ?_, fun v => ?_, fun j d hjd q => ?_⟩
  · obtain ⟨z, z1, z2, z3⟩ := B.zero
    rw [hAt_set hd, lAt_set ld]
    by_cases e0 : 0 = e.dst
    · rw [if_pos e0, if_pos e0]
      rw [e0] at z1
      have := up z z1
      exact ⟨_, rfl, by omega, fun w => by cases w⟩
    · rw [if_neg e0, if_neg e0]
      exact ⟨z, z1, z2, z3⟩
  · rw [lAt_set ld] at q
    by_cases ev : v = e.dst
    · rw [if_pos ev] at q
      cases q
      refine ⟨e, ?_⟩
      rw [hAt_set hd, hAt_set hd, if_pos ev, if_pos ev, if_pos ev]
      by_cases es : e.src = e.dst
      · rw [if_pos es, if_pos es]
        rw [es] at h1
        have w := up hu h1
        exact ⟨_, _, he, ev.symm, rfl, rfl, by omega, .inl (by omega), by rw [if_pos es]; omega⟩
      · rw [if_neg es, if_neg es]
        have := B.tc e.src
        exact ⟨_, _, he, ev.symm, h1, rfl, Int.le_refl _, .inr (by omega), by rw [if_neg es]; exact rsrc⟩
    · rw [if_neg ev] at q
      obtain ⟨d, du, dv, d1, d2, d3, d4, d5, d6, d7⟩ := B.from_ v j q
      refine ⟨d, ?_⟩
      rw [hAt_set hd, hAt_set hd, if_neg ev, if_neg ev, if_neg ev]
      by_cases es : d.src = e.dst
      · rw [if_pos es, if_pos es, if_pos es]
        rw [es] at d3
        have w := up du d3
        have := B.rR v
        exact ⟨_, _, d1, d2, rfl, d4, by omega, .inl (by omega), by omega⟩
      · rw [if_neg es, if_neg es, if_neg es]
        exact ⟨_, _, d1, d2, d3, d4, d5, d6, d7⟩
  · rw [lAt_set ld]
    rw [hAt_set hd] at q
    by_cases ev : v = e.dst
    · rw [if_pos ev]; rfl
    · rw [if_neg ev] at q ⊢
      exact B.some_ v hv q
  · rw [lAt_set ld]
    by_cases ev : v = e.dst
    · rw [if_pos ev]; rfl
    · rw [if_neg ev]
      have q : 1 ≤ (if v = e.dst then R else r v) := q
      rw [if_neg ev] at q
      exact B.rl v q
  · show (if v = e.dst then R else r v) ≤ R
    split
    · exact Nat.le_refl _
    · exact B.rR v
  · show (if v = e.dst then clk + 1 else τ v) ≤ clk + 1
    split
    · exact Nat.le_refl _
    · have := B.tc v; omega
  · have q : (if d.src = e.dst then R else r d.src) < (if j = k then R else Rj j) := q
    by_cases es : d.src = e.dst
    · rw [if_pos es] at q
      have : (if j = k then R else Rj j) ≤ R := by
        split
        · exact Nat.le_refl _
        · exact hj j
      omega
    · rw [if_neg es] at q
      intro x hx
      rw [hAt_set hd, if_neg es] at hx
      rw [hAt_set hd]
      by_cases ed : d.dst = e.dst
      · rw [if_pos ed]
        refine ⟨_, rfl, ?_⟩
        by_cases ej : j = k
        · subst ej
          rw [he] at hjd
          cases hjd
          rw [h1] at hx
          cases hx
          exact Int.le_refl _
        · rw [if_neg ej] at q
          obtain ⟨y, y1, y2⟩ := B.sat j d hjd q x hx
          rw [ed] at y1
          have := up y y1
          omega
      · rw [if_neg ed]
        by_cases ej : j = k
        · subst ej
          rw [he] at hjd
          cases hjd
          exact absurd rfl ed
        · rw [if_neg ej] at q
          exact B.sat j d hjd q x hx
theorem BF.keep (B : BF n es wt h l Rj R r τ clk) {k : Nat} {e : Ed} (he : es[k]? = some e) (hs : Sat wt h e) : BF n es wt h l (fun j => if j = k then R else Rj j) R r τ clk :=
  ⟨B.hl, B.ll, B.zero, B.from_, B.some_, B.rl, B.rR, B.tc, fun j d hjd q => by
    by_cases ej : j = k
    · subst ej
      rw [he] at hjd
      cases hjd
      exact hs
    · have q : r d.src < (if j = k then R else Rj j) := q
      rw [if_neg ej] at q
      exact B.sat j d hjd q⟩
/-- one edge tried, within the round R -/
theorem BF.relax (B : BF n es wt h l Rj R r τ clk) {k : Nat} {e : Ed} {rr : Option Nat} (he : es[k]? = some e) (hn : e.dst < n) (hR : R ≤ Rj k + 1) (hj : ∀ j, Rj j ≤ R) (h1R : 1 ≤ R) (hrr : ∀ v, rr = some v → v < n ∧ r v = R) :
    ∃ r' τ' clk', BF n es wt (relax wt ⟨h, l, rr⟩ e k).h (GC.relax wt ⟨h, l, rr⟩ e k).l (fun j => if j = k then R else Rj j) R r' τ' clk' ∧ (∀ v, (GC.relax wt ⟨h, l, rr⟩ e k).r = some v → v < n ∧ r' v = R) ∧
      ((GC.relax wt ⟨h, l, rr⟩ e k).r = none → (GC.relax wt ⟨h, l, rr⟩ e k).h = h ∧ (GC.relax wt ⟨h, l, rr⟩ e k).l = l ∧ rr = none ∧ Sat wt h e) := by
  unfold GC.relax
  cases h1 : (h[e.src]?).getD none with
  | none =>
    have s : Sat wt h e := fun hu q => by
      have q : (h[e.src]?).getD none = some hu := q
      rw [h1] at q; cases q
    simp only [h1]
    exact ⟨r, τ, clk, B.keep he s, hrr, fun q => (by first | exact ⟨rfl, rfl, q, s⟩ | exact ⟨trivial, trivial, q, s⟩)⟩
  | some hu =>
    have h1' : hAt h e.src = some hu := h1
    simp only [h1]
    cases h2 : (h[e.dst]?).getD none with
    | none =>
      simp only [h2]
      refine ⟨_, _, _, B.raise he hn h1' (fun hv q => ?_) hR hj h1R, fun v q => ?_, fun q => by cases q⟩
      · have q : (h[e.dst]?).getD none = some hv := q
        rw [h2] at q; cases q
      · cases q
        exact ⟨hn, if_pos rfl⟩
    | some hv =>
      simp only [h2]
      by_cases c : hv < hu + wt e
      · rw [if_pos c]
        refine ⟨_, _, _, B.raise he hn h1' (fun hv' q => ?_) hR hj h1R, fun v q => ?_, fun q => by cases q⟩
        · have q : (h[e.dst]?).getD none = some hv' := q
          rw [h2] at q; cases q
          exact c
        · cases q
          exact ⟨hn, if_pos rfl⟩
      · rw [if_neg c]
        have s : Sat wt h e := fun hu' q => by
          have q : (h[e.src]?).getD none = some hu' := q
          rw [h1] at q; cases q
          exact ⟨hv, h2, by omega⟩
        exact ⟨r, τ, clk, B.keep he s, hrr, fun q => ⟨rfl, rfl, q, s⟩⟩
/-- a round, from the edge k on -/
theorem BF.round : ∀ (fs : List Ed) (k : Nat) (h : List (Option Int)) (l : List (Option Nat)) (rr : Option Nat) (r τ : Nat → Nat) (clk : Nat), (∀ j e, fs[j]? = some e → es[k + j]? = some e ∧ e.dst < n) → 1 ≤ R →
    BF n es wt h l (fun j => if j < k then R else R - 1) R r τ clk → (∀ v, rr = some v → v < n ∧ r v = R) → 
    ∃ r' τ' clk', BF n es wt (riseFrom wt k fs ⟨h, l, rr⟩).h (riseFrom wt k fs ⟨h, l, rr⟩).l (fun j => if j < k + fs.length then R else R - 1) R r' τ' clk' ∧ (∀ v, (riseFrom wt k fs ⟨h, l, rr⟩).r = some v → v < n ∧ r' v = R) ∧
      ((riseFrom wt k fs ⟨h, l, rr⟩).r = none → (riseFrom wt k fs ⟨h, l, rr⟩).h = h ∧ (riseFrom wt k fs ⟨h, l, rr⟩).l = l ∧ rr = none ∧ ∀ e ∈ fs, Sat wt h e)
  | [], k, h, l, rr, r, τ, clk, _, _, B, hrr => ⟨r, τ, clk, B, hrr, fun q => ⟨rfl, rfl, q, fun e he => by cases he⟩⟩
  | e :: fs, k, h, l, rr, r, τ, clk, hf, h1R, B, hrr => by
    obtain ⟨e0, en⟩ := hf 0 e rfl
    obtain ⟨r1, τ1, c1, B1, b1, b2⟩ := B.relax (rr := rr) (k := k) e0 en (by show R ≤ (if k < k then R else R - 1) + 1; rw [if_neg (by omega)]; omega) (fun j => by show (if j < k then R else R - 1) ≤ R; split <;> omega) h1R hrr
    have ef : (fun j => if j = k then R else (fun j => if j < k then R else R - 1) j) = fun j => if j < k + 1 then R else R - 1 := by
      funext j
      simp only
      by_cases q : j = k
      · rw [if_pos q, if_pos (by omega)]
      · rw [if_neg q]
        by_cases q2 : j < k
        · rw [if_pos q2, if_pos (by omega)]
        · rw [if_neg q2, if_neg (by omega)]
    rw [ef] at B1
    obtain ⟨r2, τ2, c2, B2, d1, d2⟩ := BF.round fs (k + 1) _ _ (GC.relax wt ⟨h, l, rr⟩ e k).r r1 τ1 c1 (fun j d q => by
      have z := hf (j + 1) d (by simpa using q)
      have e : k + 1 + j = k + (j + 1) := by omega
      rw [e]; exact z) h1R B1 b1
    refine ⟨r2, τ2, c2, ?_, d1, fun q => ?_⟩
    · have ee : k + (e :: fs).length = k + 1 + fs.length := by rw [List.length_cons]; omega
      rw [ee]
      exact B2
    · obtain ⟨q1, q2, q3, q4⟩ := d2 q
      obtain ⟨p1, p2, p3, p4⟩ := b2 q3
      refine ⟨q1.trans p1, q2.trans p2, p3, fun f hf => ?_⟩
      rcases List.mem_cons.mp hf with z | hf
      · rw [z]; exact p4
      · have z := q4 f hf
        rw [p1] at z
        exact z
end
end GC

-- part M5
set_option linter.all false
set_option maxRecDepth 100000
set_option maxHeartbeats 4000000
namespace GC
/-! ### circles, ways, ratios: plain -/
abbrev BFk (n : Nat) (es : List Ed) (wt : Ed → Int) (h : List (Option Int)) (l : List (Option Nat)) (k : Nat) (r τ : Nat → Nat) (clk : Nat) : Prop := BF n es wt h l (fun _ => k) k r τ clk
def startH (n : Nat) : List (Option Int) := (List.replicate n none).set 0 (some 0)
def startL (n : Nat) : List (Option Nat) := List.replicate n none
theorem lAt_start (n v : Nat) : lAt (startL n) v = none := by
  unfold lAt startL
  rw [List.getElem?_replicate]
  split <;> rfl
theorem hAt_start {n : Nat} (hn : 0 < n) (v : Nat) : hAt (startH n) v = if v = 0 then some 0 else none := by
  unfold startH
  rw [hAt_set (by simpa using hn)]
  split
  · rfl
  · unfold hAt
    rw [List.getElem?_replicate]
    split <;> rfl
def srcOf (es : List Ed) (l : List (Option Nat)) (v : Nat) : Nat := match lAt l v with
  | some k => ((es[k]?).map (·.src)).getD 0
  | none => 0
def back (es : List Ed) (l : List (Option Nat)) : Nat → Nat → Nat
  | 0, v => v
  | j + 1, v => srcOf es l (back es l j v)
section
variable {n : Nat} {es : List Ed} {wt : Ed → Int} {h : List (Option Int)} {l : List (Option Nat)} {R k : Nat} {r τ : Nat → Nat} {clk : Nat}
theorem BF.start (hn : 0 < n) : BFk n es wt (startH n) (startL n) 0 (fun _ => 0) (fun _ => 0) 0 := by
  refine ⟨by simp [startH], by simp [startL], ⟨0, ?_, by omega, fun _ => rfl⟩, fun v j q => ?_, fun v hv q => ?_, fun v q => ?_, fun v => Nat.le_refl _, fun v => Nat.le_refl _, fun j e _ q => by omega⟩
  · rw [hAt_start hn, if_pos rfl]
  · rw [lAt_start] at q; cases q
  · rw [hAt_start hn, if_neg hv] at q; cases q
  · omega
theorem BF.rise (B : BFk n es wt h l k r τ clk) (hd : ∀ e ∈ es, e.dst < n) :
    ((riseF wt es h l).r = none → (riseF wt es h l).h = h ∧ (riseF wt es h l).l = l ∧ ∀ e ∈ es, Sat wt h e) ∧
    (∀ v, (riseF wt es h l).r = some v → v < n) ∧
    ∃ r' τ' clk', BFk n es wt (riseF wt es h l).h (riseF wt es h l).l (k + 1) r' τ' clk' ∧ ∀ v, (riseF wt es h l).r = some v → r' v = k + 1 := by
  have B0 : BF n es wt h l (fun j => if j < 0 then k + 1 else k + 1 - 1) (k + 1) r τ clk := by
    refine ⟨B.hl, B.ll, B.zero, B.from_, B.some_, B.rl, fun v => Nat.le_succ_of_le (B.rR v), B.tc, fun j e he q => B.sat j e he ?_⟩
    have q : r e.src < (if j < 0 then k + 1 else k + 1 - 1) := q
    rw [if_neg (by omega)] at q
    exact q
  obtain ⟨r', τ', clk', B1, b1, b2⟩ := BF.round (R := k + 1) es 0 h l none r τ clk (fun j e q => ⟨by rw [Nat.zero_add]; exact q, hd e (List.mem_of_getElem? q)⟩) (by omega) B0 (fun v q => by cases q)
  refine ⟨fun q => ?_, fun v q => (b1 v q).1, r', τ', clk', ⟨B1.hl, B1.ll, B1.zero, B1.from_, B1.some_, B1.rl, B1.rR, B1.tc, fun j e he q => B1.sat j e he ?_⟩, fun v q => (b1 v q).2⟩
  · obtain ⟨q1, q2, _, q4⟩ := b2 q
    exact ⟨q1, q2, q4⟩
  · have hj := (List.getElem?_eq_some_iff.mp he).1
    show r' e.src < if j < 0 + es.length then k + 1 else k + 1 - 1
    rw [if_pos (by omega)]
    exact q
/-- the step back -/
theorem BF.pred (B : BFk n es wt h l k r τ clk) {v j : Nat} (q : lAt l v = some j) : ∃ e hu hv, es[j]? = some e ∧ srcOf es l v = e.src ∧ e.dst = v ∧ hAt h e.src = some hu ∧ hAt h v = some hv ∧ hv ≤ hu + wt e ∧ (hv < hu + wt e ∨ τ e.src < τ v) ∧ r v ≤ r e.src + 1 := by
  obtain ⟨e, hu, hv, h1, h2⟩ := B.from_ v j q
  exact ⟨e, hu, hv, h1, by
    unfold srcOf
    rw [q]
    show ((es[j]?).map (·.src)).getD 0 = e.src
    rw [h1]
    rfl, h2⟩
theorem BF.back_r (B : BFk n es wt h l k r τ clk) {v : Nat} : ∀ j, j < r v → r v ≤ r (back es l j v) + j ∧ (lAt l (back es l j v)).isSome = true
  | 0, hj => ⟨Nat.le_refl _, B.rl v (by omega)⟩
  | j + 1, hj => by
    obtain ⟨h1, h2⟩ := BF.back_r (v := v) B j (by omega)
    obtain ⟨m, hm⟩ := Option.isSome_iff_exists.mp h2
    obtain ⟨e, hu, hv, _, es_, _, _, _, _, _, hr⟩ := B.pred hm
    have e1 : back es l (j + 1) v = e.src := es_
    have z : r v ≤ r (back es l (j + 1) v) + (j + 1) := by rw [e1]; omega
    exact ⟨z, B.rl (back es l (j + 1) v) (by omega)⟩
theorem BF.back_lt (B : BFk n es wt h l k r τ clk) (hs : ∀ e ∈ es, e.src < n) {v : Nat} (hv : v < n) : ∀ j, j ≤ r v → back es l j v < n
  | 0, _ => hv
  | j + 1, hj => by
    obtain ⟨_, h2⟩ := B.back_r (v := v) j (by omega)
    obtain ⟨m, hm⟩ := Option.isSome_iff_exists.mp h2
    obtain ⟨e, hu, hv, he, es_, _⟩ := B.pred hm
    show srcOf es l (back es l j v) < n
    rw [es_]
    exact hs e (List.mem_of_getElem? he)
theorem back_add (es : List Ed) (l : List (Option Nat)) (v : Nat) : ∀ i j, back es l (i + j) v = back es l i (back es l j v)
  | 0, j => by rw [Nat.zero_add]; rfl
  | i + 1, j => by
    rw [Nat.succ_add]
    show srcOf es l (back es l (i + j) v) = srcOf es l (back es l i (back es l j v))
    rw [back_add es l v i j]
theorem pigeon {m : Nat} (f : Nat → Nat) (hf : ∀ i, i ≤ m → f i < m) : ∃ i j, i < j ∧ j ≤ m ∧ f i = f j := by
  refine Classical.byContradiction fun hc => ?_
  have nd : ((List.range (m + 1)).map f).Nodup := by
    refine List.pairwise_map.mpr ((List.pairwise_lt_range (n := m + 1)).imp_of_mem fun {a b} ha hb hab e => hc ⟨a, b, hab, ?_, e⟩)
    rw [List.mem_range] at hb
    omega
  have := nodup_le (m := List.range m) nd fun x hx => by
    obtain ⟨i, hi, rfl⟩ := List.mem_map.mp hx
    rw [List.mem_range] at hi ⊢
    exact hf i (by omega)
  rw [List.length_map, List.length_range, List.length_range] at this
  omega
/-- behind n steps back one stands on a circle -/
theorem BF.circ (B : BFk n es wt h l k r τ clk) (hs : ∀ e ∈ es, e.src < n) {v : Nat} (hv : v < n) (hr : r v = n + 1) :
    ∃ p, 1 ≤ p ∧ p ≤ n ∧ back es l p (back es l n v) = back es l n v ∧ ∀ t, (lAt l (back es l t (back es l n v))).isSome = true := by
  obtain ⟨i, j, hij, hj, e⟩ := pigeon (fun i => back es l i v) fun i hi => B.back_lt hs hv i (by omega)
  have per : ∀ m, i ≤ m → back es l (m + (j - i)) v = back es l m v := fun m hm => by
    have e1 : m + (j - i) = (m - i) + j := by omega
    have e2 : m = (m - i) + i := by omega
    rw [e1, back_add, ← e, ← back_add, ← e2]
  have low : ∀ m, i ≤ m → ∃ q, q < j ∧ back es l m v = back es l q v := fun m => by
    induction m using Nat.strongRecOn with
    | ind m ih =>
      intro hm
      by_cases q : m < j
      · exact ⟨m, q, rfl⟩
      · obtain ⟨q, q1, q2⟩ := ih (m - (j - i)) (by omega) (by omega)
        have := per (m - (j - i)) (by omega)
        have e3 : m - (j - i) + (j - i) = m := by omega
        rw [e3] at this
        exact ⟨q, q1, this.trans q2⟩
  refine ⟨j - i, by omega, by omega, ?_, fun t => ?_⟩
  · rw [← back_add, Nat.add_comm]
    exact per n (by omega)
  · rw [← back_add]
    obtain ⟨q, q1, q2⟩ := low (t + n) (by omega)
    rw [q2]
    exact (B.back_r q (by omega)).2
/-! chains of last edges -/
def IsLast (es : List Ed) (l : List (Option Nat)) (p : List Ed) : Prop := ∀ e ∈ p, ∃ j, lAt l e.dst = some j ∧ es[j]? = some e
def wsum (wt : Ed → Int) (p : List Ed) : Int := (p.map wt).sum
theorem wsum_cons (e : Ed) (p : List Ed) : wsum wt (e :: p) = wt e + wsum wt p := rfl
theorem wsum_append (p q : List Ed) : wsum wt (p ++ q) = wsum wt p + wsum wt q := by unfold wsum; rw [List.map_append, List.sum_append]
theorem wsum_rev (p : List Ed) : wsum wt p.reverse = wsum wt p := by
  induction p with
  | nil => rfl
  | cons e p ih =>
    rw [List.reverse_cons, wsum_append, ih, wsum_cons]
    show wsum wt p + (wt e + 0) = wt e + wsum wt p
    omega
theorem wsum_bg (a b : Int) (p : List Ed) : wsum (fun e => b * e.g - a * e.l) p = b * gains p - a * losses p := by
  induction p with
  | nil => simp [wsum, gains, losses]
  | cons e p ih =>
    rw [wsum_cons, ih]
    show b * e.g - a * e.l + (b * gains p - a * losses p) = b * (e.g + gains p) - a * (e.l + losses p)
    rw [Int.mul_add, Int.mul_add]
    omega
theorem BF.chain (B : BFk n es wt h l k r τ clk) : ∀ {p : List Ed} {i j : Nat}, Chain es i p j → IsLast es l p → p ≠ [] → ∃ hi hj, hAt h i = some hi ∧ hAt h j = some hj ∧ hj ≤ hi + wsum wt p ∧ (hj < hi + wsum wt p ∨ τ i < τ j)
  | [], _, _, _, _, hp => absurd rfl hp
  | e :: p, i, j, hc, hl, _ => by
    obtain ⟨h1, h2, h3⟩ := hc
    obtain ⟨m, m1, m2⟩ := hl e (by simp)
    obtain ⟨e', hu, hv, a1, a2, a3, a4, a5, a6, a7, a8⟩ := B.pred m1
    rw [m2] at a1
    cases a1
    rw [h2] at a4 a7
    by_cases hp : p = []
    · subst hp
      have h3 : e.dst = j := h3
      subst h3
      refine ⟨hu, hv, a4, a5, ?_, ?_⟩
      · rw [wsum_cons]; show hv ≤ hu + (wt e + 0); omega
      · rw [wsum_cons]; show hv < hu + (wt e + 0) ∨ _
        rcases a7 with q | q
        · exact .inl (by omega)
        · exact .inr q
    · obtain ⟨x, y, b1, b2, b3, b4⟩ := BF.chain B h3 (fun d hd => hl d (by simp [hd])) hp
      rw [a5] at b1
      cases b1
      refine ⟨hu, y, a4, b2, by rw [wsum_cons]; omega, ?_⟩
      rw [wsum_cons]
      rcases a7 with q | q
      · exact .inl (by omega)
      · rcases b4 with w | w
        · exact .inl (by omega)
        · exact .inr (by omega)
/-- a circle of last edges has a sum above 0 -/
theorem BF.pos (B : BFk n es wt h l k r τ clk) {p : List Ed} {i : Nat} (hc : Chain es i p i) (hl : IsLast es l p) (hp : p ≠ []) : 0 < wsum wt p := by
  obtain ⟨hi, hj, a1, a2, a3, a4⟩ := B.chain hc hl hp
  rw [a1] at a2
  cases a2
  rcases a4 with q | q <;> omega
/-! satisfied -/
theorem sat_all (hs : ∀ e ∈ es, Sat wt h e) (hz : ∃ z, hAt h 0 = some z) (hr : ∀ j, 0 < j → j < n → ∃ e ∈ es, e.dst = j ∧ e.src < j) : ∀ v, v < n → ∃ x, hAt h v = some x := fun v => by
  induction v using Nat.strongRecOn with
  | ind v ih =>
    intro hv
    by_cases q : v = 0
    · subst q; exact hz
    · obtain ⟨e, e1, e2, e3⟩ := hr v (by omega) hv
      obtain ⟨x, hx⟩ := ih e.src e3 (by omega)
      obtain ⟨y, y1, _⟩ := hs e e1 x hx
      rw [e2] at y1
      exact ⟨y, y1⟩
theorem sat_chain (hs : ∀ e ∈ es, Sat wt h e) : ∀ {p : List Ed} {i j : Nat} {x : Int}, Chain es i p j → hAt h i = some x → ∃ y, hAt h j = some y ∧ x + wsum wt p ≤ y
  | [], i, j, x, hc, hx => by
    have hc : i = j := hc
    subst hc
    exact ⟨x, hx, by show x + 0 ≤ x; omega⟩
  | e :: p, i, j, x, hc, hx => by
    obtain ⟨h1, h2, h3⟩ := hc
    rw [← h2] at hx
    obtain ⟨y, y1, y2⟩ := hs e h1 x hx
    obtain ⟨z, z1, z2⟩ := sat_chain hs h3 y1
    exact ⟨z, z1, by rw [wsum_cons]; omega⟩
/-- the ratio rises, but not for ever -/
theorem ratio_up {a b a' b' M : Int} (hb : 0 < b) (hb' : 0 < b') (bM : b ≤ M) (bM' : b' ≤ M) (up : a * b' < a' * b) : (a * (M * M)) / b + 1 ≤ (a' * (M * M)) / b' := by
  have q : (a * (M * M)) / b * b ≤ a * (M * M) := Int.ediv_mul_le _ (by omega)
  refine (Int.le_ediv_iff_mul_le hb').mpr ?_
  generalize (a * (M * M)) / b = d at q ⊢
  refine Int.le_of_mul_le_mul_right (a := b) ?_ hb
  have e1 : (d + 1) * b' * b = d * b * b' + b * b' := by
    rw [Int.add_mul, Int.add_mul, Int.one_mul, Int.mul_right_comm, Int.mul_comm b' b]
  have m1 : d * b * b' ≤ a * (M * M) * b' := Int.mul_le_mul_of_nonneg_right q (by omega)
  have m2 : b * b' ≤ M * M := Int.mul_le_mul bM bM' (by omega) (by omega)
  have e2 : a * (M * M) * b' = (a * b') * (M * M) := Int.mul_right_comm _ _ _
  have e3 : a' * (M * M) * b = (a' * b) * (M * M) := Int.mul_right_comm _ _ _
  have m3 : (a * b' + 1) * (M * M) ≤ (a' * b) * (M * M) := Int.mul_le_mul_of_nonneg_right (by omega) (Int.mul_nonneg (by omega) (by omega))
  rw [Int.add_mul, Int.one_mul] at m3
  rw [e1, e3]
  rw [e2] at m1
  omega
end
end GC

-- part M6
set_option linter.all false
set_option maxRecDepth 100000
set_option maxHeartbeats 4000000
namespace GC
/-! ### the worst ratio, a circle of sum 0: plain -/
def wtOf (a b : Int) : Ed → Int := fun e => b * e.g - a * e.l
structure RatOk (ps : List Pr) (es : List Ed) (a b : Int) : Prop where
  b1 : 1 ≤ b
  bM : b ≤ 1521
  ab : b ≤ a
  aM : a ≤ 6084
  gcd : Nat.gcd a.natAbs b.natAbs = 1
  why : (a = 1 ∧ b = 1) ∨ ∃ i C, i < ps.length ∧ Chain es i C i ∧ C ≠ [] ∧ b * gains C = a * losses C
structure CycOk (ps : List Pr) (es : List Ed) (a b : Int) (C : List Ed) : Prop where
  ch : ∃ i, i < ps.length ∧ Chain es i C i
  ne : C ≠ []
  len : C.length ≤ 169
  pos : 0 < wsum (wtOf a b) C
theorem RatOk.start (ps : List Pr) (es : List Ed) : RatOk ps es 1 1 := ⟨by omega, by omega, by omega, by omega, rfl, .inl ⟨rfl, rfl⟩⟩
section
variable {W : WL} {ps : List Pr} {es : List Ed} {a b : Int}
theorem CycOk.bounds (hW : Wd W) (G : Gr W ps es) {C : List Ed} (c : CycOk ps es a b C) : 0 ≤ gains C ∧ gains C ≤ 6084 ∧ 1 ≤ losses C ∧ losses C ≤ 1521 := by
  obtain ⟨i, hi, ch⟩ := c.ch
  have g := G.gains_nn hW ch.mem
  have l := G.losses_nn hW ch.mem
  have p := G.losses_pos hW hi ch c.ne
  have n := c.len
  omega
theorem ratio_next (hW : Wd W) (G : Gr W ps es) (R : RatOk ps es a b) {C : List Ed} (c : CycOk ps es a b C) :
    RatOk ps es (gains C / (Nat.gcd (gains C).natAbs (losses C).natAbs : Nat)) (losses C / (Nat.gcd (gains C).natAbs (losses C).natAbs : Nat)) ∧
    a * (losses C / (Nat.gcd (gains C).natAbs (losses C).natAbs : Nat)) < (gains C / (Nat.gcd (gains C).natAbs (losses C).natAbs : Nat)) * b ∧
    1 ≤ Nat.gcd (gains C).natAbs (losses C).natAbs ∧ Nat.gcd (gains C).natAbs (losses C).natAbs ≤ 1521 := by
  obtain ⟨g0, g1, l0, l1⟩ := c.bounds hW G
  obtain ⟨i, hi, ch⟩ := c.ch
  have p := c.pos
  rw [show wtOf a b = fun e : Ed => b * e.g - a * e.l from rfl, wsum_bg] at p
  obtain ⟨m, hm⟩ := Int.eq_ofNat_of_zero_le g0
  obtain ⟨k, hk⟩ := Int.eq_ofNat_of_zero_le (show 0 ≤ losses C by omega)
  have why0 : ∀ x y : Int, y * gains C = x * losses C → (x = 1 ∧ y = 1) ∨ ∃ i C, i < ps.length ∧ Chain es i C i ∧ C ≠ [] ∧ y * gains C = x * losses C := fun x y e => .inr ⟨i, C, hi, ch, c.ne, e⟩
  rw [hm, hk] at p why0 ⊢
  rw [hm] at g0 g1
  rw [hk] at l0 l1
  simp only [Int.natAbs_natCast]
  have k0 : 0 < k := by omega
  have d0 : 0 < Nat.gcd m k := Nat.gcd_pos_of_pos_right _ k0
  have co : Nat.gcd (m / Nat.gcd m k) (k / Nat.gcd m k) = 1 := Nat.coprime_div_gcd_div_gcd d0
  have ma : m / Nat.gcd m k * Nat.gcd m k = m := Nat.div_mul_cancel (Nat.gcd_dvd_left m k)
  have kb : k / Nat.gcd m k * Nat.gcd m k = k := Nat.div_mul_cancel (Nat.gcd_dvd_right m k)
  have dk : Nat.gcd m k ≤ k := Nat.le_of_dvd k0 (Nat.gcd_dvd_right m k)
  rw [← Int.natCast_ediv, ← Int.natCast_ediv]
  generalize Nat.gcd m k = d at *
  have la : m / d ≤ m := Nat.div_le_self _ _
  have lb : k / d ≤ k := Nat.div_le_self _ _
  have b1 : 1 ≤ k / d := Nat.div_pos dk d0
  generalize m / d = a' at *
  generalize k / d = b' at *
  subst ma kb
  have up : a * (b' : Int) < (a' : Int) * b := by
    have e : b * ((a' * d : Nat) : Int) - a * ((b' * d : Nat) : Int) = ((a' : Int) * b - a * (b' : Int)) * (d : Int) := by
      rw [Int.natCast_mul, Int.natCast_mul, Int.sub_mul, Int.mul_comm (a' : Int) b, Int.mul_assoc, Int.mul_assoc]
    rw [e] at p
    have q : 0 < (a' : Int) * b - a * (b' : Int) := Int.pos_of_mul_pos_left p (by omega) 
    omega
  have h1 := R.b1
  have h2 := R.ab
  refine ⟨⟨by omega, by omega, ?_, by omega, ?_, why0 _ _ ?_⟩, up, d0, by omega⟩
  · have m1 : b * (b' : Int) ≤ a * (b' : Int) := Int.mul_le_mul_of_nonneg_right h2 (by omega)
    have m2 : b * (b' : Int) < b * (a' : Int) := by rw [Int.mul_comm b (a' : Int)]; omega
    have := Int.lt_of_mul_lt_mul_left m2 (by omega)
    omega
  · simpa using co
  · rw [Int.natCast_mul, Int.natCast_mul, ← Int.mul_assoc, ← Int.mul_assoc, Int.mul_comm (b' : Int)]
end
end GC

-- part M7
set_option linter.all false
set_option maxRecDepth 100000
set_option maxHeartbeats 4000000
namespace GC
section
variable {W : WL} {ps : List Pr} {es : List Ed} {a b : Int} {wt : Ed → Int} {h : List (Option Int)}
/-- an edge without slack -/
def Tight (wt : Ed → Int) (h : List (Option Int)) (e : Ed) : Prop := ∃ x, hAt h e.src = some x ∧ hAt h e.dst = some (x + wt e)
/-- from each place of S a tight edge leads to S -/
structure TS' (es : List Ed) (wt : Ed → Int) (h : List (Option Int)) (n : Nat) (S : Nat → Prop) : Prop where
  ne : ∃ v, S v
  lt : ∀ v, S v → v < n
  go : ∀ v, S v → ∃ e ∈ es, e.src = v ∧ Tight wt h e ∧ S e.dst
theorem chain_tight (hs : ∀ e ∈ es, Sat wt h e) : ∀ {p : List Ed} {i j : Nat} {x y : Int}, Chain es i p j → hAt h i = some x → hAt h j = some y → y ≤ x + wsum wt p → ∀ e ∈ p, Tight wt h e
  | [], _, _, _, _, _, _, _, _, _, he => by cases he
  | e :: p, i, j, x, y, hc, hx, hy, hle, d, hd => by
    obtain ⟨h1, h2, h3⟩ := hc
    rw [← h2] at hx
    obtain ⟨z, z1, z2⟩ := hs e h1 x hx
    obtain ⟨y', y1, y2⟩ := sat_chain hs h3 z1
    rw [hy] at y1
    cases y1
    rw [wsum_cons] at hle
    have ez : z = x + wt e := by omega
    rcases List.mem_cons.mp hd with q | hd
    · rw [q]; exact ⟨x, hx, by rw [z1, ez]⟩
    · exact chain_tight hs h3 z1 hy (by omega) d hd
theorem chain_next : ∀ {p : List Ed} {i j : Nat}, Chain es i p j → ∀ e ∈ p, e.dst = j ∨ ∃ d ∈ p, d.src = e.dst
  | [], _, _, _, _, he => by cases he
  | e :: p, i, j, hc, d, hd => by
    obtain ⟨h1, h2, h3⟩ := hc
    rcases List.mem_cons.mp hd with q | hd
    · subst q
      cases p with
      | nil => exact .inl h3
      | cons f p => exact .inr ⟨f, by simp, h3.2.1⟩
    · rcases chain_next h3 d hd with q | ⟨f, f1, f2⟩
      · exact .inl q
      · exact .inr ⟨f, by simp [f1], f2⟩
theorem tight_of_circle (G : Gr W ps es) (hs : ∀ e ∈ es, Sat wt h e) (hz : ∀ v, v < ps.length → ∃ x, hAt h v = some x) {C : List Ed} {i : Nat} (hi : i < ps.length) (hc : Chain es i C i) (hn : C ≠ []) (h0 : 0 ≤ wsum wt C) : TS' es wt h ps.length fun v => ∃ e ∈ C, e.src = v := by
  obtain ⟨x, hx⟩ := hz i hi
  have t := chain_tight hs hc hx hx (by omega)
  refine ⟨?_, fun v ⟨e, e1, e2⟩ => by rw [← e2]; exact (G.src (hc.mem e e1)).1, fun v ⟨e, e1, e2⟩ => ⟨e, hc.mem e e1, e2, t e e1, ?_⟩⟩
  · cases C with
    | nil => exact absurd rfl hn
    | cons e C => exact ⟨_, e, by simp, rfl⟩
  · rcases chain_next hc e e1 with q | q
    · cases C with
      | nil => exact absurd rfl hn
      | cons f C => exact ⟨f, by simp, by rw [q]; exact hc.2.1⟩
    · exact q
theorem top_of (f : Nat → Option Int) : ∀ n, ∃ B, ∀ v, v < n → ∀ z, f v = some z → z ≤ B
  | 0 => ⟨0, fun v hv => by omega⟩
  | n + 1 => by
    obtain ⟨B, hB⟩ := top_of f n
    cases e : f n with
    | none => exact ⟨B, fun v hv z hz => by
        by_cases q : v = n
        · subst q; rw [e] at hz; cases hz
        · exact hB v (by omega) z hz⟩
    | some y => exact ⟨if B < y then y else B, fun v hv z hz => by
        by_cases q : v = n
        · subst q; rw [e] at hz; cases hz; split <;> omega
        · have := hB v (by omega) z hz; split <;> omega⟩
theorem settles (f : Nat → Int) (mono : ∀ m, f m ≤ f (m + 1)) : ∀ (k : Nat) (B : Int) (m0 : Nat), (∀ m, f m ≤ B) → B - f m0 ≤ k → ∃ M, ∀ m, M ≤ m → f m = f (m + 1)
  | 0, B, m0, hB, hk => ⟨m0, fun m hm => by
    have up : ∀ j, f m0 ≤ f (m0 + j) := fun j => by
      induction j with
      | zero => exact Int.le_refl _
      | succ j ih => exact Int.le_trans ih (mono (m0 + j))
    have e : m = m0 + (m - m0) := by omega
    have u := up (m - m0)
    rw [← e] at u
    have := hB m
    have := hB (m + 1)
    have := mono m
    omega⟩
  | k + 1, B, m0, hB, hk => by
    by_cases q : ∃ m, f m0 < f m
    · obtain ⟨m, hm⟩ := q
      exact settles f mono k B m hB (by omega)
    · refine ⟨m0, fun m hm => ?_⟩
      have u1 : ¬ f m0 < f m := fun w => q ⟨m, w⟩
      have u2 : ¬ f m0 < f (m + 1) := fun w => q ⟨m + 1, w⟩
      have up : ∀ j, f m0 ≤ f (m0 + j) := fun j => by
        induction j with
        | zero => exact Int.le_refl _
        | succ j ih => exact Int.le_trans ih (mono (m0 + j))
      have e : m = m0 + (m - m0) := by omega
      have u := up (m - m0)
      rw [← e] at u
      have := mono m
      omega
theorem match_cost_le (hW : Wd W) {t : Tx} (ho : Over W t) : costRow W (matchOf W t) ≤ 9 * t.length :=
  match_ind hW (P := fun t r => costRow W r ≤ 9 * t.length) (by rw [costRow_nil]; simp) (fun t ho hn ih => by
    have L := hW.isLon ho hn
    have s := hW.size L.nm
    have c := hW.cb L.nm
    have l := L.le
    rw [costRow_cons]
    rw [List.length_drop] at ih
    omega) t.length t (Nat.le_refl _) ho
theorem rep_take (x m k : Nat) : (List.replicate m x).take k = List.replicate (min k m) x := List.take_replicate
/-- the one text of one letter, cut by the longest match: a tight way without end -/
theorem tight_one (hW : Wd W) (G : Gr W ps es) (hs : ∀ e ∈ es, Sat (wtOf 1 1) h e) (hz : ∀ v, v < ps.length → ∃ x, hAt h v = some x) : ∃ S, TS' es (wtOf 1 1) h ps.length S := by
  -- a letter
  obtain ⟨x, hx⟩ : ∃ x, x ∈ letters W := by
    cases hc : W with
    | nil => have := hW.len.1; rw [hc] at this; simp at this
    | cons p r =>
      have hp : p ∈ W := by rw [hc]; simp
      have s := (hW.ent p hp).1
      cases hw : p.1 with
      | nil => rw [hw] at s; simp at s
      | cons y t => exact ⟨y, by rw [← hc]; exact mem_letters.mpr (hW.clo p hp y (by rw [hw]; simp))⟩
  have or_ : ∀ m, Over W (List.replicate m x) := fun m y hy => by rw [(List.mem_replicate.mp hy).2]; exact hx
  -- its longest word x ^ k
  have L4 := hW.isLon (or_ 4) (by simp)
  obtain ⟨k, hk⟩ : ∃ k, k = (lon W (List.replicate 4 x)).length := ⟨_, rfl⟩
  have sk := hW.size L4.nm
  rw [← hk] at sk
  have ek : lon W (List.replicate 4 x) = List.replicate k x := by
    have p := L4.pre
    rw [← hk, rep_take, Nat.min_eq_left sk.2] at p
    exact p
  have nk : List.replicate k x ∈ names W := by rw [← ek]; exact L4.nm
  have topk : ∀ j, List.replicate j x ∈ names W → j ≤ k := fun j hj => by
    have s := hW.size hj
    rw [List.length_replicate] at s
    have t := L4.top _ hj (by rw [List.length_replicate, rep_take, Nat.min_eq_left s.2])
    rw [List.length_replicate, ← hk] at t
    exact t
  have lonk : ∀ m, k ≤ m → lon W (List.replicate m x) = List.replicate k x := fun m hm => by
    have L := hW.isLon (or_ m) (fun e => by have := congrArg List.length e; simp at this; omega)
    refine L.uniq ⟨nk, by rw [List.length_replicate, rep_take, Nat.min_eq_left hm], fun u hu hp => ?_⟩
    rw [rep_take] at hp
    rw [List.length_replicate]
    have lu : u.length = min u.length m := by
      have q := congrArg List.length hp
      rwa [List.length_replicate] at q
    rw [← lu] at hp
    rw [hp] at hu
    exact topk _ hu
  obtain ⟨c, hc⟩ : ∃ c, c = costIn W (List.replicate k x) := ⟨_, rfl⟩
  have cb := hW.cb nk
  rw [← hc] at cb
  -- what the longest match costs
  have cm : ∀ j m, m / k = j → (j : Int) * c ≤ costRow W (matchOf W (List.replicate m x)) := fun j => by
    induction j with
    | zero =>
      intro m _
      have nn : ∀ t, Over W t → 0 ≤ costRow W (matchOf W t) := fun t ho => match_ind hW (P := fun t r => 0 ≤ costRow W r) (by rw [costRow_nil]; exact Int.le_refl _) (fun t ho hn ih => by
        have := hW.cb (hW.isLon ho hn).nm
        rw [costRow_cons]; omega) t.length t (Nat.le_refl _) ho
      have := nn _ (or_ m)
      simp only [Int.natCast_zero, Int.zero_mul]
      exact this
    | succ j ih =>
      intro m hm
      have km : k ≤ m := by
        refine Nat.le_of_not_lt fun q => ?_
        rw [Nat.div_eq_of_lt q] at hm
        omega
      have hn : List.replicate m x ≠ [] := fun e => by have := congrArg List.length e; simp at this; omega
      rw [hW.match_cons (or_ m) hn, lonk m km, costRow_cons, ← hc, List.length_replicate, List.drop_replicate]
      have d : (m - k) / k = j := by
        have := Nat.div_eq_sub_div (a := m) (b := k) (by omega) km
        omega
      have := ih (m - k) d
      have e : ((j + 1 : Nat) : Int) * c = (j : Int) * c + c := by rw [Int.natCast_succ, Int.add_mul, Int.one_mul]
      rw [e]
      omega
  -- the way
  obtain ⟨hd, ehd⟩ : ∃ hd : Nat → Tx, hd = fun m => (readAll W [] (List.replicate m x)).2 := ⟨_, rfl⟩
  obtain ⟨gm, egm⟩ : ∃ gm : Nat → Int, gm = fun m => (readAll W [] (List.replicate m x)).1 := ⟨_, rfl⟩
  have hd0 : hd 0 = [] := by rw [ehd]; rfl
  have gm0 : gm 0 = 0 := by rw [egm]; rfl
  have stepR : ∀ m, readAll W [] (List.replicate (m + 1) x) = (gm m + costRow W (readOn W (hd m) x).1, (readOn W (hd m) x).2) := fun m => by
    rw [List.replicate_succ', readAll_append, egm, ehd]
    show (_ + (costRow W (readOn W _ x).1 + 0), _) = _
    rw [Int.add_zero]
    rfl
  have hdS : ∀ m, hd (m + 1) = (readOn W (hd m) x).2 := fun m => by
    have := stepR m
    rw [ehd] at this ⊢
    show (readAll W [] (List.replicate (m + 1) x)).2 = _
    rw [this]
  have gmS : ∀ m, gm (m + 1) = gm m + costRow W (readOn W (hd m) x).1 := fun m => by
    have := stepR m
    have e : gm (m + 1) = (readAll W [] (List.replicate (m + 1) x)).1 := by rw [egm]
    rw [e, this]
  have hh : ∀ m, Held W (hd m) := fun m => by rw [ehd]; exact hW.readAll_held _ _ (.inl rfl) (or_ m)
  -- the loss of the m-th letter
  have st : ∀ m v, ps[v]? = some (hd m, List.replicate (m % k) x) → ∃ e ∈ es, e.src = v ∧ ps[e.dst]? = some (hd (m + 1), List.replicate ((m + 1) % k) x) ∧ e.g = gm (m + 1) - gm m ∧ e.l = (((m + 1) / k : Nat) : Int) * c - ((m / k : Nat) : Int) * c := fun m v hv => by
    have kp : 0 < k := by omega
    have lt := Nat.mod_lt m kp
    have app : List.replicate (m % k) x ++ [x] = List.replicate (m % k + 1) x := by rw [List.replicate_succ']
    have dm := Nat.div_add_mod m k
    by_cases q : m % k + 1 = k
    · have e1 : (m + 1) % k = 0 := by
        have : m + 1 = k * (m / k + 1) := by rw [Nat.mul_add, Nat.mul_one]; omega
        rw [this, Nat.mul_mod_right]
      have e2 : (m + 1) / k = m / k + 1 := by
        have : m + 1 = k * (m / k + 1) := by rw [Nat.mul_add, Nat.mul_one]; omega
        rw [this, Nat.mul_div_cancel_left _ kp]
      have hw : List.replicate (m % k) x ++ [x] ∈ names W := by rw [app, q]; exact nk
      obtain ⟨e, f1, f2, f3, f4, f5, f6⟩ := G.closed v _ x _ hv hx (mem_steps.mpr (.inl ⟨hw, rfl⟩))
      refine ⟨e, f1, f2, by rw [f4, hdS, e1]; rfl, by rw [f5, gmS]; show costRow W (readOn W (hd m) x).1 = _; omega, ?_⟩
      rw [f6, e2, Int.natCast_succ, Int.add_mul, Int.one_mul]
      show costIn W (List.replicate (m % k) x ++ [x]) = _
      rw [app, q, ← hc]
      omega
    · have e1 : (m + 1) % k = m % k + 1 := by
        have : m + 1 = k * (m / k) + (m % k + 1) := by omega
        rw [this, Nat.mul_add_mod, Nat.mod_eq_of_lt (by omega)]
      have e2 : (m + 1) / k = m / k := by
        have : m + 1 = (m % k + 1) + k * (m / k) := by omega
        rw [this, Nat.add_mul_div_left _ _ kp, Nat.div_eq_of_lt (by omega), Nat.zero_add]
      have hg : canGrow W (List.replicate (m % k) x ++ [x]) = true := grow_iff.mpr ⟨_, nk, by rw [app, List.length_replicate, List.length_replicate]; omega, by rw [app, List.length_replicate, rep_take, Nat.min_eq_left (by omega)]⟩
      obtain ⟨e, f1, f2, f3, f4, f5, f6⟩ := G.closed v _ x _ hv hx (mem_steps.mpr (.inr ⟨hg, rfl⟩))
      refine ⟨e, f1, f2, by rw [f4, hdS, e1, app], by rw [f5, gmS]; show costRow W (readOn W (hd m) x).1 = _; omega, ?_⟩
      rw [f6, e2]
      show (0 : Int) = _
      omega
  have at_ : ∀ m, ∃ v, ps[v]? = some (hd m, List.replicate (m % k) x) := fun m => by
    induction m with
    | zero => exact ⟨0, by rw [G.zero, hd0, Nat.zero_mod]; rfl⟩
    | succ m ih =>
      obtain ⟨v, hv⟩ := ih
      obtain ⟨e, _, _, e3, _⟩ := st m v hv
      exact ⟨e.dst, e3⟩
  obtain ⟨vm, hvm⟩ : ∃ vm : Nat → Nat, ∀ m, ps[vm m]? = some (hd m, List.replicate (m % k) x) := ⟨fun m => (at_ m).choose, fun m => (at_ m).choose_spec⟩
  have vlt : ∀ m, vm m < ps.length := fun m => (List.getElem?_eq_some_iff.mp (hvm m)).1
  have same : ∀ v u q, ps[v]? = some q → ps[u]? = some q → v = u := fun v u q h1 h2 => by
    obtain ⟨a1, a2⟩ := List.getElem?_eq_some_iff.mp h1
    obtain ⟨b1, b2⟩ := List.getElem?_eq_some_iff.mp h2
    exact (List.getElem_inj G.nd).mp (a2.trans b2.symm)
  have stv : ∀ m, ∃ e ∈ es, e.src = vm m ∧ e.dst = vm (m + 1) ∧ e.g = gm (m + 1) - gm m ∧ e.l = (((m + 1) / k : Nat) : Int) * c - ((m / k : Nat) : Int) * c := fun m => by
    obtain ⟨e, e1, e2, e3, e4⟩ := st m _ (hvm m)
    exact ⟨e, e1, e2, same _ _ _ e3 (hvm (m + 1)), e4⟩
  obtain ⟨hv, hhv⟩ : ∃ hv : Nat → Int, ∀ m, hAt h (vm m) = some (hv m) := ⟨fun m => (hz _ (vlt m)).choose, fun m => (hz _ (vlt m)).choose_spec⟩
  obtain ⟨B, hB⟩ := top_of (hAt h) ps.length
  obtain ⟨f, ef⟩ : ∃ f : Nat → Int, f = fun m => hv m - (gm m - ((m / k : Nat) : Int) * c) := ⟨_, rfl⟩
  have mono : ∀ m, f m ≤ f (m + 1) := fun m => by
    obtain ⟨e, e1, e2, e3, e4, e5⟩ := stv m
    obtain ⟨y, y1, y2⟩ := hs e e1 (hv m) (by rw [e2]; exact hhv m)
    rw [e3, hhv] at y1
    cases y1
    rw [ef]
    show hv m - (gm m - ((m / k : Nat) : Int) * c) ≤ hv (m + 1) - (gm (m + 1) - (((m + 1) / k : Nat) : Int) * c)
    have w : wtOf 1 1 e = 1 * e.g - 1 * e.l := rfl
    rw [w, e4, e5] at y2
    omega
  have bnd : ∀ m, f m ≤ B + 27 := fun m => by
    have q1 := hB _ (vlt m) _ (hhv m)
    have q2 := cm (m / k) m rfl
    have q3 := hW.readAll_cost (List.replicate m x) [] (.inl rfl) (or_ m)
    rw [List.nil_append] at q3
    have q4 := match_cost_le hW ((hh m).over hW)
    have q5 := (hh m).len hW
    have q6 : costRow W (matchOf W (List.replicate m x)) = gm m + costRow W (matchOf W (hd m)) := by rw [q3, egm, ehd]
    rw [ef]
    show hv m - (gm m - ((m / k : Nat) : Int) * c) ≤ B + 27
    omega
  obtain ⟨M, hM⟩ := settles f mono (B + 27 - f 0).toNat (B + 27) 0 bnd (by omega)
  refine ⟨fun v => ∃ m, M ≤ m ∧ v = vm m, ⟨_, M, Nat.le_refl _, rfl⟩, fun v ⟨m, _, e⟩ => by rw [e]; exact vlt m, fun v ⟨m, hm, e⟩ => ?_⟩
  obtain ⟨d, e1, e2, e3, e4, e5⟩ := stv m
  refine ⟨d, e1, by rw [e2, e], ⟨hv m, by rw [e2]; exact hhv m, ?_⟩, m + 1, by omega, e3⟩
  rw [e3, hhv]
  have q := hM m hm
  rw [ef] at q
  have q : hv m - (gm m - ((m / k : Nat) : Int) * c) = hv (m + 1) - (gm (m + 1) - (((m + 1) / k : Nat) : Int) * c) := q
  have w : wtOf 1 1 d = 1 * d.g - 1 * d.l := rfl
  rw [w, e4, e5]
  congr 1
  omega
/-- a tight circle is there -/
theorem tight_set (hW : Wd W) (G : Gr W ps es) (R : RatOk ps es a b) (hs : ∀ e ∈ es, Sat (wtOf a b) h e) (hz : ∀ v, v < ps.length → ∃ x, hAt h v = some x) : ∃ S, TS' es (wtOf a b) h ps.length S := by
  rcases R.why with ⟨rfl, rfl⟩ | ⟨i, C, hi, hc, hn, e⟩
  · exact tight_one hW G hs hz
  · refine ⟨_, tight_of_circle G hs hz hi hc hn ?_⟩
    rw [show wtOf a b = fun e : Ed => b * e.g - a * e.l from rfl, wsum_bg]
    omega
end
end GC

-- part M8
set_option linter.all false
set_option maxRecDepth 100000
set_option maxHeartbeats 4000000
namespace GC
/-! ### least costs, all texts: plain -/
def minL : List Int → Int
  | [] => 0
  | [x] => x
  | x :: y :: r => if minL (y :: r) < x then minL (y :: r) else x
theorem minL_spec : ∀ l : List Int, l ≠ [] → minL l ∈ l ∧ ∀ y ∈ l, minL l ≤ y
  | [], h => absurd rfl h
  | [x], _ => ⟨by simp [minL], fun y hy => by rw [List.mem_singleton.mp hy]; exact Int.le_refl _⟩
  | x :: y :: r, _ => by
    obtain ⟨h1, h2⟩ := minL_spec (y :: r) (by simp)
    have e : minL (x :: y :: r) = if minL (y :: r) < x then minL (y :: r) else x := rfl
    rw [e]
    split
    · rename_i c
      refine ⟨List.mem_cons_of_mem _ h1, fun z hz => ?_⟩
      rcases List.mem_cons.mp hz with q | hz
      · omega
      · exact h2 z hz
    · rename_i c
      refine ⟨by simp, fun z hz => ?_⟩
      rcases List.mem_cons.mp hz with q | hz
      · omega
      · have := h2 z hz
        omega
def endsAt (t : Tx) (e : Nat) (p : Tx × Int) : Bool := decide ((t.drop (e - p.1.length)).take (e - (e - p.1.length)) = p.1)
def candL (W : WL) (t : Tx) (l : List Int) (e : Nat) : List Int := (W.filter (endsAt t e)).map fun p => l.getD (e - p.1.length) 0 + p.2
def bestL (W : WL) (t : Tx) : Nat → List Int
  | 0 => [0]
  | n + 1 => bestL W t n ++ [minL (candL W t (bestL W t n) (n + 1))]
def leastOf (W : WL) (t : Tx) : Int := (bestL W t t.length).getD t.length 0
structure IsLeast (W : WL) (u : Tx) (v : Int) : Prop where
  is : ∃ r, (∀ w ∈ r, w ∈ names W) ∧ r.flatten = u ∧ costRow W r = v
  low : ∀ r : List Tx, (∀ w ∈ r, w ∈ names W) → r.flatten = u → v ≤ costRow W r
section
variable {W : WL}
theorem bestL_len (t : Tx) : ∀ n, (bestL W t n).length = n + 1
  | 0 => rfl
  | n + 1 => by
    show (bestL W t n ++ [_]).length = _
    rw [List.length_append, bestL_len t n]
    rfl
theorem bestL_get (t : Tx) {k : Nat} : ∀ n, k ≤ n → (bestL W t n).getD k 0 = (bestL W t k).getD k 0
  | 0, h => by
    have e : k = 0 := by omega
    subst e; rfl
  | n + 1, h => by
    by_cases e : k = n + 1
    · subst e; rfl
    · rw [← bestL_get t n (by omega)]
      show (bestL W t n ++ [_]).getD k 0 = _
      rw [List.getD_eq_getElem?_getD, List.getD_eq_getElem?_getD, List.getElem?_append_left (by rw [bestL_len]; omega)]
theorem ends_of {t w : Tx} {e : Nat} (he : e ≤ t.length) : endsAt t e (w, 0) = true ↔ w.length ≤ e ∧ t.take e = t.take (e - w.length) ++ w := by
  unfold endsAt
  rw [decide_eq_true_eq]
  have split : t.take e = t.take (e - w.length) ++ (t.drop (e - w.length)).take (e - (e - w.length)) := by
    have q : e = (e - w.length) + (e - (e - w.length)) := by omega
    rw [show t.take e = t.take ((e - w.length) + (e - (e - w.length))) by rw [← q], List.take_add]
  constructor
  · intro h
    have h : (t.drop (e - w.length)).take (e - (e - w.length)) = w := h
    have l := congrArg List.length h
    rw [List.length_take, List.length_drop] at l
    refine ⟨by omega, ?_⟩
    rw [h] at split
    exact split
  · rintro ⟨_, h2⟩
    show (t.drop (e - w.length)).take (e - (e - w.length)) = w
    rw [split] at h2
    exact List.append_cancel_left h2
theorem endsAt_eq (t : Tx) (e : Nat) (p : Tx × Int) : endsAt t e p = endsAt t e (p.1, 0) := rfl
theorem cand_ne (hW : Wd W) {t : Tx} (ho : Over W t) {n : Nat} (hn : n < t.length) (l : List Int) : candL W t l (n + 1) ≠ [] := by
  have hx : t[n] ∈ letters W := ho _ (List.getElem_mem hn)
  obtain ⟨c, hc⟩ := mem_names.mp (mem_letters.mp hx)
  intro e
  have q : ([t[n]], c) ∈ W.filter (endsAt t (n + 1)) := List.mem_filter.mpr ⟨hc, by
    rw [endsAt_eq]
    refine (ends_of (by omega)).mpr ⟨by simp, ?_⟩
    show t.take (n + 1) = t.take (n + 1 - 1) ++ [t[n]]
    rw [Nat.add_sub_cancel, List.take_succ, List.getElem?_eq_getElem hn]
    rfl⟩
  unfold candL at e
  rw [List.map_eq_nil_iff] at e
  rw [e] at q
  cases q
theorem least_at (hW : Wd W) {t : Tx} (ho : Over W t) : ∀ m n, n ≤ m → n ≤ t.length → IsLeast W (t.take n) ((bestL W t n).getD n 0)
  | m, 0, _, _ => ⟨⟨[], (fun w hw => by cases hw), by simp, rfl⟩, fun r hr hf => by
      show (0 : Int) ≤ _
      cases r with
      | nil => exact Int.le_refl _
      | cons w r =>
        have s := hW.size (hr w (by simp))
        have q := congrArg List.length hf
        rw [List.flatten_cons, List.length_append] at q
        simp at q
        rw [q.1] at s
        simp at s⟩
  | 0, n + 1, h, _ => by omega
  | m + 1, n + 1, h, hn => by
    have hv : (bestL W t (n + 1)).getD (n + 1) 0 = minL (candL W t (bestL W t n) (n + 1)) := by
      show (bestL W t n ++ [_]).getD (n + 1) 0 = _
      rw [List.getD_eq_getElem?_getD, List.getElem?_append_right (by rw [bestL_len]; omega), bestL_len]
      simp
    rw [hv]
    obtain ⟨q1, q2⟩ := minL_spec _ (cand_ne hW ho (show n < t.length by omega) (bestL W t n))
    constructor
    · obtain ⟨p, hp, e⟩ := List.mem_map.mp q1
      obtain ⟨hp1, hp2⟩ := List.mem_filter.mp hp
      rw [endsAt_eq, ends_of hn] at hp2
      obtain ⟨l1, l2⟩ := hp2
      have hw : p.1 ∈ names W := List.mem_map_of_mem hp1
      have s := hW.size hw
      obtain ⟨r, r1, r2, r3⟩ := (least_at hW ho m (n + 1 - p.1.length) (by omega) (by omega)).is
      refine ⟨r ++ [p.1], fun w hw' => ?_, ?_, ?_⟩
      · rcases List.mem_append.mp hw' with hw' | hw'
        · exact r1 w hw'
        · rw [List.mem_singleton.mp hw']; exact hw
      · rw [List.flatten_append, r2, l2]; simp
      · rw [costRow_append, r3, costRow_cons, costRow_nil, ← e, bestL_get t n (by omega), hW.cost hp1]
        omega
    · intro r hr hf
      have ne : r ≠ [] := fun e => by
        rw [e] at hf
        have q := congrArg List.length hf
        rw [List.length_take] at q
        simp at q
        omega
      have er := (List.dropLast_concat_getLast ne).symm
      generalize r.dropLast = r' at er
      generalize r.getLast ne = w at er
      subst er
      have hw := hr w (by simp)
      have s := hW.size hw
      have hr' : ∀ u ∈ r', u ∈ names W := fun u hu => hr u (by simp [hu])
      rw [List.flatten_append] at hf
      have hf : r'.flatten ++ w = t.take (n + 1) := by simpa using hf
      have ln := congrArg List.length hf
      rw [List.length_append, List.length_take] at ln
      have f1 : r'.flatten = t.take (n + 1 - w.length) := by
        have q := congrArg (List.take r'.flatten.length) hf
        rw [List.take_left, List.take_take] at q
        rw [q]
        congr 1
        omega
      have en : endsAt t (n + 1) (w, 0) = true := (ends_of hn).mpr ⟨by omega, by rw [← hf, ← f1]⟩
      have lo := (least_at hW ho m (n + 1 - w.length) (by omega) (by omega)).low r' hr' f1
      have mem : (bestL W t n).getD (n + 1 - w.length) 0 + costIn W w ∈ candL W t (bestL W t n) (n + 1) :=
        List.mem_map.mpr ⟨(w, costIn W w), List.mem_filter.mpr ⟨hW.in_ hw, en⟩, rfl⟩
      have := q2 _ mem
      rw [bestL_get t n (by omega)] at this
      rw [costRow_append, costRow_cons, costRow_nil]
      omega
theorem leastOf_is (hW : Wd W) {t : Tx} (ho : Over W t) : IsLeast W t (leastOf W t) := by
  have h := least_at hW ho t.length t.length (Nat.le_refl _) (Nat.le_refl _)
  rwa [List.take_length] at h
/-! all texts -/
def rowsK (W : WL) : Nat → List Tx
  | 0 => [[]]
  | k + 1 => (rowsK W k).flatMap fun r => (letters W).map fun x => r ++ [x]
def allT (W : WL) : Nat → List Tx
  | 0 => [[]]
  | k + 1 => allT W k ++ rowsK W (k + 1)
theorem rowsK_mem {t : Tx} : ∀ k, t ∈ rowsK W k → Over W t ∧ t.length = k
  | 0, h => by rw [List.mem_singleton.mp h]; exact ⟨Over.nil, rfl⟩
  | k + 1, h => by
    obtain ⟨r, hr, h⟩ := List.mem_flatMap.mp h
    obtain ⟨x, hx, rfl⟩ := List.mem_map.mp h
    obtain ⟨o, l⟩ := rowsK_mem k hr
    exact ⟨o.append (Over.one hx), by simp [l]⟩
theorem allT_mem {t : Tx} : ∀ k, t ∈ allT W k → Over W t ∧ t.length ≤ k
  | 0, h => by rw [List.mem_singleton.mp h]; exact ⟨Over.nil, Nat.le_refl _⟩
  | k + 1, h => by
    rcases List.mem_append.mp h with h | h
    · obtain ⟨o, l⟩ := allT_mem k h
      exact ⟨o, by omega⟩
    · obtain ⟨o, l⟩ := rowsK_mem _ h
      exact ⟨o, by omega⟩
theorem flatMap_len {α β : Type} (f : α → List β) (n : Nat) : ∀ l : List α, (∀ x ∈ l, (f x).length = n) → (l.flatMap f).length = l.length * n
  | [], _ => by simp
  | x :: l, h => by
    rw [List.flatMap_cons, List.length_append, h x (by simp), flatMap_len f n l fun y hy => h y (by simp [hy]), List.length_cons, Nat.succ_mul, Nat.add_comm]
theorem rowsK_len (W : WL) : ∀ k, (rowsK W k).length = (letters W).length ^ k
  | 0 => rfl
  | k + 1 => by
    show ((rowsK W k).flatMap _).length = _
    rw [flatMap_len _ (letters W).length _ fun r _ => by rw [List.length_map], rowsK_len W k, Nat.pow_succ]
/-- no ratio has a common factor -/
theorem no_factor {a b : Int} (g : Nat.gcd a.natAbs b.natAbs = 1) {k : Int} (hk : 2 ≤ k) (ha : a % k = 0) (hb : b % k = 0) : False := by
  have h1 : k.natAbs ∣ a.natAbs := Int.natAbs_dvd_natAbs.mpr (Int.dvd_of_emod_eq_zero ha)
  have h2 : k.natAbs ∣ b.natAbs := Int.natAbs_dvd_natAbs.mpr (Int.dvd_of_emod_eq_zero hb)
  have h3 := Nat.dvd_gcd h1 h2
  rw [g] at h3
  have := Nat.dvd_one.mp h3
  omega
end
end GC

-- part RD0
set_option Elab.async false
set_option linter.all false
set_option maxRecDepth 100000
set_option maxHeartbeats 4000000
namespace GC
open PySem PySem.Spec PyProof.Rows L2
/-! ### how the data stand for the plain things -/
/-- texts of a bearable size -/
abbrev Sz (t : Tx) : Prop := t.length ≤ 50000
def encE (p : Tx × Int) : D := .tup [.str p.1, .int p.2]
def encW (W : WL) : D := .tup (W.map encE)
def encR (r : List Tx) : D := .tup (r.map D.str)
def encP (q : Tx × Tx × Int) : D := .tup [.str q.1, .str q.2.1, .int q.2.2]
def encT (T : List (Tx × Tx × Int)) : D := .tup (T.map encP)
def encS (s : Tx × Tx × Int × Int) : D := .tup [.str s.1, .str s.2.1, .int s.2.2.1, .int s.2.2.2]
def encEd (e : Ed) : D := .tup [.int (e.src : Nat), .str [e.x], .int (e.dst : Nat), .int e.g, .int e.l]
def alph : Tx := [97, 98, 99, 100, 101, 102, 103, 104, 105, 106, 107, 108, 109, 110, 111, 112, 113, 114, 115, 116, 117, 118, 119, 120, 121, 122]
theorem alph_is : ("abcdefghijklmnopqrstuvwxyz" : Str) = tx alph := by decide +kernel
theorem empty_is : ("" : Str) = tx [] := by decide +kernel
theorem alph_mem {x : Nat} (h1 : 97 ≤ x) (h2 : x ≤ 122) : x ∈ alph := by
  have : ∀ y, y < 26 → 97 + y ∈ alph := by decide
  have e : x = 97 + (x - 97) := by omega
  rw [e]
  exact this _ (by omega)
section
variable {K : PySem.W.Frag} {H H' : Hp} {ρ : List (Option D)} {te ta tb tc : TE} {t u : TT} {d e : D} {ds es : List D} {a b : Bool} {i j : Int} {s r : List Nat}
theorem de_empty : DE (tC (.str "")) H ρ (.str []) := de_str empty_is
theorem de_allM {α : Type} (xs : List α) (p : α → Bool) (ha : DLn ta H ρ (xs.map fun x => D.bl (p x))) : DE (tCB (rAll K) (tCons ta tNil)) H ρ (.bl (xs.all p)) := by
  have e : xs.map (fun x => D.bl (p x)) = (xs.map p).map D.bl := by rw [List.map_map]; rfl
  rw [e] at ha
  refine (de_all ha.dl).is ?_
  rw [List.all_map]
  rfl
theorem de_anyM {α : Type} (xs : List α) (p : α → Bool) (ha : DLn ta H ρ (xs.map fun x => D.bl (p x))) : DE (tCB (rAny K) (tCons ta tNil)) H ρ (.bl (xs.any p)) := by
  have e : xs.map (fun x => D.bl (p x)) = (xs.map p).map D.bl := by rw [List.map_map]; rfl
  rw [e] at ha
  refine (de_any ha.dl).is ?_
  rw [List.any_map]
  rfl
theorem de_sumM {α : Type} (xs : List α) (f : α → Int) (ha : DLn ta H ρ (xs.map fun x => D.int (f x))) : DE (tCB (rSum K) (tCons ta tNil)) H ρ (.int (xs.map f).sum) := by
  have e : xs.map (fun x => D.int (f x)) = (xs.map f).map D.int := by rw [List.map_map]; rfl
  rw [e] at ha
  exact de_sum ha.dl
theorem de_joinM {α : Type} (xs : List α) (f : α → Tx) (ha : DLn ta H ρ (xs.map fun x => D.str (f x))) (h : (xs.map f).flatten.length ≤ 100000) : DE (tM1 (rJoin K) (tC (.str "")) ta) H ρ (.str (xs.map f).flatten) := by
  have e : xs.map (fun x => D.str (f x)) = (xs.map f).map D.str := by rw [List.map_map]; rfl
  rw [e] at ha
  exact de_join empty_is ha.dl h
theorem di_rngN {n : Nat} (h : DE ta H ρ (.int (n : Int))) (h1 : n ≤ 1000000) : DI (iRng1 (tCons ta tNil)) H ρ ((List.range n).map fun k => D.int (k : Nat)) := by
  refine (di_rng1 h (by omega) (by omega)).is ?_
  rw [Int.toNat_natCast]
  exact List.map_congr_left fun k _ => by rw [Int.zero_add]
theorem de_ixLN {k : Nat} (ha : DL ta H ρ ds) (hb : DE tb H ρ (.int (k : Int))) (h : ds[k]? = some d) : DE (tOp (rIxL K) ta tb) H ρ d := de_ixL ha hb (atI_get h)
theorem de_ixTN {k : Nat} (ha : DE ta H ρ (.tup ds)) (hb : DE tb H ρ (.int (k : Int))) (h : ds[k]? = some d) : DE (tOp (rIxT K) ta tb) H ρ d := de_ixT ha hb (atI_get h)
theorem de_addN {m k : Nat} (ha : DE ta H ρ (.int (m : Int))) (hb : DE tb H ρ (.int (k : Int))) : DE (tOp (rI0 fun i j => .int (i + j)) ta tb) H ρ (.int ((m + k : Nat) : Int)) := (de_add ha hb).is (by rw [Int.natCast_add])
theorem de_subN {m k : Nat} (ha : DE ta H ρ (.int (m : Int))) (hb : DE tb H ρ (.int (k : Int))) (h : k ≤ m) : DE (tOp (rI0 fun i j => .int (i - j)) ta tb) H ρ (.int ((m - k : Nat) : Int)) := (de_sub ha hb).is (by congr 1; omega)
theorem de_nat {v : Int} (k : Nat) (h : v = (k : Int)) : DE (tC (.int v)) H ρ (.int (k : Int)) := de_int.is (by rw [h])
theorem atI_last {α : Type} {xs : List α} {x : α} (h : xs.getLast? = some x) : L2.atI xs (-1) = some x := by
  have hn : xs ≠ [] := fun e => by rw [e] at h; cases h
  have hl := List.length_pos_iff.mpr hn
  unfold L2.atI ixN
  rw [if_neg (by omega), if_pos (by omega)]
  show xs[((-1 : Int) + (xs.length : Int)).toNat]? = some x
  rw [List.getLast?_eq_getElem?] at h
  have e : ((-1 : Int) + (xs.length : Int)).toNat = xs.length - 1 := by omega
  rw [e]
  exact h
theorem sIx_nat' (n d k : Nat) : HT.sIx n d (some (k : Int)) = min k n := HT.sIx_nat n d k
theorem cut_from {α : Type} (xs : List α) (k : Nat) : cutD xs (some (k : Int)) none = xs.drop k := by
  unfold cutD
  rw [sIx_nat', HT.sIx_none]
  by_cases h : k ≤ xs.length
  · rw [Nat.min_eq_left h, List.take_of_length_le (by rw [List.length_drop]; omega)]
  · rw [Nat.min_eq_right (by omega), List.drop_of_length_le (by omega), List.drop_of_length_le (by omega)]
    simp
theorem cut_to {α : Type} (xs : List α) (k : Nat) : cutD xs none (some (k : Int)) = xs.take k := by
  unfold cutD
  rw [sIx_nat', HT.sIx_none, List.drop_zero, Nat.sub_zero]
  by_cases h : k ≤ xs.length
  · rw [Nat.min_eq_left h]
  · rw [Nat.min_eq_right (by omega), List.take_of_length_le (Nat.le_refl _), List.take_of_length_le (by omega)]
theorem cut_mid {α : Type} (xs : List α) (k m : Nat) (h : k ≤ xs.length) : cutD xs (some (k : Int)) (some (m : Int)) = (xs.drop k).take (m - k) := by
  unfold cutD
  rw [sIx_nat', sIx_nat', Nat.min_eq_left h]
  by_cases hm : m ≤ xs.length
  · rw [Nat.min_eq_left hm]
  · rw [Nat.min_eq_right (by omega), List.take_of_length_le (by rw [List.length_drop]; omega), List.take_of_length_le (by rw [List.length_drop]; omega)]
end
end GC

-- part DD
set_option Elab.async false
set_option linter.all false
set_option maxRecDepth 100000
set_option maxHeartbeats 4000000
namespace GC
open PySem PySem.Spec PyProof.Rows L2
/-! ### tables of numbers -/
section
variable {κ κ' : Type} [DecidableEq κ] [DecidableEq κ']
def getP (m : List (κ × Int)) (k : κ) : Option Int := (m.find? fun p => decide (p.1 = k)).map (·.2)
def putP (m : List (κ × Int)) (k : κ) (c : Int) : List (κ × Int) := if (m.any fun p => decide (p.1 = k)) = true then m.map (fun p => if p.1 = k then (p.1, c) else p) else m ++ [(k, c)]
def encM (f : κ → κ') (m : List (κ × Int)) : List (κ' × V) := m.map fun p => (f p.1, .int p.2)
theorem valV_enc {f : κ → κ'} (inj : ∀ a b, f a = f b → a = b) (k : κ) : ∀ m : List (κ × Int), valV (encM f m) (f k) = (getP m k).map V.int
  | [] => rfl
  | p :: m => by
    have ih := valV_enc inj k m
    unfold encM at ih ⊢
    rw [List.map_cons]
    by_cases h : p.1 = k
    · rw [valV_pos (p := (f p.1, V.int p.2)) (by rw [h])]
      simp [getP, List.find?_cons, h]
    · rw [valV_neg (p := (f p.1, V.int p.2)) (fun z => h (inj _ _ z)), ih]
      simp [getP, List.find?_cons, h]
theorem putK_enc {f : κ → κ'} (inj : ∀ a b, f a = f b → a = b) (k : κ) (c : Int) (m : List (κ × Int)) : putK (encM f m) (f k) (.int c) = encM f (putP m k c) := by
  have e : ((encM f m).any fun kv => decide (kv.1 = f k)) = m.any fun p => decide (p.1 = k) := by
    unfold encM
    rw [List.any_map]
    refine congrArg (fun g => m.any g) (funext fun p => ?_)
    show decide (f p.1 = f k) = decide (p.1 = k)
    exact decide_eq_decide.mpr ⟨inj _ _, fun h => by rw [h]⟩
  unfold putK putP
  rw [e]
  split
  · unfold encM
    rw [List.map_map, List.map_map]
    refine List.map_congr_left fun p _ => ?_
    show (if f p.1 = f k then (f p.1, V.int c) else (f p.1, V.int p.2)) = _
    by_cases h : p.1 = k
    · rw [if_pos (by rw [h])]
      show _ = (f (if p.1 = k then (p.1, c) else p).1, V.int (if p.1 = k then (p.1, c) else p).2)
      rw [if_pos h]
    · rw [if_neg (fun z => h (inj _ _ z))]
      show _ = (f (if p.1 = k then (p.1, c) else p).1, V.int (if p.1 = k then (p.1, c) else p).2)
      rw [if_neg h]
  · unfold encM
    rw [List.map_append]; rfl
theorem putP_len (m : List (κ × Int)) (k : κ) (c : Int) : (putP m k c).length ≤ m.length + 1 := by
  unfold putP
  split <;> simp
theorem getP_mem {m : List (κ × Int)} {k : κ} {c : Int} (h : getP m k = some c) : (k, c) ∈ m := by
  unfold getP at h
  cases q : m.find? fun p => decide (p.1 = k) with
  | none => rw [q] at h; cases h
  | some p =>
    rw [q] at h
    cases h
    have a := List.find?_some q
    have b := List.mem_of_find?_eq_some q
    rw [← of_decide_eq_true a]
    exact b
theorem getP_none {m : List (κ × Int)} {k : κ} : getP m k = none ↔ ∀ p ∈ m, p.1 ≠ k := by
  unfold getP
  rw [Option.map_eq_none_iff, List.find?_eq_none]
  exact ⟨fun h p hp e => h p hp (decide_eq_true e), fun h p hp e => h p hp (of_decide_eq_true e)⟩
theorem getP_of {m : List (κ × Int)} (nd : (m.map (·.1)).Nodup) {k : κ} {c : Int} (h : (k, c) ∈ m) : getP m k = some c := by
  induction m with
  | nil => cases h
  | cons p m ih =>
    rw [List.map_cons, List.nodup_cons] at nd
    rcases List.mem_cons.mp h with e | h
    · subst e; simp [getP]
    · have ne : p.1 ≠ k := fun e => nd.1 (by rw [e]; exact List.mem_map_of_mem h)
      have := ih nd.2 h
      unfold getP at this ⊢
      rw [List.find?_cons, decide_eq_false ne]
      exact this
/-- new keys are put at the end -/
theorem putP_new {m : List (κ × Int)} {k : κ} {c : Int} (h : ∀ p ∈ m, p.1 ≠ k) : putP m k c = m ++ [(k, c)] := by
  unfold putP
  rw [if_neg]
  intro z
  obtain ⟨p, hp, e⟩ := List.any_eq_true.mp z
  exact h p hp (of_decide_eq_true e)
theorem putP_all : ∀ (xs m : List (κ × Int)), ((m ++ xs).map (·.1)).Nodup → xs.foldl (fun m p => putP m p.1 p.2) m = m ++ xs
  | [], m, _ => by simp
  | p :: xs, m, nd => by
    rw [List.foldl_cons, putP_new (fun q hq e => ?_), putP_all xs]
    · simp
    · simpa using nd
    · rw [List.map_append, List.nodup_append] at nd
      exact nd.2.2 q.1 (List.mem_map_of_mem hq) p.1 (by simp) e
end
def kS (s : Tx) : Key := .inr (tx s)
def kT (q : Tx × Tx) : List Key := [.inr (tx q.1), .inr (tx q.2)]
theorem kS_inj (a b : Tx) (h : kS a = kS b) : a = b := tx_inj.mp (Sum.inr.inj h)
theorem kT_inj (a b : Tx × Tx) (h : kT a = kT b) : a = b := by
  have h1 := List.cons.inj h
  have h2 := List.cons.inj h1.2
  exact Prod.ext (tx_inj.mp (Sum.inr.inj h1.1)) (tx_inj.mp (Sum.inr.inj h2.1))
def DkAt (H : Hp) (a : Addr) (m : List (Tx × Int)) : Prop := H a = some (.dK (encM kS m))
def DtAt (H : Hp) (a : Addr) (m : List ((Tx × Tx) × Int)) : Prop := H a = some (.dT (encM kT m))
theorem encM_len {κ κ' : Type} (f : κ → κ') (m : List (κ × Int)) : (encM f m).length = m.length := by unfold encM; rw [List.length_map]
def encQ (q : Tx × Tx) : D := .tup [.str q.1, .str q.2]
theorem rp_encQ {H : Hp} {q : Tx × Tx} {v : V} (h : Rp H (encQ q) v) : ∃ b, v = .ref b ∧ H b = some (.tup ((kT q).map kV)) := by
  obtain ⟨a, vs, e1, e2, e3⟩ := h
  obtain ⟨u, us, f1, f2, f3⟩ := e3
  obtain ⟨x, xs, g1, g2, g3⟩ := f3
  have f2 : u = .str (tx q.1) := f2
  have g2 : x = .str (tx q.2) := g2
  have g3 : xs = [] := g3
  subst g3 g2 g1 f2 f1
  exact ⟨a, e1, e2⟩
section
variable {K : PySem.W.Frag} {H H' : Hp} {ρ : List (Option D)} {te ta tb tc td ty tv : TE} {t u : TT} {d e : D} {ds es : List D} {a : Addr} {c j : Int} {s r : List Nat} {q : Tx × Tx} {E : Ends}
theorem DkAt.ex {m : List (Tx × Int)} (h : DkAt H a m) (x : Ex H H') : DkAt H' a m := x _ _ h
theorem DtAt.ex {m : List ((Tx × Tx) × Int)} (h : DtAt H a m) (x : Ex H H') : DtAt H' a m := x _ _ h
theorem de_dgetK {m : List (Tx × Int)} (hd : DE td H ρ (.adr a)) (l : DkAt H a m) (hk : DE ty H ρ (.str s)) (g : getP m s = some c) : DE (tDGet td ty) H ρ (.int c) := fun σ H1 x n Q q => hd σ H1 x n _ fun v H2 y rv => hk σ H2 (x.trans y) (n.ex y) _ fun w H3 y' rw' => by
  have rv : v = .ref a := rv
  have rw' : w = .str (tx s) := rw'
  subst rv rw'
  have z := DGet.k (k := kS s) (l.ex ((x.trans y).trans y'))
  rw [valV_enc kS_inj, g] at z
  exact ⟨a, .int c, rfl, z, q _ H3 (y.trans y') rfl⟩
theorem de_dgetT {m : List ((Tx × Tx) × Int)} (hd : DE td H ρ (.adr a)) (l : DtAt H a m) (hk : DE ty H ρ (encQ q)) (g : getP m q = some c) : DE (tDGet td ty) H ρ (.int c) := fun σ H1 x n Q k => hd σ H1 x n _ fun v H2 y rv => hk σ H2 (x.trans y) (n.ex y) _ fun w H3 y' rw' => by
  have rv : v = .ref a := rv
  obtain ⟨b, e1, e2⟩ := rp_encQ rw'
  subst rv e1
  have z := DGet.t (k := kT q) (l.ex ((x.trans y).trans y')) e2
  rw [valV_enc kT_inj, g] at z
  exact ⟨a, .int c, rfl, z, k _ H3 (y.trans y') rfl⟩
theorem de_dnotT {m : List ((Tx × Tx) × Int)} (hk : DE ty H ρ (encQ q)) (hd : DE td H ρ (.adr a)) (l : DtAt H a m) : DE (tDNotIn ty td) H ρ (.bl (!(getP m q).isSome)) := fun σ H1 x n Q k => hk σ H1 x n _ fun w H2 y rw' => hd σ H2 (x.trans y) (n.ex y) _ fun v H3 y' rv => by
  have rv : v = .ref a := rv
  obtain ⟨b, e1, e2⟩ := rp_encQ (Rp.ex y' rw')
  subst rv e1
  have z := DGet.t (k := kT q) (l.ex ((x.trans y).trans y')) e2
  rw [valV_enc kT_inj] at z
  refine ⟨a, _, rfl, z, ?_⟩
  rw [Option.isSome_map]
  exact k _ H3 (y.trans y') rfl
theorem de_dget2T {tx' : TE} {m : List ((Tx × Tx) × Int)} (hd : DE td H ρ (.adr a)) (l : DtAt H a m) (hk : DE ty H ρ (encQ q)) (hx : DE tx' H ρ (.int j)) (g : getP m q = some c) : DE (tDGet2 td ty tx') H ρ (.int c) := fun σ H1 x n Q k => hd σ H1 x n _ fun v H2 y rv => by
  have rv : v = .ref a := rv
  subst rv
  refine ⟨a, rfl, .inr ⟨_, .inl (l.ex (x.trans y))⟩, hk σ H2 (x.trans y) (n.ex y) _ fun w H3 y' rw' => hx σ H3 ((x.trans y).trans y') ((n.ex y).ex y') _ fun z H4 y4 rz => ?_⟩
  obtain ⟨b, e1, e2⟩ := rp_encQ (Rp.ex y4 rw')
  subst e1
  have z := DGet.t (k := kT q) (l.ex (((x.trans y).trans y').trans y4)) e2
  rw [valV_enc kT_inj, g] at z
  exact ⟨_, z, k _ H4 ((y.trans y').trans y4) rfl⟩
theorem dict_tex {o : HO} (h : H a = some o) (n : ∀ vs, o ≠ .tup vs) : ∀ vs, H a ≠ some (.tup vs) := fun vs z => by rw [h] at z; exact n vs (Option.some.inj z)
theorem dn_dputK {m : List (Tx × Int)} (hv : DE tv H ρ (.int c)) (hd : DE td H ρ (.adr a)) (hk : DE ty H ρ (.str s)) (l : DkAt H a m) (hn : m.length < 100000) (kk : ∀ H', ExB a H H' → DkAt H' a (putP m s c) → DN E.nx H' ρ) : DN (sDPut td ty tv E) H ρ :=
  fun σ H1 x n => hv σ H1 x n _ fun v H2 y rv => hd σ H2 (x.trans y) (n.ex y) _ fun w H3 y3 rw' => hk σ H3 ((x.trans y).trans y3) ((n.ex y).ex y3) _ fun u H4 y4 ru => by
    have rv : v = .int c := rv
    have rw' : w = .ref a := rw'
    have ru : u = .str (tx s) := ru
    subst rv rw' ru
    have l4 := l.ex (((x.trans y).trans y3).trans y4)
    refine ⟨a, _, rfl, DPut.k (k := kS s) l4 (Nat.lt_of_lt_of_le (show (encM kS m).length < 100001 by rw [encM_len]; omega) (by decide)), ?_⟩
    rw [putK_enc kS_inj]
    have tt : TEx H4 (upd H4 a (.dK (encM kS (putP m s c)))) := ExB.tex (a := a) ExB.upd (dict_tex l4 fun vs z => by cases z)
    exact kk _ ((ExB.of (((x.trans y).trans y3).trans y4)).trans ExB.upd) upd_same σ _ (Ex.refl _) ((((n.ex y).ex y3).ex y4).mono tt)
theorem dn_dputT {m : List ((Tx × Tx) × Int)} (hv : DE tv H ρ (.int c)) (hd : DE td H ρ (.adr a)) (hk : DE ty H ρ (encQ q)) (l : DtAt H a m) (hn : m.length < 100000) (kk : ∀ H', ExB a H H' → DtAt H' a (putP m q c) → DN E.nx H' ρ) : DN (sDPut td ty tv E) H ρ :=
  fun σ H1 x n => hv σ H1 x n _ fun v H2 y rv => hd σ H2 (x.trans y) (n.ex y) _ fun w H3 y3 rw' => hk σ H3 ((x.trans y).trans y3) ((n.ex y).ex y3) _ fun u H4 y4 ru => by
    have rv : v = .int c := rv
    have rw' : w = .ref a := rw'
    obtain ⟨b, e1, e2⟩ := rp_encQ ru
    subst rv rw' e1
    have l4 := l.ex (((x.trans y).trans y3).trans y4)
    refine ⟨a, _, rfl, DPut.t (k := kT q) l4 e2 (Nat.lt_of_lt_of_le (show (encM kT m).length < 100001 by rw [encM_len]; omega) (by decide)), ?_⟩
    rw [putK_enc kT_inj]
    have tt : TEx H4 (upd H4 a (.dT (encM kT (putP m q c)))) := ExB.tex (a := a) ExB.upd (dict_tex l4 fun vs z => by cases z)
    exact kk _ ((ExB.of (((x.trans y).trans y3).trans y4)).trans ExB.upd) upd_same σ _ (Ex.refl _) ((((n.ex y).ex y3).ex y4).mono tt)
theorem dn_asgK {i : Nat} (k : ∀ a H', H a = none → Ex H H' → DkAt H' a [] → DN E.nx H' (ρ.set i (some (.adr a)))) : DN (tAsg tDNewK (gName i) E) H ρ := fun σ H1 x n p hp =>
  k p _ (x.fresh hp) (x.trans (Ex.new hp)) upd_same _ _ (Ex.refl _) ((n.ex (Ex.new hp)).set rfl)
theorem dn_asgDT {i : Nat} (k : ∀ a H', H a = none → Ex H H' → DtAt H' a [] → DN E.nx H' (ρ.set i (some (.adr a)))) : DN (tAsg tDNewT (gName i) E) H ρ := fun σ H1 x n p hp =>
  k p _ (x.fresh hp) (x.trans (Ex.new hp)) upd_same _ _ (Ex.refl _) ((n.ex (Ex.new hp)).set rfl)
/-! ### objects -/
def InsAt (H : Hp) (a C : Addr) (fs : List (Str × V)) : Prop := ∃ dx, H a = some (.ins C dx fs)
theorem InsAt.ex {C : Addr} {fs : List (Str × V)} (h : InsAt H a C fs) (x : Ex H H') : InsAt H' a C fs := by
  obtain ⟨dx, h⟩ := h
  exact ⟨dx, x _ _ h⟩
theorem InsAt.exB {C b : Addr} {fs : List (Str × V)} (h : InsAt H a C fs) (x : ExB b H H') (ne : a ≠ b) : InsAt H' a C fs := by
  obtain ⟨dx, h⟩ := h
  exact ⟨dx, x _ _ ne h⟩
theorem de_fld {C : Addr} {fs : List (Str × V)} {f : Str} {v : V} (ha : DE ta H ρ (.adr a)) (l : InsAt H a C fs) (c : Cls K C) (na : NoAttr K C f) (e : fs.lookup f = some v) (r : Rp H d v) : DE (tFld K ta f) H ρ d := fun σ H1 x n Q q => ha σ H1 x n _ fun w H2 y rw' => by
  have rw' : w = .ref a := rw'
  subst rw'
  obtain ⟨dx, l2⟩ := l.ex (x.trans y)
  exact ⟨a, C, dx, fs, v, rfl, l2, c, na, e, q _ H2 y (r.ex (x.trans y))⟩
theorem dn_fld {C : Addr} {fs : List (Str × V)} {f : Str} (hv : DE tv H ρ d) (ha : DE ta H ρ (.adr a)) (l : InsAt H a C fs) (c : Cls K C) (na : NoAttr K C f) (hn : fs.length < 1000) (kk : ∀ v H', ExB a H H' → InsAt H' a C (putF f v fs) → Rp H' d v → DN E.nx H' ρ) : DN (sFld K ta tv f E) H ρ :=
  fun σ H1 x n => hv σ H1 x n _ fun v H2 y rv => ha σ H2 (x.trans y) (n.ex y) _ fun w H3 y3 rw' => by
    have rw' : w = .ref a := rw'
    subst rw'
    obtain ⟨dx, l3⟩ := l.ex ((x.trans y).trans y3)
    have tt : TEx H3 (upd H3 a (.ins C dx (putF f v fs))) := ExB.tex (a := a) ExB.upd (dict_tex l3 fun vs z => by cases z)
    exact ⟨a, C, dx, fs, rfl, l3, c, na, hn, kk v _ ((ExB.of ((x.trans y).trans y3)).trans ExB.upd) ⟨dx, upd_same⟩ (Rp.mono tt _ _ (rv.ex y3)) σ _ (Ex.refl _) (((n.ex y).ex y3).mono tt)⟩
/-- a new list into a field -/
theorem dn_fldL {C : Addr} {fs : List (Str × V)} {f : Str} (hv : DLn tv H ρ ds) (ha : DE ta H ρ (.adr a)) (l : InsAt H a C fs) (c : Cls K C) (na : NoAttr K C f) (hn : fs.length < 1000) (kk : ∀ b H', H b = none → ExB a H H' → InsAt H' a C (putF f (.ref b) fs) → LstAt H' b ds → DN E.nx H' ρ) : DN (sFld K ta tv f E) H ρ :=
  fun σ H1 x n => hv σ H1 x n _ fun b H2 nb y lb => ha σ H2 (x.trans y) (n.ex y) _ fun w H3 y3 rw' => by
    have rw' : w = .ref a := rw'
    subst rw'
    obtain ⟨dx, l3⟩ := l.ex ((x.trans y).trans y3)
    obtain ⟨dx1, l1⟩ := l.ex x
    have ne : b ≠ a := fun z => by subst z; rw [nb] at l1; cases l1
    have tt : TEx H3 (upd H3 a (.ins C dx (putF f (.ref b) fs))) := ExB.tex (a := a) ExB.upd (dict_tex l3 fun vs z => by cases z)
    exact ⟨a, C, dx, fs, rfl, l3, c, na, hn, kk b _ (x.fresh nb) ((ExB.of ((x.trans y).trans y3)).trans ExB.upd) ⟨dx, upd_same⟩ ((lb.ex y3).exB ExB.upd ne tt) σ _ (Ex.refl _) (((n.ex y).ex y3).mono tt)⟩
/-- if a list is empty -/
theorem dt_truL (h : DE ta H ρ (.adr a)) (l : LstAt H a ds) : DT (tTru K ta) H ρ (decide (ds ≠ [])) := fun σ H1 x n Q q => h σ H1 x n _ fun v H2 y r => by
  have r : v = .ref a := r
  subst r
  obtain ⟨vs, e2, e3⟩ := l.ex (x.trans y)
  refine ⟨_, .inl ⟨vs, SqL.of e2, ?_⟩, q H2 y⟩
  cases ds with
  | nil => have e3 : vs = [] := e3; subst e3; rfl
  | cons d ds =>
    obtain ⟨w, ws, e4, _⟩ := e3
    subst e4
    rfl
end
end GC

-- part DS
set_option Elab.async false
set_option linter.all false
set_option maxRecDepth 100000
set_option maxHeartbeats 4000000
namespace GC
open PySem PySem.Spec PyProof.Rows L2
/-! ### data to be compared and sorted -/
mutual
def pyD : D → PyData
  | .non => .none
  | .bl b => .bool b
  | .int i => .int i
  | .str s => .str (tx s)
  | .tup xs => .tuple (pyDs xs)
  | .adr _ => .none
  | .ty _ => .none
def pyDs : List D → List PyData
  | [] => []
  | d :: ds => pyD d :: pyDs ds
end
mutual
def flatD : D → Bool
  | .adr _ => false
  | .ty _ => false
  | .tup xs => flatDs xs
  | .non => true
  | .bl _ => true
  | .int _ => true
  | .str _ => true
def flatDs : List D → Bool
  | [] => true
  | d :: ds => flatD d && flatDs ds
end
section
variable {K : PySem.W.Frag} {H : Hp}
mutual
theorem dp_of : ∀ (d : D) (v : V), flatD d = true → Rp H d v → Dp K H v (pyD d)
  | .non, v, _, h => by have h : v = .non := h; subst h; exact .non
  | .bl b, v, _, h => by have h : v = .bl b := h; subst h; exact .bl b
  | .int i, v, _, h => by have h : v = .int i := h; subst h; exact .int i
  | .str s, v, _, h => by have h : v = .str (tx s) := h; subst h; exact .str _
  | .tup xs, v, f, h => by
    obtain ⟨a, vs, e1, e2, e3⟩ := h
    subst e1
    exact .tup (SqT.of e2) (dps_of xs vs f e3)
  | .adr a, v, f, _ => by cases f
  | .ty a, v, f, _ => by cases f
theorem dps_of : ∀ (ds : List D) (vs : List V), flatDs ds = true → Rps H ds vs → DpAll K H vs (pyDs ds)
  | [], vs, _, h => by have h : vs = [] := h; subst h; exact .nil
  | d :: ds, vs, f, h => by
    obtain ⟨v, us, e1, e2, e3⟩ := h
    subst e1
    have f : (flatD d && flatDs ds) = true := f
    rw [Bool.and_eq_true] at f
    exact .cons (dp_of d v f.1 e2) (dps_of ds us f.2 e3)
end
/-! the order of pairs of texts; of words with costs; of pairs with numbers -/
def ltQ (p q : Tx × Tx) : Bool := PySem.W.dataLt (pyD (encQ p)) (pyD (encQ q))
def ltB (a b : D) : Bool := PySem.W.dataLt (pyD a) (pyD b)
def leB (a b : D) : Bool := !ltB b a
theorem leB_total (a b : D) : leB a b = true ∨ leB b a = true := (PySem.W.sortLe_total (listOrd itemOrd) false fun b => PySem.W.keyToks (pyD b)).total a b
theorem leB_trans (a b c : D) : leB a b = true → leB b c = true → leB a c = true := (PySem.W.sortLe_total (listOrd itemOrd) false fun b => PySem.W.keyToks (pyD b)).trans a b c
theorem ltB_P (p q : Tx × Tx × Int) (h : (p.1, p.2.1) ≠ (q.1, q.2.1)) : ltB (encP p) (encP q) = ltQ (p.1, p.2.1) (q.1, q.2.1) := by
  show lexLt itemOrd [.inl 1, .inr p.1, .inl 1, .inr p.2.1, .inl 1, .inl p.2.2, .inl 0] [.inl 1, .inr q.1, .inl 1, .inr q.2.1, .inl 1, .inl q.2.2, .inl 0] = lexLt itemOrd [.inl 1, .inr p.1, .inl 1, .inr p.2.1, .inl 0] [.inl 1, .inr q.1, .inl 1, .inr q.2.1, .inl 0]
  rw [lex_self (O := itemOrd), lex_self (O := itemOrd)]
  by_cases e : p.1 = q.1
  · rw [e, lex_self (O := itemOrd), lex_self (O := itemOrd), lex_self (O := itemOrd), lex_self (O := itemOrd)]
    have ne : (Sum.inr p.2.1 : Int ⊕ List Nat) ≠ .inr q.2.1 := fun z => h (Prod.ext e (Sum.inr.inj z))
    rw [lex_diff (O := itemOrd) ne, lex_diff (O := itemOrd) ne]
  · have ne : (Sum.inr p.1 : Int ⊕ List Nat) ≠ .inr q.1 := fun z => e (Sum.inr.inj z)
    rw [lex_diff (O := itemOrd) ne, lex_diff (O := itemOrd) ne]
theorem ltB_asymm (a b : D) (h : leB a b = true) (ne : PySem.W.keyToks (pyD a) ≠ PySem.W.keyToks (pyD b)) : ltB a b = true := by
  cases q : ltB a b with
  | true => rfl
  | false =>
    have h2 : ltB b a = false := by
      unfold leB at h
      rw [Bool.not_eq_true'] at h
      exact h
    exact absurd (lex_total (O := itemOrd) _ _ q h2) ne
theorem ltB_E (p q : Tx × Int) (h : p.1 ≠ q.1) : ltB (encE p) (encE q) = decide (p.1 < q.1) := by
  show lexLt itemOrd [.inl 1, .inr p.1, .inl 1, .inl p.2, .inl 0] [.inl 1, .inr q.1, .inl 1, .inl q.2, .inl 0] = _
  have ne : (Sum.inr p.1 : Int ⊕ List Nat) ≠ .inr q.1 := fun z => h (Sum.inr.inj z)
  rw [lex_self (O := itemOrd), lex_diff (O := itemOrd) ne]
  rfl
theorem toksE_ne {p q : Tx × Int} (h : p.1 ≠ q.1) : PySem.W.keyToks (pyD (encE p)) ≠ PySem.W.keyToks (pyD (encE q)) := fun z => by
  have z : ([.inl 1, .inr p.1, .inl 1, .inl p.2, .inl 0] : List (Int ⊕ List Nat)) = [.inl 1, .inr q.1, .inl 1, .inl q.2, .inl 0] := z
  injection z with _ z
  injection z with z _
  exact h (Sum.inr.inj z)
theorem toksP_ne {p q : Tx × Tx × Int} (h : (p.1, p.2.1) ≠ (q.1, q.2.1)) : PySem.W.keyToks (pyD (encP p)) ≠ PySem.W.keyToks (pyD (encP q)) := fun z => by
  have z : ([.inl 1, .inr p.1, .inl 1, .inr p.2.1, .inl 1, .inl p.2.2, .inl 0] : List (Int ⊕ List Nat)) = [.inl 1, .inr q.1, .inl 1, .inr q.2.1, .inl 1, .inl q.2.2, .inl 0] := z
  injection z with _ z
  injection z with z1 z
  injection z with _ z
  injection z with z2 _
  exact h (Prod.ext (Sum.inr.inj z1) (Sum.inr.inj z2))
/-- words with costs, sorted -/
def srtE (xs : List (Tx × Int)) : List (Tx × Int) := xs.mergeSort fun p q => leB (encE p) (encE q)
def srtP (xs : List (Tx × Tx × Int)) : List (Tx × Tx × Int) := xs.mergeSort fun p q => leB (encP p) (encP q)
theorem srtE_perm (xs : List (Tx × Int)) : (srtE xs).Perm xs := List.mergeSort_perm _ _
theorem srtP_perm (xs : List (Tx × Tx × Int)) : (srtP xs).Perm xs := List.mergeSort_perm _ _
theorem srtE_lt {xs : List (Tx × Int)} (nd : (xs.map (·.1)).Nodup) : (srtE xs).Pairwise fun p q => p.1 < q.1 := by
  have h := List.pairwise_mergeSort (le := fun p q => leB (encE p) (encE q)) (fun a b c => leB_trans _ _ _) (fun a b => by rcases leB_total (encE a) (encE b) with h | h <;> simp [h]) xs
  have nd2 : ((srtE xs).map (·.1)).Nodup := (((srtE_perm xs).map (·.1)).nodup_iff).mpr nd
  have nd3 : (srtE xs).Pairwise fun p q => p.1 ≠ q.1 := List.pairwise_map.mp nd2
  refine (List.pairwise_and_iff.mpr ⟨h, nd3⟩).imp fun {p q} z => ?_
  have w := ltB_asymm _ _ z.1 (toksE_ne z.2)
  rw [ltB_E _ _ z.2] at w
  exact of_decide_eq_true w
theorem srtP_lt {xs : List (Tx × Tx × Int)} (nd : (xs.map fun p => (p.1, p.2.1)).Nodup) : (srtP xs).Pairwise fun p q => ltQ (p.1, p.2.1) (q.1, q.2.1) = true := by
  have h := List.pairwise_mergeSort (le := fun p q => leB (encP p) (encP q)) (fun a b c => leB_trans _ _ _) (fun a b => by rcases leB_total (encP a) (encP b) with h | h <;> simp [h]) xs
  have nd2 : ((srtP xs).map fun p => (p.1, p.2.1)).Nodup := (((srtP_perm xs).map _).nodup_iff).mpr nd
  have nd3 : (srtP xs).Pairwise fun p q => (p.1, p.2.1) ≠ (q.1, q.2.1) := List.pairwise_map.mp nd2
  refine (List.pairwise_and_iff.mpr ⟨h, nd3⟩).imp fun {p q} z => ?_
  have w := ltB_asymm _ _ z.1 (toksP_ne z.2)
  rw [ltB_P _ _ z.2] at w
  exact w
/-! rules -/
variable {ρ : List (Option D)} {te ta tb tc : TE} {d e : D} {ds es : List D}
theorem de_ltQ {p q : Tx × Tx} (ha : DE ta H ρ (encQ p)) (hb : DE tb H ρ (encQ q)) : DE (tOp (rLtD K) ta tb) H ρ (.bl (ltQ p q)) :=
  de_two (te := ta) ha hb fun H1 v w _ hv hw Q k => ⟨pyD (encQ p), pyD (encQ q), dp_of _ _ rfl hv, dp_of _ _ rfl hw, rfl, (fun z => by cases z), Nat.le_of_ble_eq_true rfl, k _ H1 (Ex.refl _) rfl⟩
theorem Rps.zip {α : Type} {enc : α → D} : ∀ {xs : List α} {vs : List V}, Rps H (xs.map enc) vs → ∀ p ∈ vs.zip xs, Rp H (enc p.2) p.1
  | [], vs, _, p, hp => by simp at hp
  | x :: xs, vs, h, p, hp => by
    obtain ⟨v, us, e1, e2, e3⟩ := h
    subst e1
    rw [List.zip_cons_cons] at hp
    rcases List.mem_cons.mp hp with z | z
    · subst z; exact e2
    · exact Rps.zip e3 p z
theorem Rps.of_pairs {α : Type} {enc : α → D} : ∀ {ps : List (V × α)}, (∀ p ∈ ps, Rp H (enc p.2) p.1) → Rps H ((ps.map (·.2)).map enc) (ps.map (·.1))
  | [], _ => rfl
  | p :: ps, h => ⟨p.1, ps.map (·.1), rfl, h p (by simp), Rps.of_pairs fun q hq => h q (by simp [hq])⟩
/-- sorted(xs), xs data of one tuple form -/
theorem dl_sorted {α : Type} {xs : List α} {enc : α → D} (ha : DL ta H ρ (xs.map enc)) (hf : ∀ x ∈ xs, flatD (enc x) = true ∧ (pyD (enc x)).depth ≤ 60) (hal : ∀ x ∈ xs, ∀ y ∈ xs, PySem.W.alike (pyD (enc x)) (pyD (enc y)) = true) (hs : ∀ x ∈ xs, ∃ y r, pyD (enc x) = .tuple (y :: r)) :
    DLn (tCB (rSortedD K) (tCons ta tNil)) H ρ ((xs.mergeSort fun x y => leB (enc x) (enc y)).map enc) := fun σ H1 x n Q q => ha σ H1 x n _ fun a H2 y l => by
  obtain ⟨vs, e2, e3⟩ := l
  have hl : vs.length = xs.length := by rw [e3.length, List.length_map]
  have hz := e3.zip
  obtain ⟨ps, eps⟩ : ∃ ps, ps = vs.zip xs := ⟨_, rfl⟩
  rw [← eps] at hz
  have f1 : ps.map (·.1) = vs := by rw [eps]; exact List.map_fst_zip (by omega)
  have f2 : ps.map (·.2) = xs := by rw [eps]; exact List.map_snd_zip (by omega)
  have hm : ∀ p ∈ ps, p.2 ∈ xs := fun p hp => by rw [← f2]; exact List.mem_map_of_mem hp
  refine ⟨a, ps.map fun p => (p.1, pyD (enc p.2)), rfl, ?_, ?_, ?_, .inl ?_, fun p hp => ?_⟩
  · rw [List.map_map]
    show SqL K H2 a (ps.map (·.1))
    rw [f1]
    exact SqL.of e2
  · intro b hb
    obtain ⟨p, hp, rfl⟩ := List.mem_map.mp hb
    exact ⟨dp_of _ _ (hf _ (hm p hp)).1 (hz p hp), (hf _ (hm p hp)).2⟩
  · intro d hd d' hd'
    rw [List.map_map] at hd hd'
    obtain ⟨p, hp, rfl⟩ := List.mem_map.mp hd
    obtain ⟨p', hp', rfl⟩ := List.mem_map.mp hd'
    exact hal _ (hm p hp) _ (hm p' hp')
  · intro d hd
    rw [List.map_map] at hd
    obtain ⟨p, hp, rfl⟩ := List.mem_map.mp hd
    exact hs _ (hm p hp)
  · have m1 := List.map_mergeSort (l := ps) (r := fun p q => leB (enc p.2) (enc q.2)) (s := PySem.W.dataLe false (fun b : V × PyData => b.2)) (f := fun p => (p.1, pyD (enc p.2))) (fun p _ q _ => rfl)
    have m2 := List.map_mergeSort (l := ps) (r := fun p q => leB (enc p.2) (enc q.2)) (s := fun x y => leB (enc x) (enc y)) (f := fun p => p.2) (fun p _ q _ => rfl)
    rw [f2] at m2
    rw [← m1, List.map_map]
    refine q p _ (y.fresh hp) (y.trans (Ex.new hp)) ⟨_, upd_same, ?_⟩
    rw [← m2]
    refine Rps.ex (Ex.new hp) (Rps.of_pairs fun p' hp' => hz p' ?_)
    exact (List.mergeSort_perm _ _).mem_iff.mp hp'
theorem dl_sortedE {xs : List (Tx × Int)} (ha : DL ta H ρ (xs.map encE)) : DLn (tCB (rSortedD K) (tCons ta tNil)) H ρ ((srtE xs).map encE) :=
  dl_sorted ha (fun x _ => ⟨rfl, Nat.le_of_ble_eq_true rfl⟩) (fun x _ y _ => rfl) fun x _ => ⟨_, _, rfl⟩
theorem dl_sortedP {xs : List (Tx × Tx × Int)} (ha : DL ta H ρ (xs.map encP)) : DLn (tCB (rSortedD K) (tCons ta tNil)) H ρ ((srtP xs).map encP) :=
  dl_sorted ha (fun x _ => ⟨rfl, Nat.le_of_ble_eq_true rfl⟩) (fun x _ y _ => rfl) fun x _ => ⟨_, _, rfl⟩
end
end GC

-- part RD1
set_option Elab.async false
set_option linter.all false
set_option maxRecDepth 100000
set_option maxHeartbeats 4000000
namespace GC
open PySem PySem.Spec PyProof.Rows L2
section
variable {P : Program} {w : World} {K : PySem.W.Frag} {mg : Str → Option Value} {base : Heap}
section
variable {H : Hp} {ρ : List (Option D)} {te : TE} {d : D}
theorem de_isT {n : String} (h : DE te H ρ d) (e : d.typ = some n) (k : PySem.W.kitOne K (.type n) (.type n) = some true) : DE (tCB (rIsi K) (tCons te (tCons (tC (.ty n)) tNil))) H ρ (.bl true) := de_isi h e k
theorem de_isF {n m : String} (h : DE te H ρ d) (e : d.typ = some n) (k : PySem.W.kitOne K (.type n) (.type m) = some false) : DE (tCB (rIsi K) (tCons te (tCons (tC (.ty m)) tNil))) H ρ (.bl false) := de_isi h e k
end
/-! is_between -/
def R_is_between : List D → D → Prop := fun ds d => ∃ v l h : Int, ds = [.int v, .int l, .int h] ∧ d = .bl (decide (l ≤ v) && decide (v ≤ h))
theorem okf_is_between (hd : Hd K mg) : OkA P w K mg base 1 (He.ga K "is_between") ["value", "low", "high"] (spD R_is_between) := by
  refine ok_is_between hd (len_D ?_) (rd_D ?_)
  · rintro ds d ⟨v, l, h, rfl, _⟩; rfl
  rintro ds d ⟨v, l, h, rfl, rfl⟩ E H k
  refine dn_ret (DE.is (de_andV (de_isT (de_var rfl) rfl (by rfl)) fun _ => de_andV (de_notV (de_isF (n := "int") (de_var rfl) rfl (by rfl))) fun _ => de_chain (de_var rfl) (de_var rfl) (de_var rfl)) ?_) k
  simp
/-! is_word -/
def R_is_word : List D → D → Prop := fun ds d => ∃ s : Tx, ds = [.str s] ∧ d = .bl true ∧ 1 ≤ s.length ∧ s.length ≤ 4 ∧ ∀ x ∈ s, 97 ≤ x ∧ x ≤ 122
theorem okf_is_word (hd : Hd K mg) : OkA P w K mg base 1 (He.ga K "is_word") ["value"] (spD R_is_word) := by
  refine ok_is_word hd (len_D ?_) (rd_D ?_)
  · rintro ds d ⟨s, rfl, _⟩; rfl
  rintro ds d ⟨s, rfl, rfl, h1, h2, h3⟩ E H k
  refine dn_seq (dn_ifF (dt_orF (dt_notF (dt_B (de_isT (de_var rfl) rfl (by rfl)))) (dt_notF (dt_test (DE.is (de_chain de_int (de_lenS (de_var rfl) (by omega)) de_int) ?_)))) (dn_next (dn_ret (DE.is (de_allM s (fun x => decide (x ∈ alph)) (lc_M s (fun c => D.str [c]) (js := [1]) (di_str (de_var rfl)) (fun x => dg_name) (by simp) (by omega) fun x hx => de_inS (de_var rfl) (de_str alph_is))) ?_) k)))
  · congr 1
    rw [Bool.and_eq_true, decide_eq_true_eq, decide_eq_true_eq]
    omega
  · congr 1
    rw [List.all_eq_true]
    exact fun x hx => decide_eq_true (alph_mem (h3 x hx).1 (h3 x hx).2)
/-! is_entry -/
def EntOk (p : Tx × Int) : Prop := (1 ≤ p.1.length ∧ p.1.length ≤ 4) ∧ (1 ≤ p.2 ∧ p.2 ≤ 9) ∧ ∀ x ∈ p.1, 97 ≤ x ∧ x ≤ 122
def R_is_entry : List D → D → Prop := fun ds d => ∃ p, ds = [encE p] ∧ d = .bl true ∧ EntOk p
theorem okf_is_entry (hd : Hd K mg) : OkA P w K mg base 2 (He.ga K "is_entry") ["value"] (spD R_is_entry) := by
  refine ok_is_entry hd (okf_is_word hd) (okf_is_between hd) (len_D ?_) (rd_D ?_)
  · rintro ds d ⟨s, rfl, _⟩; rfl
  rintro ds d ⟨p, rfl, rfl, ⟨h1, h2⟩, ⟨h3, h4⟩, h5⟩ E H k
  refine dn_ret (DE.is (de_andV (de_isT (de_var rfl) rfl (by rfl)) fun _ => de_andV (de_eqI (de_lenT (de_var rfl)) de_int) fun _ => de_andV (de_call (da_cons (de_ixTN (k := 0) (de_var rfl) de_int rfl) da_nil) ⟨p.1, rfl, rfl, h1, h2, h5⟩) fun _ => de_call (da_cons (de_ixTN (k := 1) (de_var rfl) de_int rfl) (da_cons de_int (da_cons de_int da_nil))) ⟨p.2, 1, 9, rfl, rfl⟩) ?_) k
  simp [h3, h4]
/-! is_list -/
theorem lt_names {W : WL} (h : Wd W) {i : Nat} {a b : Tx} (ha : (names W)[i]? = some a) (hb : (names W)[i + 1]? = some b) : a < b := by
  obtain ⟨h1, e1⟩ := List.getElem?_eq_some_iff.mp ha
  obtain ⟨h2, e2⟩ := List.getElem?_eq_some_iff.mp hb
  have q := List.pairwise_iff_getElem.mp h.ndp i (i + 1) h1 h2 (by omega)
  rw [e1, e2] at q
  exact q
theorem names_len (W : WL) : (names W).length = W.length := by unfold names; rw [List.length_map]
theorem names_sz {W : WL} (h : Wd W) : (names W).flatten.length ≤ 100 := by
  have e : ∀ l : List Tx, (∀ u ∈ l, u.length ≤ 4) → l.flatten.length ≤ 4 * l.length := by
    intro l
    induction l with
    | nil => intro _; simp
    | cons u l ih =>
      intro hl
      have := hl u (by simp)
      have := ih fun v hv => hl v (by simp [hv])
      rw [List.flatten_cons, List.length_append, List.length_cons]
      omega
  have := e (names W) fun u hu => (h.size hu).2
  rw [names_len] at this
  have := h.len
  omega
def R_is_list : List D → D → Prop := fun ds d => ∃ W, ds = [encW W] ∧ d = .bl true ∧ Wd W
theorem okf_is_list (hd : Hd K mg) : OkA P w K mg base 3 (He.ga K "is_list") ["value"] (spD R_is_list) := by
  refine ok_is_list hd (okf_is_entry hd) (len_D ?_) (rd_D ?_)
  · rintro ds d ⟨s, rfl, _⟩; rfl
  rintro ds d ⟨W, rfl, rfl, hW⟩ E H k
  have hl := hW.len
  refine dn_seq (dn_ifF (dt_orF (dt_notF (dt_B (de_isT (de_var rfl) rfl (by rfl)))) (dt_orF (dt_notF (dt_test (DE.is (de_chain de_int (de_lenT (de_var rfl)) de_int) ?_))) (dt_notF (dt_B (DE.is (de_allM W (fun _ => true) (lc_M W encE (js := [2]) (di_tup (de_var rfl)) (fun x => dg_name) (by simp) (by omega) fun p hp => de_call (da_cons (de_var rfl) da_nil) ⟨p, rfl, rfl, hW.ent p hp⟩)) ?_))))) (dn_next (dn_seq (dn_asgL (lc_M W encE (f := fun p => .str p.1) (js := [3]) (di_tup (de_var rfl)) (fun x => dg_name) (by simp) (by omega) fun p hp => de_ixTN (k := 0) (de_var rfl) de_int rfl) fun a H1 na x1 l1 => ?_))))
  · congr 1
    rw [Bool.and_eq_true, decide_eq_true_eq, decide_eq_true_eq, List.length_map]
    omega
  · congr 1
    simp
  · have l2 : LstAt H1 a ((names W).map D.str) := by
      unfold names
      rw [List.map_map]
      exact l1
    refine dn_seq (dn_ifF (dt_notF (dt_B (DE.is (de_allM (List.range (W.length - 1)) (fun i => decide ((names W).getD i [] < (names W).getD (i + 1) [])) (lc_M (List.range (W.length - 1)) (fun i => D.int (i : Nat)) (js := [4]) (di_rngN (n := W.length - 1) (DE.is (de_sub (de_lenL (dl_adr (de_var rfl) l2)) de_int) ?_) (by omega)) (fun x => dg_name) (by simp) (by rw [List.length_range]; omega) fun i hi => ?_)) ?_))) (dn_next (dn_ret (DE.is (de_allM (names W).flatten (fun x => decide ([x] ∈ names W)) (lc_M (names W).flatten (fun c => D.str [c]) (js := [5]) (di_str (de_join empty_is (dl_adr (de_var rfl) l2) (by have := names_sz hW; omega))) (fun x => dg_name) (by simp) (by have := names_sz hW; omega) fun x hx => de_inT (de_var rfl) (dl_adr (de_var rfl) l2))) ?_) (k.ex x1))))
    · congr 1
      rw [List.length_map, names_len]
      omega
    · rw [List.mem_range] at hi
      have e1 : (names W)[i]? = some ((names W).getD i []) := by
        rw [List.getD_eq_getElem?_getD, List.getElem?_eq_getElem (by rw [names_len]; omega)]; rfl
      have e2 : (names W)[i + 1]? = some ((names W).getD (i + 1) []) := by
        rw [List.getD_eq_getElem?_getD, List.getElem?_eq_getElem (by rw [names_len]; omega)]; rfl
      exact de_ltS (de_ixLN (dl_adr (de_var rfl) l2) (de_var rfl) (by rw [List.getElem?_map, e1]; rfl)) (de_ixLN (k := i + 1) (dl_adr (de_var rfl) l2) (de_addN (de_var rfl) (de_nat 1 rfl)) (by rw [List.getElem?_map, e2]; rfl))
    · congr 1
      rw [List.all_eq_true]
      intro i hi
      rw [List.mem_range] at hi
      have e1 : (names W)[i]? = some ((names W).getD i []) := by
        rw [List.getD_eq_getElem?_getD, List.getElem?_eq_getElem (by rw [names_len]; omega)]; rfl
      have e2 : (names W)[i + 1]? = some ((names W).getD (i + 1) []) := by
        rw [List.getD_eq_getElem?_getD, List.getElem?_eq_getElem (by rw [names_len]; omega)]; rfl
      exact decide_eq_true (lt_names hW e1 e2)
    · congr 1
      rw [List.all_eq_true]
      intro x hx
      obtain ⟨u, hu, hx⟩ := List.mem_flatten.mp hx
      exact decide_eq_true (mem_letters.mp (hW.over hu x hx))
/-! letters_in -/
theorem nat_eq_dec (n k : Nat) : decide ((n : Int) = (k : Int)) = decide (n = k) := decide_eq_decide.mpr (by omega)
theorem nat_lt_dec (n k : Nat) : decide ((n : Int) < (k : Int)) = decide (n < k) := decide_eq_decide.mpr (by omega)
def R_letters_in : List D → D → Prop := fun ds d => ∃ W, ds = [encW W] ∧ d = .str (letters W) ∧ Wd W
theorem okf_letters_in (hd : Hd K mg) : OkA P w K mg base 1 (He.ga K "letters_in") ["words"] (spD R_letters_in) := by
  refine ok_letters_in hd (len_D ?_) (rd_D ?_)
  · rintro ds d ⟨s, rfl, _⟩; rfl
  rintro ds d ⟨W, rfl, rfl, hW⟩ E H k
  have hl := hW.len
  have h8 := hW.letters_len
  exact dn_ret (de_joinM (W.filter fun p : Tx × Int => decide (p.1.length = 1)) (·.1) (lc_D W encE (p := fun p : Tx × Int => decide (p.1.length = 1)) (f := fun p => .str p.1) (js := [1]) (di_tup (de_var rfl)) (fun x => dg_name) (by simp) (by omega)
    (fun p hp => dt_test (DE.is (de_eqI (de_lenS (de_ixTN (k := 0) (de_var rfl) de_int rfl) (by have := (hW.ent p hp).1; omega)) (de_nat 1 rfl)) (by rw [nat_eq_dec]))) fun p hp _ => de_ixTN (k := 0) (de_var rfl) de_int rfl) (Nat.le_trans h8 (by omega))) k
/-! names_in -/
def R_names_in : List D → List D → Prop := fun ds es => ∃ W, ds = [encW W] ∧ es = (names W).map D.str ∧ W.length ≤ 100000
theorem okf_names_in (hd : Hd K mg) : OkA P w K mg base 1 (He.ga K "names_in") ["words"] (spL R_names_in) := by
  refine ok_names_in hd (len_L ?_) (rd_L ?_)
  · rintro ds d ⟨s, rfl, _⟩; rfl
  rintro ds d ⟨W, rfl, rfl, hl⟩ E H k
  exact dn_retL (DLn.is (lc_M W encE (f := fun p => .str p.1) (js := [1]) (di_tup (de_var rfl)) (fun x => dg_name) (by simp) hl fun p hp => de_ixTN (k := 0) (de_var rfl) de_int rfl) (by unfold names; rw [List.map_map]; rfl)) k
/-! cost_in -/
def R_cost_in : List D → D → Prop := fun ds d => ∃ W u, ds = [encW W, .str u] ∧ d = .int (costIn W u) ∧ Wd W ∧ u ∈ names W
theorem okf_cost_in (hd : Hd K mg) : OkA P w K mg base 1 (He.ga K "cost_in") ["words", "word"] (spD R_cost_in) := by
  refine ok_cost_in hd (len_D ?_) (rd_D ?_)
  · rintro ds d ⟨W, s, rfl, _⟩; rfl
  rintro ds d ⟨W, u, rfl, rfl, hW, hu⟩ E H k
  have hl := hW.len
  exact dn_ret (de_ixLN (k := 0) (lc_D W encE (p := fun p => decide (p.1 = u)) (f := fun p => .int p.2) (js := [2]) (di_tup (de_var rfl)) (fun x => dg_name) (by simp) (by omega)
    (fun p hp => dt_test (de_eqT (de_ixTN (k := 0) (de_var rfl) de_int rfl) (de_var rfl))) fun p hp _ => de_ixTN (k := 1) (de_var rfl) de_int rfl).dl de_int (by rw [hW.filt (hW.in_ hu)]; rfl)) k
/-! has_word -/
def R_has_word : List D → D → Prop := fun ds d => ∃ W u, ds = [encW W, .str u] ∧ d = .bl (decide (u ∈ names W)) ∧ W.length ≤ 100000
theorem okf_has_word (hd : Hd K mg) : OkA P w K mg base 2 (He.ga K "has_word") ["words", "word"] (spD R_has_word) := by
  refine ok_has_word hd (okf_names_in hd) (len_D ?_) (rd_D ?_)
  · rintro ds d ⟨W, s, rfl, _⟩; rfl
  rintro ds d ⟨W, u, rfl, rfl, hl⟩ E H k
  exact dn_ret (de_inT (de_var rfl) (dl_call (da_cons (de_var rfl) da_nil) ⟨W, rfl, rfl, hl⟩).dl) k
/-! words_from -/
def R_words_from : List D → D → Prop := fun ds d => ∃ W t, ∃ k : Nat, ds = [encW W, .str t, .int (k : Int)] ∧ d = encR (wordsFrom W (t.drop k)) ∧ W.length ≤ 100000 ∧ k ≤ t.length ∧ Sz t
theorem okf_words_from (hd : Hd K mg) : OkA P w K mg base 2 (He.ga K "words_from") ["words", "text", "index"] (spD R_words_from) := by
  refine ok_words_from hd (okf_names_in hd) (len_D ?_) (rd_D ?_)
  · rintro ds d ⟨W, s, n, rfl, _⟩; rfl
  rintro ds d ⟨W, t, n, rfl, rfl, hl, hn, ht⟩ E H k
  refine dn_seq (dn_asgL (dl_call (da_cons (de_var rfl) da_nil) ⟨W, rfl, rfl, hl⟩) fun a H1 na x1 l1 => ?_)
  refine dn_seq (dn_asgL (lc_M (List.range (min 4 (t.length - n))) (fun i => D.int ((1 : Int) + (i : Nat))) (f := fun i => .str ((t.drop n).take (i + 1))) (js := [5]) (DI.is (di_rng2 de_int (de_add (de_min2 de_int (de_sub (de_lenS (de_var rfl) (by omega)) (de_var rfl))) de_int) (by split <;> omega)) ?_) (fun x => dg_name) (by simp) (by rw [List.length_range]; omega) fun i hi => DE.is (de_slS (de_var rfl) (do_some (de_var rfl)) (do_some (de_add (de_var rfl) (de_var rfl))) (by omega)) ?_) fun b H2 nb x2 l2 => ?_)
  · congr 2
    split <;> omega
  · have e : (n : Int) + (1 + (i : Nat)) = ((n + (i + 1) : Nat) : Int) := by omega
    rw [e, cut_mid _ _ _ hn]
    congr 2
    omega
  have l1' := l1.ex x2
  refine dn_ret (DE.is (de_tupL (lc_D ((List.range (min 4 (t.length - n))).map fun i => (t.drop n).take (i + 1)) D.str (p := fun u => decide (u ∈ names W)) (f := D.str) (js := [6]) (DI.is (di_lst (de_var rfl) l2) (by rw [List.map_map]; rfl)) (fun x => dg_name) (by simp) (by rw [List.length_map, List.length_range]; omega)
    (fun u hu => dt_test (de_inT (de_var rfl) (dl_adr (de_var rfl) l1'))) fun u hu _ => de_var rfl).dl) ?_) ((k.ex x1).ex x2)
  unfold encR wordsFrom
  rw [List.length_drop]
/-! longest_from -/
def R_longest_from : List D → D → Prop := fun ds d => ∃ W t, ∃ k : Nat, ds = [encW W, .str t, .int (k : Int)] ∧ d = .str (lon W (t.drop k)) ∧ Wd W ∧ k < t.length ∧ Sz t ∧ Over W t
theorem okf_longest_from (hd : Hd K mg) : OkA P w K mg base 3 (He.ga K "longest_from") ["words", "text", "index"] (spD R_longest_from) := by
  refine ok_longest_from hd (okf_words_from hd) (len_D ?_) (rd_D ?_)
  · rintro ds d ⟨W, s, n, rfl, _⟩; rfl
  rintro ds d ⟨W, t, n, rfl, rfl, hW, hn, ht, ho⟩ E H k
  have hl := hW.len
  refine dn_ret (de_ixT (de_call (da_cons (de_var rfl) (da_cons (de_var rfl) (da_cons (de_var rfl) da_nil))) ⟨W, t, n, rfl, rfl, by omega, by omega, ht⟩) (de_neg de_int) (atI_last ?_)) k
  have ne : t.drop n ≠ [] := fun e => by
    have q := congrArg List.length e
    rw [List.length_drop] at q
    simp at q
    omega
  have hne := wf_ne hW (ho.drop n) ne
  rw [List.getLast?_map]
  unfold lon
  rw [List.getLastD_eq_getLast?, List.getLast?_eq_some_getLast hne]
  rfl
/-! is_integer -/
def R_is_integer : List D → D → Prop := fun ds d => ∃ n : Int, ds = [.int n] ∧ d = .bl true
theorem okf_is_integer (hd : Hd K mg) : OkA P w K mg base 1 (He.ga K "is_integer") ["value"] (spD R_is_integer) := by
  refine ok_is_integer hd (len_D ?_) (rd_D ?_)
  · rintro ds d ⟨s, rfl, _⟩; rfl
  rintro ds d ⟨n, rfl, rfl⟩ E H k
  exact dn_ret (DE.is (de_andV (de_isT (de_var rfl) rfl (by rfl)) fun _ => de_notV (de_isF (n := "int") (de_var rfl) rfl (by rfl))) rfl) k
/-! check_words -/
def R_check_words : List D → D → Prop := fun ds d => ∃ W, ds = [encW W] ∧ d = .non ∧ Wd W
theorem okf_check_words (hd : Hd K mg) : OkA P w K mg base 4 (He.ga K "check_words") ["words"] (spD R_check_words) := by
  refine ok_check_words hd (okf_is_list hd) (len_D ?_) (rd_D' ?_)
  · rintro ds d ⟨s, rfl, _⟩; rfl
  rintro ds d ⟨W, rfl, rfl, hW⟩ Q H k
  exact dn_ifF (dt_notF (dt_B (de_call (da_cons (de_var rfl) da_nil) ⟨W, rfl, rfl, hW⟩))) (dn_next fun σ H1 x n => k .non H1 x rfl)
/-! cost_of_row -/
def R_cost_of_row : List D → D → Prop := fun ds d => ∃ W r, ds = [encW W, encR r] ∧ d = .int (costRow W r) ∧ Wd W ∧ (∀ u ∈ r, u ∈ names W) ∧ r.length ≤ 100000
theorem okf_cost_of_row (hd : Hd K mg) : OkA P w K mg base 2 (He.ga K "cost_of_row") ["words", "row"] (spD R_cost_of_row) := by
  refine ok_cost_of_row hd (okf_cost_in hd) (len_D ?_) (rd_D ?_)
  · rintro ds d ⟨W, s, rfl, _⟩; rfl
  rintro ds d ⟨W, r, rfl, rfl, hW, hr, hl⟩ E H k
  exact dn_ret (de_sumM r (costIn W) (lc_M r D.str (js := [2]) (di_tup (de_var rfl)) (fun x => dg_name) (by simp) hl fun u hu => de_call (da_cons (de_var rfl) (da_cons (de_var rfl) da_nil)) ⟨W, u, rfl, rfl, hW, hr u hu⟩)) k
/-! can_grow -/
def R_can_grow : List D → D → Prop := fun ds d => ∃ W t, ds = [encW W, .str t] ∧ d = .bl (canGrow W t) ∧ Wd W ∧ Sz t
theorem okf_can_grow (hd : Hd K mg) : OkA P w K mg base 1 (He.ga K "can_grow") ["words", "text"] (spD R_can_grow) := by
  refine ok_can_grow hd (len_D ?_) (rd_D ?_)
  · rintro ds d ⟨W, s, rfl, _⟩; rfl
  rintro ds d ⟨W, t, rfl, rfl, hW, ht⟩ E H k
  have hl := hW.len
  exact dn_ret (de_anyM W _ (lc_M W encE (f := fun p => .bl (decide (t.length < p.1.length) && decide (p.1.take t.length = t))) (js := [2, 3]) (tgt := fun p => [.str p.1, .int p.2]) (di_tup (de_var rfl)) (fun x => dg_tup (dgs_cons (dgs_cons dgs_nil)) rfl) (by simp) (by omega) fun p hp =>
    DE.is (de_andV (de_cmpI (g := fun i j => decide (j < i)) (de_lenS (de_var rfl) (by have := (hW.ent p hp).1; omega)) (de_lenS (de_var rfl) (by omega))) fun _ => de_eqT (de_slS (de_var rfl) do_none (do_some (de_lenS (de_var rfl) (by omega))) (by have := (hW.ent p hp).1; omega)) (de_var rfl)) (by rw [nat_lt_dec, cut_to]))) k
end
end GC

-- part RD2
set_option Elab.async false
set_option linter.all false
set_option maxRecDepth 100000
set_option maxHeartbeats 4000000
namespace GC
open PySem PySem.Spec PyProof.Rows L2
section
variable {P : Program} {w : World} {K : PySem.W.Frag} {mg : Str → Option Value} {base : Heap}
/-! match_of -/
def R_match_of : List D → D → Prop := fun ds d => ∃ W t, ds = [encW W, .str t] ∧ d = encR (matchOf W t) ∧ Wd W ∧ Over W t ∧ Sz t
theorem okf_match_of (hd : Hd K mg) : OkA P w K mg base 4 (He.ga K "match_of") ["words", "text"] (spD R_match_of) := by
  refine ok_match_of hd (okf_longest_from hd) (len_D ?_) (rd_D ?_)
  · rintro ds d ⟨W, s, rfl, _⟩; rfl
  rintro ds d ⟨W, t, rfl, rfl, hW, ho, ht⟩ E H k
  refine dn_seq (dn_asgL (dl_lst da_nil (by simp)) fun a H1 na x1 l1 => dn_seq (dn_asg de_int (dn_seq ?_)))
  refine dn_whileG (Hb := H) (τ := List Tx × Nat) (fun s => s.2 ≤ t.length ∧ s.1 ++ matchOf W (t.drop s.2) = matchOf W t ∧ s.1.length ≤ s.2) (fun s => t.length - s.2)
    (fun s => [some (encW W), some (.str t), some (.adr a), some (.int (s.2 : Nat)), none]) (fun s H' => LstAt H' a (s.1.map D.str)) ([], 0) x1 ⟨by simp, by simp, by simp⟩ (wk_same (wk_same (wk_same (wk_same (wk_none wk_nil))))) l1 (fun s H3 H4 l x => l.ex x) ?_
  rintro ⟨r, n⟩ ⟨h1, h2, h3⟩ H3 x3 l3
  refine ⟨decide (n < t.length), dt_test (DE.is (de_cmpI (g := fun i j => decide (i < j)) (de_var rfl) (de_lenS (de_var rfl) (by omega))) (by rw [nat_lt_dec])), fun hb => ?_, fun hb => ?_⟩
  · have hn : n < t.length := of_decide_eq_true hb
    have ne : t.drop n ≠ [] := fun e => by
      have q := congrArg List.length e
      rw [List.length_drop] at q
      simp at q
      omega
    have L := hW.isLon (ho.drop n) ne
    have s := hW.size L.nm
    have le := L.le
    rw [List.length_drop] at le
    refine dn_seq (dn_asg (de_call (da_cons (de_var rfl) (da_cons (de_var rfl) (da_cons (de_var rfl) da_nil))) ⟨W, t, n, rfl, rfl, hW, hn, ht, ho⟩) (dn_seq (dn_app (de_var rfl) l3 (de_var rfl) (by rw [List.length_map]; omega) fun H4 xb l4 => dn_asg (de_addN (de_var rfl) (de_lenS (de_var rfl) (by omega))) ?_)))
    refine dn_turnW (τ := List Tx × Nat) (m := fun s => t.length - s.2) (r ++ [lon W (t.drop n)], n + (lon W (t.drop n)).length) (by show t.length - (n + _) < t.length - n; omega) ⟨by show n + _ ≤ _; omega, ?_, ?_⟩ (wk_same (wk_same (wk_same (wk_same (wk_none wk_nil))))) (x3.mut na xb) ?_ (fun s H3 H4 l x => l.ex x)
    · show (r ++ [lon W (t.drop n)]) ++ matchOf W (t.drop (n + (lon W (t.drop n)).length)) = matchOf W t
      rw [← h2, hW.match_cons (ho.drop n) ne, List.drop_drop, List.append_assoc]
      rfl
    · show (r ++ [_]).length ≤ n + _
      have h3 : r.length ≤ n := h3
      rw [List.length_append]
      simp
      omega
    · show LstAt H4 a ((r ++ [lon W (t.drop n)]).map D.str)
      rw [List.map_append]
      exact l4
  · have hn : ¬ n < t.length := of_decide_eq_false hb
    have h2 : r ++ matchOf W (t.drop n) = matchOf W t := h2
    rw [List.drop_of_length_le (by omega), match_nil, List.append_nil] at h2
    refine dn_ret (DE.is (de_tupL (dl_adr (de_var rfl) l3)) ?_) (k.ex x3)
    show encR r = _
    rw [h2]
/-! read_on -/
theorem rd_more {W : WL} (h : Wd W) : ∀ (n m : Nat) (t : Tx), Over W t → t.length ≤ n → t.length ≤ m → rd W n t = rd W m t
  | 0, 0, _, _, _, _ => rfl
  | 0, m + 1, t, _, h0, _ => by
    have e : t = [] := List.eq_nil_of_length_eq_zero (by omega)
    subst e
    unfold rd
    rw [if_neg (fun z => z.1 rfl)]
  | n + 1, 0, t, _, _, h0 => by
    have e : t = [] := List.eq_nil_of_length_eq_zero (by omega)
    subst e
    unfold rd
    rw [if_neg (fun z => z.1 rfl)]
  | n + 1, m + 1, t, ho, h1, h2 => by
    unfold rd
    by_cases c : t ≠ [] ∧ canGrow W t = false
    · rw [if_pos c, if_pos c]
      have s := h.size (h.isLon ho c.1).nm
      rw [rd_more h n m _ (ho.drop _) (by rw [List.length_drop]; omega) (by rw [List.length_drop]; omega)]
    · rw [if_neg c, if_neg c]
theorem rd_go {W : WL} (h : Wd W) {t : Tx} (ho : Over W t) (hn : t ≠ []) (hg : canGrow W t = false) : rd W t.length t = (lon W t :: (rd W (t.drop (lon W t).length).length (t.drop (lon W t).length)).1, (rd W (t.drop (lon W t).length).length (t.drop (lon W t).length)).2) := by
  have s := h.size (h.isLon ho hn).nm
  have p := List.length_pos_iff.mpr hn
  obtain ⟨m, hm⟩ : ∃ m, t.length = m + 1 := ⟨t.length - 1, by omega⟩
  rw [hm]
  show (if t ≠ [] ∧ canGrow W t = false then (lon W t :: (rd W m (t.drop (lon W t).length)).1, (rd W m (t.drop (lon W t).length)).2) else ([], t)) = _
  rw [if_pos ⟨hn, hg⟩, rd_more h m _ _ (ho.drop _) (by rw [List.length_drop]; omega) (Nat.le_refl _)]
theorem rd_stop {W : WL} {t : Tx} (hg : ¬ (t ≠ [] ∧ canGrow W t = false)) : ∀ n, rd W n t = ([], t)
  | 0 => rfl
  | n + 1 => by unfold rd; rw [if_neg hg]
def R_read_on : List D → D → Prop := fun ds d => ∃ W held x, ds = [encW W, .str held, .str [x]] ∧ d = .tup [encR (readOn W held x).1, .str (readOn W held x).2] ∧ Wd W ∧ Over W held ∧ held.length ≤ 1000 ∧ x ∈ letters W
theorem okf_read_on (hd : Hd K mg) : OkA P w K mg base 4 (He.ga K "read_on") ["words", "held", "letter"] (spD R_read_on) := by
  refine ok_read_on hd (okf_can_grow hd) (okf_longest_from hd) (len_D ?_) (rd_D ?_)
  · rintro ds d ⟨W, s, x, rfl, _⟩; rfl
  rintro ds d ⟨W, held, x, rfl, rfl, hW, ho, ht, hx⟩ E H k
  have ol : Over W (held ++ [x]) := ho.append (Over.one hx)
  refine dn_seq (dn_asg (de_cat (de_var rfl) (de_var rfl) (small_line (by simp; omega))) (dn_seq (dn_asgL (dl_lst da_nil (by simp)) fun a H1 na x1 l1 => dn_seq ?_)))
  refine dn_whileG (Hb := H) (τ := List Tx × Tx) (fun s => Over W s.2 ∧ s.1.length + s.2.length ≤ held.length + 1 ∧ readOn W held x = (s.1 ++ (rd W s.2.length s.2).1, (rd W s.2.length s.2).2)) (fun s => s.2.length)
    (fun s => [some (encW W), some (.str s.2), some (.str [x]), some (.adr a), none]) (fun s H' => LstAt H' a (s.1.map D.str)) ([], held ++ [x]) x1 ⟨ol, by simp, ?_⟩ (wk_same (wk_same (wk_same (wk_same (wk_none wk_nil))))) l1 (fun s H3 H4 l x => l.ex x) ?_
  · show readOn W held x = ([] ++ _, _)
    unfold readOn
    rw [List.nil_append, rd_more hW (held.length + 1) (held ++ [x]).length _ ol (by simp) (Nat.le_refl _)]
  rintro ⟨g, u⟩ ⟨h1, h2, h3⟩ H3 x3 l3
  have h1 : Over W u := h1
  have h2 : g.length + u.length ≤ held.length + 1 := h2
  have h3 : readOn W held x = (g ++ (rd W u.length u).1, (rd W u.length u).2) := h3
  refine ⟨(!decide (u = [])) && (!canGrow W u), dt_and (dt_test (de_neT (de_var rfl) de_empty)) (fun _ => dt_not (dt_B (de_call (da_cons (de_var rfl) (da_cons (de_var rfl) da_nil)) ⟨W, u, rfl, rfl, hW, by show u.length ≤ 50000; omega⟩))), fun hb => ?_, fun hb => ?_⟩
  · rw [Bool.and_eq_true, Bool.not_eq_true', Bool.not_eq_true', decide_eq_false_iff_not] at hb
    obtain ⟨hn, hg⟩ := hb
    have L := hW.isLon h1 hn
    have s := hW.size L.nm
    have le := L.le
    have p := List.length_pos_iff.mpr hn
    refine dn_seq (dn_asg (de_call (da_cons (de_var rfl) (da_cons (de_var rfl) (da_cons de_int da_nil))) ⟨W, u, 0, rfl, rfl, hW, p, by show u.length ≤ 50000; omega, h1⟩) (dn_seq (dn_app (de_var rfl) l3 (de_var rfl) (by rw [List.length_map]; omega) fun H4 xb l4 => dn_asg (de_slS (de_var rfl) (do_some (de_lenS (de_var rfl) (by rw [List.drop_zero]; omega))) do_none (by omega)) ?_)))
    rw [List.drop_zero] at l4 ⊢
    rw [cut_from]
    refine dn_turnW (τ := List Tx × Tx) (m := fun s => s.2.length) (g ++ [lon W u], u.drop (lon W u).length) (by show (u.drop _).length < u.length; rw [List.length_drop]; omega) ⟨h1.drop _, ?_, ?_⟩ (wk_same (wk_same (wk_same (wk_same (wk_none wk_nil))))) (x3.mut na xb) ?_ (fun s H3 H4 l x => l.ex x)
    · show (g ++ [_]).length + (u.drop _).length ≤ _
      rw [List.length_append, List.length_drop]
      simp
      omega
    · show readOn W held x = ((g ++ [lon W u]) ++ _, _)
      rw [h3, rd_go hW h1 hn hg, List.append_assoc]
      rfl
    · show LstAt H4 a ((g ++ [lon W u]).map D.str)
      rw [List.map_append]
      exact l4
  · have hg : ¬ (u ≠ [] ∧ canGrow W u = false) := fun z => by
      rw [Bool.and_eq_false_iff, Bool.not_eq_false', Bool.not_eq_false', decide_eq_true_eq] at hb
      rcases hb with q | q
      · exact z.1 q
      · rw [z.2] at q; cases q
    rw [rd_stop hg, List.append_nil] at h3
    refine dn_ret (DE.is (de_tup (da_cons (de_tupL (dl_adr (de_var rfl) l3)) (da_cons (de_var rfl) da_nil)) (by simp)) ?_) (k.ex x3)
    rw [h3]
    rfl
/-! steps_of -/
def R_steps_of : List D → List D → Prop := fun ds es => ∃ W h t x, ds = [encW W, .str h, .str t, .str [x]] ∧ es = (steps W h t x).map encS ∧ Wd W ∧ Over W h ∧ h.length ≤ 1000 ∧ t.length ≤ 1000 ∧ x ∈ letters W
theorem okf_steps_of (hd : Hd K mg) : OkA P w K mg base 5 (He.ga K "steps_of") ["words", "held", "tail", "letter"] (spL R_steps_of) := by
  refine ok_steps_of hd (okf_read_on hd) (okf_cost_of_row hd) (okf_has_word hd) (okf_cost_in hd) (okf_can_grow hd) (len_L ?_) (rd_L ?_)
  · rintro ds d ⟨W, s, t, x, rfl, _⟩; rfl
  rintro ds d ⟨W, h, t, x, rfl, rfl, hW, ho, hh, ht, hx⟩ E H k
  have hl := hW.len
  have R := hW.isRead ho hx
  have rl : (readOn W h x).1.length ≤ 100000 := by
    have q : ∀ l : List Tx, (∀ u ∈ l, u ∈ names W) → l.length ≤ l.flatten.length := by
      intro l
      induction l with
      | nil => intro _; simp
      | cons u l ih =>
        intro hl
        have := (hW.size (hl u (by simp))).1
        have := ih fun v hv => hl v (by simp [hv])
        rw [List.flatten_cons, List.length_append, List.length_cons]
        omega
    have q1 := q _ R.nm
    have q2 := congrArg List.length R.flat
    rw [List.length_append, List.length_append, List.length_singleton] at q2
    omega
  refine dn_seq (dn_asgT (de_call (da_cons (de_var rfl) (da_cons (de_var rfl) (da_cons (de_var rfl) da_nil))) ⟨W, h, x, rfl, rfl, hW, ho, hh, hx⟩) (dg_tup (dgs_cons (dgs_cons dgs_nil)) rfl) (dn_seq (dn_asg (de_call (da_cons (de_var rfl) (da_cons (de_var rfl) da_nil)) ⟨W, _, rfl, rfl, hW, R.nm, rl⟩) (dn_seq (dn_asg (de_cat (de_var rfl) (de_var rfl) (small_line (by simp; omega))) (dn_seq (dn_asgL (dl_lst da_nil (by simp)) fun a H1 na x1 l1 => dn_seq ?_)))))))
  refine dn_if (dt_B (de_call (da_cons (de_var rfl) (da_cons (de_var rfl) da_nil)) ⟨W, t ++ [x], rfl, rfl, by omega⟩)) (fun hb => ?_) (fun hb => ?_)
  · have hb : t ++ [x] ∈ names W := of_decide_eq_true hb
    refine dn_app (de_var rfl) l1 (de_tup (da_cons (de_var rfl) (da_cons de_empty (da_cons (de_var rfl) (da_cons (de_call (da_cons (de_var rfl) (da_cons (de_var rfl) da_nil)) ⟨W, t ++ [x], rfl, rfl, hW, hb⟩) da_nil)))) (by simp)) (by simp) fun H2 xb l2 => dn_seq ?_
    refine dn_if (dt_B (de_call (da_cons (de_var rfl) (da_cons (de_var rfl) da_nil)) ⟨W, t ++ [x], rfl, rfl, hW, by simp; omega⟩)) (fun hg => ?_) (fun hg => ?_)
    · refine dn_app (de_var rfl) l2 (de_tup (da_cons (de_var rfl) (da_cons (de_var rfl) (da_cons (de_var rfl) (da_cons de_int da_nil)))) (by simp)) (by simp) fun H3 xc l3 => ?_
      refine dn_retA (de_var rfl) na ((x1.mut na xb).mut na xc) l3 ?_
      unfold steps at k
      rw [if_pos hb, if_pos hg] at k
      exact k
    · refine dn_next (dn_retA (de_var rfl) na (x1.mut na xb) l2 ?_)
      unfold steps at k
      rw [if_pos hb, if_neg (by rw [hg]; decide)] at k
      exact k
  · have hb : ¬ t ++ [x] ∈ names W := of_decide_eq_false hb
    refine dn_next (dn_seq ?_)
    refine dn_if (dt_B (de_call (da_cons (de_var rfl) (da_cons (de_var rfl) da_nil)) ⟨W, t ++ [x], rfl, rfl, hW, by simp; omega⟩)) (fun hg => ?_) (fun hg => ?_)
    · refine dn_app (de_var rfl) l1 (de_tup (da_cons (de_var rfl) (da_cons (de_var rfl) (da_cons (de_var rfl) (da_cons de_int da_nil)))) (by simp)) (by simp) fun H3 xc l3 => ?_
      refine dn_retA (de_var rfl) na (x1.mut na xc) l3 ?_
      unfold steps at k
      rw [if_neg hb, if_pos hg] at k
      exact k
    · refine dn_next (dn_retA (de_var rfl) na x1 l1 ?_)
      unfold steps at k
      rw [if_neg hb, if_neg (by rw [hg]; decide)] at k
      exact k
end
end GC

-- part RD3
set_option Elab.async false
set_option linter.all false
set_option maxRecDepth 100000
set_option maxHeartbeats 4000000
namespace GC
open PySem PySem.Spec PyProof.Rows L2
/-! ### what an answer keeps -/
def key2 (p : Tx × Tx × Int) : Tx × Tx := (p.1, p.2.1)
def tabM (T : List (Tx × Tx × Int)) : List ((Tx × Tx) × Int) := T.map fun p => ((p.1, p.2.1), p.2.2)
structure TabOk (W : WL) (a b c : Int) (T : List (Tx × Tx × Int)) : Prop where
  len : T.length ≤ 1000
  held : ∀ p ∈ T, Held W p.1 ∧ Held W p.2.1
  srt : T.Pairwise fun p q => ltQ (key2 p) (key2 q) = true
  nd : (T.map key2).Nodup
  zero : ∃ n, 0 ≤ n ∧ ([], [], n) ∈ T
  fin : ∀ p ∈ T, p.2.1 = [] → p.2.2 + b * costRow W (matchOf W p.1) ≤ c
  goes : ∀ p ∈ T, ∀ x ∈ letters W, ∀ s ∈ steps W p.1 p.2.1 x, ∃ n, (s.1, s.2.1, n) ∈ T ∧ p.2.2 + b * s.2.2.1 - a * s.2.2.2 ≤ n
structure TellOk (W : WL) (a b : Int) (bf cy tl : Tx) (r : List Tx) : Prop where
  obf : Over W bf
  ocy : Over W cy
  otl : Over W tl
  szb : bf.length ≤ 1000
  szc : cy.length ≤ 1000
  szt : tl.length ≤ 1000
  ne : cy ≠ []
  row : ∀ u ∈ r, u ∈ names W
  rl : r.length ≤ 1000
  suf : tl.length ≤ bf.length ∧ bf.drop (bf.length - tl.length) = tl
  eq : tl ++ cy = r.flatten ++ tl
  back : (readAll W (readAll W [] bf).2 cy).2 = (readAll W [] bf).2
  ratio : (readAll W (readAll W [] bf).2 cy).1 * b = costRow W r * a
structure ShowOk (W : WL) (a b c : Int) (t : Tx) (r : List Tx) : Prop where
  ov : Over W t
  sz : t.length ≤ 1000
  row : ∀ u ∈ r, u ∈ names W
  rl : r.length ≤ 1000
  flat : r.flatten = t
  val : b * costRow W (matchOf W t) - a * costRow W r = c
structure RatioOk (a b : Int) : Prop where
  b1 : 1 ≤ b
  bM : b ≤ 1521
  ab : b ≤ a
  aM : a ≤ 6084
  gcd : Nat.gcd a.natAbs b.natAbs = 1
structure Ans where
  a : Int
  b : Int
  c : Int
  bf : Tx
  cy : Tx
  tl : Tx
  r : List Tx
  t : Tx
  r2 : List Tx
  T : List (Tx × Tx × Int)
structure AnsOk (W : WL) (A : Ans) : Prop where
  rat : RatioOk A.a A.b
  tell : TellOk W A.a A.b A.bf A.cy A.tl A.r
  sh : ShowOk W A.a A.b A.c A.t A.r2
  tab : TabOk W A.a A.b A.c A.T
def encTell (bf cy tl : Tx) (r : List Tx) : D := .tup [.str bf, .str cy, .str tl, encR r]
def encShow (t : Tx) (r : List Tx) : D := .tup [.str t, encR r]
def encRat (a b : Int) : D := .tup [.int a, .int b]
def encAns (A : Ans) : D := .tup [encRat A.a A.b, .int A.c, encTell A.bf A.cy A.tl A.r, encShow A.t A.r2, encT A.T]
theorem getP_tab {T : List (Tx × Tx × Int)} (nd : (T.map key2).Nodup) {u v : Tx} {n : Int} : getP (tabM T) (u, v) = some n ↔ (u, v, n) ∈ T := by
  have nd2 : ((tabM T).map (·.1)).Nodup := by
    unfold tabM
    rw [List.map_map]
    exact nd
  constructor
  · intro h
    obtain ⟨p, hp, e⟩ := List.mem_map.mp (getP_mem h)
    injection e with e1 e2
    injection e1 with e0 e1
    rw [← e0, ← e1, ← e2]
    exact hp
  · intro h
    exact getP_of nd2 (List.mem_map_of_mem (f := fun p : Tx × Tx × Int => ((p.1, p.2.1), p.2.2)) h)
theorem tabM_len (T : List (Tx × Tx × Int)) : (tabM T).length = T.length := by unfold tabM; rw [List.length_map]
theorem TabOk.right {W : WL} {a b c : Int} {T : List (Tx × Tx × Int)} (h : TabOk W a b c T) : RightP W a b c (getP (tabM T)) where
  zero := by
    obtain ⟨n, n0, hn⟩ := h.zero
    exact ⟨n, (getP_tab h.nd).mpr hn, n0⟩
  step := fun u v n hn x hx s hs => by
    obtain ⟨m, m1, m2⟩ := h.goes _ ((getP_tab h.nd).mp hn) x hx s hs
    exact ⟨m, (getP_tab h.nd).mpr m1, m2⟩
  fin := fun u n hn => h.fin _ ((getP_tab h.nd).mp hn) rfl
section
variable {P : Program} {w : World} {K : PySem.W.Frag} {mg : Str → Option Value} {base : Heap}
theorem cmul_l {i j : Int} (h0 : -100000 ≤ i) (h1 : i ≤ 100000) : CMul i j := .inl ⟨by omega, by omega⟩
theorem cmul_r {i j : Int} (h0 : -100000 ≤ j) (h1 : j ≤ 100000) : CMul i j := .inr ⟨by omega, by omega⟩
/-! is_triple -/
def R_is_triple : List D → D → Prop := fun ds d => ∃ p, ds = [encP p] ∧ d = .bl true
theorem okf_is_triple (hd : Hd K mg) : OkA P w K mg base 2 (He.ga K "is_triple") ["value"] (spD R_is_triple) := by
  refine ok_is_triple hd (okf_is_integer hd) (len_D ?_) (rd_D ?_)
  · rintro ds d ⟨s, rfl, _⟩; rfl
  rintro ds d ⟨p, rfl, rfl⟩ E H k
  exact dn_seq (dn_ifF (dt_orF (dt_notF (dt_B (de_isT (de_var rfl) rfl (by rfl)))) (dt_orF (dt_test (DE.is (de_neI (de_lenT (de_var rfl)) de_int) rfl)) (dt_notF (dt_B (de_call (da_cons (de_ixTN (k := 2) (de_var rfl) de_int rfl) da_nil) ⟨p.2.2, rfl, rfl⟩))))) (dn_next (dn_ret (DE.is (de_andV (de_isT (de_ixTN (k := 0) (d := .str p.1) (de_var rfl) de_int rfl) rfl (by rfl)) fun _ => de_isT (de_ixTN (k := 1) (d := .str p.2.1) (de_var rfl) de_int rfl) rfl (by rfl)) rfl) k)))
/-! is_table -/
theorem pair_at {α : Type} {R : α → α → Prop} {xs : List α} (h : xs.Pairwise R) {i : Nat} {a b : α} (ha : xs[i]? = some a) (hb : xs[i + 1]? = some b) : R a b := by
  obtain ⟨h1, e1⟩ := List.getElem?_eq_some_iff.mp ha
  obtain ⟨h2, e2⟩ := List.getElem?_eq_some_iff.mp hb
  have q := List.pairwise_iff_getElem.mp h i (i + 1) h1 h2 (by omega)
  rw [e1, e2] at q
  exact q
def encT_get {T : List (Tx × Tx × Int)} {i : Nat} {p : Tx × Tx × Int} (h : T[i]? = some p) : (T.map encP)[i]? = some (encP p) := by rw [List.getElem?_map, h]; rfl
section
variable {H : Hp} {ρ : List (Option D)} {te ta tb : TE}
/-- row[:2] of a row of three -/
theorem de_two3 {p : Tx × Tx × Int} (h : DE ta H ρ (encP p)) : DE (tSl (rSlT K) ta tNoPart (tPart (tC (.int 2)))) H ρ (encQ (key2 p)) :=
  DE.is (de_slT h do_none (do_some (de_nat 2 rfl)) (show ¬(HT.sIx 3 0 none = 0 ∧ HT.sIx 3 3 (some (2 : Int)) = 3) by decide)) (by rw [cut_to]; rfl)
/-- the rows stand in order -/
theorem de_srt {T : List (Tx × Tx × Int)} {ρ : List (Option D)} {j i : Nat} (ht : ∀ x : Nat, (setAll (wipeD ρ [j]) [j] [.int (x : Nat)])[i]? = some (some (encT T))) (hj : ∀ x : Nat, (setAll (wipeD ρ [j]) [j] [D.int (x : Nat)])[j]? = some (some (.int (x : Nat)))) (h0 : ρ[i]? = some (some (encT T))) (hl : T.length ≤ 1000) (srt : T.Pairwise fun p q => ltQ (key2 p) (key2 q) = true) :
    DE (tCB (rAll K) (tCons (tLc (iRng1 (tCons (tOp (rI0 fun i j => .int (i - j)) (tCB (rLen K) (tCons (tVar i) tNil)) (tC (.int 1))) tNil)) (gName j) tYes (tOp (rLtD K) (tSl (rSlT K) (tOp (rIxT K) (tVar i) (tVar j)) tNoPart (tPart (tC (.int 2)))) (tSl (rSlT K) (tOp (rIxT K) (tVar i) (tOp (rI0 fun i j => .int (i + j)) (tVar j) (tC (.int 1)))) tNoPart (tPart (tC (.int 2))))) [j]) tNil)) H ρ (.bl true) := by
  by_cases e0 : T.length = 0
  · refine DE.is (de_allM [] (fun _ : Nat => true) (lc_M ([] : List Nat) (fun k => D.int (k : Nat)) (js := [j]) (DI.is (di_rng1 (de_sub (de_lenT (ds := T.map encP) (de_var h0)) de_int) (by rw [List.length_map]; omega) (by rw [List.length_map]; omega)) ?_) (fun x => dg_name) (by simp) (by simp) (fun x hx => by cases hx))) rfl
    rw [List.length_map, e0]
    rfl
  refine DE.is (de_allM (List.range (T.length - 1)) (fun _ => true) (lc_M (List.range (T.length - 1)) (fun k => D.int (k : Nat)) (js := [j]) (di_rngN (n := T.length - 1) (DE.is (de_sub (de_lenT (ds := T.map encP) (de_var h0)) de_int) ?_) (by omega)) (fun x => dg_name) (by simp) (by rw [List.length_range]; omega) fun x hx => ?_)) ?_
  · congr 1
    rw [List.length_map]
    omega
  · rw [List.mem_range] at hx
    obtain ⟨p, hp⟩ : ∃ p, T[x]? = some p := ⟨T[x], by simp⟩
    obtain ⟨q, hq⟩ : ∃ q, T[x + 1]? = some q := ⟨T[x + 1]'(by omega), by rw [List.getElem?_eq_getElem (by omega)]⟩
    have z := pair_at srt hp hq
    exact DE.is (de_ltQ (de_two3 (de_ixTN (ds := T.map encP) (k := x) (de_var (ht x)) (de_var (hj x)) (encT_get hp))) (de_two3 (de_ixTN (ds := T.map encP) (k := x + 1) (de_var (ht x)) (de_addN (de_var (hj x)) (de_nat 1 rfl)) (encT_get hq)))) (by rw [z])
  · simp
end
def R_is_table : List D → D → Prop := fun ds d => ∃ T : List (Tx × Tx × Int), ds = [encT T] ∧ d = .bl true ∧ T.length ≤ 1000 ∧ T.Pairwise fun p q => ltQ (key2 p) (key2 q) = true
theorem okf_is_table (hd : Hd K mg) : OkA P w K mg base 3 (He.ga K "is_table") ["value"] (spD R_is_table) := by
  refine ok_is_table hd (okf_is_triple hd) (len_D ?_) (rd_D ?_)
  · rintro ds d ⟨s, rfl, _⟩; rfl
  rintro ds d ⟨T, rfl, rfl, hl, srt⟩ E H k
  refine dn_seq (dn_ifF (dt_orF (dt_notF (dt_B (de_isT (de_var rfl) rfl (by rfl)))) (dt_notF (dt_B (DE.is (de_allM T (fun _ => true) (lc_M T encP (js := [1]) (di_tup (de_var rfl)) (fun x => dg_name) (by simp) (by omega) fun p hp => de_call (da_cons (de_var rfl) da_nil) ⟨p, rfl, rfl⟩)) (by simp))))) (dn_next (dn_ret (de_srt (T := T) (fun _ => rfl) (fun _ => rfl) rfl hl srt) k)))
/-! ends_well -/
def R_ends_well : List D → D → Prop := fun ds d => ∃ W, ∃ b c : Int, ∃ p, ds = [encW W, .int b, .int c, encP p] ∧ d = .bl true ∧ Wd W ∧ Held W p.1 ∧ 0 ≤ b ∧ b ≤ 2000 ∧ (p.2.1 = [] → p.2.2 + b * costRow W (matchOf W p.1) ≤ c)
theorem flat_len {W : WL} (hW : Wd W) : ∀ {r : List Tx}, (∀ u ∈ r, u ∈ names W) → r.length ≤ r.flatten.length
  | [], _ => Nat.zero_le _
  | u :: r, h => by
    have := (hW.size (h u (by simp))).1
    have := flat_len hW (r := r) fun v hv => h v (by simp [hv])
    rw [List.flatten_cons, List.length_append, List.length_cons]
    omega
theorem match_row {W : WL} (hW : Wd W) {t : Tx} (ho : Over W t) : (∀ u ∈ matchOf W t, u ∈ names W) ∧ (matchOf W t).length ≤ t.length := by
  refine ⟨hW.match_names ho, ?_⟩
  have := flat_len hW (hW.match_names ho)
  rw [hW.match_flat ho] at this
  exact this
theorem okf_ends_well (hd : Hd K mg) : OkA P w K mg base 5 (He.ga K "ends_well") ["words", "b", "c", "triple"] (spD R_ends_well) := by
  refine ok_ends_well hd (okf_cost_of_row hd) (okf_match_of hd) (len_D ?_) (rd_D ?_)
  · rintro ds d ⟨W, b, c, p, rfl, _⟩; rfl
  rintro ds d ⟨W, b, c, p, rfl, rfl, hW, hp, hb0, hb1, hf⟩ E H k
  have hl := hp.len hW
  obtain ⟨m1, m2⟩ := match_row hW (hp.over hW)
  refine dn_seq (dn_asgT (de_var rfl) (dg_tup (dgs_cons (dgs_cons (dgs_cons dgs_nil))) rfl) (dn_ret (DE.is (de_orV (de_neT (de_var rfl) de_empty) fun _ => de_cmpI (g := fun i j => decide (i ≤ j)) (de_add (de_var rfl) (de_mul (de_var rfl) (de_call (da_cons (de_var rfl) (da_cons (de_call (da_cons (de_var rfl) (da_cons (de_var rfl) da_nil)) ⟨W, p.1, rfl, rfl, hW, hp.over hW, by show p.1.length ≤ 50000; omega⟩) da_nil)) ⟨W, _, rfl, rfl, hW, m1, by omega⟩) (cmul_l (by omega) (by omega)))) (de_var rfl)) ?_) k))
  congr 1
  by_cases e : p.2.1 = []
  · rw [decide_eq_true e, decide_eq_true (hf e)]; rfl
  · rw [decide_eq_false e]; rfl
end
end GC

-- part RD4
set_option Elab.async false
set_option linter.all false
set_option maxRecDepth 100000
set_option maxHeartbeats 4000000
namespace GC
open PySem PySem.Spec PyProof.Rows L2
section
variable {P : Program} {w : World} {K : PySem.W.Frag} {mg : Str → Option Value} {base : Heap}
/-! goes_well -/
def R_goes_well : Hp → List D → VK → Prop := fun H ds Q => ∃ W, ∃ a b : Int, ∃ ta p m, ds = [encW W, .int a, .int b, .adr ta, encP p] ∧ Wd W ∧ Held W p.1 ∧ Held W p.2.1 ∧ -10000 ≤ a ∧ a ≤ 10000 ∧ 0 ≤ b ∧ b ≤ 2000 ∧ DtAt H ta m ∧
  (∀ x ∈ letters W, ∀ s ∈ steps W p.1 p.2.1 x, ∃ n, getP m (s.1, s.2.1) = some n ∧ p.2.2 + b * s.2.2.1 - a * s.2.2.2 ≤ n) ∧ ∀ v H', Ex H H' → Rp H' (.bl true) v → Q v H'
theorem okf_goes_well (hd : Hd K mg) : OkA P w K mg base 6 (He.ga K "goes_well") ["words", "a", "b", "table", "triple"] (spG R_goes_well) := by
  refine ok_goes_well hd (okf_letters_in hd) (okf_steps_of hd) (len_G ?_) (rd_G ?_)
  · rintro H ds Q ⟨W, a, b, ta, p, m, rfl, _⟩; rfl
  rintro ds H Q ⟨W, a, b, ta, p, m, rfl, hW, hp, hq, ha0, ha1, hb0, hb1, l, hs, k⟩
  have l1 := hp.len hW
  have l2 := hq.len hW
  refine dn_seq (dn_asgT (de_var rfl) (dg_tup (dgs_cons (dgs_cons (dgs_cons dgs_nil))) rfl) (dn_seq ?_))
  refine dn_forP (τ := Unit) (letters W) (fun c => D.str [c]) (fun x => dg_name) (fun _ _ => True) (fun _ => [some (encW W), some (.int a), some (.int b), some (.adr ta), some (encP p), some (.str p.1), some (.str p.2.1), some (.int p.2.2), none, none, none, none, none]) () (di_str (de_call (da_cons (de_var rfl) da_nil) ⟨W, rfl, rfl, hW⟩)) trivial (Wk.refl _) ?_ ?_
  · intro Hh x1 i x t hx _
    have hx : x ∈ letters W := List.mem_of_getElem? hx
    refine dn_forP (τ := Unit) (steps W p.1 p.2.1 x) encS (tgt := fun s => [.str s.1, .str s.2.1, .int s.2.2.1, .int s.2.2.2]) (fun s => dg_tup (dgs_cons (dgs_cons (dgs_cons (dgs_cons dgs_nil)))) rfl) (fun _ _ => True) (fun _ => [some (encW W), some (.int a), some (.int b), some (.adr ta), some (encP p), some (.str p.1), some (.str p.2.1), some (.int p.2.2), some (.str [x]), none, none, none, none]) () (di_lstN (dl_call (da_cons (de_var rfl) (da_cons (de_var rfl) (da_cons (de_var rfl) (da_cons (de_var rfl) da_nil)))) ⟨W, p.1, p.2.1, x, rfl, rfl, hW, hp.over hW, by omega, by omega, hx⟩)) trivial (Wk.refl _) ?_ ?_
    · intro Hi x2 j s t hs2 _
      have hs2 : s ∈ steps W p.1 p.2.1 x := List.mem_of_getElem? hs2
      obtain ⟨n, n1, n2⟩ := hs x hx s hs2
      have sh := hW.steps_held hp hx hs2
      refine dn_ifF (dt_orF (dt_B (DE.is (de_dnotT (q := (s.1, s.2.1)) (de_tup (da_cons (de_var rfl) (da_cons (de_var rfl) da_nil)) (by simp)) (de_var rfl) (l.ex (x1.trans x2))) (by rw [n1]; rfl))) (dt_test (DE.is (de_cmpI (g := fun i j => decide (i < j)) (de_dgetT (q := (s.1, s.2.1)) (de_var rfl) (l.ex (x1.trans x2)) (de_tup (da_cons (de_var rfl) (da_cons (de_var rfl) da_nil)) (by simp)) n1) (de_sub (de_add (de_var rfl) (de_mul (de_var rfl) (de_var rfl) (cmul_l (by omega) (by omega)))) (de_mul (de_var rfl) (de_var rfl) (cmul_l (by omega) (by omega))))) ?_))) (dn_next (dn_turnP (P := fun _ => True) (env := fun _ => [some (encW W), some (.int a), some (.int b), some (.adr ta), some (encP p), some (.str p.1), some (.str p.2.1), some (.int p.2.2), some (.str [x]), none, none, none, none]) () trivial ?_ (Ex.refl _)))
      · congr 1
        exact decide_eq_false (by omega)
      · exact wk_same (wk_same (wk_same (wk_same (wk_same (wk_same (wk_same (wk_same (wk_same (wk_none (wk_none (wk_none (wk_none wk_nil))))))))))))
    · intro t _
      refine dn_turnP (P := fun _ => True) (env := fun _ => [some (encW W), some (.int a), some (.int b), some (.adr ta), some (encP p), some (.str p.1), some (.str p.2.1), some (.int p.2.2), none, none, none, none, none]) () trivial ?_ (Ex.refl _)
      exact wk_same (wk_same (wk_same (wk_same (wk_same (wk_same (wk_same (wk_same (wk_none (wk_none (wk_none (wk_none (wk_none wk_nil))))))))))))
  · intro t _
    dsimp only
    exact dn_ret de_bl fun v H' x r => k v H' x r
/-! is_over -/
theorem all_over {W : WL} {t : Tx} (h : Over W t) : (t.all fun c => decide (c ∈ letters W)) = true := List.all_eq_true.mpr fun x hx => decide_eq_true (h x hx)
def R_is_over : List D → D → Prop := fun ds d => ∃ W t, ds = [encW W, .str t] ∧ d = .bl true ∧ Wd W ∧ Over W t ∧ Sz t
theorem okf_is_over (hd : Hd K mg) : OkA P w K mg base 2 (He.ga K "is_over") ["words", "text"] (spD R_is_over) := by
  refine ok_is_over hd (okf_letters_in hd) (len_D ?_) (rd_D ?_)
  · rintro ds d ⟨W, s, rfl, _⟩; rfl
  rintro ds d ⟨W, t, rfl, rfl, hW, ho, ht⟩ E H k
  exact dn_ret (DE.is (de_allM t (fun c => decide (c ∈ letters W)) (lc_M t (fun c => D.str [c]) (js := [2]) (di_str (de_var rfl)) (fun x => dg_name) (by simp) (Nat.le_trans ht (by omega)) fun c hc => de_inS (de_var rfl) (de_call (da_cons (de_var rfl) da_nil) ⟨W, rfl, rfl, hW⟩))) (by rw [all_over ho])) k
/-! fit -/
theorem putT_all {T : List (Tx × Tx × Int)} (nd : (T.map key2).Nodup) : T.foldl (fun m p => putP m (key2 p) p.2.2) [] = tabM T := by
  have h := putP_all (tabM T) [] (by
    rw [List.nil_append]
    unfold tabM
    rw [List.map_map]
    exact nd)
  rw [List.nil_append] at h
  rw [← h]
  unfold tabM
  rw [List.foldl_map]
  rfl
/-- {(u, v): n for u, v, n in T} -/
theorem dn_asgDcT {H : Hp} {ρ : List (Option D)} {E : Ends} {T : List (Tx × Tx × Int)} {i j1 j2 j3 : Nat} {tl : TE} {vs : List Nat} {tk tv : TE} (hi : DE tl H ρ (encT T)) (hv : ∀ j ∈ [j1, j2, j3], j ∈ vs) (hn : T.length ≤ 1000) (nd : (T.map key2).Nodup)
    (hk : ∀ p ∈ T, ∀ H', DE tk H' (setAll (wipeD ρ vs) [j1, j2, j3] [.str p.1, .str p.2.1, .int p.2.2]) (encQ (key2 p))) (hx : ∀ p ∈ T, ∀ H', DE tv H' (setAll (wipeD ρ vs) [j1, j2, j3] [.str p.1, .str p.2.1, .int p.2.2]) (.int p.2.2))
    (k : ∀ a H', H a = none → Ex H H' → DtAt H' a (tabM T) → DN E.nx H' (ρ.set i (some (.adr a)))) :
    DN (tAsg (tDcT (iTup K tl) (gTup K 3 (gCons (gName j1) (gCons (gName j2) (gCons (gName j3) gNil)))) tYes tk tv vs) (gName i) E) H ρ := fun σ H1 x n => by
    unfold tAsg tDcT
    refine di_tup hi σ H1 x n _ ?_
    intro J H2 src y hs w D0 hD
    have nD : ∀ a ∈ src, a ≠ D0 ∨ H2 a = none := fun a _ => by
      by_cases e : a = D0
      · exact .inr (by rw [e]; exact hD)
      · exact .inl e
    have ww := w H2 (fun _ _ h => h) fun a _ => rfl
    have part : ∀ i : Nat, i ≤ T.length → ((T.take i).foldl (fun m p => putP m (key2 p) p.2.2) []).length ≤ i := by
      intro i
      induction i with
      | zero => intro _; simp
      | succ i ih =>
        intro hi
        have ex : T[i]? = some (T[i]'(by omega)) := List.getElem?_eq_getElem (by omega)
        rw [List.take_succ, ex, Option.toList_some, List.foldl_append, List.foldl_cons, List.foldl_nil]
        have := putP_len ((T.take i).foldl (fun m p => putP m (key2 p) p.2.2) []) (key2 (T[i]'(by omega))) (T[i]'(by omega)).2.2
        have := ih (by omega)
        omega
    refine ⟨fun i m Hi => m + i = T.length ∧ Ex H2 Hi ∧ DtAt Hi D0 ((T.take i).foldl (fun m p => putP m (key2 p) p.2.2) []), ⟨T.length, by omega, Ex.new hD, upd_same⟩, ?_⟩
    rintro i m Hi ⟨h1, h2, h3⟩
    by_cases hlt : i < T.length
    · refine .inr ⟨ww.goes i Hi (by rw [List.length_map]; exact hlt) h2, fun Hj => Ex H2 Hj ∧ DtAt Hj D0 ((T.take (i + 1)).foldl (fun m p => putP m (key2 p) p.2.2) []), fun Hj hj => ⟨m - 1, by omega, by omega, hj.1, hj.2⟩, fun v Hx yl => ?_⟩
      obtain ⟨y1, d, yd, yr⟩ := ww.yields i Hi v Hx (by rw [List.length_map]; exact hlt) h2 yl
      have ex : T[i]? = some T[i] := List.getElem?_eq_getElem hlt
      rw [List.getElem?_map, ex] at yd
      cases yd
      have hm : T[i] ∈ T := List.getElem_mem hlt
      have tk : T.take (i + 1) = T.take i ++ [T[i]] := by rw [List.take_succ, ex]; rfl
      refine dg_tup (K := K) (ds := [.str T[i].1, .str T[i].2.1, .int T[i].2.2]) (dgs_cons (dgs_cons (dgs_cons dgs_nil))) rfl v _ Hx _ yr fun us ur => ?_
      have n4 : EnvD Hx (setAll (wipe σ vs) [j1, j2, j3] us) (setAll (wipeD ρ vs) [j1, j2, j3] [.str T[i].1, .str T[i].2.1, .int T[i].2.2]) := (((n.ex y).wipe vs).ex (h2.trans y1)).setAll ur
      refine ⟨by rw [wipe_setAll hv, wipe_wipe fun _ h => h], ?_⟩
      unfold tYes
      refine iteT (hk _ hm Hx _ Hx (Ex.refl _) n4 _ fun u H6 y6 r6 => hx _ hm H6 _ H6 (Ex.refl _) (n4.ex y6) _ fun z H7 y7 r7 => ?_)
      obtain ⟨b, e1, e2⟩ := rp_encQ (Rp.ex y7 r6)
      have r7 : z = .int T[i].2.2 := r7
      subst r7 e1
      have h4 := h3.ex ((y1.trans y6).trans y7)
      refine ⟨_, kT (key2 T[i]), b, rfl, e2, h4, ?_, ?_, ?_⟩
      · rw [encM_len]
        exact Nat.lt_of_le_of_lt (part i (by omega)) (Nat.lt_of_lt_of_le (show i < 100001 by omega) (by decide))
      · exact ((h2.trans y1).trans (y6.trans y7)).mut hD ExB.upd
      · rw [tk, List.foldl_append, putK_enc kT_inj]
        exact upd_same
    · refine .inl ⟨by have z := ww.stops Hi h2; rw [List.length_map] at z; rw [show i = T.length by omega]; exact z, ?_⟩
      rw [List.take_of_length_le (by omega), putT_all nd] at h3
      exact k D0 Hi (x.fresh (y.fresh hD)) ((x.trans y).trans h2) h3 _ Hi (Ex.refl _) (((n.ex y).ex h2).set rfl)
end
end GC

-- part RD5
set_option Elab.async false
set_option linter.all false
set_option maxRecDepth 100000
set_option maxHeartbeats 4000000
namespace GC
open PySem PySem.Spec PyProof.Rows L2
section
variable {P : Program} {w : World} {K : PySem.W.Frag} {mg : Str → Option Value} {base : Heap}
/-! fit -/
def R_fit : List D → D → Prop := fun ds d => ∃ W, ∃ a b c : Int, ∃ T, ds = [encW W, .int a, .int b, .int c, encT T] ∧ d = .bl true ∧ Wd W ∧ TabOk W a b c T ∧ -10000 ≤ a ∧ a ≤ 10000 ∧ 0 ≤ b ∧ b ≤ 2000
theorem okf_fit (hd : Hd K mg) : OkA P w K mg base 7 (He.ga K "fit") ["words", "a", "b", "c", "value"] (spD R_fit) := by
  refine ok_fit hd (okf_is_table hd) (okf_is_over hd) (okf_ends_well hd) (okf_goes_well hd) (len_D ?_) (rd_D ?_)
  · rintro ds d ⟨W, a, b, c, T, rfl, _⟩; rfl
  rintro ds d ⟨W, a, b, c, T, rfl, rfl, hW, hT, ha0, ha1, hb0, hb1⟩ E H k
  have hl := hT.len
  obtain ⟨n, n0, hn⟩ := hT.zero
  refine dn_seq (dn_ifF (dt_orF (dt_notF (dt_B (de_call (da_cons (de_var rfl) da_nil) ⟨T, rfl, rfl, hl, hT.srt⟩))) (dt_notF (dt_B (DE.is (de_allM T (fun _ => true) (lc_M T encP (js := [6]) (di_tup (de_var rfl)) (fun x => dg_name) (by simp) (by omega) fun p hp => ?_)) (by simp))))) (dn_next (dn_seq ?_)))
  · obtain ⟨h1, h2⟩ := hT.held p hp
    have l1 := h1.len hW
    have l2 := h2.len hW
    exact de_call (da_cons (de_var rfl) (da_cons (de_cat (de_ixTN (k := 0) (d := .str p.1) (de_var rfl) de_int rfl) (de_ixTN (k := 1) (d := .str p.2.1) (de_var rfl) de_int rfl) (small_line (by omega))) da_nil)) ⟨W, _, rfl, rfl, hW, (h1.over hW).append (h2.over hW), by show (p.1 ++ p.2.1).length ≤ 50000; rw [List.length_append]; omega⟩
  refine dn_asgDcT (de_var rfl) (by simp) hl hT.nd (fun p hp H' => de_tup (da_cons (de_var rfl) (da_cons (de_var rfl) da_nil)) (by simp)) (fun p hp H' => de_var rfl) fun ta H1 na x1 l1 => ?_
  refine dn_seq (dn_ifF (dt_test (DE.is (de_cmpI (g := fun i j => decide (i < j)) (de_dget2T (q := ([], [])) (c := n) (de_var rfl) l1 (de_tup (da_cons de_empty (da_cons de_empty da_nil)) (by simp)) (de_neg de_int) ((getP_tab hT.nd).mpr hn)) de_int) ?_)) (dn_next (dn_ret (DE.is (de_allM T (fun _ => true) (lc_M T encP (js := [6]) (di_tup (de_var rfl)) (fun x => dg_name) (by simp) (by omega) fun p hp => ?_)) (by simp)) (k.ex x1))))
  · congr 1
    exact decide_eq_false (by omega)
  · obtain ⟨h1, h2⟩ := hT.held p hp
    refine DE.is (de_andV (de_call (da_cons (de_var rfl) (da_cons (de_var rfl) (da_cons (de_var rfl) (da_cons (de_var rfl) da_nil)))) ⟨W, b, c, p, rfl, rfl, hW, h1, hb0, hb1, hT.fin p hp⟩) fun _ => de_callG (d := .bl true) (da_cons (de_var rfl) (da_cons (de_var rfl) (da_cons (de_var rfl) (da_cons (de_var rfl) (da_cons (de_var rfl) da_nil))))) fun H2 x2 Q q => ⟨W, a, b, ta, p, tabM T, rfl, hW, h1, h2, ha0, ha1, hb0, hb1, l1.ex x2, fun x hx s hs => ?_, fun v H' y r => q v H' y r⟩) rfl
    obtain ⟨m, m1, m2⟩ := hT.goes p hp x hx s hs
    exact ⟨m, (getP_tab hT.nd).mpr m1, m2⟩
/-! is_row -/
def R_is_row : List D → D → Prop := fun ds d => ∃ W r, ds = [encW W, encR r] ∧ d = .bl true ∧ Wd W ∧ (∀ u ∈ r, u ∈ names W) ∧ r.length ≤ 1000
theorem okf_is_row (hd : Hd K mg) : OkA P w K mg base 3 (He.ga K "is_row") ["words", "value"] (spD R_is_row) := by
  refine ok_is_row hd (okf_has_word hd) (len_D ?_) (rd_D ?_)
  · rintro ds d ⟨W, s, rfl, _⟩; rfl
  rintro ds d ⟨W, r, rfl, rfl, hW, hr, hl⟩ E H k
  have h8 := hW.len
  refine dn_ret (DE.is (de_andV (de_isT (de_var rfl) rfl (by rfl)) fun _ => de_allM r (fun u => decide (u ∈ names W)) (lc_M r D.str (js := [2]) (di_tup (de_var rfl)) (fun x => dg_name) (by simp) (by omega) fun u hu => DE.is (de_andV (de_isT (d := .str u) (de_var rfl) rfl (by rfl)) fun _ => de_call (da_cons (de_var rfl) (da_cons (de_var rfl) da_nil)) ⟨W, u, rfl, rfl, by omega⟩) (by rw [Bool.true_and]))) ?_) k
  congr 1
  rw [Bool.true_and]
  exact List.all_eq_true.mpr fun u hu => decide_eq_true (hr u hu)
/-! is_long_text -/
def R_is_long_text : List D → D → Prop := fun ds d => ∃ W t, ds = [encW W, .str t] ∧ d = .bl true ∧ Wd W ∧ Over W t ∧ t.length ≤ 1000
theorem okf_is_long_text (hd : Hd K mg) : OkA P w K mg base 2 (He.ga K "is_long_text") ["words", "value"] (spD R_is_long_text) := by
  refine ok_is_long_text hd (okf_letters_in hd) (len_D ?_) (rd_D ?_)
  · rintro ds d ⟨W, s, rfl, _⟩; rfl
  rintro ds d ⟨W, t, rfl, rfl, hW, ho, ht⟩ E H k
  exact dn_ret (DE.is (de_andV (de_isT (d := .str t) (de_var rfl) rfl (by rfl)) fun _ => de_allM t (fun c => decide (c ∈ letters W)) (lc_M t (fun c => D.str [c]) (js := [2]) (di_str (de_var rfl)) (fun x => dg_name) (by simp) (by omega) fun c hc => de_inS (de_var rfl) (de_call (da_cons (de_var rfl) da_nil) ⟨W, rfl, rfl, hW⟩))) (by rw [all_over ho]; rfl)) k
/-! read_all -/
theorem readAll_take {W : WL} {held t : Tx} {i x : Nat} (h : t[i]? = some x) : readAll W held (t.take (i + 1)) = ((readAll W held (t.take i)).1 + costRow W (readOn W (readAll W held (t.take i)).2 x).1, (readOn W (readAll W held (t.take i)).2 x).2) := by
  rw [List.take_succ, h, Option.toList_some, readAll_append]
  show (_ + (costRow W (readOn W _ x).1 + 0), _) = _
  rw [Int.add_zero]
  rfl
def R_read_all : List D → D → Prop := fun ds d => ∃ W held t, ds = [encW W, .str held, .str t] ∧ d = .tup [.int (readAll W held t).1, .str (readAll W held t).2] ∧ Wd W ∧ Held W held ∧ Over W t ∧ t.length ≤ 1000
theorem okf_read_all (hd : Hd K mg) : OkA P w K mg base 5 (He.ga K "read_all") ["words", "held", "text"] (spD R_read_all) := by
  refine ok_read_all hd (okf_read_on hd) (okf_cost_of_row hd) (len_D ?_) (rd_D ?_)
  · rintro ds d ⟨W, s, t, rfl, _⟩; rfl
  rintro ds d ⟨W, held, t, rfl, rfl, hW, hh, ho, ht⟩ E H k
  refine dn_seq (dn_asg de_int (dn_seq ?_))
  refine dn_forP (τ := Int × Tx) t (fun c => D.str [c]) (fun x => dg_name) (fun i s => s = readAll W held (t.take i)) (fun s => [some (encW W), some (.str s.2), some (.str t), some (.int s.1), none, none]) (0, held) (di_str (de_var rfl)) rfl (wk_same (wk_same (wk_same (wk_same (wk_none (wk_none wk_nil)))))) ?_ ?_
  · rintro Hh x1 i x s hx rfl
    have ox : x ∈ letters W := ho x (List.mem_of_getElem? hx)
    have hs := hW.readAll_held (t.take i) held hh (ho.take i)
    have R := hW.isRead (hs.over hW) ox
    have l3 := hs.len hW
    have rl : (readOn W (readAll W held (t.take i)).2 x).1.length ≤ 100000 := by
      have q1 := flat_len hW R.nm
      have q2 := congrArg List.length R.flat
      rw [List.length_append, List.length_append, List.length_singleton] at q2
      omega
    refine dn_seq (dn_asgT (de_call (da_cons (de_var rfl) (da_cons (de_var rfl) (da_cons (de_var rfl) da_nil))) ⟨W, _, x, rfl, rfl, hW, hs.over hW, by omega, ox⟩) (dg_tup (dgs_cons (dgs_cons dgs_nil)) rfl) (dn_asg (de_add (de_var rfl) (de_call (da_cons (de_var rfl) (da_cons (de_var rfl) da_nil)) ⟨W, _, rfl, rfl, hW, R.nm, rl⟩)) ?_))
    exact dn_turnP (P := fun s => s = readAll W held (t.take (i + 1))) (env := fun s => [some (encW W), some (.str s.2), some (.str t), some (.int s.1), none, none]) (_, _) (readAll_take hx).symm (wk_same (wk_same (wk_same (wk_same (wk_none (wk_none wk_nil)))))) (Ex.refl _)
  · rintro s rfl
    rw [List.take_length]
    dsimp only
    exact dn_ret (de_tup (da_cons (de_var rfl) (da_cons (de_var rfl) da_nil)) (by simp)) k
/-! sums_of -/
def R_sums_of : List D → D → Prop := fun ds d => ∃ W, ∃ a b : Int, ∃ bf cy tl r, ds = [encW W, encTell bf cy tl r] ∧ d = .tup [.int (readAll W (readAll W [] bf).2 cy).1, .int (costRow W r)] ∧ Wd W ∧ TellOk W a b bf cy tl r
theorem okf_sums_of (hd : Hd K mg) : OkA P w K mg base 6 (He.ga K "sums_of") ["words", "value"] (spD R_sums_of) := by
  refine ok_sums_of hd (okf_is_long_text hd) (okf_is_row hd) (okf_read_all hd) (okf_cost_of_row hd) (len_D ?_) (rd_D ?_)
  · rintro ds d ⟨W, a, b, bf, cy, tl, r, rfl, _⟩; rfl
  rintro ds d ⟨W, a, b, bf, cy, tl, r, rfl, rfl, hW, hT⟩ E H k
  have z1 := hT.szb
  have z2 := hT.szc
  have z3 := hT.szt
  have z4 := hT.rl
  obtain ⟨s1, s2⟩ := hT.suf
  have hh := hW.readAll_held bf [] (.inl rfl) hT.obf
  have hc := hW.readAll_held cy _ hh hT.ocy
  have fl : r.flatten.length ≤ 100000 := by
    have q := congrArg List.length hT.eq
    rw [List.length_append, List.length_append] at q
    omega
  refine dn_seq (dn_ifF (dt_orF (dt_notF (dt_B (de_isT (de_var rfl) rfl (by rfl)))) (dt_orF (dt_test (DE.is (de_neI (de_lenT (de_var rfl)) de_int) rfl)) (dt_notF (dt_B (DE.is (de_allM [bf, cy, tl] (fun _ => true) (lc_M [bf, cy, tl] D.str (js := [9]) (di_tup (DE.is (de_slT (de_var rfl) do_none (do_some (de_nat 3 rfl)) (show ¬(HT.sIx 4 0 none = 0 ∧ HT.sIx 4 4 (some (3 : Int)) = 4) by decide)) (by rw [cut_to]; rfl))) (fun x => dg_name) (by simp) (by simp) fun t ht => ?_)) rfl))))) (dn_next (dn_seq (dn_asgT (de_var rfl) (dg_tup (dgs_cons (dgs_cons (dgs_cons (dgs_cons dgs_nil)))) rfl) (dn_seq ?_)))))
  · refine de_call (da_cons (de_var rfl) (da_cons (de_var rfl) da_nil)) ⟨W, t, rfl, rfl, hW, ?_, ?_⟩
    · rcases List.mem_cons.mp ht with e | ht
      · rw [e]; exact hT.obf
      rcases List.mem_cons.mp ht with e | ht
      · rw [e]; exact hT.ocy
      rw [List.mem_singleton.mp ht]; exact hT.otl
    · rcases List.mem_cons.mp ht with e | ht
      · rw [e]; exact z1
      rcases List.mem_cons.mp ht with e | ht
      · rw [e]; exact z2
      rw [List.mem_singleton.mp ht]; exact z3
  refine dn_ifF (dt_orF (dt_test (DE.is (de_eqT (de_var rfl) de_empty) (by rw [decide_eq_false hT.ne]))) (dt_notF (dt_B (de_call (da_cons (de_var rfl) (da_cons (de_var rfl) da_nil)) ⟨W, r, rfl, rfl, hW, hT.row, z4⟩)))) (dn_next (dn_seq ?_))
  refine dn_ifF (dt_orF (dt_test (DE.is (de_neT (de_slS (de_var rfl) (do_some (DE.is (de_max2 de_int (de_sub (de_lenS (de_var rfl) (by omega)) (de_lenS (de_var rfl) (by omega)))) (show _ = D.int ((bf.length - tl.length : Nat) : Int) from ?_))) do_none (by omega)) (de_var rfl)) (by rw [cut_from, s2]; simp))) (dt_test (DE.is (de_neT (de_cat (de_var rfl) (de_var rfl) (small_line (by omega))) (de_cat (de_joinT empty_is (de_var rfl) fl) (de_var rfl) (small_line (by
    have q := congrArg List.length hT.eq
    rw [List.length_append, List.length_append] at q
    omega)))) (by rw [hT.eq]; simp)))) (dn_next (dn_seq ?_))
  · congr 1
    split <;> omega
  refine dn_asg (de_ixTN (k := 1) (de_call (da_cons (de_var rfl) (da_cons de_empty (da_cons (de_var rfl) da_nil))) ⟨W, [], bf, rfl, rfl, hW, .inl rfl, hT.obf, z1⟩) de_int rfl) (dn_seq ?_)
  refine dn_asgT (de_call (da_cons (de_var rfl) (da_cons (de_var rfl) (da_cons (de_var rfl) da_nil))) ⟨W, _, cy, rfl, rfl, hW, hh, hT.ocy, z2⟩) (dg_tup (dgs_cons (dgs_cons dgs_nil)) rfl) ?_
  refine dn_ret (de_ifE (a := true) (dt_test (DE.is (de_eqT (de_var rfl) (de_var rfl)) (by rw [hT.back]; simp))) (fun _ => de_tup (da_cons (de_var rfl) (da_cons (de_call (da_cons (de_var rfl) (da_cons (de_var rfl) da_nil)) ⟨W, r, rfl, rfl, hW, hT.row, by omega⟩) da_nil)) (by simp)) fun q => by cases q) k
/-! lowest -/
def R_lowest : List D → D → Prop := fun ds d => ∃ n m : Int, ds = [.int n, .int m] ∧ d = .tup [.int (n / (Nat.gcd n.natAbs m.natAbs : Nat)), .int (m / (Nat.gcd n.natAbs m.natAbs : Nat))] ∧ 1 ≤ Nat.gcd n.natAbs m.natAbs ∧ Nat.gcd n.natAbs m.natAbs ≤ 2000
theorem okf_lowest (hd : Hd K mg) : OkA P w K mg base 1 (He.ga K "lowest") ["n", "d"] (spD R_lowest) := by
  refine ok_lowest hd (len_D ?_) (rd_D ?_)
  · rintro ds d ⟨W, s, rfl, _⟩; rfl
  rintro ds d ⟨n, m, rfl, rfl, h1, h2⟩ E H k
  exact dn_seq (dn_asg (de_gcd (de_var rfl) (de_var rfl)) (dn_ret (de_tup (da_cons (de_fdiv (de_var rfl) (de_var rfl) ⟨by omega, by omega⟩) (da_cons (de_fdiv (de_var rfl) (de_var rfl) ⟨by omega, by omega⟩) da_nil)) (by simp)) k))
/-! is_ratio -/
def R_is_ratio : List D → D → Prop := fun ds d => ∃ a b : Int, ds = [encRat a b] ∧ d = .bl true ∧ RatioOk a b
theorem okf_is_ratio (hd : Hd K mg) : OkA P w K mg base 2 (He.ga K "is_ratio") ["value"] (spD R_is_ratio) := by
  refine ok_is_ratio hd (okf_is_integer hd) (len_D ?_) (rd_D ?_)
  · rintro ds d ⟨W, s, rfl, _⟩; rfl
  rintro ds d ⟨a, b, rfl, rfl, h⟩ E H k
  have h1 := h.b1
  have h2 := h.ab
  refine dn_seq (dn_ifF (dt_orF (dt_notF (dt_B (de_isT (de_var rfl) rfl (by rfl)))) (dt_orF (dt_test (DE.is (de_neI (de_lenT (de_var rfl)) de_int) rfl)) (dt_orF (dt_notF (dt_B (de_call (da_cons (de_ixTN (k := 0) (de_var rfl) de_int rfl) da_nil) ⟨a, rfl, rfl⟩))) (dt_notF (dt_B (de_call (da_cons (de_ixTN (k := 1) (de_var rfl) de_int rfl) da_nil) ⟨b, rfl, rfl⟩)))))) (dn_next (dn_ret (DE.is (de_andV (de_cmpI (g := fun i j => decide (j ≤ i)) (de_ixTN (k := 0) (d := .int a) (de_var rfl) de_int rfl) de_int) fun _ => de_andV (de_cmpI (g := fun i j => decide (j ≤ i)) (de_ixTN (k := 1) (d := .int b) (de_var rfl) de_int rfl) de_int) fun _ => de_eqI (de_gcd (de_ixTN (k := 0) (d := .int a) (de_var rfl) de_int rfl) (de_ixTN (k := 1) (d := .int b) (de_var rfl) de_int rfl)) de_int) ?_) k)))
  rw [h.gcd]
  simp
  omega
/-! is_shown -/
def R_is_shown : List D → D → Prop := fun ds d => ∃ W, ∃ a b c : Int, ∃ t r, ds = [encW W, encShow t r, encRat a b, .int c] ∧ d = .bl true ∧ Wd W ∧ RatioOk a b ∧ ShowOk W a b c t r
theorem okf_is_shown (hd : Hd K mg) : OkA P w K mg base 5 (He.ga K "is_shown") ["words", "value", "ratio", "excess"] (spD R_is_shown) := by
  refine ok_is_shown hd (okf_is_long_text hd) (okf_is_row hd) (okf_cost_of_row hd) (okf_match_of hd) (len_D ?_) (rd_D ?_)
  · rintro ds d ⟨W, a, b, c, t, r, rfl, _⟩; rfl
  rintro ds d ⟨W, a, b, c, t, r, rfl, rfl, hW, hR, hS⟩ E H k
  have h1 := hR.b1
  have h2 := hR.bM
  have h3 := hR.ab
  have h4 := hR.aM
  have z1 := hS.sz
  have z2 := hS.rl
  obtain ⟨m1, m2⟩ := match_row hW hS.ov
  refine dn_seq (dn_ifF (dt_orF (dt_notF (dt_B (de_isT (de_var rfl) rfl (by rfl)))) (dt_test (DE.is (de_neI (de_lenT (de_var rfl)) de_int) rfl))) (dn_next (dn_seq (dn_asgT (de_var rfl) (dg_tup (dgs_cons (dgs_cons dgs_nil)) rfl) (dn_seq ?_)))))
  refine dn_ifF (dt_orF (dt_notF (dt_B (de_call (da_cons (de_var rfl) (da_cons (de_var rfl) da_nil)) ⟨W, t, rfl, rfl, hW, hS.ov, z1⟩))) (dt_orF (dt_notF (dt_B (de_call (da_cons (de_var rfl) (da_cons (de_var rfl) da_nil)) ⟨W, r, rfl, rfl, hW, hS.row, z2⟩))) (dt_test (DE.is (de_neT (de_joinT empty_is (de_var rfl) (by rw [hS.flat]; omega)) (de_var rfl)) (by rw [hS.flat]; simp))))) (dn_next (dn_seq ?_))
  refine dn_asg (de_call (da_cons (de_var rfl) (da_cons (de_var rfl) da_nil)) ⟨W, r, rfl, rfl, hW, hS.row, by omega⟩) (dn_ret (DE.is (de_eqI (de_sub (de_mul (de_ixTN (k := 1) (d := .int b) (de_var rfl) de_int rfl) (de_call (da_cons (de_var rfl) (da_cons (de_call (da_cons (de_var rfl) (da_cons (de_var rfl) da_nil)) ⟨W, t, rfl, rfl, hW, hS.ov, by show t.length ≤ 50000; omega⟩) da_nil)) ⟨W, _, rfl, rfl, hW, m1, by omega⟩) (cmul_l (by omega) (by omega))) (de_mul (de_ixTN (k := 0) (d := .int a) (de_var rfl) de_int rfl) (de_var rfl) (cmul_l (by omega) (by omega)))) (de_var rfl)) ?_) k)
  rw [hS.val]
  simp
/-! accepts_answer -/
def R_accepts_answer : List D → D → Prop := fun ds d => ∃ W A, ds = [encW W, encAns A] ∧ d = .bl true ∧ Wd W ∧ AnsOk W A
theorem okf_accepts_answer (hd : Hd K mg) : OkA P w K mg base 8 (He.ga K "accepts_answer") ["words", "value"] (spD R_accepts_answer) := by
  refine ok_accepts_answer hd (okf_check_words hd) (okf_is_ratio hd) (okf_is_integer hd) (okf_is_shown hd) (okf_sums_of hd) (okf_fit hd) (len_D ?_) (rd_D ?_)
  · rintro ds d ⟨W, A, rfl, _⟩; rfl
  rintro ds d ⟨W, A, rfl, rfl, hW, hA⟩ E H k
  have h1 := hA.rat.b1
  have h2 := hA.rat.bM
  have h3 := hA.rat.ab
  have h4 := hA.rat.aM
  refine dn_seq (dn_drop (de_call (da_cons (de_var rfl) da_nil) ⟨W, rfl, rfl, hW⟩) (dn_seq (dn_ifF (dt_orF (dt_notF (dt_B (de_isT (de_var rfl) rfl (by rfl)))) (dt_test (DE.is (de_neI (de_lenT (de_var rfl)) de_int) rfl))) (dn_next (dn_seq (dn_asgT (de_var rfl) (dg_tup (dgs_cons (dgs_cons (dgs_cons (dgs_cons (dgs_cons dgs_nil))))) rfl) (dn_seq ?_)))))))
  refine dn_ifF (dt_orF (dt_notF (dt_B (de_call (da_cons (de_var rfl) da_nil) ⟨A.a, A.b, rfl, rfl, hA.rat⟩))) (dt_orF (dt_notF (dt_B (de_call (da_cons (de_var rfl) da_nil) ⟨A.c, rfl, rfl⟩))) (dt_notF (dt_B (de_call (da_cons (de_var rfl) (da_cons (de_var rfl) (da_cons (de_var rfl) (da_cons (de_var rfl) da_nil)))) ⟨W, A.a, A.b, A.c, A.t, A.r2, rfl, rfl, hW, hA.rat, hA.sh⟩))))) (dn_next (dn_seq ?_))
  refine dn_asg (de_call (da_cons (de_var rfl) (da_cons (de_var rfl) da_nil)) ⟨W, A.a, A.b, A.bf, A.cy, A.tl, A.r, rfl, rfl, hW, hA.tell⟩) (dn_seq ?_)
  refine dn_ifF (dt_orF (dt_test (DE.is (de_isN (de_var rfl)) rfl)) (dt_test (DE.is (de_neI (de_mul (de_ixTN (k := 0) (d := .int _) (de_var rfl) de_int rfl) (de_ixTN (k := 1) (d := .int A.b) (de_var rfl) de_int rfl) (cmul_r (by omega) (by omega))) (de_mul (de_ixTN (k := 1) (d := .int (costRow W A.r)) (de_var rfl) de_int rfl) (de_ixTN (k := 0) (d := .int A.a) (de_var rfl) de_int rfl) (cmul_r (by omega) (by omega)))) ?_))) (dn_next (dn_ret (de_call (da_cons (de_var rfl) (da_cons (de_ixTN (k := 0) (d := .int A.a) (de_var rfl) de_int rfl) (da_cons (de_ixTN (k := 1) (d := .int A.b) (de_var rfl) de_int rfl) (da_cons (de_var rfl) (da_cons (de_var rfl) da_nil))))) ⟨W, A.a, A.b, A.c, A.T, rfl, rfl, hW, hA.tab, by omega, by omega, by omega, by omega⟩) k))
  rw [hA.tell.ratio]
  simp
end
end GC

-- part RD6
set_option Elab.async false
set_option linter.all false
set_option maxRecDepth 100000
set_option maxHeartbeats 4000000
namespace GC
open PySem PySem.Spec PyProof.Rows L2
section
variable {P : Program} {w : World} {K : PySem.W.Frag} {mg : Str → Option Value} {base : Heap}
theorem one_M {Hb H : Hp} {a : Addr} {ds : List D} (na : Hb a = none) (l : LstAt H a ds) : ∀ m ∈ [a], Hb m = none ∧ ∃ o, H m = some o ∧ ∀ vs, o ≠ .tup vs := fun m hm => by
  rw [List.mem_singleton.mp hm]
  obtain ⟨vs, h, _⟩ := l
  exact ⟨na, _, h, fun us z => by cases z⟩
theorem one_O {Hb H : Hp} {a : Addr} {o : HO} (na : Hb a = none) (l : H a = some o) (n : ∀ vs, o ≠ .tup vs) : ∀ m ∈ [a], Hb m = none ∧ ∃ o, H m = some o ∧ ∀ vs, o ≠ .tup vs := fun m hm => by
  rw [List.mem_singleton.mp hm]
  exact ⟨na, o, l, n⟩
/-! _law_is_integer -/
theorem okf_law_is_integer (hd : Hd K mg) : OkA P w K mg base 1 (He.ga K "_law_is_integer") ["_law_actual"] (spD R_is_integer) := by
  refine ok__law_is_integer hd (len_D ?_) (rd_D ?_)
  · rintro ds d ⟨s, rfl, _⟩; rfl
  rintro ds d ⟨n, rfl, rfl⟩ E H k
  exact dn_ret (DE.is (de_andV (de_isT (de_var rfl) rfl (by rfl)) fun _ => de_notV (de_isF (n := "int") (de_var rfl) rfl (by rfl))) rfl) k
/-! _law_letters -/
theorem letters_list (W : WL) (hW : Wd W) : ((W.filter fun p => decide (p.1.length = 1)).map fun p => D.str p.1) = (letters W).map fun x => D.str [x] := by
  unfold letters
  have e : ∀ l : List (Tx × Int), ((l.filter fun p => decide (p.1.length = 1)).map fun p => D.str p.1) = (((l.filter fun p => decide (p.1.length = 1)).map (·.1)).flatten).map fun x => D.str [x] := by
    intro l
    induction l with
    | nil => rfl
    | cons p l ih =>
      rw [List.filter_cons]
      split
      · rename_i h
        obtain ⟨y, hy⟩ := List.length_eq_one_iff.mp (of_decide_eq_true h)
        rw [List.map_cons, List.map_cons, List.flatten_cons, List.map_append, ih, hy]
        rfl
      · exact ih
  exact e W
def R_law_letters : List D → List D → Prop := fun ds es => ∃ W, ds = [encW W] ∧ es = (letters W).map (fun x => D.str [x]) ∧ Wd W
theorem okf_law_letters (hd : Hd K mg) : OkA P w K mg base 1 (He.ga K "_law_letters") ["_law_words_here"] (spL R_law_letters) := by
  refine ok__law_letters hd (len_L ?_) (rd_L ?_)
  · rintro ds d ⟨s, rfl, _⟩; rfl
  rintro ds d ⟨W, rfl, rfl, hW⟩ E H k
  have hl := hW.len
  exact dn_retL (DLn.is (lc_D W encE (p := fun p => decide (p.1.length = 1)) (f := fun p => D.str p.1) (js := [1, 2]) (tgt := fun p => [.str p.1, .int p.2]) (di_tup (de_var rfl)) (fun x => dg_tup (dgs_cons (dgs_cons dgs_nil)) rfl) (by simp) (by omega)
    (fun p hp => dt_test (DE.is (de_eqI (de_lenS (de_var rfl) (by have := (hW.ent p hp).1; omega)) (de_nat 1 rfl)) (by rw [nat_eq_dec]))) fun p hp _ => de_var rfl) (letters_list W hW)) k
/-! _law_match -/
structure Bst (W : WL) (i : Nat) (t b : Tx) : Prop where
  is : b = [] ∨ (b ∈ names W ∧ b = t.take b.length)
  top : ∀ u ∈ names (W.take i), u = t.take u.length → u.length ≤ b.length
theorem Bst.start (W : WL) (t : Tx) : Bst W 0 t [] := ⟨.inl rfl, fun u hu => by cases hu⟩
theorem names_take {W : WL} {i : Nat} {p : Tx × Int} (h : W[i]? = some p) : names (W.take (i + 1)) = names (W.take i) ++ [p.1] := by
  unfold names
  rw [List.take_succ, h, Option.toList_some, List.map_append]
  rfl
theorem Bst.next {W : WL} {i : Nat} {t b : Tx} {p : Tx × Int} (B : Bst W i t b) (h : W[i]? = some p) : Bst W (i + 1) t (if b.length < p.1.length ∧ t.take p.1.length = p.1 then p.1 else b) := by
  have hp : p.1 ∈ names W := List.mem_map_of_mem (List.mem_of_getElem? h)
  by_cases c : b.length < p.1.length ∧ t.take p.1.length = p.1
  · rw [if_pos c]
    refine ⟨.inr ⟨hp, c.2.symm⟩, fun u hu e => ?_⟩
    rw [names_take h] at hu
    rcases List.mem_append.mp hu with hu | hu
    · have := B.top u hu e
      omega
    · rw [List.mem_singleton.mp hu]
      exact Nat.le_refl _
  · rw [if_neg c]
    refine ⟨B.is, fun u hu e => ?_⟩
    rw [names_take h] at hu
    rcases List.mem_append.mp hu with hu | hu
    · exact B.top u hu e
    · rw [List.mem_singleton.mp hu] at e ⊢
      by_cases q : b.length < p.1.length
      · exact absurd ⟨q, e.symm⟩ c
      · omega
theorem Bst.done {W : WL} (hW : Wd W) {t b : Tx} (B : Bst W W.length t b) (ho : Over W t) (hn : t ≠ []) : b = lon W t := by
  have L := hW.isLon ho hn
  have s := hW.size L.nm
  have top := B.top
  rw [List.take_length] at top
  rcases B.is with e | ⟨e1, e2⟩
  · have := top _ L.nm L.pre
    rw [e] at this
    simp at this
    rw [this] at s
    simp at s
  · exact Lon.uniq ⟨e1, e2, top⟩ L
def R_law_match : List D → D → Prop := fun ds d => ∃ W t, ds = [encW W, .str t] ∧ d = encR (matchOf W t) ∧ Wd W ∧ Over W t ∧ t.length ≤ 1000
def PM (W : WL) (t : Tx) (i : Nat) (s : List Tx × Nat) : Prop := s.2 ≤ t.length ∧ (i ≤ s.2 ∨ s.2 = t.length) ∧ s.1 ++ matchOf W (t.drop s.2) = matchOf W t ∧ s.1.length ≤ s.2
def EM (W : WL) (t : Tx) (a : Addr) (s : List Tx × Nat) : List (Option D) := [some (encW W), some (.str t), some (.adr a), some (.int (s.2 : Nat)), none, none, none, none]
theorem okf_law_match (hd : Hd K mg) : OkA P w K mg base 1 (He.ga K "_law_match") ["_law_words_here", "_law_text_here"] (spD R_law_match) := by
  refine ok__law_match hd (len_D ?_) (rd_D ?_)
  · rintro ds d ⟨W, s, rfl, _⟩; rfl
  rintro ds d ⟨W, t, rfl, rfl, hW, ho, ht⟩ E H k
  have hl := hW.len
  refine dn_seq (dn_asgL (dl_lst da_nil (by simp)) fun a H1 na x1 l1 => dn_seq (dn_asg de_int (dn_seq ?_)))
  refine dn_forG (Hb := H) (τ := List Tx × Nat) [a] (List.range t.length) (fun k => D.int (k : Nat)) (fun x => dg_name) (PM W t) (EM W t a) (fun s H' => LstAt H' a (s.1.map D.str)) ([], 0) (di_rngN (de_lenS (de_var rfl) (by omega)) (by omega)) x1 (one_M na l1) (fun s H3 H4 l x => l.ex x) ⟨by simp, .inl (by simp), by simp, by simp⟩ (Wk.refl _) l1 ?_ ?_
  · rintro Hh xh hM i y s hy ⟨p1, p2, p3, p4⟩ H3 x3 l3
    have hi : i < t.length := by
      have := (List.getElem?_eq_some_iff.mp hy).1
      rwa [List.length_range] at this
    have na' := hM a (by simp)
    refine dn_if (dt_test (DE.is (de_cmpI (g := fun i j => decide (i < j)) (de_var rfl) (de_lenS (de_var rfl) (by omega))) (by rw [nat_lt_dec]))) (fun hb => ?_) (fun hb => ?_)
    · have hn : s.2 < t.length := of_decide_eq_true hb
      have ne : t.drop s.2 ≠ [] := fun e => by
        have q := congrArg List.length e
        rw [List.length_drop] at q
        simp at q
        omega
      have L := hW.isLon (ho.drop s.2) ne
      have sz := hW.size L.nm
      have le := L.le
      rw [List.length_drop] at le
      refine dn_seq (dn_asg de_empty (dn_seq ?_))
      refine dn_forP (τ := Tx) W encE (tgt := fun p => [.str p.1, .int p.2]) (fun p => dg_tup (dgs_cons (dgs_cons dgs_nil)) rfl) (fun j b => Bst W j (t.drop s.2) b) (fun b => [some (encW W), some (.str t), some (.adr a), some (.int (s.2 : Nat)), none, some (.str b), none, none]) [] (di_tup (de_var rfl)) (Bst.start _ _) (wk_same (wk_same (wk_same (wk_same (wk_none (wk_same (wk_none (wk_none wk_nil)))))))) ?_ ?_
      · intro Hi xi j p b hp B
        have hb4 : b.length ≤ 4 := by
          rcases B.is with e | e
          · rw [e]; simp
          · exact (hW.size e.1).2
        have hp4 := (hW.ent p (List.mem_of_getElem? hp)).1
        have N := B.next hp
        refine dn_if (dt_and (b := decide ((t.drop s.2).take p.1.length = p.1)) (dt_test (DE.is (de_cmpI (g := fun i j => decide (j < i)) (de_lenS (de_var rfl) (by omega)) (de_lenS (de_var rfl) (by omega))) (by rw [nat_lt_dec]))) fun _ => dt_test (DE.is (de_eqT (de_slS (de_var rfl) (do_some (de_var rfl)) (do_some (de_addN (de_var rfl) (de_lenS (de_var rfl) (by omega)))) (by omega)) (de_var rfl)) (by rw [cut_mid _ _ _ p1, Nat.add_sub_cancel_left]))) (fun hb => ?_) (fun hb => ?_)
        · rw [Bool.and_eq_true, decide_eq_true_eq, decide_eq_true_eq] at hb
          rw [if_pos hb] at N
          exact dn_asg (de_var rfl) (dn_turnP (P := fun b => Bst W (j + 1) (t.drop s.2) b) (env := fun b => [some (encW W), some (.str t), some (.adr a), some (.int (s.2 : Nat)), none, some (.str b), none, none]) _ N (wk_same (wk_same (wk_same (wk_same (wk_none (wk_same (wk_none (wk_none wk_nil)))))))) (Ex.refl _))
        · rw [Bool.and_eq_false_iff, decide_eq_false_iff_not, decide_eq_false_iff_not] at hb
          rw [if_neg (fun z => hb.elim (fun q => q z.1) fun q => q z.2)] at N
          exact dn_next (dn_turnP (P := fun b => Bst W (j + 1) (t.drop s.2) b) (env := fun b => [some (encW W), some (.str t), some (.adr a), some (.int (s.2 : Nat)), none, some (.str b), none, none]) _ N (wk_same (wk_same (wk_same (wk_same (wk_none (wk_same (wk_none (wk_none wk_nil)))))))) (Ex.refl _))
      · intro b B
        have e := B.done hW (ho.drop s.2) ne
        subst e
        dsimp only
        refine dn_seq (dn_app (de_var rfl) l3 (de_var rfl) (by rw [List.length_map]; omega) fun H4 xb l4 => dn_asg (de_addN (de_var rfl) (de_lenS (de_var rfl) (by omega))) ?_)
        refine dn_turn (P := PM W t (i + 1)) (env := EM W t a) (G := fun s H' => LstAt H' a (s.1.map D.str)) (s.1 ++ [lon W (t.drop s.2)], s.2 + (lon W (t.drop s.2)).length) ⟨by show s.2 + _ ≤ _; omega, ?_, ?_, ?_⟩ (wk_same (wk_same (wk_same (wk_same (wk_none (wk_none (wk_none (wk_none wk_nil)))))))) (x3.mut na' xb) ?_ (fun s H3 H4 l x => l.ex x)
        · show i + 1 ≤ s.2 + _ ∨ s.2 + _ = _
          rcases p2 with q | q
          · left; omega
          · omega
        · show (s.1 ++ [lon W (t.drop s.2)]) ++ matchOf W (t.drop (s.2 + (lon W (t.drop s.2)).length)) = matchOf W t
          rw [← p3, hW.match_cons (ho.drop s.2) ne, List.drop_drop, List.append_assoc]
          rfl
        · show (s.1 ++ [_]).length ≤ s.2 + _
          rw [List.length_append]
          simp
          omega
        · show LstAt H4 a ((s.1 ++ [lon W (t.drop s.2)]).map D.str)
          rw [List.map_append]
          exact l4
    · have hn : ¬ s.2 < t.length := of_decide_eq_false hb
      exact dn_next (dn_turn (P := PM W t (i + 1)) (env := EM W t a) (G := fun s H' => LstAt H' a (s.1.map D.str)) s ⟨p1, .inr (by omega), p3, p4⟩ (wk_same (wk_same (wk_same (wk_same (wk_none (wk_none (wk_none (wk_none wk_nil)))))))) x3 l3 (fun s H3 H4 l x => l.ex x))
  · rintro s ⟨p1, p2, p3, p4⟩ H3 x3 l3
    rw [List.length_range] at p2
    have e : s.2 = t.length := by omega
    rw [e, List.drop_length, match_nil, List.append_nil] at p3
    dsimp only
    refine dn_ret (DE.is (de_tupL (dl_adr (de_var rfl) l3)) ?_) (k.ex x3)
    show encR s.1 = _
    rw [p3]
/-! _law_sum -/
theorem getP_W {W : WL} (hW : Wd W) {u : Tx} (hu : u ∈ names W) : getP W u = some (costIn W u) := getP_of hW.nodup (hW.in_ hu)
theorem put_W {W : WL} (hW : Wd W) : W.foldl (fun m p => putP m p.1 p.2) [] = W := by
  have h := putP_all W [] (by rw [List.nil_append]; exact hW.nodup)
  rwa [List.nil_append] at h
theorem okf_law_sum (hd : Hd K mg) : OkA P w K mg base 1 (He.ga K "_law_sum") ["_law_words_here", "_law_row"] (spD R_cost_of_row) := by
  refine ok__law_sum hd (len_D ?_) (rd_D ?_)
  · rintro ds d ⟨W, s, rfl, _⟩; rfl
  rintro ds d ⟨W, r, rfl, rfl, hW, hr, hl⟩ E H k
  have h8 := hW.len
  refine dn_seq (dn_asgK fun a H1 na x1 l1 => dn_seq ?_)
  refine dn_forG (Hb := H) (τ := List (Tx × Int)) [a] W encE (tgt := fun p => [.str p.1, .int p.2]) (fun p => dg_tup (dgs_cons (dgs_cons dgs_nil)) rfl) (fun i m => m = (W.take i).foldl (fun m p => putP m p.1 p.2) [] ∧ m.length ≤ i) (fun _ => [some (encW W), some (encR r), some (.adr a), none, none]) (fun m H' => DkAt H' a m) [] (di_tup (de_var rfl)) x1 (one_O na l1 fun vs z => by cases z) (fun s H3 H4 l x => l.ex x) ⟨rfl, by simp⟩ (Wk.refl _) l1 ?_ ?_
  · rintro Hh xh hM i p m hp ⟨rfl, hm⟩ H3 x3 l3
    have hi := (List.getElem?_eq_some_iff.mp hp).1
    refine dn_dputK (de_var rfl) (de_var rfl) (de_var rfl) l3 (by omega) fun H4 xb l4 => ?_
    refine dn_turn (P := fun m => m = (W.take (i + 1)).foldl (fun m p => putP m p.1 p.2) [] ∧ m.length ≤ i + 1) (env := fun _ => [some (encW W), some (encR r), some (.adr a), none, none]) (G := fun m H' => DkAt H' a m) _ ⟨?_, ?_⟩ (wk_same (wk_same (wk_same (wk_none (wk_none wk_nil))))) (x3.mut (hM a (by simp)) xb) l4 (fun s H3 H4 l x => l.ex x)
    · rw [List.take_succ, hp, Option.toList_some, List.foldl_append]
      rfl
    · have := putP_len ((W.take i).foldl (fun m p => putP m p.1 p.2) []) p.1 p.2
      omega
  · rintro m ⟨rfl, hm⟩ H3 x3 l3
    rw [List.take_length, put_W hW] at l3
    dsimp only
    exact dn_ret (de_sumM r (costIn W) (lc_M r D.str (js := [3]) (di_tup (de_var rfl)) (fun x => dg_name) (by simp) hl fun u hu => de_dgetK (de_var rfl) l3 (de_var rfl) (getP_W hW (hr u hu)))) (k.ex x3)
/-! _law_grows -/
theorem okf_law_grows (hd : Hd K mg) : OkA P w K mg base 1 (He.ga K "_law_grows") ["_law_words_here", "_law_text_here"] (spD R_can_grow) := by
  refine ok__law_grows hd (len_D ?_) (rd_D ?_)
  · rintro ds d ⟨W, s, rfl, _⟩; rfl
  rintro ds d ⟨W, t, rfl, rfl, hW, ht⟩ E H k
  have hl := hW.len
  exact dn_ret (de_anyM W _ (lc_M W encE (f := fun p => .bl (decide (t.length < p.1.length) && decide (p.1.take t.length = t))) (js := [2, 3]) (tgt := fun p => [.str p.1, .int p.2]) (di_tup (de_var rfl)) (fun x => dg_tup (dgs_cons (dgs_cons dgs_nil)) rfl) (by simp) (by omega) fun p hp =>
    DE.is (de_andV (de_cmpI (g := fun i j => decide (j < i)) (de_lenS (de_var rfl) (by have := (hW.ent p hp).1; omega)) (de_lenS (de_var rfl) (by omega))) fun _ => de_eqT (de_slS (de_var rfl) do_none (do_some (de_lenS (de_var rfl) (by omega))) (by have := (hW.ent p hp).1; omega)) (de_var rfl)) (by rw [nat_lt_dec, cut_to]))) k
/-! _law_read -/
def R_law_read : List D → D → Prop := fun ds d => ∃ W held x, ds = [encW W, .str held, .str [x]] ∧ d = .tup [.int (costRow W (readOn W held x).1), .str (readOn W held x).2] ∧ Wd W ∧ Over W held ∧ held.length ≤ 900 ∧ x ∈ letters W
def PR (W : WL) (held : Tx) (x i : Nat) (s : Int × Tx) : Prop := Over W s.2 ∧ s.2.length ≤ held.length + 1 ∧ (i + s.2.length ≤ held.length + 1 ∨ ¬ (s.2 ≠ [] ∧ canGrow W s.2 = false)) ∧ costRow W (readOn W held x).1 = s.1 + costRow W (rd W s.2.length s.2).1 ∧ (readOn W held x).2 = (rd W s.2.length s.2).2
def ER (W : WL) (held : Tx) (x : Nat) (s : Int × Tx) : List (Option D) := [some (encW W), some (.str held), some (.str [x]), some (.str s.2), some (.int s.1), none, none]
theorem okf_law_read (hd : Hd K mg) : OkA P w K mg base 2 (He.ga K "_law_read") ["_law_words_here", "_law_held", "_law_letter"] (spD R_law_read) := by
  refine ok__law_read hd (okf_law_grows hd) (okf_law_match hd) (okf_law_sum hd) (len_D ?_) (rd_D ?_)
  · rintro ds d ⟨W, s, x, rfl, _⟩; rfl
  rintro ds d ⟨W, held, x, rfl, rfl, hW, ho, ht, hx⟩ E H k
  have ol : Over W (held ++ [x]) := ho.append (Over.one hx)
  have ll : (held ++ [x]).length = held.length + 1 := by simp
  refine dn_seq (dn_asg (de_cat (de_var rfl) (de_var rfl) (small_line (by simp; omega))) (dn_seq (dn_asg de_int (dn_seq ?_))))
  refine dn_forP (τ := Int × Tx) (List.range (held ++ [x]).length) (fun k => D.int (k : Nat)) (fun x => dg_name) (PR W held x) (ER W held x) (0, held ++ [x]) (di_rngN (de_lenS (de_var rfl) (by omega)) (by omega)) ⟨ol, by simp, .inl (by simp), ?_, ?_⟩ (Wk.refl _) ?_ ?_
  · show costRow W (readOn W held x).1 = 0 + _
    unfold readOn
    rw [rd_more hW (held.length + 1) (held ++ [x]).length _ ol (by simp) (Nat.le_refl _), Int.zero_add]
  · show (readOn W held x).2 = _
    unfold readOn
    rw [rd_more hW (held.length + 1) (held ++ [x]).length _ ol (by simp) (Nat.le_refl _)]
  · rintro Hh xh i y ⟨g, u⟩ hy ⟨h1, h2, h3, h4, h5⟩
    have h1 : Over W u := h1
    have h2 : u.length ≤ held.length + 1 := h2
    have h3 : i + u.length ≤ held.length + 1 ∨ ¬ (u ≠ [] ∧ canGrow W u = false) := h3
    have h4 : costRow W (readOn W held x).1 = g + costRow W (rd W u.length u).1 := h4
    have h5 : (readOn W held x).2 = (rd W u.length u).2 := h5
    refine dn_if (a := (!decide (u = [])) && (!canGrow W u)) (dt_and (dt_test (de_neT (de_var rfl) de_empty)) (fun _ => dt_not (dt_B (de_call (da_cons (de_var rfl) (da_cons (de_var rfl) da_nil)) ⟨W, u, rfl, rfl, hW, by show u.length ≤ 50000; omega⟩)))) (fun hb => ?_) (fun hb => ?_)
    · rw [Bool.and_eq_true, Bool.not_eq_true', Bool.not_eq_true', decide_eq_false_iff_not] at hb
      obtain ⟨hn, hg⟩ := hb
      have L := hW.isLon h1 hn
      have s := hW.size L.nm
      have le := L.le
      have p := List.length_pos_iff.mpr hn
      refine dn_seq (dn_asg (de_ixTN (k := 0) (de_call (da_cons (de_var rfl) (da_cons (de_var rfl) da_nil)) ⟨W, u, rfl, rfl, hW, h1, by omega⟩) de_int (d := .str (lon W u)) (by rw [hW.match_cons h1 hn]; rfl)) (dn_seq (dn_asg (de_add (de_var rfl) (de_call (da_cons (de_var rfl) (da_cons (de_tup (da_cons (de_var rfl) da_nil) (by simp)) da_nil)) ⟨W, [lon W u], rfl, rfl, hW, fun v hv => by rw [List.mem_singleton.mp hv]; exact L.nm, by simp⟩)) (dn_asg (de_slS (de_var rfl) (do_some (de_lenS (de_var rfl) (by omega))) do_none (by omega)) ?_))))
      rw [cut_from]
      refine dn_turnP (P := PR W held x (i + 1)) (env := ER W held x) (g + costRow W [lon W u], u.drop (lon W u).length) ⟨h1.drop _, ?_, .inl ?_, ?_, ?_⟩ (wk_same (wk_same (wk_same (wk_same (wk_same (wk_none (wk_none wk_nil))))))) (Ex.refl _)
      · show (u.drop _).length ≤ _
        rw [List.length_drop]
        omega
      · show i + 1 + (u.drop _).length ≤ _
        rw [List.length_drop]
        rcases h3 with q | q
        · omega
        · exact absurd ⟨hn, hg⟩ q
      · show _ = g + _ + costRow W (rd W (u.drop _).length (u.drop _)).1
        rw [h4, rd_go hW h1 hn hg, costRow_cons, costRow_cons, costRow_nil]
        omega
      · show _ = (rd W (u.drop _).length (u.drop _)).2
        rw [h5, rd_go hW h1 hn hg]
    · have hg : ¬ (u ≠ [] ∧ canGrow W u = false) := fun z => by
        rw [Bool.and_eq_false_iff, Bool.not_eq_false', Bool.not_eq_false', decide_eq_true_eq] at hb
        rcases hb with q | q
        · exact z.1 q
        · rw [z.2] at q; cases q
      exact dn_next (dn_turnP (P := PR W held x (i + 1)) (env := ER W held x) (g, u) ⟨h1, h2, .inr hg, h4, h5⟩ (wk_same (wk_same (wk_same (wk_same (wk_same (wk_none (wk_none wk_nil))))))) (Ex.refl _))
  · rintro ⟨g, u⟩ ⟨h1, h2, h3, h4, h5⟩
    have h3 : (List.range (held ++ [x]).length).length + u.length ≤ held.length + 1 ∨ ¬ (u ≠ [] ∧ canGrow W u = false) := h3
    have h4 : costRow W (readOn W held x).1 = g + costRow W (rd W u.length u).1 := h4
    have h5 : (readOn W held x).2 = (rd W u.length u).2 := h5
    have hg : ¬ (u ≠ [] ∧ canGrow W u = false) := fun z => by
      have := List.length_pos_iff.mpr z.1
      rcases h3 with q | q
      · rw [List.length_range, ll] at q
        omega
      · exact q z
    rw [rd_stop hg] at h4 h5
    rw [costRow_nil, Int.add_zero] at h4
    rw [h4, h5] at k
    dsimp only
    exact dn_ret (de_tup (da_cons (de_var rfl) (da_cons (de_var rfl) da_nil)) (by simp)) k
end
end GC

-- part RD7
set_option Elab.async false
set_option linter.all false
set_option maxRecDepth 100000
set_option maxHeartbeats 4000000
namespace GC
open PySem PySem.Spec PyProof.Rows L2
section
variable {P : Program} {w : World} {K : PySem.W.Frag} {mg : Str → Option Value} {base : Heap}
/-! _law_steps -/
def R_law_steps : List D → List D → Prop := fun ds es => ∃ W h t x, ds = [encW W, .str h, .str t, .str [x]] ∧ es = (steps W h t x).map encS ∧ Wd W ∧ Over W h ∧ h.length ≤ 900 ∧ t.length ≤ 900 ∧ x ∈ letters W
def stepA (W : WL) (h t : Tx) (x i : Nat) : List (Tx × Tx × Int × Int) := if t ++ [x] ∈ names (W.take i) then [((readOn W h x).2, [], costRow W (readOn W h x).1, costIn W (t ++ [x]))] else []
def EP' (W : WL) (h t : Tx) (x : Nat) (a : Addr) : List (Option D) := [some (encW W), some (.str h), some (.str t), some (.str [x]), some (.int (costRow W (readOn W h x).1)), some (.str (readOn W h x).2), some (.str (t ++ [x])), some (.adr a), none, none]
theorem okf_law_steps (hd : Hd K mg) : OkA P w K mg base 3 (He.ga K "_law_steps") ["_law_words_here", "_law_held", "_law_tail", "_law_letter"] (spL R_law_steps) := by
  refine ok__law_steps hd (okf_law_read hd) (okf_law_grows hd) (len_L ?_) (rd_L ?_)
  · rintro ds d ⟨W, s, t, x, rfl, _⟩; rfl
  rintro ds d ⟨W, h, t, x, rfl, rfl, hW, ho, hh, ht, hx⟩ E H k
  have hl := hW.len
  have lt : (t ++ [x]).length = t.length + 1 := by simp
  refine dn_seq (dn_asgT (de_call (da_cons (de_var rfl) (da_cons (de_var rfl) (da_cons (de_var rfl) da_nil))) ⟨W, h, x, rfl, rfl, hW, ho, hh, hx⟩) (dg_tup (dgs_cons (dgs_cons dgs_nil)) rfl) (dn_seq (dn_asg (de_cat (de_var rfl) (de_var rfl) (small_line (by simp; omega))) (dn_seq (dn_asgL (dl_lst da_nil (by simp)) fun a H1 na x1 l1 => dn_seq ?_)))))
  refine dn_forG (Hb := H) (τ := List (Tx × Tx × Int × Int)) [a] W encE (tgt := fun p => [.str p.1, .int p.2]) (fun p => dg_tup (dgs_cons (dgs_cons dgs_nil)) rfl) (fun i l => l = stepA W h t x i) (fun _ => EP' W h t x a) (fun l H' => LstAt H' a (l.map encS)) [] (di_tup (de_var rfl)) x1 (one_M na l1) (fun s H3 H4 l x => l.ex x) ?_ (Wk.refl _) l1 ?_ ?_
  · show [] = stepA W h t x 0
    unfold stepA
    rw [if_neg]
    intro z; cases z
  · rintro Hh xh hM i p l hp rfl H3 x3 l3
    have hp2 : p ∈ W := List.mem_of_getElem? hp
    have hp4 := (hW.ent p hp2).1
    have hi := (List.getElem?_eq_some_iff.mp hp).1
    have sl : (stepA W h t x i).length ≤ 1 := by unfold stepA; split <;> simp
    refine dn_if (dt_test (de_eqT (de_var rfl) (de_var rfl))) (fun hb => ?_) (fun hb => ?_)
    · have hb : p.1 = t ++ [x] := of_decide_eq_true hb
      have no : t ++ [x] ∉ names (W.take i) := fun z => by
        have nd := hW.nodup
        have e : W = W.take i ++ W.drop i := (List.take_append_drop i W).symm
        have nd2 : (names (W.take i) ++ names (W.drop i)).Nodup := by
          have q : names W = names (W.take i) ++ names (W.drop i) := by
            unfold names
            rw [← List.map_append, ← e]
          rw [← q]; exact nd
        rw [List.nodup_append] at nd2
        have hm : p.1 ∈ names (W.drop i) := by
          refine List.mem_map_of_mem ?_
          rw [List.mem_iff_getElem?]
          exact ⟨0, by rw [List.getElem?_drop, Nat.add_zero]; exact hp⟩
        exact nd2.2.2 _ z _ hm hb.symm
      have e0 : stepA W h t x i = [] := by unfold stepA; rw [if_neg no]
      rw [e0] at l3
      refine dn_app (de_var rfl) l3 (de_tup (da_cons (de_var rfl) (da_cons de_empty (da_cons (de_var rfl) (da_cons (de_var rfl) da_nil)))) (by simp)) (by simp) fun H4 xb l4 => dn_turn (P := fun l => l = stepA W h t x (i + 1)) (env := fun _ => EP' W h t x a) (G := fun l H' => LstAt H' a (l.map encS)) [((readOn W h x).2, [], costRow W (readOn W h x).1, p.2)] ?_ (wk_same (wk_same (wk_same (wk_same (wk_same (wk_same (wk_same (wk_same (wk_none (wk_none wk_nil)))))))))) (x3.mut (hM a (by simp)) xb) l4 (fun s H3 H4 l x => l.ex x)
      unfold stepA
      rw [names_take hp, if_pos (by rw [hb]; simp), ← hb, hW.cost hp2]
    · have hb : ¬ p.1 = t ++ [x] := of_decide_eq_false hb
      refine dn_next (dn_turn (P := fun l => l = stepA W h t x (i + 1)) (env := fun _ => EP' W h t x a) (G := fun l H' => LstAt H' a (l.map encS)) (stepA W h t x i) ?_ (wk_same (wk_same (wk_same (wk_same (wk_same (wk_same (wk_same (wk_same (wk_none (wk_none wk_nil)))))))))) x3 l3 (fun s H3 H4 l x => l.ex x))
      have q : (t ++ [x] ∈ names (W.take i)) = (t ++ [x] ∈ names (W.take (i + 1))) := propext ⟨fun z => by rw [names_take hp]; exact List.mem_append_left _ z, fun z => by
        rw [names_take hp] at z
        rcases List.mem_append.mp z with z | z
        · exact z
        · exact absurd (List.mem_singleton.mp z).symm hb⟩
      unfold stepA
      simp only [q]
  · rintro l rfl H3 x3 l3
    have ea : stepA W h t x W.length = if t ++ [x] ∈ names W then [((readOn W h x).2, [], costRow W (readOn W h x).1, costIn W (t ++ [x]))] else [] := by unfold stepA; rw [List.take_length]
    have sl : (stepA W h t x W.length).length ≤ 1 := by unfold stepA; split <;> simp
    dsimp only
    refine dn_seq (dn_if (dt_B (de_call (da_cons (de_var rfl) (da_cons (de_var rfl) da_nil)) ⟨W, t ++ [x], rfl, rfl, hW, by show (t ++ [x]).length ≤ 50000; omega⟩)) (fun hg => ?_) (fun hg => ?_))
    · refine dn_app (de_var rfl) l3 (de_tup (da_cons (de_var rfl) (da_cons (de_var rfl) (da_cons (de_var rfl) (da_cons de_int da_nil)))) (by simp)) (by rw [List.length_map]; omega) fun H4 xc l4 => ?_
      refine dn_retA (de_var rfl) na (x3.mut na xc) l4 ?_
      unfold steps at k
      rw [if_pos hg, ← ea, List.map_append] at k
      exact k
    · refine dn_next (dn_retA (de_var rfl) na x3 l3 ?_)
      unfold steps at k
      rw [← ea, if_neg (show ¬ canGrow W (t ++ [x]) = true by rw [hg]; decide), List.append_nil] at k
      exact k
/-! _law_is_row -/
theorem okf_law_is_row (hd : Hd K mg) : OkA P w K mg base 1 (He.ga K "_law_is_row") ["_law_words_here", "_law_row"] (spD R_is_row) := by
  refine ok__law_is_row hd (len_D ?_) (rd_D ?_)
  · rintro ds d ⟨W, s, rfl, _⟩; rfl
  rintro ds d ⟨W, r, rfl, rfl, hW, hr, hl⟩ E H k
  have h8 := hW.len
  refine dn_seq (dn_asgL (lc_M W encE (f := fun p => .str p.1) (js := [3, 4]) (tgt := fun p => [.str p.1, .int p.2]) (di_tup (de_var rfl)) (fun x => dg_tup (dgs_cons (dgs_cons dgs_nil)) rfl) (by simp) (by omega) fun p hp => de_var rfl) fun a H1 na x1 l1 => ?_)
  have l2 : LstAt H1 a ((names W).map D.str) := by
    unfold names
    rw [List.map_map]
    exact l1
  refine dn_ret (DE.is (de_andV (de_isT (de_var rfl) rfl (by rfl)) fun _ => de_allM r (fun u => decide (u ∈ names W)) (lc_M r D.str (js := [5]) (di_tup (de_var rfl)) (fun x => dg_name) (by simp) (by omega) fun u hu => DE.is (de_andV (de_isT (d := .str u) (de_var rfl) rfl (by rfl)) fun _ => de_inT (de_var rfl) (dl_adr (de_var rfl) l2)) (by rw [Bool.true_and]))) ?_) (k.ex x1)
  congr 1
  rw [Bool.true_and]
  exact List.all_eq_true.mpr fun u hu => decide_eq_true (hr u hu)
/-! _law_is_text -/
theorem okf_law_is_text (hd : Hd K mg) : OkA P w K mg base 2 (He.ga K "_law_is_text") ["_law_words_here", "_law_text_here"] (spD R_is_long_text) := by
  refine ok__law_is_text hd (okf_law_letters hd) (len_D ?_) (rd_D ?_)
  · rintro ds d ⟨W, s, rfl, _⟩; rfl
  rintro ds d ⟨W, t, rfl, rfl, hW, ho, ht⟩ E H k
  refine dn_ret (DE.is (de_andV (de_isT (d := .str t) (de_var rfl) rfl (by rfl)) fun _ => de_allM t (fun c => decide ([c] ∈ (letters W).map fun x => [x])) (lc_M t (fun c => D.str [c]) (js := [2]) (di_str (de_var rfl)) (fun x => dg_name) (by simp) (by omega) fun c hc => de_inT (de_var rfl) (DL.is (dl_call (da_cons (de_var rfl) da_nil) ⟨W, rfl, rfl, hW⟩).dl (by rw [List.map_map]; rfl)))) ?_) k
  congr 1
  rw [Bool.true_and]
  exact List.all_eq_true.mpr fun c hc => decide_eq_true (List.mem_map.mpr ⟨c, ho c hc, rfl⟩)
/-! _law_sums -/
def ES1 (W : WL) (bf cy tl : Tx) (r : List Tx) (h : Tx) : List (Option D) := [some (encW W), some (encTell bf cy tl r), some (.str bf), some (.str cy), some (.str tl), some (encR r), some (.str h), none, none, none, none, none]
def ES2 (W : WL) (bf cy tl : Tx) (r : List Tx) (h : Tx) (s : Int × Tx) : List (Option D) := [some (encW W), some (encTell bf cy tl r), some (.str bf), some (.str cy), some (.str tl), some (encR r), some (.str h), none, some (.int s.1), some (.str s.2), none, none]
theorem okf_law_sums (hd : Hd K mg) : OkA P w K mg base 3 (He.ga K "_law_sums") ["_law_words_here", "_law_value"] (spD R_sums_of) := by
  refine ok__law_sums hd (okf_law_is_text hd) (okf_law_is_row hd) (okf_law_read hd) (okf_law_sum hd) (len_D ?_) (rd_D ?_)
  · rintro ds d ⟨W, a, b, bf, cy, tl, r, rfl, _⟩; rfl
  rintro ds d ⟨W, a, b, bf, cy, tl, r, rfl, rfl, hW, hT⟩ E H k
  have z1 := hT.szb
  have z2 := hT.szc
  have z3 := hT.szt
  have z4 := hT.rl
  obtain ⟨s1, s2⟩ := hT.suf
  have hh := hW.readAll_held bf [] (.inl rfl) hT.obf
  have hc := hW.readAll_held cy _ hh hT.ocy
  have fl : r.flatten.length ≤ 100000 := by
    have q := congrArg List.length hT.eq
    rw [List.length_append, List.length_append] at q
    omega
  refine dn_seq (dn_ifF (dt_orF (dt_notF (dt_B (de_isT (de_var rfl) rfl (by rfl)))) (dt_orF (dt_test (DE.is (de_neI (de_lenT (de_var rfl)) de_int) rfl)) (dt_notF (dt_B (DE.is (de_allM [bf, cy, tl] (fun _ => true) (lc_M [bf, cy, tl] D.str (js := [11]) (di_tup (DE.is (de_slT (de_var rfl) do_none (do_some (de_nat 3 rfl)) (show ¬(HT.sIx 4 0 none = 0 ∧ HT.sIx 4 4 (some (3 : Int)) = 4) by decide)) (by rw [cut_to]; rfl))) (fun x => dg_name) (by simp) (by simp) fun t ht => ?_)) rfl))))) (dn_next (dn_seq (dn_asgT (de_var rfl) (dg_tup (dgs_cons (dgs_cons (dgs_cons (dgs_cons dgs_nil)))) rfl) (dn_seq ?_)))))
  · refine de_call (da_cons (de_var rfl) (da_cons (de_var rfl) da_nil)) ⟨W, t, rfl, rfl, hW, ?_, ?_⟩
    · rcases List.mem_cons.mp ht with e | ht
      · rw [e]; exact hT.obf
      rcases List.mem_cons.mp ht with e | ht
      · rw [e]; exact hT.ocy
      rw [List.mem_singleton.mp ht]; exact hT.otl
    · rcases List.mem_cons.mp ht with e | ht
      · rw [e]; exact z1
      rcases List.mem_cons.mp ht with e | ht
      · rw [e]; exact z2
      rw [List.mem_singleton.mp ht]; exact z3
  refine dn_ifF (dt_orF (dt_test (DE.is (de_eqT (de_var rfl) de_empty) (by rw [decide_eq_false hT.ne]))) (dt_orF (dt_notF (dt_B (de_call (da_cons (de_var rfl) (da_cons (de_var rfl) da_nil)) ⟨W, r, rfl, rfl, hW, hT.row, z4⟩))) (dt_test (DE.is (de_cmpI (g := fun i j => decide (j < i)) (de_lenS (de_var rfl) (by omega)) (de_lenS (de_var rfl) (by omega))) (by congr 1; exact decide_eq_false (by omega)))))) (dn_next (dn_seq ?_))
  refine dn_ifF (dt_orF (dt_test (DE.is (de_neT (de_slS (de_var rfl) (do_some (de_subN (de_lenS (de_var rfl) (by omega)) (de_lenS (de_var rfl) (by omega)) s1)) do_none (by omega)) (de_var rfl)) (by rw [cut_from, s2]; simp))) (dt_test (DE.is (de_neT (de_cat (de_var rfl) (de_var rfl) (small_line (by omega))) (de_cat (de_joinT empty_is (de_var rfl) fl) (de_var rfl) (small_line (by
    have q := congrArg List.length hT.eq
    rw [List.length_append, List.length_append] at q
    omega)))) (by rw [hT.eq]; simp)))) (dn_next (dn_seq ?_))
  refine dn_asg de_empty (dn_seq ?_)
  refine dn_forP (τ := Tx) bf (fun c => D.str [c]) (fun x => dg_name) (fun i h => h = (readAll W [] (bf.take i)).2) (ES1 W bf cy tl r) [] (di_str (de_var rfl)) rfl (Wk.refl _) ?_ ?_
  · rintro Hh x1 i x s hx rfl
    have ox : x ∈ letters W := hT.obf x (List.mem_of_getElem? hx)
    have hs := hW.readAll_held (bf.take i) [] (.inl rfl) (hT.obf.take i)
    have l3 := hs.len hW
    refine dn_asg (de_ixTN (k := 1) (de_call (da_cons (de_var rfl) (da_cons (de_var rfl) (da_cons (de_var rfl) da_nil))) ⟨W, _, x, rfl, rfl, hW, hs.over hW, by omega, ox⟩) de_int rfl) ?_
    exact dn_turnP (P := fun h => h = (readAll W [] (bf.take (i + 1))).2) (env := ES1 W bf cy tl r) _ (congrArg Prod.snd (readAll_take hx).symm) (wk_same (wk_same (wk_same (wk_same (wk_same (wk_same (wk_same (wk_none (wk_none (wk_none (wk_none (wk_none wk_nil)))))))))))) (Ex.refl _)
  rintro h rfl
  rw [List.take_length]
  dsimp only
  refine dn_seq (dn_asg de_int (dn_seq (dn_asg (de_var rfl) (dn_seq ?_))))
  refine dn_forP (τ := Int × Tx) cy (fun c => D.str [c]) (fun x => dg_name) (fun i s => s = readAll W (readAll W [] bf).2 (cy.take i)) (ES2 W bf cy tl r (readAll W [] bf).2) (0, (readAll W [] bf).2) (di_str (de_var rfl)) rfl (Wk.refl _) ?_ ?_
  · rintro Hh x1 i x s hx rfl
    have ox : x ∈ letters W := hT.ocy x (List.mem_of_getElem? hx)
    have hs := hW.readAll_held (cy.take i) _ hh (hT.ocy.take i)
    have l3 := hs.len hW
    refine dn_seq (dn_asgT (de_call (da_cons (de_var rfl) (da_cons (de_var rfl) (da_cons (de_var rfl) da_nil))) ⟨W, _, x, rfl, rfl, hW, hs.over hW, by omega, ox⟩) (dg_tup (dgs_cons (dgs_cons dgs_nil)) rfl) (dn_asg (de_add (de_var rfl) (de_var rfl)) ?_))
    exact dn_turnP (P := fun s => s = readAll W (readAll W [] bf).2 (cy.take (i + 1))) (env := ES2 W bf cy tl r (readAll W [] bf).2) (_, _) (readAll_take hx).symm (wk_same (wk_same (wk_same (wk_same (wk_same (wk_same (wk_same (wk_none (wk_same (wk_same (wk_none (wk_none wk_nil)))))))))))) (Ex.refl _)
  rintro s rfl
  rw [List.take_length]
  dsimp only
  refine dn_seq (dn_ifF (dt_test (DE.is (de_neT (de_var rfl) (de_var rfl)) (by rw [hT.back]; simp))) (dn_next (dn_ret (de_tup (da_cons (de_var rfl) (da_cons (de_call (da_cons (de_var rfl) (da_cons (de_var rfl) da_nil)) ⟨W, r, rfl, rfl, hW, hT.row, by omega⟩) da_nil)) (by simp)) k)))
end
end GC

-- part RD8
set_option Elab.async false
set_option linter.all false
set_option maxRecDepth 100000
set_option maxHeartbeats 4000000
namespace GC
open PySem PySem.Spec PyProof.Rows L2
section
variable {P : Program} {w : World} {K : PySem.W.Frag} {mg : Str → Option Value} {base : Heap}
/-! _law_are_right -/
def EQ0 (W : WL) (a b c : Int) (T : List (Tx × Tx × Int)) : List (Option D) := [some (encW W), some (.int a), some (.int b), some (.int c), some (encT T), none, none, none, none, none, none, none, none, none, none, none]
def EQ1 (W : WL) (a b c : Int) (T : List (Tx × Tx × Int)) (ta : Addr) : List (Option D) := [some (encW W), some (.int a), some (.int b), some (.int c), some (encT T), none, some (.adr ta), none, none, none, none, none, none, none, none, none]
def EQ2 (W : WL) (a b c : Int) (T : List (Tx × Tx × Int)) (ta : Addr) (p : Tx × Tx × Int) : List (Option D) := [some (encW W), some (.int a), some (.int b), some (.int c), some (encT T), none, some (.adr ta), some (.str p.1), some (.str p.2.1), some (.int p.2.2), none, none, none, none, none, none]
def EQ3 (W : WL) (a b c : Int) (T : List (Tx × Tx × Int)) (ta : Addr) (p : Tx × Tx × Int) (x : Nat) : List (Option D) := [some (encW W), some (.int a), some (.int b), some (.int c), some (encT T), none, some (.adr ta), some (.str p.1), some (.str p.2.1), some (.int p.2.2), some (.str [x]), none, none, none, none, none]
theorem okf_law_are_right (hd : Hd K mg) : OkA P w K mg base 4 (He.ga K "_law_are_right") ["_law_words_here", "_law_a", "_law_b", "_law_c", "_law_table"] (spD R_fit) := by
  refine ok__law_are_right hd (okf_law_is_integer hd) (okf_law_is_text hd) (okf_law_sum hd) (okf_law_match hd) (okf_law_letters hd) (okf_law_steps hd) (len_D ?_) (rd_D ?_)
  · rintro ds d ⟨W, a, b, c, T, rfl, _⟩; rfl
  rintro ds d ⟨W, a, b, c, T, rfl, rfl, hW, hT, ha0, ha1, hb0, hb1⟩ E H k
  have hl := hT.len
  have hl8 := hW.letters_len
  obtain ⟨n, n0, hn⟩ := hT.zero
  refine dn_seq (dn_ifF (dt_notF (dt_B (de_isT (de_var rfl) rfl (by rfl)))) (dn_next (dn_seq ?_)))
  refine dn_forP (τ := Unit) T encP (fun x => dg_name) (fun _ _ => True) (fun _ => EQ0 W a b c T) () (di_tup (de_var rfl)) trivial (Wk.refl _) ?_ ?_
  · intro Hh x1 i p t hp _
    obtain ⟨h1, h2⟩ := hT.held p (List.mem_of_getElem? hp)
    have l1 := h1.len hW
    have l2 := h2.len hW
    refine dn_seq (dn_ifF (dt_orF (dt_notF (dt_B (de_isT (d := encP p) (de_var rfl) rfl (by rfl)))) (dt_orF (dt_test (DE.is (de_neI (de_lenT (ds := [.str p.1, .str p.2.1, .int p.2.2]) (de_var rfl)) de_int) rfl)) (dt_notF (dt_B (de_call (da_cons (de_ixTN (k := 2) (ds := [.str p.1, .str p.2.1, .int p.2.2]) (de_var rfl) de_int rfl) da_nil) ⟨p.2.2, rfl, rfl⟩))))) (dn_next ?_))
    refine dn_ifF (dt_orF (dt_notF (dt_B (de_call (da_cons (de_var rfl) (da_cons (de_ixTN (k := 0) (ds := [.str p.1, .str p.2.1, .int p.2.2]) (de_var rfl) de_int rfl) da_nil)) ⟨W, p.1, rfl, rfl, hW, h1.over hW, by omega⟩))) (dt_notF (dt_B (de_call (da_cons (de_var rfl) (da_cons (de_ixTN (k := 1) (ds := [.str p.1, .str p.2.1, .int p.2.2]) (de_var rfl) de_int rfl) da_nil)) ⟨W, p.2.1, rfl, rfl, hW, h2.over hW, by omega⟩)))) (dn_next ?_)
    exact dn_turnP (P := fun _ => True) (env := fun _ => EQ0 W a b c T) () trivial (wk_same (wk_same (wk_same (wk_same (wk_same (wk_none (wk_same (wk_same (wk_same (wk_same (wk_same (wk_same (wk_same (wk_same (wk_same (wk_same wk_nil)))))))))))))))) (Ex.refl _)
  rintro t _
  dsimp only
  refine dn_seq (dn_ifF (dt_notF (dt_B (de_srt (T := T) (fun _ => rfl) (fun _ => rfl) rfl hl hT.srt))) (dn_next (dn_seq (dn_asgDT fun ta H1 na x1 l1 => dn_seq ?_))))
  refine dn_forG (Hb := H) (τ := List ((Tx × Tx) × Int)) [ta] T encP (tgt := fun p => [.str p.1, .str p.2.1, .int p.2.2]) (fun p => dg_tup (dgs_cons (dgs_cons (dgs_cons dgs_nil))) rfl) (fun i m => m = (T.take i).foldl (fun m p => putP m (key2 p) p.2.2) [] ∧ m.length ≤ i) (fun _ => EQ1 W a b c T ta) (fun m H' => DtAt H' ta m) [] (di_tup (de_var rfl)) x1 (one_O na l1 fun vs z => by cases z) (fun s H3 H4 l x => l.ex x) ⟨rfl, by simp⟩ (Wk.refl _) l1 ?_ ?_
  · rintro Hh xh hM i p m hp ⟨rfl, hm⟩ H3 x3 l3
    have hi := (List.getElem?_eq_some_iff.mp hp).1
    refine dn_dputT (q := key2 p) (de_var rfl) (de_var rfl) (de_tup (da_cons (de_var rfl) (da_cons (de_var rfl) da_nil)) (by simp)) l3 (by omega) fun H4 xb l4 => ?_
    refine dn_turn (P := fun m => m = (T.take (i + 1)).foldl (fun m p => putP m (key2 p) p.2.2) [] ∧ m.length ≤ i + 1) (env := fun _ => EQ1 W a b c T ta) (G := fun m H' => DtAt H' ta m) _ ⟨?_, ?_⟩ (wk_same (wk_same (wk_same (wk_same (wk_same (wk_none (wk_same (wk_none (wk_none (wk_none (wk_same (wk_same (wk_same (wk_same (wk_same (wk_same wk_nil)))))))))))))))) (x3.mut (hM ta (by simp)) xb) l4 (fun s H3 H4 l x => l.ex x)
    · rw [List.take_succ, hp, Option.toList_some, List.foldl_append]
      rfl
    · have := putP_len ((T.take i).foldl (fun m p => putP m (key2 p) p.2.2) []) (key2 p) p.2.2
      omega
  rintro m ⟨rfl, hm⟩ H3 x3 l3
  rw [List.take_length, putT_all hT.nd] at l3
  have g0 : getP (tabM T) ([], []) = some n := (getP_tab hT.nd).mpr hn
  dsimp only
  refine dn_seq (dn_ifF (dt_orF (dt_B (DE.is (de_dnotT (q := ([], [])) (de_tup (da_cons de_empty (da_cons de_empty da_nil)) (by simp)) (de_var rfl) l3) (by rw [g0]; rfl))) (dt_test (DE.is (de_cmpI (g := fun i j => decide (i < j)) (de_dgetT (q := ([], [])) (c := n) (de_var rfl) l3 (de_tup (da_cons de_empty (da_cons de_empty da_nil)) (by simp)) g0) de_int) (by congr 1; exact decide_eq_false (by omega))))) (dn_next (dn_seq ?_)))
  refine dn_forP (τ := Unit) T encP (tgt := fun p => [.str p.1, .str p.2.1, .int p.2.2]) (fun p => dg_tup (dgs_cons (dgs_cons (dgs_cons dgs_nil))) rfl) (fun _ _ => True) (fun _ => EQ1 W a b c T ta) () (di_tup (de_var rfl)) trivial (Wk.refl _) ?_ ?_
  · intro Hh xh i p t hp _
    have hp : p ∈ T := List.mem_of_getElem? hp
    obtain ⟨h1, h2⟩ := hT.held p hp
    have l1 := h1.len hW
    have l2 := h2.len hW
    obtain ⟨m1, m2⟩ := match_row hW (h1.over hW)
    have lh := l3.ex xh
    refine dn_seq (dn_ifF (DT.is (dt_and (b := decide (c < p.2.2 + b * costRow W (matchOf W p.1))) (dt_test (de_eqT (de_var rfl) de_empty)) fun _ => dt_test (de_cmpI (g := fun i j => decide (j < i)) (de_add (de_var rfl) (de_mul (de_var rfl) (de_call (da_cons (de_var rfl) (da_cons (de_call (da_cons (de_var rfl) (da_cons (de_var rfl) da_nil)) ⟨W, p.1, rfl, rfl, hW, h1.over hW, by omega⟩) da_nil)) ⟨W, _, rfl, rfl, hW, m1, by omega⟩) (cmul_l (by omega) (by omega)))) (de_var rfl))) ?_) (dn_next ?_))
    · by_cases e : p.2.1 = []
      · have := hT.fin p hp e
        rw [decide_eq_false (show ¬ c < _ by omega), Bool.and_false]
      · rw [decide_eq_false e, Bool.false_and]
    refine dn_forP (τ := Unit) (letters W) (fun x => D.str [x]) (fun x => dg_name) (fun _ _ => True) (fun _ => EQ2 W a b c T ta p) () (di_lstN (dl_call (da_cons (de_var rfl) da_nil) ⟨W, rfl, rfl, hW⟩)) trivial (Wk.refl _) ?_ ?_
    · intro Hi xi j x t hx _
      have hx : x ∈ letters W := List.mem_of_getElem? hx
      refine dn_forP (τ := Unit) (steps W p.1 p.2.1 x) encS (tgt := fun s => [.str s.1, .str s.2.1, .int s.2.2.1, .int s.2.2.2]) (fun s => dg_tup (dgs_cons (dgs_cons (dgs_cons (dgs_cons dgs_nil)))) rfl) (fun _ _ => True) (fun _ => EQ3 W a b c T ta p x) () (di_lstN (dl_call (da_cons (de_var rfl) (da_cons (de_var rfl) (da_cons (de_var rfl) (da_cons (de_var rfl) da_nil)))) ⟨W, p.1, p.2.1, x, rfl, rfl, hW, h1.over hW, by omega, by omega, hx⟩)) trivial (Wk.refl _) ?_ ?_
      · intro Hj xj j s t hs2 _
        have hs2 : s ∈ steps W p.1 p.2.1 x := List.mem_of_getElem? hs2
        obtain ⟨v, v1, v2⟩ := hT.goes p hp x hx s hs2
        have g1 : getP (tabM T) (s.1, s.2.1) = some v := (getP_tab hT.nd).mpr v1
        have lj := lh.ex (xi.trans xj)
        refine dn_ifF (dt_orF (dt_B (DE.is (de_dnotT (q := (s.1, s.2.1)) (de_tup (da_cons (de_var rfl) (da_cons (de_var rfl) da_nil)) (by simp)) (de_var rfl) lj) (by rw [g1]; rfl))) (dt_test (DE.is (de_cmpI (g := fun i j => decide (i < j)) (de_dgetT (q := (s.1, s.2.1)) (de_var rfl) lj (de_tup (da_cons (de_var rfl) (da_cons (de_var rfl) da_nil)) (by simp)) g1) (de_sub (de_add (de_var rfl) (de_mul (de_var rfl) (de_var rfl) (cmul_l (by omega) (by omega)))) (de_mul (de_var rfl) (de_var rfl) (cmul_l (by omega) (by omega))))) ?_))) (dn_next (dn_turnP (P := fun _ => True) (env := fun _ => EQ3 W a b c T ta p x) () trivial ?_ (Ex.refl _)))
        · congr 1
          exact decide_eq_false (by omega)
        · exact wk_same (wk_same (wk_same (wk_same (wk_same (wk_same (wk_same (wk_same (wk_same (wk_same (wk_same (wk_none (wk_none (wk_none (wk_none (wk_same wk_nil)))))))))))))))
      · intro t _
        exact dn_turnP (P := fun _ => True) (env := fun _ => EQ2 W a b c T ta p) () trivial (wk_same (wk_same (wk_same (wk_same (wk_same (wk_same (wk_same (wk_same (wk_same (wk_same (wk_none (wk_same (wk_same (wk_same (wk_same (wk_same wk_nil)))))))))))))))) (Ex.refl _)
    · intro t _
      exact dn_turnP (P := fun _ => True) (env := fun _ => EQ1 W a b c T ta) () trivial (wk_same (wk_same (wk_same (wk_same (wk_same (wk_same (wk_same (wk_none (wk_none (wk_none (wk_same (wk_same (wk_same (wk_same (wk_same (wk_same wk_nil)))))))))))))))) (Ex.refl _)
  · intro t _
    dsimp only
    exact dn_ret de_bl (k.ex x3)
/-! _law_accepts -/
theorem okf_law_accepts (hd : Hd K mg) : OkA P w K mg base 5 (He.ga K "_law_accepts") ["_law_words_here", "_law_value"] (spD R_accepts_answer) := by
  refine ok__law_accepts hd (okf_law_is_integer hd) (okf_law_sums hd) (okf_law_is_text hd) (okf_law_is_row hd) (okf_law_sum hd) (okf_law_match hd) (okf_law_are_right hd) (len_D ?_) (rd_D ?_)
  · rintro ds d ⟨W, A, rfl, _⟩; rfl
  rintro ds d ⟨W, A, rfl, rfl, hW, hA⟩ E H k
  have h1 := hA.rat.b1
  have h2 := hA.rat.bM
  have h3 := hA.rat.ab
  have h4 := hA.rat.aM
  have z1 := hA.sh.sz
  have z2 := hA.sh.rl
  obtain ⟨m1, m2⟩ := match_row hW hA.sh.ov
  refine dn_seq (dn_ifF (dt_orF (dt_notF (dt_B (de_isT (de_var rfl) rfl (by rfl)))) (dt_test (DE.is (de_neI (de_lenT (de_var rfl)) de_int) rfl))) (dn_next (dn_seq (dn_asgT (de_var rfl) (dg_tup (dgs_cons (dgs_cons (dgs_cons (dgs_cons (dgs_cons dgs_nil))))) rfl) (dn_seq ?_)))))
  refine dn_ifF (dt_orF (dt_notF (dt_B (de_isT (d := encRat A.a A.b) (de_var rfl) rfl (by rfl)))) (dt_orF (dt_test (DE.is (de_neI (de_lenT (ds := [.int A.a, .int A.b]) (de_var rfl)) de_int) rfl)) (dt_notF (dt_B (de_call (da_cons (de_var rfl) da_nil) ⟨A.c, rfl, rfl⟩))))) (dn_next (dn_seq ?_))
  refine dn_ifF (dt_orF (dt_notF (dt_B (de_call (da_cons (de_ixTN (k := 0) (ds := [.int A.a, .int A.b]) (de_var rfl) de_int rfl) da_nil) ⟨A.a, rfl, rfl⟩))) (dt_orF (dt_notF (dt_B (de_call (da_cons (de_ixTN (k := 1) (ds := [.int A.a, .int A.b]) (de_var rfl) de_int rfl) da_nil) ⟨A.b, rfl, rfl⟩))) (dt_orF (dt_test (DE.is (de_cmpI (g := fun i j => decide (i < j)) (de_ixTN (k := 1) (ds := [.int A.a, .int A.b]) (de_var rfl) de_int rfl) de_int) (by congr 1; exact decide_eq_false (by omega)))) (dt_test (DE.is (de_cmpI (g := fun i j => decide (i < j)) (de_ixTN (k := 0) (ds := [.int A.a, .int A.b]) (de_var rfl) de_int rfl) de_int) (by congr 1; exact decide_eq_false (by omega))))))) (dn_next (dn_seq ?_))
  refine dn_ifF (dt_orF (DT.is (dt_and (b := decide (1 < A.b)) (dt_test (de_eqI (de_ixTN (k := 0) (ds := [.int A.a, .int A.b]) (de_var rfl) de_int rfl) de_int)) fun _ => dt_test (de_cmpI (g := fun i j => decide (j < i)) (de_ixTN (k := 1) (ds := [.int A.a, .int A.b]) (de_var rfl) de_int rfl) de_int)) (by rw [decide_eq_false (show ¬ A.a = 0 by omega), Bool.false_and])) (dt_test (DE.is (de_cmpI (g := fun i j => decide (j < i)) (de_ixTN (k := 1) (ds := [.int A.a, .int A.b]) (de_var rfl) de_int rfl) de_int) (by congr 1; exact decide_eq_false (by omega))))) (dn_next (dn_seq ?_))
  refine dn_ifF (dt_B (DE.is (de_anyM (List.range (A.b + 1 - 2).toNat) (fun k => decide (A.a % (2 + (k : Nat)) = 0) && decide (A.b % (2 + (k : Nat)) = 0)) (lc_M (List.range (A.b + 1 - 2).toNat) (fun k => D.int (2 + (k : Nat))) (js := [9]) (di_rng2 de_int (de_add (de_ixTN (k := 1) (ds := [.int A.a, .int A.b]) (de_var rfl) de_int rfl) de_int) (by omega)) (fun x => dg_name) (by simp) (by rw [List.length_range]; omega) fun k hk => de_andV (de_eqI (de_mod (de_int1 (de_ixTN (k := 0) (ds := [.int A.a, .int A.b]) (de_var rfl) de_int rfl)) (de_var rfl) (by omega)) de_int) fun _ => de_eqI (de_mod (de_int1 (de_ixTN (k := 1) (ds := [.int A.a, .int A.b]) (de_var rfl) de_int rfl)) (de_var rfl) (by omega)) de_int)) ?_)) (dn_next (dn_seq ?_))
  · congr 1
    rw [List.any_eq_false]
    intro k hk z
    rw [Bool.and_eq_true, decide_eq_true_eq, decide_eq_true_eq] at z
    exact no_factor hA.rat.gcd (show (2 : Int) ≤ 2 + (k : Nat) by omega) z.1 z.2
  refine dn_asg (de_call (da_cons (de_var rfl) (da_cons (de_var rfl) da_nil)) ⟨W, A.a, A.b, A.bf, A.cy, A.tl, A.r, rfl, rfl, hW, hA.tell⟩) (dn_seq ?_)
  refine dn_ifF (dt_orF (dt_test (DE.is (de_isN (de_var rfl)) rfl)) (dt_test (DE.is (de_neI (de_mul (de_ixTN (k := 0) (d := .int _) (de_var rfl) de_int rfl) (de_ixTN (k := 1) (ds := [.int A.a, .int A.b]) (de_var rfl) de_int rfl) (cmul_r (by omega) (by omega))) (de_mul (de_ixTN (k := 1) (d := .int (costRow W A.r)) (de_var rfl) de_int rfl) (de_ixTN (k := 0) (ds := [.int A.a, .int A.b]) (de_var rfl) de_int rfl) (cmul_r (by omega) (by omega)))) (by rw [hA.tell.ratio]; simp)))) (dn_next (dn_seq ?_))
  refine dn_ifF (dt_orF (dt_notF (dt_B (de_isT (d := encShow A.t A.r2) (de_var rfl) rfl (by rfl)))) (dt_orF (dt_test (DE.is (de_neI (de_lenT (ds := [.str A.t, encR A.r2]) (de_var rfl)) de_int) rfl)) (dt_notF (dt_B (de_call (da_cons (de_var rfl) (da_cons (de_ixTN (k := 0) (ds := [.str A.t, encR A.r2]) (de_var rfl) de_int rfl) da_nil)) ⟨W, A.t, rfl, rfl, hW, hA.sh.ov, z1⟩))))) (dn_next (dn_seq ?_))
  refine dn_ifF (dt_orF (dt_notF (dt_B (de_call (da_cons (de_var rfl) (da_cons (de_ixTN (k := 1) (ds := [.str A.t, encR A.r2]) (de_var rfl) de_int rfl) da_nil)) ⟨W, A.r2, rfl, rfl, hW, hA.sh.row, z2⟩))) (dt_test (DE.is (de_neT (de_joinT (ss := A.r2) empty_is (de_ixTN (k := 1) (ds := [.str A.t, encR A.r2]) (de_var rfl) de_int rfl) (by rw [hA.sh.flat]; omega)) (de_ixTN (k := 0) (ds := [.str A.t, encR A.r2]) (de_var rfl) de_int rfl)) (by rw [hA.sh.flat]; simp)))) (dn_next (dn_seq ?_))
  refine dn_asg (de_call (da_cons (de_var rfl) (da_cons (de_call (da_cons (de_var rfl) (da_cons (de_ixTN (k := 0) (ds := [.str A.t, encR A.r2]) (de_var rfl) de_int rfl) da_nil)) ⟨W, A.t, rfl, rfl, hW, hA.sh.ov, z1⟩) da_nil)) ⟨W, _, rfl, rfl, hW, m1, by omega⟩) (dn_seq ?_)
  refine dn_ifF (dt_test (DE.is (de_neI (de_sub (de_mul (de_ixTN (k := 1) (ds := [.int A.a, .int A.b]) (de_var rfl) de_int rfl) (de_var rfl) (cmul_l (by omega) (by omega))) (de_mul (de_ixTN (k := 0) (ds := [.int A.a, .int A.b]) (de_var rfl) de_int rfl) (de_call (da_cons (de_var rfl) (da_cons (de_ixTN (k := 1) (ds := [.str A.t, encR A.r2]) (de_var rfl) de_int rfl) da_nil)) ⟨W, A.r2, rfl, rfl, hW, hA.sh.row, by omega⟩) (cmul_l (by omega) (by omega)))) (de_var rfl)) (by rw [hA.sh.val]; simp))) (dn_next ?_)
  exact dn_ret (de_call (da_cons (de_var rfl) (da_cons (de_ixTN (k := 0) (ds := [.int A.a, .int A.b]) (de_var rfl) de_int rfl) (da_cons (de_ixTN (k := 1) (ds := [.int A.a, .int A.b]) (de_var rfl) de_int rfl) (da_cons (de_var rfl) (da_cons (de_var rfl) da_nil))))) ⟨W, A.a, A.b, A.c, A.T, rfl, rfl, hW, hA.tab, by omega, by omega, by omega, by omega⟩) k
/-! _law_least -/
def R_law_least : List D → D → Prop := fun ds d => ∃ W t, ds = [encW W, .str t] ∧ d = .int (leastOf W t) ∧ Wd W ∧ Over W t ∧ t.length ≤ 1000
def EL (W : WL) (t : Tx) (a : Addr) : List (Option D) := [some (encW W), some (.str t), some (.adr a), none, none, none, none]
theorem okf_law_least (hd : Hd K mg) : OkA P w K mg base 1 (He.ga K "_law_least") ["_law_words_here", "_law_text_here"] (spD R_law_least) := by
  refine ok__law_least hd (len_D ?_) (rd_D ?_)
  · rintro ds d ⟨W, s, rfl, _⟩; rfl
  rintro ds d ⟨W, t, rfl, rfl, hW, ho, ht⟩ E H k
  have hl := hW.len
  refine dn_seq (dn_asgL (dl_lst (da_cons de_int da_nil) (by simp)) fun a H1 na x1 l1 => dn_seq ?_)
  refine dn_forG (Hb := H) (τ := List Int) [a] (List.range t.length) (fun k => D.int (1 + (k : Nat))) (fun x => dg_name) (fun i l => l = bestL W t i) (fun _ => EL W t a) (fun l H' => LstAt H' a (l.map D.int)) [0] (DI.is (di_rng2 de_int (de_add (de_lenS (de_var rfl) (by omega)) de_int) (by omega)) ?_) x1 (one_M na l1) (fun s H3 H4 l x => l.ex x) rfl (Wk.refl _) l1 ?_ ?_
  · congr 2
    omega
  · rintro Hh xh hM i y l hy rfl H3 x3 l3
    have hi : i < t.length := by
      have := (List.getElem?_eq_some_iff.mp hy).1
      rwa [List.length_range] at this
    have ey : y = i := by
      rw [List.getElem?_range hi] at hy
      exact (Option.some.inj hy).symm
    subst ey
    have e1 : (1 : Int) + (y : Nat) = ((y + 1 : Nat) : Int) := by omega
    rw [e1]
    have bl := bestL_len (W := W) t y
    refine dn_seq (dn_asgL (DLn.is (lc_D W encE (p := endsAt t (y + 1)) (f := fun p => .int ((bestL W t y).getD (y + 1 - p.1.length) 0 + p.2)) (js := [5, 6]) (tgt := fun p => [.str p.1, .int p.2]) (di_tup (de_var rfl)) (fun x => dg_tup (dgs_cons (dgs_cons dgs_nil)) rfl) (by simp) (by omega) (fun p hp => ?_) (fun p hp hq => ?_)) (show _ = (candL W t (bestL W t y) (y + 1)).map D.int by unfold candL; rw [List.map_map]; rfl)) fun b H4 nb x4 l4 => ?_)
    · have hp4 := (hW.ent p hp).1
      refine dt_test (DE.is (de_eqT (DE.is (de_slS (de_var rfl) (do_some (DE.is (de_max2 de_int (de_sub (de_var rfl) (de_lenS (de_var rfl) (by omega)))) (show _ = D.int ((y + 1 - p.1.length : Nat) : Int) by congr 1; split <;> omega))) (do_some (de_var rfl)) (by omega)) (by rw [cut_mid _ _ _ (by omega)])) (de_var rfl)) rfl)
    · have hp4 := (hW.ent p hp).1
      rw [endsAt_eq, ends_of (by omega)] at hq
      have hq1 := hq.1
      refine de_add (de_ixLN (k := y + 1 - p.1.length) (dl_adr (de_var rfl) l3) (de_subN (de_var rfl) (de_lenS (de_var rfl) (by omega)) hq1) ?_) (de_var rfl)
      rw [List.getElem?_map, List.getD_eq_getElem?_getD, List.getElem?_eq_getElem (by omega)]
      rfl
    · obtain ⟨q1, q2⟩ := minL_spec _ (cand_ne hW ho hi (bestL W t y))
      refine dn_app (de_var rfl) (l3.ex x4) (de_min (dl_adr (de_var rfl) l4) q1 q2) (by rw [List.length_map]; omega) fun H5 xb l5 => ?_
      refine dn_turn (P := fun l => l = bestL W t (y + 1)) (env := fun _ => EL W t a) (G := fun l H' => LstAt H' a (l.map D.int)) _ rfl (wk_same (wk_same (wk_same (wk_none (wk_none (wk_same (wk_same wk_nil))))))) ((x3.trans x4).mut (hM a (by simp)) xb) ?_ (fun s H3 H4 l x => l.ex x)
      show LstAt H5 a ((bestL W t y ++ [_]).map D.int)
      rw [List.map_append]
      exact l5
  · rintro l rfl H3 x3 l3
    rw [List.length_range] at l3
    have bl := bestL_len (W := W) t t.length
    dsimp only
    refine dn_ret (de_ixLN (k := t.length) (dl_adr (de_var rfl) l3) (de_lenS (de_var rfl) (by omega)) ?_) (k.ex x3)
    unfold leastOf
    rw [List.getElem?_map, List.getD_eq_getElem?_getD, List.getElem?_eq_getElem (by omega)]
    rfl
end
end GC

-- part RD9
set_option Elab.async false
set_option linter.all false
set_option maxRecDepth 100000
set_option maxHeartbeats 4000000
namespace GC
open PySem PySem.Spec PyProof.Rows L2
section
variable {P : Program} {w : World} {K : PySem.W.Frag} {mg : Str → Option Value} {base : Heap}
/-! _law_all_texts -/
def R_law_all_texts : List D → List D → Prop := fun ds es => ∃ W, ds = [encW W, .int 3] ∧ es = (allT W 3).map D.str ∧ Wd W
theorem rowsK_le {W : WL} (hW : Wd W) {k : Nat} (hk : k ≤ 3) : (rowsK W k).length ≤ 512 := by
  rw [rowsK_len]
  exact Nat.le_trans (Nat.pow_le_pow_left hW.letters_len k) (Nat.le_trans (Nat.pow_le_pow_right (by omega) hk) (by decide))
theorem rowsK_le2 {W : WL} (hW : Wd W) {k : Nat} (hk : k ≤ 2) : (rowsK W k).length ≤ 64 := by
  rw [rowsK_len]
  exact Nat.le_trans (Nat.pow_le_pow_left hW.letters_len k) (Nat.le_trans (Nat.pow_le_pow_right (by omega) hk) (by decide))
theorem allT_le {W : WL} (hW : Wd W) : ∀ k, k ≤ 3 → (allT W k).length ≤ 512 * (k + 1)
  | 0, _ => by show 1 ≤ _; omega
  | k + 1, h => by
    have := allT_le hW k (by omega)
    have := rowsK_le hW h
    show (allT W k ++ rowsK W (k + 1)).length ≤ _
    rw [List.length_append]
    omega
def EA (W : WL) (s : Nat × Addr × Addr) : List (Option D) := [some (encW W), some (.int 3), some (.adr s.2.1), some (.adr s.2.2), none, none, none, none]
def EA2 (W : WL) (r f : Addr) (s : Nat × Addr) : List (Option D) := [some (encW W), some (.int 3), some (.adr r), some (.adr f), none, some (.adr s.2), none, none]
def GA (W : WL) (s : Nat × Addr × Addr) (H : Hp) : Prop := LstAt H s.2.1 ((rowsK W s.1).map D.str) ∧ LstAt H s.2.2 ((allT W s.1).map D.str)
def accK (W : WL) (l : List Tx) : List Tx := l.flatMap fun r => (letters W).map fun x => r ++ [x]
theorem accK_len (W : WL) (l : List Tx) : (accK W l).length = l.length * (letters W).length := flatMap_len _ _ _ fun r _ => by rw [List.length_map]
theorem okf_law_all_texts (hd : Hd K mg) : OkA P w K mg base 2 (He.ga K "_law_all_texts") ["_law_words_here", "_law_most"] (spL R_law_all_texts) := by
  refine ok__law_all_texts hd (okf_law_letters hd) (len_L ?_) (rd_L ?_)
  · rintro ds d ⟨W, rfl, _⟩; rfl
  rintro ds d ⟨W, rfl, rfl, hW⟩ E H k
  have hl8 := hW.letters_len
  refine dn_seq (dn_asgL (dl_lst (da_cons de_empty da_nil) (by simp)) fun r H1 nr x1 lr => dn_seq (dn_asgL (dl_lst (da_cons de_empty da_nil) (by simp)) fun f H2 nf x2 lf => dn_seq ?_))
  refine dn_forG (Hb := H) (τ := Nat × Addr × Addr) [] (List.range 3) (fun k => D.int (k : Nat)) (fun x => dg_name) (fun i s => s.1 = i ∧ H s.2.2 = none) (EA W) (GA W) (0, r, f) (di_rngN (n := 3) (de_var rfl) (by omega)) (x1.trans x2) (fun m hm => by cases hm) (fun s H3 H4 l x => ⟨l.1.ex x, l.2.ex x⟩) ⟨rfl, x1.fresh nf⟩ (Wk.refl _) ⟨lr.ex x2, lf⟩ ?_ ?_
  · rintro Hh xh hM i y ⟨j, r, f⟩ hy ⟨rfl, nf⟩ H3 x3 ⟨lr, lf⟩
    have nf : H f = none := nf
    have lr : LstAt H3 r ((rowsK W j).map D.str) := lr
    have lf : LstAt H3 f ((allT W j).map D.str) := lf
    have hj : j < 3 := by
      have := (List.getElem?_eq_some_iff.mp hy).1
      rwa [List.length_range] at this
    have b1 := rowsK_le2 hW (show j ≤ 2 by omega)
    have b2 := allT_le hW j (by omega)
    have b3 := rowsK_le hW (show j + 1 ≤ 3 by omega)
    refine dn_seq (dn_asgL (dl_lst da_nil (by simp)) fun g H4 ng x4 lg => dn_seq ?_)
    have lr4 := lr.ex x4
    refine dn_forG (Hb := H4) (τ := Nat × Addr) [] (rowsK W j) D.str (fun x => dg_name) (fun i s => s.1 = i) (EA2 W r f) (fun s H' => LstAt H' s.2 ((accK W ((rowsK W j).take s.1)).map D.str)) (0, g) (di_lst (de_var rfl) lr4) (Ex.refl _) (fun m hm => by cases hm) (fun s H3 H4 l x => l.ex x) rfl (wk_same (wk_same (wk_same (wk_same (wk_none (wk_same (wk_none (wk_none wk_nil)))))))) lg ?_ ?_
    · rintro Hi xi hM2 i row ⟨n, g⟩ hrow rfl H5 x5 lg
      have lg : LstAt H5 g ((accK W ((rowsK W j).take n)).map D.str) := lg
      have hn := (List.getElem?_eq_some_iff.mp hrow).1
      have rl : row.length = j := (rowsK_mem j (List.mem_of_getElem? hrow)).2
      have al := accK_len W ((rowsK W j).take n)
      rw [List.length_take] at al
      have am : min n (rowsK W j).length * (letters W).length ≤ 64 * 8 := Nat.mul_le_mul (by omega) hl8
      refine dn_asgL (DLn.is (dl_cat (dl_adr (de_var rfl) lg) (lc_M (letters W) (fun x => D.str [x]) (f := fun x => .str (row ++ [x])) (js := [7]) (di_lstN (dl_call (da_cons (de_var rfl) da_nil) ⟨W, rfl, rfl, hW⟩)) (fun x => dg_name) (by simp) (by omega) fun x hx => de_cat (de_var rfl) (de_var rfl) (small_line (by simp; omega))).dl (by rw [List.length_map, List.length_map]; omega)) (show _ = (accK W ((rowsK W j).take (n + 1))).map D.str from ?_)) fun g' H6 ng' x6 lg' => ?_
      · rw [List.take_succ, hrow, Option.toList_some]
        unfold accK
        rw [List.flatMap_append, List.map_append]
        congr 1
        rw [List.flatMap_cons, List.flatMap_nil, List.append_nil, List.map_map]
        rfl
      · exact dn_turn (P := fun s => s.1 = n + 1) (env := EA2 W r f) (G := fun s H' => LstAt H' s.2 ((accK W ((rowsK W j).take s.1)).map D.str)) (n + 1, g') rfl (wk_same (wk_same (wk_same (wk_same (wk_none (wk_same (wk_none (wk_none wk_nil)))))))) (x5.trans x6) lg' (fun s H3 H4 l x => l.ex x)
    · rintro ⟨n, g⟩ hn H5 x5 lg
      have hn : n = (rowsK W j).length := hn
      subst hn
      have lg : LstAt H5 g ((accK W ((rowsK W j).take (rowsK W j).length)).map D.str) := lg
      rw [List.take_length] at lg
      have lg : LstAt H5 g ((rowsK W (j + 1)).map D.str) := lg
      have lf5 := lf.ex (x4.trans x5)
      dsimp only
      refine dn_seq (dn_asg (de_var rfl) (dn_asgL (dl_cat (dl_adr (de_var rfl) lf5) (dl_adr (de_var rfl) lg) (by rw [List.length_map, List.length_map]; omega)) fun f' H6 nf' x6 lf' => ?_))
      refine dn_turn (P := fun s : Nat × Addr × Addr => s.1 = j + 1 ∧ H s.2.2 = none) (env := EA W) (G := GA W) (j + 1, g, f') ⟨rfl, xh.fresh (x3.fresh (x4.fresh (x5.fresh nf')))⟩ (wk_same (wk_same (wk_same (wk_same (wk_none (wk_none (wk_none (wk_none wk_nil)))))))) (x3.trans (x4.trans (x5.trans x6))) ⟨lg.ex x6, ?_⟩ (fun s H3 H4 l x => ⟨l.1.ex x, l.2.ex x⟩)
      rw [← List.map_append] at lf'
      exact lf'
  · rintro ⟨j, r, f⟩ ⟨hj, nf⟩ H3 x3 ⟨lr, lf⟩
    have hj : j = 3 := hj
    subst hj
    dsimp only
    exact dn_retA (de_var rfl) nf x3 lf k
end
end GC

-- part RD9b
set_option Elab.async false
set_option linter.all false
set_option maxRecDepth 100000
set_option maxHeartbeats 4000000
namespace GC
open PySem PySem.Spec PyProof.Rows L2
section
variable {P : Program} {w : World} {K : PySem.W.Frag} {mg : Str → Option Value} {base : Heap}
section
variable {H : Hp} {ρ : List (Option D)} {ta : TE}
theorem de_isNI {n : Int} (ha : DE ta H ρ (.int n)) : DE (tOp rIsN ta (tC .non)) H ρ (.bl false) := de_isN ha
theorem de_isNP {ds : List D} (ha : DE ta H ρ (.tup ds)) : DE (tOp rIsN ta (tC .non)) H ρ (.bl false) := de_isN ha
theorem de_isNA {a : Addr} (ha : DE ta H ρ (.adr a)) : DE (tOp rIsN ta (tC .non)) H ρ (.bl false) := de_isN ha
end
def R_eq1 : List D → D → Prop := fun ds d => ∃ n : Int, ds = [.int n, .int n] ∧ d = .bl true
def R_eq2 : List D → D → Prop := fun ds d => ((∃ n : Int, ds = [.int n, .int n]) ∨ ∃ a b : Int, ds = [encRat a b, encRat a b]) ∧ d = .bl true
theorem okf_eq0 (hd : Hd K mg) : OkA P w K mg base 1 (He.ga K "_law_equal") ["_law_actual", "_law_due"] (spD fun _ _ => False) := by
  obtain ⟨fd, F⟩ := fun__law_equal hd
  refine ok_mk (t := fun _ _ _ => False) F sc__law_equal (F.bindsN fun _ _ _ _ _ _ us hl => match us, hl with | [_, _], _ => rfl) (fun vs H Q E z => ?_) (fun vs H Q E z => ?_) fun cdv A outer s H E hr => ⟨fun pins s σ H D I h => h.elim⟩
  · obtain ⟨ds, d, _, h, _⟩ := z; exact h.elim
  · obtain ⟨ds, d, _, h, _⟩ := z; exact h.elim
theorem okf_eq1 (hd : Hd K mg) : OkA P w K mg base 2 (He.ga K "_law_equal") ["_law_actual", "_law_due"] (spD R_eq1) := by
  refine ok_eqT (Nat.le_refl _) hd (okf_law_is_integer hd) (okf_eq0 hd) (len_D ?_) (rd_D ?_)
  · rintro ds d ⟨n, rfl, _⟩; rfl
  rintro ds d ⟨n, rfl, rfl⟩ E H k
  unfold t_eqT
  refine dn_seq ?_
  refine dn_ifF (dt_test (de_isNI (n := n) (de_var rfl))) ?_
  refine dn_next ?_
  dsimp only
  refine dn_seq ?_
  refine dn_ifF (dt_B (de_isF (n := "int") (d := .int n) (de_var rfl) rfl (by rfl))) ?_
  refine dn_next ?_
  dsimp only
  refine dn_seq ?_
  refine dn_ifT (dt_B (de_isT (n := "int") (d := .int n) (de_var rfl) rfl (by rfl))) ?_
  refine dn_ret (DE.is (d := .bl (true && decide (n = n))) (de_andV (de_call (da_cons (de_var rfl) da_nil) ⟨n, rfl, rfl⟩) fun _ => de_eqI (de_var rfl) (de_var rfl)) ?_) k
  simp
end
end GC

-- part RD9c
set_option Elab.async false
set_option linter.all false
set_option maxRecDepth 100000
set_option maxHeartbeats 4000000
namespace GC
open PySem PySem.Spec PyProof.Rows L2
section
variable {P : Program} {w : World} {K : PySem.W.Frag} {mg : Str → Option Value} {base : Heap}
theorem okf_eq2 (hd : Hd K mg) : OkA P w K mg base 3 (He.ga K "_law_equal") ["_law_actual", "_law_due"] (spD R_eq2) := by
  refine ok_eqT (by omega) hd (okf_law_is_integer hd) (okf_eq1 hd) (len_D ?_) (rd_D ?_)
  · rintro ds d ⟨⟨n, rfl⟩ | ⟨a, b, rfl⟩, _⟩ <;> rfl
  rintro ds d ⟨h, rfl⟩ E H k
  unfold t_eqT
  refine dn_seq ?_
  rcases h with ⟨n, rfl⟩ | ⟨a, b, rfl⟩
  · refine dn_ifF (dt_test (de_isNI (n := n) (de_var rfl))) ?_
    refine dn_next ?_
    dsimp only
    refine dn_seq ?_
    refine dn_ifF (dt_B (de_isF (n := "int") (d := .int n) (de_var rfl) rfl (by rfl))) ?_
    refine dn_next ?_
    dsimp only
    refine dn_seq ?_
    refine dn_ifT (dt_B (de_isT (n := "int") (d := .int n) (de_var rfl) rfl (by rfl))) ?_
    refine dn_ret (DE.is (d := .bl (true && decide (n = n))) (de_andV (de_call (da_cons (de_var rfl) da_nil) ⟨n, rfl, rfl⟩) fun _ => de_eqI (de_var rfl) (de_var rfl)) ?_) k
    simp
  · refine dn_ifF (dt_test (de_isNP (ds := [.int a, .int b]) (de_var rfl))) ?_
    refine dn_next ?_
    dsimp only
    refine dn_seq ?_
    refine dn_ifF (dt_B (de_isF (n := "tuple") (d := encRat a b) (de_var rfl) rfl (by rfl))) ?_
    refine dn_next ?_
    dsimp only
    refine dn_seq ?_
    refine dn_ifF (dt_B (de_isF (n := "tuple") (d := encRat a b) (de_var rfl) rfl (by rfl))) ?_
    refine dn_next ?_
    dsimp only
    refine dn_seq ?_
    refine dn_ifF (dt_B (de_isF (n := "tuple") (d := encRat a b) (de_var rfl) rfl (by rfl))) ?_
    refine dn_next ?_
    dsimp only
    refine dn_seq ?_
    refine dn_ifF (DT.is (dt_and (a := true) (b := false) (dt_B (de_isT (n := "tuple") (d := encRat a b) (de_var rfl) rfl (by rfl))) fun _ => dt_notF (dt_B (de_isT (n := "tuple") (d := encRat a b) (de_var rfl) rfl (by rfl)))) rfl) ?_
    refine dn_next ?_
    dsimp only
    refine dn_seq ?_
    refine dn_ifF (DT.is (dt_and (a := false) (b := false) (dt_B (de_isF (n := "tuple") (d := encRat a b) (de_var rfl) rfl (by rfl))) fun z => by cases z) rfl) ?_
    refine dn_next ?_
    dsimp only
    refine dn_seq ?_
    refine dn_ifF (dt_test (DE.is (de_neI (de_lenT (ds := [.int a, .int b]) (de_var rfl)) (de_lenT (ds := [.int a, .int b]) (de_var rfl))) rfl)) ?_
    refine dn_next ?_
    dsimp only
    refine dn_ret (DE.is (de_allM (List.range 2) (fun _ => true) (lc_M (List.range 2) (fun k => D.int (k : Nat)) (js := [2]) (di_rngN (n := 2) (de_lenT (ds := [.int a, .int b]) (de_var rfl)) (by omega)) (fun x => dg_name) (by simp) (by simp) fun i hi => ?_)) rfl) k
    rw [List.mem_range] at hi
    have hi : i = 0 ∨ i = 1 := by omega
    rcases hi with rfl | rfl
    · exact de_call (da_cons (de_ixTN (k := 0) (ds := [.int a, .int b]) (de_var rfl) (de_var rfl) rfl) (da_cons (de_ixTN (k := 0) (ds := [.int a, .int b]) (de_var rfl) (de_var rfl) rfl) da_nil)) ⟨a, rfl, rfl⟩
    · exact de_call (da_cons (de_ixTN (k := 1) (ds := [.int a, .int b]) (de_var rfl) (de_var rfl) rfl) (da_cons (de_ixTN (k := 1) (ds := [.int a, .int b]) (de_var rfl) (de_var rfl) rfl) da_nil)) ⟨b, rfl, rfl⟩
end
end GC

-- part RD9d
set_option Elab.async false
set_option linter.all false
set_option maxRecDepth 100000
set_option maxHeartbeats 4000000
namespace GC
open PySem PySem.Spec PyProof.Rows L2
section
variable {P : Program} {w : World} {K : PySem.W.Frag} {mg : Str → Option Value} {base : Heap}
def R_law_equal : Hp → List D → VK → Prop := fun H ds Q => ∃ p q, ∃ a b c : Int, ds = [.adr p, .adr q] ∧ LstAt H p [encRat a b, .int c] ∧ LstAt H q [encRat a b, .int c] ∧ ∀ v H', Ex H H' → Rp H' (.bl true) v → Q v H'
section
variable {H : Hp} {ρ : List (Option D)} {te ta tb : TE}
theorem de_isiA {a : Addr} {ds : List D} {b : Bool} {m : String} (h : DE te H ρ (.adr a)) (l : LstAt H a ds) (hk : PySem.W.kitOne K (.type "list") (.type m) = some b) : DE (tCB (rIsi K) (tCons te (tCons (tC (.ty m)) tNil))) H ρ (.bl b) := de_isiL (dl_adr h l) hk
end
theorem okf_law_equal (hd : Hd K mg) : OkA P w K mg base 4 (He.ga K "_law_equal") ["_law_actual", "_law_due"] (spG R_law_equal) := by
  refine ok_eqL (by omega) hd (okf_law_is_integer hd) (okf_eq2 hd) (len_G ?_) (rd_G ?_)
  · rintro H ds Q ⟨p, q, a, b, c, rfl, _⟩; rfl
  rintro ds H Q ⟨p, q, a, b, c, rfl, lp, lq, k⟩
  unfold t__law_equal
  refine dn_seq ?_
  refine dn_ifF (dt_test (de_isNA (a := q) (de_var rfl))) ?_
  refine dn_next ?_
  dsimp only
  refine dn_seq ?_
  refine dn_ifF (dt_B (de_isiA (a := q) (de_var rfl) lq (by rfl))) ?_
  refine dn_next ?_
  dsimp only
  refine dn_seq ?_
  refine dn_ifF (dt_B (de_isiA (a := q) (de_var rfl) lq (by rfl))) ?_
  refine dn_next ?_
  dsimp only
  refine dn_seq ?_
  refine dn_ifF (dt_B (de_isiA (a := q) (de_var rfl) lq (by rfl))) ?_
  refine dn_next ?_
  dsimp only
  refine dn_seq ?_
  refine dn_ifF (DT.is (dt_and (a := false) (b := false) (dt_B (de_isiA (a := q) (de_var rfl) lq (by rfl))) fun z => by cases z) rfl) ?_
  refine dn_next ?_
  dsimp only
  refine dn_seq ?_
  refine dn_ifF (DT.is (dt_and (a := true) (b := false) (dt_B (de_isiA (a := q) (de_var rfl) lq (by rfl))) fun _ => dt_notF (dt_B (de_isiA (a := p) (de_var rfl) lp (by rfl)))) rfl) ?_
  refine dn_next ?_
  dsimp only
  refine dn_seq ?_
  refine dn_ifF (dt_test (DE.is (de_neI (de_lenL (dl_adr (a := p) (de_var rfl) lp)) (de_lenL (dl_adr (a := q) (de_var rfl) lq))) rfl)) ?_
  refine dn_next ?_
  dsimp only
  refine dn_ret (DE.is (de_allM (List.range 2) (fun _ => true) (lc_M (List.range 2) (fun k => D.int (k : Nat)) (js := [2]) (di_rngN (n := 2) (de_lenL (dl_adr (a := q) (de_var rfl) lq)) (by omega)) (fun x => dg_name) (by simp) (by simp) fun i hi => ?_)) rfl) k
  rw [List.mem_range] at hi
  have hi : i = 0 ∨ i = 1 := by omega
  rcases hi with rfl | rfl
  · exact de_call (da_cons (de_ixLN (k := 0) (dl_adr (a := p) (de_var rfl) lp) (de_var rfl) rfl) (da_cons (de_ixLN (k := 0) (dl_adr (a := q) (de_var rfl) lq) (de_var rfl) rfl) da_nil)) ⟨.inr ⟨a, b, rfl⟩, rfl⟩
  · exact de_call (da_cons (de_ixLN (k := 1) (dl_adr (a := p) (de_var rfl) lp) (de_var rfl) rfl) (da_cons (de_ixLN (k := 1) (dl_adr (a := q) (de_var rfl) lq) (de_var rfl) rfl) da_nil)) ⟨.inl ⟨c, rfl⟩, rfl⟩
end
end GC

-- part RD10
set_option Elab.async false
set_option linter.all false
set_option maxRecDepth 100000
set_option maxHeartbeats 4000000
namespace GC
open PySem PySem.Spec PyProof.Rows L2
section
variable {H H' : Hp} {ρ ρ' : List (Option D)} {K : PySem.W.Frag} {te ta tb : TE} {t : TT} {t1 t2 : TS} {E : Ends} {a b : Bool}
theorem dn_wk {p : L2.St → Hp → Prop} (w : Wk ρ' ρ) (h : DN p H ρ') : DN p H ρ := fun σ H1 x n => h σ H1 x (n.wk w)
/-- an if whose two ends meet -/
theorem dn_ifJ {τ : Type} (J : τ → Hp → Prop) (env : τ → List (Option D)) (h : DT t H ρ a) (post : ∀ s H', J s H' → DN E.nx H' (env s)) (h1 : a = true → (∀ s H', J s H' → DN E.nx H' (env s)) → DN (t1 E) H ρ) (h2 : a = false → (∀ s H', J s H' → DN E.nx H' (env s)) → DN (t2 E) H ρ) : DN (tIfS t t1 t2 E) H ρ :=
  dn_if h (fun e => h1 e post) fun e => h2 e post
theorem sql_ex {p : Addr} {xs : List V} (h : SqL K H p xs) (e : Ex H H') : SqL K H' p xs := h.elim (fun h => .inl (h.elim (fun h => .inl (e _ _ h)) fun ⟨o, h⟩ => .inr ⟨o, e _ _ h⟩)) fun h => .inr h
theorem rps_ints (H : Hp) : ∀ ns : List Int, Rps H (ns.map D.int) (ns.map V.int)
  | [] => rfl
  | n :: ns => ⟨.int n, ns.map V.int, rfl, rfl, rps_ints H ns⟩
theorem dl_listOf {p : Addr} {ns : List Int} (h : DE ta H ρ (.adr p)) (l : SqL K H p (ns.map V.int)) : DLn (tCB (rListOf K) (tCons ta tNil)) H ρ (ns.map D.int) := fun σ H1 x n Q q => h σ H1 x n _ fun v H2 y r => by
  have r : v = .ref p := r
  subst r
  exact ⟨p, _, rfl, .inl (sql_ex l (x.trans y)), fun c hc => q c _ (y.fresh hc) (y.trans (Ex.new hc)) ⟨_, upd_same, rps_ints _ ns⟩⟩
/-- the stream: the script's numbers, the cell, the place -/
def StrAt (H : Hp) (a : Addr) : Prop := ∃ b, ∃ ns : List Int, ∃ c : Int, ∃ k : Nat, LstAt H a [.adr b, .int c, .int (k : Int)] ∧ LstAt H b (ns.map D.int) ∧ 0 ≤ c ∧ a ≠ b
theorem StrAt.ex {a : Addr} (h : StrAt H a) (x : Ex H H') : StrAt H' a := by
  obtain ⟨b, ns, c, k, h1, h2, h3, h4⟩ := h
  exact ⟨b, ns, c, k, h1.ex x, h2.ex x, h3, h4⟩
theorem StrAt.nt {a : Addr} (h : StrAt H a) : ∀ vs, H a ≠ some (.tup vs) := by
  obtain ⟨b, ns, c, k, h1, _⟩ := h
  exact h1.nt
theorem StrAt.ob {a : Addr} (h : StrAt H a) : ∃ o, H a = some o ∧ ∀ vs, o ≠ .tup vs := by
  obtain ⟨b, ns, c, k, ⟨vs, h1, _⟩, _⟩ := h
  exact ⟨_, h1, fun us z => by cases z⟩
theorem StrAt.exB {a f : Addr} {m : List (Tx × Int)} (h : StrAt H a) (d : DkAt H f m) (x : ExB f H H') : StrAt H' a := by
  obtain ⟨b, ns, c, k, h1, h2, h3, h4⟩ := h
  have tt : TEx H H' := ExB.tex x (dict_tex d fun vs z => by cases z)
  have n1 : a ≠ f := fun e => by subst e; obtain ⟨vs, e, _⟩ := h1; rw [d] at e; cases e
  have n2 : b ≠ f := fun e => by subst e; obtain ⟨vs, e, _⟩ := h2; rw [d] at e; cases e
  exact ⟨b, ns, c, k, h1.exB x n1 tt, h2.exB x n2 tt, h3, h4⟩
theorem DkAt.exS {a f : Addr} {m : List (Tx × Int)} (h : DkAt H f m) (s : StrAt H a) (x : ExB a H H') : DkAt H' f m := x _ _ (fun e => by
  obtain ⟨b, ns, c, k, ⟨vs, e1, _⟩, _⟩ := s
  subst e
  rw [h] at e1; cases e1) h
/-- a number out of the stream -/
def SEn (te : TE) (a : Addr) (ρ : List (Option D)) (lo hi : Nat) : Prop := ∀ σ H1, StrAt H1 a → EnvD H1 σ ρ → ∀ Q : VK, (∀ (v : Nat) H2, lo ≤ v → v < hi → ExB a H1 H2 → StrAt H2 a → Q (.int (v : Int)) H2) → te σ H1 Q
theorem dn_pull {a : Addr} {lo hi : Nat} {p : V → L2.St → Hp → Prop} (h : SEn te a ρ lo hi) (s : StrAt H a) (k : ∀ (v : Nat) H', lo ≤ v → v < hi → ExB a H H' → StrAt H' a → DN (p (.int (v : Int))) H' ρ) : DN (fun σ H => te σ H fun v H1 => p v σ H1) H ρ := fun σ H1 x n =>
  h σ H1 (s.ex x) n _ fun v H2 l u xb s2 => k v H2 l u ((ExB.of x).trans xb) s2 σ H2 (Ex.refl _) (n.mono (ExB.tex xb (s.ex x).nt))
end
section
variable {P : Program} {w : World} {K : PySem.W.Frag} {mg : Str → Option Value} {base : Heap}
/-! _law_stream -/
def R_law_stream (K : PySem.W.Frag) : Hp → List D → VK → Prop := fun H ds Q => ∃ p, ∃ ns : List Int, ds = [.adr p] ∧ SqL K H p (ns.map V.int) ∧ ∀ a H', H a = none → Ex H H' → StrAt H' a → Q (.ref a) H'
theorem okf_law_stream (hd : Hd K mg) : OkA P w K mg base 1 (He.ga K "_law_stream") ["_law_script"] (spG (R_law_stream K)) := by
  refine ok__law_stream hd (len_G ?_) (rd_G ?_)
  · rintro H ds Q ⟨p, ns, rfl, _⟩; rfl
  rintro ds H Q ⟨p, ns, rfl, l, k⟩
  intro σ H1 x n
  refine dl_listOf (de_var rfl) l σ H1 x n _ fun b H2 nb y lb => ?_
  refine ⟨small_line (by simp), fun c hc => k c _ (x.fresh (y.fresh hc)) ((x.trans y).trans (Ex.new hc)) ⟨b, ns, 0, 0, ⟨_, upd_same, ?_⟩, lb.ex (Ex.new hc), Int.le_refl _, fun e => ?_⟩⟩
  · exact ⟨.ref b, _, rfl, rfl, .int 0, _, rfl, rfl, .int 0, [], rfl, rfl, rfl⟩
  · subst e
    obtain ⟨vs, e1, _⟩ := lb
    rw [hc] at e1; cases e1
/-! _law_next -/
def R_law_next : Hp → List D → VK → Prop := fun H ds Q => ∃ a, ∃ m : Nat, ds = [.adr a, .int (m : Int)] ∧ StrAt H a ∧ 0 < m ∧ m ≤ 1000 ∧ ∀ (v : Nat) H', v < m → ExB a H H' → StrAt H' a → Q (.int (v : Int)) H'
theorem okf_law_next (hd : Hd K mg) : OkA P w K mg base 1 (He.ga K "_law_next") ["_law_stream_here", "_law_many"] (spG R_law_next) := by
  refine ok__law_next hd (len_G ?_) (rd_G ?_)
  · rintro H ds Q ⟨p, m, rfl, _⟩; rfl
  rintro ds H Q ⟨a, m, rfl, ⟨b, ns, c, k, la, lb, c0, ne⟩, hm0, hm1, q⟩
  unfold t__law_next
  refine dn_seq (dn_ifJ (τ := Int × Nat) (fun s H' => ExB a H H' ∧ LstAt H' a [.adr b, .int s.1, .int (s.2 : Int)] ∧ LstAt H' b (ns.map D.int) ∧ 0 ≤ s.1) (fun _ => [some (.adr a), some (.int (m : Int)), none, none, none]) (dt_test (de_eqI (de_ixLN (k := 1) (dl_adr (de_var rfl) la) de_int rfl) de_int)) ?_ ?_ ?_)
  · rintro ⟨c, k⟩ H' ⟨xb, la, lb, c0⟩
    have la : LstAt H' a [.adr b, .int c, .int (k : Int)] := la
    have c0 : 0 ≤ c := c0
    dsimp only
    refine dn_seq (dn_asg (de_mod (de_int1 (de_ixLN (k := 1) (dl_adr (de_var rfl) la) de_int rfl)) (de_var rfl) (by omega)) (dn_seq (dn_setI (k := 1) (de_fdiv (de_ixLN (k := 1) (dl_adr (de_var rfl) la) de_int rfl) (de_var rfl) ⟨by omega, by omega⟩) (de_var rfl) de_int la (by simp) fun H2 xb2 la2 => ?_)))
    have la2 : LstAt H2 a [.adr b, .int (c / (m : Int)), .int (k : Int)] := la2
    have tt : TEx H' H2 := ExB.tex xb2 la.nt
    have cd : 0 ≤ c / (m : Int) := Int.ediv_nonneg c0 (by omega)
    have c1 : 0 ≤ c % (m : Int) := Int.emod_nonneg _ (by omega)
    have c2 : c % (m : Int) < m := Int.emod_lt_of_pos _ (by omega)
    obtain ⟨d, hdv⟩ := Int.eq_ofNat_of_zero_le c1
    rw [hdv] at c2 ⊢
    refine dn_ret (de_var rfl) fun v H3 x3 r => ?_
    have r : v = .int (d : Int) := r
    subst r
    exact q d H3 (by omega) ((xb.trans xb2).trans (ExB.of x3)) ⟨b, ns, _, k, la2.ex x3, ((lb.exB xb2 (Ne.symm ne) tt).ex x3), cd, ne⟩
  · intro hc post
    refine dn_seq (dn_asg (de_ixLN (k := 2) (dl_adr (de_var rfl) la) de_int rfl) (dn_seq (dn_asg (de_add de_int (de_var rfl)) (dn_seq ?_))))
    refine dn_ifJ (τ := Int) (fun v H' => H' = H ∧ 0 ≤ v) (fun v => [some (.adr a), some (.int (m : Int)), some (.int (k : Int)), some (.int v), none]) (dt_test (DE.is (de_cmpI (g := fun i j => decide (i < j)) (de_var rfl) (de_lenL (dl_adr (de_ixLN (k := 0) (dl_adr (de_var rfl) la) de_int rfl) lb))) (by rw [nat_lt_dec]))) ?_ ?_ ?_
    · rintro v H' ⟨rfl, v0⟩
      dsimp only
      refine dn_seq (dn_ifJ (τ := Int) (fun v H'' => H'' = H' ∧ 0 ≤ v) (fun v => [some (.adr a), some (.int (m : Int)), some (.int (k : Int)), some (.int v), none]) (dt_test (de_cmpI (g := fun i j => decide (i < j)) (de_var rfl) (de_pow de_int de_int (by unfold CPow; decide)))) ?_ ?_ ?_)
      · rintro u H'' ⟨rfl, u0⟩
        dsimp only
        refine dn_seq (dn_setI (k := 1) (de_var rfl) (de_var rfl) de_int la (by simp) fun H2 xb2 la2 => ?_)
        have la2 : LstAt H2 a [.adr b, .int u, .int (k : Int)] := la2
        have lb2 := lb.exB xb2 (Ne.symm ne) (ExB.tex xb2 la.nt)
        refine dn_setI (k := 2) (de_addN (de_var rfl) (de_nat 1 rfl)) (de_var rfl) de_int la2 (by simp) fun H3 xb3 la3 => ?_
        have la3 : LstAt H3 a [.adr b, .int u, .int ((k + 1 : Nat) : Int)] := la3
        exact dn_wk (wk_same (wk_same (wk_none (wk_none (wk_same wk_nil))))) (post (u, k + 1) H3 ⟨xb2.trans xb3, la3, lb2.exB xb3 (Ne.symm ne) (ExB.tex xb3 la2.nt), u0⟩)
      · intro _ post2
        refine dn_seq (dn_asg (de_mod (de_int1 (de_add (de_add (de_mul (de_var rfl) de_int (cmul_r (by omega) (by omega))) (de_mul (de_var rfl) de_int (cmul_r (by omega) (by omega)))) de_int)) de_int (by omega)) (dn_asg (de_add (de_mul (de_mod (de_int1 (de_add (de_mul (de_var rfl) de_int (cmul_r (by omega) (by omega))) de_int)) de_int (by omega)) de_int (cmul_r (by omega) (by omega))) (de_var rfl)) ?_))
        refine post2 _ H' ⟨rfl, ?_⟩
        have e1 : ∀ z : Int, 0 ≤ z % 2147483647 := fun z => Int.emod_nonneg _ (by omega)
        have e2 := e1 (v * 48271 + (k : Int) * 69621 + 11)
        have e3 := e1 ((v * 48271 + (k : Int) * 69621 + 11) % 2147483647 * 16807 + 13)
        omega
      · intro _ post2
        exact dn_next (post2 v H' ⟨rfl, v0⟩)
    · intro hk post2
      have hk : k < ns.length := by
        have := of_decide_eq_true hk
        rwa [List.length_map] at this
      refine dn_asg (de_abs (i := ns[k]) (de_ixLN (k := k) (dl_adr (de_ixLN (k := 0) (dl_adr (de_var rfl) la) de_int rfl) lb) (de_var rfl) ?_)) (post2 _ H ⟨rfl, ?_⟩)
      · rw [List.getElem?_map, List.getElem?_eq_getElem hk]; rfl
      · split <;> omega
    · intro _ post2
      exact dn_next (post2 _ H ⟨rfl, by omega⟩)
  · intro _ post
    exact dn_next (dn_wk (Wk.refl _) (post (c, k) H ⟨ExB.of (Ex.refl _), la, lb, c0⟩))
end
end GC

-- part RD11
set_option Elab.async false
set_option linter.all false
set_option maxRecDepth 100000
set_option maxHeartbeats 4000000
namespace GC
open PySem PySem.Spec PyProof.Rows L2
section
variable {H H' : Hp} {ρ ρ' : List (Option D)} {K : PySem.W.Frag} {te ta tb tm : TE} {E : Ends} {a : Addr}
theorem se_next {m : Nat} (h0 : ρ[0]? = some (some (.adr a))) (hm : ∀ H, DE tm H ρ (.int (m : Int))) (m0 : 0 < m) (m1 : m ≤ 1000) : SEn (tCall (spG R_law_next) [] E0 (tCons (tVar 0) (tCons tm tNil))) a ρ 0 m := fun σ H1 s n Q q =>
  (da_cons (de_var h0) (da_cons (hm H1) da_nil)) σ H1 (Ex.refl _) n _ fun vs H2 y r => by
    rw [List.append_nil]
    exact ⟨_, r, a, m, rfl, s.ex y, m0, m1, fun v H' hv x s' => q v H' (Nat.zero_le _) hv ((ExB.of y).trans x) s'⟩
end
section
variable {P : Program} {w : World} {K : PySem.W.Frag} {mg : Str → Option Value} {base : Heap}
/-! _law_cost -/
def R_law_cost : Hp → List D → VK → Prop := fun H ds Q => ∃ a, ds = [.adr a] ∧ StrAt H a ∧ ∀ (v : Nat) H', 1 ≤ v → v < 10 → ExB a H H' → StrAt H' a → Q (.int (v : Int)) H'
theorem okf_law_cost (hd : Hd K mg) : OkA P w K mg base 2 (He.ga K "_law_cost") ["_law_stream_here"] (spG R_law_cost) := by
  refine ok__law_cost hd (okf_law_next hd) (len_G ?_) (rd_G ?_)
  · rintro H ds Q ⟨p, rfl, _⟩; rfl
  rintro ds H Q ⟨a, rfl, s, q⟩
  intro σ H1 x n
  have s1 := s.ex x
  have n3 : SEn (tCall (spG R_law_next) [] E0 (tCons (tVar 0) (tCons (tC (.int 3)) tNil))) a [some (.adr a)] 0 3 := se_next rfl (fun _ => de_nat 3 rfl) (by omega) (by omega)
  have n9 : SEn (tCall (spG R_law_next) [] E0 (tCons (tVar 0) (tCons (tC (.int 9)) tNil))) a [some (.adr a)] 0 9 := se_next rfl (fun _ => de_nat 9 rfl) (by omega) (by omega)
  have n4 : SEn (tCall (spG R_law_next) [] E0 (tCons (tVar 0) (tCons (tC (.int 4)) tNil))) a [some (.adr a)] 0 4 := se_next rfl (fun _ => de_nat 4 rfl) (by omega) (by omega)
  refine n3 σ H1 s1 n _ fun v3 H2 _ l3 x2 s2 => ⟨1, (v3 : Int), rfl, rfl, ?_⟩
  have m2 := n.mono (ExB.tex x2 s1.nt)
  refine n9 σ H2 s2 m2 _ fun v9 H3 _ l9 x3 s3 => ⟨1, (v9 : Int), rfl, rfl, small_line (by simp), fun p hp => ?_⟩
  have m3 := m2.mono (ExB.tex x3 s2.nt)
  have s4 : StrAt (upd H3 p (.lst [.int 1, .int 1, .int (1 + (v3 : Int)), .int (1 + (v9 : Int))])) a := s3.ex (Ex.new hp)
  have lp : LstAt (upd H3 p (.lst [.int 1, .int 1, .int (1 + (v3 : Int)), .int (1 + (v9 : Int))])) p [.int 1, .int 1, .int (1 + (v3 : Int)), .int (1 + (v9 : Int))] := ⟨_, upd_same, _, _, rfl, rfl, _, _, rfl, rfl, _, _, rfl, rfl, _, _, rfl, rfl, rfl⟩
  have np : p ≠ a := fun e => by
    obtain ⟨o, ho, _⟩ := s3.ob
    rw [← e, hp] at ho; cases ho
  refine n4 σ _ s4 (m3.ex (Ex.new hp)) _ fun v4 H5 _ l4 x5 s5 => ?_
  have lp5 := lp.exB x5 np (ExB.tex x5 s4.nt)
  obtain ⟨d, d1, d2, d3⟩ : ∃ d : Nat, 1 ≤ d ∧ d < 10 ∧ ([.int 1, .int 1, .int (1 + (v3 : Int)), .int (1 + (v9 : Int))] : List D)[v4]? = some (.int (d : Int)) := by
    have h4 : v4 = 0 ∨ v4 = 1 ∨ v4 = 2 ∨ v4 = 3 := by omega
    rcases h4 with rfl | rfl | rfl | rfl
    · exact ⟨1, by omega, by omega, rfl⟩
    · exact ⟨1, by omega, by omega, rfl⟩
    · exact ⟨1 + v3, by omega, by omega, by show some (D.int _) = some (D.int _); congr 2⟩
    · exact ⟨1 + v9, by omega, by omega, by show some (D.int _) = some (D.int _); congr 2⟩
  obtain ⟨vs, e2, e3⟩ := lp5
  obtain ⟨z, h1, h2⟩ := e3.atI (atI_get d3)
  have h2 : z = .int (d : Int) := h2
  subst h2
  refine ⟨p, vs, (v4 : Int), _, rfl, rfl, SqL.of e2, h1, ?_⟩
  have xx : ExB a H H5 := (((ExB.of x).trans x2).trans (x3.trans (ExB.of (Ex.new hp)))).trans x5
  exact q d H5 d1 d2 xx s5
theorem se_cost {ρ : List (Option D)} {a : Addr} (h0 : ρ[0]? = some (some (.adr a))) : SEn (tCall (spG R_law_cost) [] E0 (tCons (tVar 0) tNil)) a ρ 1 10 := fun σ H1 s n Q q =>
  (da_cons (H := H1) (de_var h0) da_nil) σ H1 (Ex.refl _) n _ fun vs H2 y r => by
    rw [List.append_nil]
    exact ⟨_, r, a, rfl, s.ex y, fun v H' h1 h2 x s' => q v H' h1 h2 ((ExB.of y).trans x) s'⟩
/-! _law_words: plain -/
def abc : Tx := [97, 98, 99]
theorem abc_is : ("abc" : Str) = tx abc := by decide +kernel
structure MOk (L : Tx) (j : Nat) (m : List (Tx × Int)) : Prop where
  nd : (m.map (·.1)).Nodup
  val : ∀ p ∈ m, (1 ≤ p.1.length ∧ p.1.length ≤ 4) ∧ (1 ≤ p.2 ∧ p.2 ≤ 9) ∧ ∀ x ∈ p.1, x ∈ L
  all : ∀ x ∈ L, [x] ∈ m.map (·.1)
  few : (m.filter fun p => decide (2 ≤ p.1.length)).length ≤ j
theorem put_mem {m : List (Tx × Int)} {k : Tx} {c : Int} {p : Tx × Int} (h : p ∈ putP m k c) : p ∈ m ∨ p = (k, c) := by
  unfold putP at h
  split at h
  · obtain ⟨q, hq, e⟩ := List.mem_map.mp h
    split at e
    · rename_i z
      right
      rw [← e, z]
    · left; rw [← e]; exact hq
  · rcases List.mem_append.mp h with h | h
    · exact .inl h
    · exact .inr (List.mem_singleton.mp h)
theorem put_keys (m : List (Tx × Int)) (k : Tx) (c : Int) : (putP m k c).map (·.1) = if k ∈ m.map (·.1) then m.map (·.1) else m.map (·.1) ++ [k] := by
  have e : ((m.any fun p => decide (p.1 = k)) = true) ↔ k ∈ m.map (·.1) := by
    rw [List.any_eq_true, List.mem_map]
    exact ⟨fun ⟨p, h, e⟩ => ⟨p, h, of_decide_eq_true e⟩, fun ⟨p, h, e⟩ => ⟨p, h, decide_eq_true e⟩⟩
  unfold putP
  by_cases h : k ∈ m.map (·.1)
  · rw [if_pos h, if_pos (e.mpr h), List.map_map]
    refine List.map_congr_left fun p _ => ?_
    show (if p.1 = k then (p.1, c) else p).1 = p.1
    split <;> rfl
  · rw [if_neg h, if_neg (fun z => h (e.mp z)), List.map_append]
    rfl
theorem MOk.put {L : Tx} {j : Nat} {m : List (Tx × Int)} (M : MOk L j m) {u : Tx} {c : Int} (hu : 1 ≤ u.length ∧ u.length ≤ 4) (ho : ∀ x ∈ u, x ∈ L) (hc : 1 ≤ c ∧ c ≤ 9) : MOk L (j + 1) (putP m u c) where
  nd := by
    rw [put_keys]
    split
    · exact M.nd
    · rename_i h
      rw [List.nodup_append]
      exact ⟨M.nd, by simp, fun x hx y hy e => h (by rw [List.mem_singleton.mp hy] at e; rw [← e]; exact hx)⟩
  val := fun p hp => by
    rcases put_mem hp with h | h
    · exact M.val p h
    · rw [h]; exact ⟨hu, hc, ho⟩
  all := fun x hx => by
    rw [put_keys]
    split
    · exact M.all x hx
    · exact List.mem_append_left _ (M.all x hx)
  few := by
    have f := M.few
    unfold putP
    split
    · have e : ((m.map fun p => if p.1 = u then (p.1, c) else p).filter fun p => decide (2 ≤ p.1.length)).length = (m.filter fun p => decide (2 ≤ p.1.length)).length := by
        rw [List.filter_map, List.length_map]
        congr 1
        refine List.filter_congr fun p _ => ?_
        show decide (2 ≤ (if p.1 = u then (p.1, c) else p).1.length) = _
        split <;> rfl
      omega
    · rw [List.filter_append, List.length_append]
      have : ([(u, c)].filter fun p : Tx × Int => decide (2 ≤ p.1.length)).length ≤ 1 := List.length_filter_le _ _
      omega
theorem MOk.start {L : Tx} (nd : L.Nodup) {m : List (Tx × Int)} (h1 : m.map (·.1) = L.map fun x => [x]) (h2 : ∀ p ∈ m, 1 ≤ p.2 ∧ p.2 ≤ 9) : MOk L 0 m where
  nd := by
    rw [h1]
    refine List.pairwise_map.mpr (nd.imp fun {a b} h e => h (List.cons.inj e).1)
  val := fun p hp => by
    have hk : p.1 ∈ L.map fun x => [x] := by rw [← h1]; exact List.mem_map_of_mem hp
    obtain ⟨x, hx, e⟩ := List.mem_map.mp hk
    rw [← e]
    exact ⟨by simp, h2 p hp, fun y hy => by rw [List.mem_singleton.mp hy]; exact hx⟩
  all := fun x hx => by rw [h1]; exact List.mem_map_of_mem hx
  few := by
    have e : m.filter (fun p => decide (2 ≤ p.1.length)) = [] := List.filter_eq_nil_iff.mpr fun p hp z => by
      have hk : p.1 ∈ L.map fun x => [x] := by rw [← h1]; exact List.mem_map_of_mem hp
      obtain ⟨x, hx, e⟩ := List.mem_map.mp hk
      have z := of_decide_eq_true z
      rw [← e] at z
      simp at z
    rw [e]
    exact Nat.le_refl _
theorem MOk.wd {L : Tx} {j : Nat} {m : List (Tx × Int)} (M : MOk L j m) (hj : j ≤ 4) (h3 : L.length ≤ 3) (h1 : L ≠ []) (hr : ∀ x ∈ L, 97 ≤ x ∧ x ≤ 122) : Wd (srtE m) := by
  have pm := srtE_perm m
  have ml : m.length ≤ 7 := by
    have e : m.length = (m.filter fun p => decide (2 ≤ p.1.length)).length + (m.filter fun p => !decide (2 ≤ p.1.length)).length := by
      have q := (List.filter_append_perm (fun p : Tx × Int => decide (2 ≤ p.1.length)) m).length_eq
      rw [List.length_append] at q
      exact q.symm
    have f := M.few
    have g : (m.filter fun p => !decide (2 ≤ p.1.length)).length ≤ L.length := by
      have nd2 : ((m.filter fun p => !decide (2 ≤ p.1.length)).map (·.1)).Nodup := M.nd.sublist (List.filter_sublist.map _)
      have q := nodup_le (m := L.map fun x => [x]) nd2 fun u hu => by
        obtain ⟨p, hp, e⟩ := List.mem_map.mp hu
        obtain ⟨hp, h⟩ := List.mem_filter.mp hp
        rw [Bool.not_eq_true', decide_eq_false_iff_not] at h
        obtain ⟨a1, a2, a3⟩ := M.val p hp
        obtain ⟨y, hy⟩ := List.length_eq_one_iff.mp (show p.1.length = 1 by omega)
        rw [← e, hy]
        exact List.mem_map_of_mem (a3 y (by rw [hy]; simp))
      rwa [List.length_map, List.length_map] at q
    omega
  have mn : m ≠ [] := fun e => by
    cases L with
    | nil => exact h1 rfl
    | cons x L =>
      have := M.all x (by simp)
      rw [e] at this
      cases this
  have mp := List.length_pos_iff.mpr mn
  refine ⟨?_, fun p hp => ?_, srtE_lt M.nd, fun p hp x hx => ?_, ?_⟩
  · rw [pm.length_eq]
    omega
  · obtain ⟨a1, a2, a3⟩ := M.val p (pm.mem_iff.mp hp)
    exact ⟨a1, a2, fun x hx => hr x (a3 x hx)⟩
  · obtain ⟨a1, a2, a3⟩ := M.val p (pm.mem_iff.mp hp)
    exact (pm.map (·.1)).mem_iff.mpr (M.all x (a3 x hx))
  · have q := (pm.filter fun p => decide (2 ≤ p.1.length)).length_eq
    rw [q]
    exact Nat.le_trans M.few hj
end
end GC

-- part RD12
set_option Elab.async false
set_option linter.all false
set_option maxRecDepth 100000
set_option maxHeartbeats 4000000
namespace GC
open PySem PySem.Spec PyProof.Rows L2
section
variable {H H' : Hp} {ρ ρ' : List (Option D)} {K : PySem.W.Frag} {te ta tb td ty : TE} {E : Ends} {a f : Addr} {ds : List D}
/-- a loop over an object that stands locked -/
theorem dl_lock {u : HO} {t : TE} (hu : H f = some u) (mu : Mut (some u)) (nt : ∀ vs, u ≠ .tup vs) (h : ∀ od H1, Ex H H1 → DLn t (upd H1 f (.frz od u)) ρ ds) : DLn (tLockE t) H ρ ds := fun σ H1 x n Q q =>
  ⟨f, u, x _ _ hu, mu, fun od => by
    have tt : TEx H1 (upd H1 f (.frz od u)) := ExB.tex (a := f) ExB.upd fun vs z => by rw [x _ _ hu] at z; exact nt vs (Option.some.inj z)
    refine h od H1 x σ _ (Ex.refl _) (n.mono tt) _ fun p H2 np y l => ?_
    have e2 : H2 f = some (.frz od u) := y _ _ upd_same
    refine ⟨e2, ?_⟩
    have hpf : p ≠ f := fun e => by
      rw [e, upd_same] at np; cases np
    have np1 : H1 p = none := by rwa [upd_ne hpf] at np
    have t2 : TEx H2 (upd H2 f u) := ExB.tex (a := f) ExB.upd fun vs z => by rw [e2] at z; cases z
    refine q p (upd H2 f u) np1 (fun b o ho => ?_) (l.exB ExB.upd hpf t2)
    by_cases e : b = f
    · subst e
      rw [x _ _ hu] at ho
      rw [upd_same]
      exact ho
    · rw [upd_ne e]
      exact y _ _ (by rw [upd_ne e]; exact ho)⟩
theorem di_keys {od : Obj} {m : List (Tx × Int)} (h : DE td H ρ (.adr f)) (l : H f = some (.frz od (.dK (encM kS m)))) : DI (iKeys td) H ρ (m.map fun p => D.str p.1) := fun σ H1 x n R q => h σ H1 x n _ fun v H2 y r => by
  have r : v = .ref f := r
  subst r
  have l2 := y _ _ (x _ _ l)
  refine ⟨f, od, rfl, .inl ⟨_, l2, q _ H2 [f] y (fun b hb => by rw [List.mem_singleton.mp hb]; exact .inl ⟨_, l⟩) fun Hb ht hs => ?_⟩⟩
  have e : (m.map fun p => D.str p.1).length = (encM kS m).length := by rw [encM_len, List.length_map]
  rw [e]
  refine walk_keys.mono (fun H3 z => z f _ (by rw [hs f (by simp)]; exact l2)) fun i H3 v H4 hi z yl => ?_
  obtain ⟨y1, k, c, y2, y3⟩ := yl
  subst y1
  unfold encM at y2
  rw [List.getElem?_map] at y2
  cases hm : m[i]? with
  | none => rw [hm] at y2; cases y2
  | some p =>
    rw [hm] at y2
    have y2 := congrArg Prod.fst (Option.some.inj y2)
    have y2 : kS p.1 = k := y2
    refine ⟨Ex.refl _, .str p.1, by rw [List.getElem?_map, hm]; rfl, ?_⟩
    rw [y3, ← y2]
    rfl
theorem de_dgetF {od : Obj} {m : List (Tx × Int)} {s : Tx} {c : Int} (hd : DE td H ρ (.adr f)) (l : H f = some (.frz od (.dK (encM kS m)))) (hk : DE ty H ρ (.str s)) (g : getP m s = some c) : DE (tDGet td ty) H ρ (.int c) := fun σ H1 x n Q q => hd σ H1 x n _ fun v H2 y rv => hk σ H2 (x.trans y) (n.ex y) _ fun w H3 y' rw' => by
  have rv : v = .ref f := rv
  have rw' : w = .str (tx s) := rw'
  subst rv rw'
  have z : DGet H3 f (kV (kS s)) (valV (encM kS m) (kS s)) := .inl ⟨_, kS s, .inr ⟨od, ((x.trans y).trans y') _ _ l⟩, rfl, rfl⟩
  rw [valV_enc kS_inj, g] at z
  exact ⟨f, .int c, rfl, z, q _ H3 (y.trans y') rfl⟩
/-- the table's items, from a locked walk of its keys -/
theorem dl_items {m : List (Tx × Int)} {i j : Nat} (l : DkAt H f m) (nd : (m.map (·.1)).Nodup) (hn : m.length ≤ 1000) (h0 : ρ[i]? = some (some (.adr f))) (h1 : ∀ s : Tx, (setAll (wipeD ρ [j]) [j] [D.str s])[i]? = some (some (.adr f))) (h2 : ∀ s : Tx, (setAll (wipeD ρ [j]) [j] [D.str s])[j]? = some (some (.str s))) :
    DLn (tLockE (tLc (iKeys (tVar i)) (gName j) tYes (tTup (tCons (tVar j) (tCons (tDGet (tVar i) (tVar j)) tNil))) [j])) H ρ (m.map encE) :=
  dl_lock l True.intro (fun vs z => by cases z) fun od H1 x =>
    lc_M m (fun p => D.str p.1) (js := [j]) (di_keys (de_var h0) upd_same) (fun x => dg_name) (by simp) (by omega) fun p hp =>
      de_tup (da_cons (de_var (h2 p.1)) (da_cons (de_dgetF (de_var (h1 p.1)) upd_same (de_var (h2 p.1)) (getP_of nd hp)) da_nil)) (by simp)
end
section
variable {P : Program} {w : World} {K : PySem.W.Frag} {mg : Str → Option Value} {base : Heap}
def R_law_words : Hp → List D → VK → Prop := fun H ds Q => ∃ a, ds = [.adr a] ∧ StrAt H a ∧ ∀ W v H', Wd W → ExB a H H' → Rp H' (encW W) v → Q v H'
def EW1 (a f : Addr) (L : Tx) : List (Option D) := [some (.adr a), some (.str L), some (.adr f), none, none, none, none]
def EW2 (a f : Addr) (L u : Tx) : List (Option D) := [some (.adr a), some (.str L), some (.adr f), none, none, some (.str u), none]
theorem okf_law_words (hd : Hd K mg) : OkA P w K mg base 3 (He.ga K "_law_words") ["_law_stream_here"] (spG R_law_words) := by
  refine ok__law_words hd (okf_law_next hd) (okf_law_cost hd) (len_G ?_) (rd_G ?_)
  · rintro H ds Q ⟨p, rfl, _⟩; rfl
  rintro ds H Q ⟨a, rfl, s, q⟩
  unfold t__law_words
  refine dn_seq ?_
  refine dn_pull (p := fun v => tAsg (tSl rSlS (tC (.str "abc")) tNoPart (tPart (tOp (rI0 fun i j => .int (i + j)) (tC (.int 1)) (tC v)))) (gName 1) _) (se_next (m := 3) rfl (fun _ => de_nat 3 rfl) (by omega) (by omega)) s ?_
  intro n H1 _ hn x1 s1
  refine dn_asg (d := .str (abc.take (1 + n))) (DE.is (de_slS (de_str abc_is) do_none (do_some (de_addN (de_nat 1 rfl) de_int)) (by decide)) (by rw [cut_to])) ?_
  obtain ⟨L, hL⟩ : ∃ L, L = abc.take (1 + n) := ⟨_, rfl⟩
  have L1 : L.length = 1 + n := by rw [hL, List.length_take]; show min (1 + n) 3 = _; omega
  have L2 : L.Nodup := by rw [hL]; exact (show abc.Nodup by decide).sublist (List.take_sublist _ _)
  have L3 : ∀ x ∈ L, 97 ≤ x ∧ x ≤ 122 := fun x hx => by
    rw [hL] at hx
    have := List.mem_of_mem_take hx
    have q : ∀ y ∈ abc, 97 ≤ y ∧ y ≤ 122 := by decide
    exact q x this
  rw [← hL]
  dsimp only
  refine dn_seq (dn_asgK fun f H2 nf x2 lf => ?_)
  have s2 := s1.ex x2
  have fa : f ≠ a := fun e => by
    obtain ⟨o, ho, _⟩ := s1.ob
    rw [← e, nf] at ho; cases ho
  have hM2 : ∀ m ∈ [a, f], hid [a] H1 m = none ∧ ∃ o, H2 m = some o ∧ ∀ vs, o ≠ .tup vs := fun m hm => by
    rcases List.mem_cons.mp hm with e | hm
    · rw [e]; exact ⟨hid_in (by simp), s2.ob⟩
    · rw [List.mem_singleton.mp hm]
      exact ⟨by rw [hid_out (by simpa using fa)]; exact nf, _, lf, fun vs z => by cases z⟩
  dsimp only
  refine dn_seq ?_
  refine dn_forG (Hb := hid [a] H1) (τ := List (Tx × Int)) [a, f] L (fun c => D.str [c]) (fun x => dg_name) (fun i m => m.map (·.1) = (L.take i).map (fun x => [x]) ∧ ∀ p ∈ m, 1 ≤ p.2 ∧ p.2 ≤ 9) (fun _ => EW1 a f L) (fun m H' => StrAt H' a ∧ DkAt H' f m) [] (di_str (de_var rfl)) (hid_ex.trans x2) hM2 (fun s H3 H4 l x => ⟨l.1.ex x, l.2.ex x⟩) ⟨by simp, fun p hp => by cases hp⟩ (Wk.refl _) ⟨s2, lf⟩ ?_ ?_
  · rintro Hh xh hM i x m hx ⟨m1, m2⟩ H3 x3 ⟨s3, l3⟩
    have hi := (List.getElem?_eq_some_iff.mp hx).1
    have hml : m.length ≤ 3 := by
      have := congrArg List.length m1
      rw [List.length_map, List.length_map, List.length_take] at this
      omega
    refine dn_pull (p := fun v => sDPut (tVar 2) (tVar 3) (tC v) _) (se_cost rfl) s3 ?_
    intro c H4 c1 c2 x4 s4
    have l4 := l3.exS s3 x4
    refine dn_dputK de_int (de_var rfl) (de_var rfl) l4 (by omega) fun H5 x5 l5 => ?_
    have ne : ∀ p ∈ m, p.1 ≠ [x] := fun p hp e => by
      have hk : p.1 ∈ (L.take i).map fun x => [x] := by rw [← m1]; exact List.mem_map_of_mem hp
      rw [e] at hk
      obtain ⟨y, hy, e2⟩ := List.mem_map.mp hk
      have e2 : y = x := (List.cons.inj e2).1
      subst e2
      obtain ⟨j, hj⟩ := List.mem_iff_getElem?.mp hy
      rw [List.getElem?_take] at hj
      split at hj
      · rename_i hji
        have := (List.getElem?_inj (i := j) (j := i) (by omega) L2).mp (hj.trans hx.symm)
        omega
      · cases hj
    rw [putP_new ne] at l5
    refine dn_turn (P := fun m => m.map (·.1) = (L.take (i + 1)).map (fun x => [x]) ∧ ∀ p ∈ m, 1 ≤ p.2 ∧ p.2 ≤ 9) (env := fun _ => EW1 a f L) (G := fun m H' => StrAt H' a ∧ DkAt H' f m) (m ++ [([x], (c : Int))]) ⟨?_, ?_⟩ (wk_same (wk_same (wk_same (wk_none (wk_same (wk_same (wk_same wk_nil))))))) ((x3.mut (hM a (by simp)) x4).mut (hM f (by simp)) x5) ⟨s4.exB l4 x5, l5⟩ (fun s H3 H4 l x => ⟨l.1.ex x, l.2.ex x⟩)
    · rw [List.map_append, m1, List.take_succ, hx, Option.toList_some, List.map_append]
      rfl
    · intro p hp
      rcases List.mem_append.mp hp with hp | hp
      · exact m2 p hp
      · rw [List.mem_singleton.mp hp]
        show 1 ≤ (c : Int) ∧ (c : Int) ≤ 9
        omega
  rintro m ⟨m1, m2⟩ H3 x3 ⟨s3, l3⟩
  rw [List.take_length] at m1
  have M0 := MOk.start L2 m1 m2
  dsimp only
  refine dn_seq ?_
  refine dn_pull (p := fun v => tFor (iRng1 (tCons (tC v) tNil)) (gName 4) _ _) (se_next (m := 5) rfl (fun _ => de_nat 5 rfl) (by omega) (by omega)) s3 ?_
  intro k H4 _ hk x4 s4
  have l4 := l3.exS s3 x4
  have fa' : f ∉ [a] := by simpa using fa
  have hM4 : ∀ m ∈ [a, f], hid [a, f] H4 m = none ∧ ∃ o, H4 m = some o ∧ ∀ vs, o ≠ .tup vs := fun m hm => by
    refine ⟨hid_in hm, ?_⟩
    rcases List.mem_cons.mp hm with e | hm
    · rw [e]; exact s4.ob
    · rw [List.mem_singleton.mp hm]; exact ⟨_, l4, fun vs z => by cases z⟩
  refine dn_forG (Hb := hid [a, f] H4) (τ := List (Tx × Int)) [a, f] (List.range k) (fun k => D.int (k : Nat)) (fun x => dg_name) (fun i m => MOk L i m ∧ m.length ≤ 3 + i) (fun _ => EW1 a f L) (fun m H' => StrAt H' a ∧ DkAt H' f m) m (di_rngN de_int (by omega)) hid_ex hM4 (fun s H3 H4 l x => ⟨l.1.ex x, l.2.ex x⟩) ⟨M0, ?_⟩ (Wk.refl _) ⟨s4, l4⟩ ?_ ?_
  · have := congrArg List.length m1
    rw [List.length_map, List.length_map] at this
    omega
  · rintro Hh xh hM i y m hy ⟨M, ml⟩ H5 x5 ⟨s5, l5⟩
    have hi := (List.getElem?_eq_some_iff.mp hy).1
    rw [List.length_range] at hi
    refine dn_seq (dn_asg de_empty ?_)
    dsimp only
    refine dn_seq ?_
    refine dn_pull (p := fun v => tFor (iRng1 (tCons (tOp (rI0 fun i j => .int (i + j)) (tC (.int 2)) (tC v)) tNil)) (gName 6) _ _) (se_next (m := 3) rfl (fun _ => de_nat 3 rfl) (by omega) (by omega)) s5 ?_
    intro n3 H6 _ hn3 x6 s6
    have l6 := l5.exS s5 x6
    have xx6 := x5.mut (hM a (by simp)) x6
    refine dn_forG (Hb := hid [a] H6) (τ := Tx) [a] (List.range (2 + n3)) (fun k => D.int (k : Nat)) (fun x => dg_name) (fun j u => u.length = j ∧ ∀ x ∈ u, x ∈ L) (fun u => EW2 a f L u) (fun u H' => StrAt H' a) [] (di_rngN (de_addN (de_nat 2 rfl) de_int) (by omega)) hid_ex (fun m hm => by rw [List.mem_singleton.mp hm]; exact ⟨hid_in (by simp), s6.ob⟩) (fun s H3 H4 l x => l.ex x) ⟨rfl, fun x hx => by cases hx⟩ (wk_same (wk_same (wk_same (wk_none (wk_none (wk_same (wk_none wk_nil))))))) s6 ?_ ?_
    · rintro Hj xj hMj j z u hz ⟨u1, u2⟩ H7 x7 s7
      have hj := (List.getElem?_eq_some_iff.mp hz).1
      rw [List.length_range] at hj
      have se := se_next (ρ := (EW2 a f L u).set 6 (some (D.int (z : Nat)))) (tm := tCB (rLen K) (tCons (tVar 1) tNil)) (a := a) (m := L.length) rfl (fun H => de_lenS (de_var rfl) (by omega)) (by omega) (by omega)
      intro σ H8 x8 n8
      obtain ⟨vu, e1, r1⟩ := n8.get 5 (.str u) rfl
      obtain ⟨vl, e2, r2⟩ := n8.get 1 (.str L) rfl
      refine ⟨vu, e1, vl, e2, se σ H8 (s7.ex x8) n8 _ fun v H9 _ hv x9 s9 => ?_⟩
      have hvl : v < L.length := hv
      have r2 : vl = .str (tx L) := r2
      have r1 : vu = .str (tx u) := r1
      subst r1 r2
      refine ⟨tx L, (v : Int), L[v], rfl, rfl, by rw [tx_length]; exact small_line (by omega), by simpa using atI_get (List.getElem?_eq_getElem hvl), ?_⟩
      refine ⟨_, _, rfl, rfl, by rw [tx_length]; exact small_line (by show u.length + 1 ≤ _; omega), ?_⟩
      have t9 : TEx H8 H9 := ExB.tex x9 (s7.ex x8).nt
      refine dn_turn (P := fun u => u.length = j + 1 ∧ ∀ x ∈ u, x ∈ L) (env := fun u => EW2 a f L u) (G := fun u H' => StrAt H' a) (u ++ [L[v]]) ⟨by simp [u1], fun x hx => ?_⟩ (wk_same (wk_same (wk_same (wk_none (wk_none (wk_same (wk_none wk_nil))))))) ((x7.trans x8).mut (hMj a (by simp)) x9) s9 (fun s H3 H4 l x => l.ex x) _ H9 (Ex.refl _) ((n8.mono t9).set (d := .str (u ++ [L[v]])) ?_)
      · rcases List.mem_append.mp hx with hx | hx
        · exact u2 x hx
        · rw [List.mem_singleton.mp hx]; exact List.getElem_mem hvl
      · show V.str (tx u ++ tx [L[v]]) = V.str (tx (u ++ [L[v]]))
        rw [tx_append]
    · rintro u ⟨u1, u2⟩ H7 x7 s7
      rw [List.length_range] at u1
      have l7 : DkAt H7 f m := x7 _ _ (by rw [hid_out fa']; exact l6)
      dsimp only
      refine dn_pull (p := fun v => sDPut (tVar 2) (tVar 5) (tC v) _) (se_cost rfl) s7 ?_
      intro c H8 c1 c2 x8 s8
      have l8 := l7.exS s7 x8
      refine dn_dputK de_int (de_var rfl) (de_var rfl) l8 (by omega) fun H9 x9 l9 => ?_
      have xx7 : Ex Hh H7 := fun b o ho => x7 _ _ (by
        have nb : b ∉ [a] := fun z => by rw [List.mem_singleton.mp z, hM a (by simp)] at ho; cases ho
        rw [hid_out nb]
        exact xx6 _ _ ho)
      refine dn_turn (P := fun m => MOk L (i + 1) m ∧ m.length ≤ 3 + (i + 1)) (env := fun _ => EW1 a f L) (G := fun m H' => StrAt H' a ∧ DkAt H' f m) _ ⟨M.put ⟨by omega, by omega⟩ u2 ⟨by omega, by omega⟩, ?_⟩ (wk_same (wk_same (wk_same (wk_none (wk_none (wk_none (wk_none wk_nil))))))) ((xx7.mut (hM a (by simp)) x8).mut (hM f (by simp)) x9) ⟨s8.exB l8 x9, l9⟩ (fun s H3 H4 l x => ⟨l.1.ex x, l.2.ex x⟩)
      have := putP_len m u (c : Int)
      omega
  · rintro m ⟨M, ml⟩ H5 x5 ⟨s5, l5⟩
    rw [List.length_range] at M ml
    dsimp only
    refine dn_ret (d := encW (srtE m)) (de_tupL (dl_sortedE (dl_items l5 M.nd (by omega) rfl (fun _ => rfl) (fun _ => rfl)).dl).dl) fun v H6 x6 r => ?_
    refine q _ v H6 (M.wd (by omega) (by omega) (fun e => by rw [e] at L1; simp at L1; omega) L3) ?_ r
    intro b o nb ho
    have h1 := x1 b o nb ho
    have nf : b ≠ f := fun e => by rw [e, nf] at h1; cases h1
    have h2 : hid [a] H1 b = some o := by rw [hid_out (by simpa using nb)]; exact h1
    have h4 := x4 b o nb (x3 b o h2)
    exact x6 _ _ (x5 b o (by rw [hid_out (by simp [nb, nf])]; exact h4))
end
end GC

-- part RD13
set_option Elab.async false
set_option linter.all false
set_option maxRecDepth 100000
set_option maxHeartbeats 4000000
namespace GC
open PySem PySem.Spec PyProof.Rows L2
section
variable {H H' : Hp} {ρ ρ' : List (Option D)} {K : PySem.W.Frag} {te ta tb td ty tl : TE} {E : Ends} {a f : Addr} {ds : List D}
/-- what is walked is new -/
def DIN (wi : TI) (H : Hp) (ρ : List (Option D)) (ds : List D) : Prop := ∀ σ H1, Ex H H1 → EnvD H1 σ ρ → ∀ R : It → Hp → Prop,
  (∀ J H2 (src : List Addr), Ex H1 H2 → (∀ a ∈ src, H1 a = none) →
    (∀ Hb : Hp, TEx H2 Hb → (∀ a ∈ src, Hb a = H2 a) → Walk J ds.length (Ex Hb) fun i H3 x H4 => Ex H3 H4 ∧ ∃ d, ds[i]? = some d ∧ Rp H4 d x) → R J H2) → wi σ H1 R
theorem din_lst (h : DLn tl H ρ ds) : DIN (iList K tl) H ρ ds := fun σ H1 x n R q => h σ H1 x n _ fun a H2 na y l2 => by
  obtain ⟨vs, e2, e3⟩ := id l2
  exact ⟨a, rfl, ⟨vs, SqL.of e2⟩, q _ H2 [a] y (fun b hb => by rw [List.mem_singleton.mp hb]; exact na) fun Hb ht hs => walk_lst l2 ht (hs a (by simp))⟩
/-- for over something new, where the addresses M are changed -/
theorem dn_forN {τ α : Type} {wi : TI} {g : TG} {tb : TS} {Hb : Hp} (M : List Addr) (xs : List α) (enc : α → D) {js : List Nat} {tgt : α → List D} (hg : ∀ x, DG g (enc x) js (tgt x))
    (P : Nat → τ → Prop) (env : τ → List (Option D)) (G : τ → Hp → Prop) (t0 : τ) (hi : DIN wi H ρ (xs.map enc)) (hb : Ex Hb H) (hM : ∀ m ∈ M, Hb m = none ∧ ∃ o, H m = some o ∧ ∀ vs, o ≠ .tup vs)
    (stable : ∀ t H3 H4, G t H3 → Ex H3 H4 → G t H4) (p0 : P 0 t0) (e0 : Wk (env t0) ρ) (g0 : G t0 H)
    (turn : ∀ Hh, Ex Hb Hh → (∀ m ∈ M, Hh m = none) → ∀ i x t, xs[i]? = some x → P i t → ∀ H3, Ex Hh H3 → G t H3 →
      DN (tb { E with nx := fun σ' H' => ∃ t', P (i + 1) t' ∧ Ex Hh H' ∧ G t' H' ∧ EnvD H' σ' (env t'), ct := fun σ' H' => ∃ t', P (i + 1) t' ∧ Ex Hh H' ∧ G t' H' ∧ EnvD H' σ' (env t'), bk := E.nx }) H3 (setAll (env t) js (tgt x)))
    (done : ∀ t, P xs.length t → ∀ H3, Ex Hb H3 → G t H3 → DN E.nx H3 (env t)) : DN (tFor wi g tb E) H ρ := fun σ H1 x n =>
  hi σ H1 x n _ fun J H2 src y hs w => by
    have nt : ∀ m ∈ M, ∀ vs, H2 m ≠ some (.tup vs) := fun m hm vs q => by
      obtain ⟨_, o, h1, h2⟩ := hM m hm
      rw [y _ _ (x _ _ h1)] at q
      exact h2 vs (Option.some.inj q)
    have nm : ∀ a ∈ src, a ∉ M := fun a ha hm => by
      obtain ⟨h0, o, h1, _⟩ := hM a hm
      have hu := hs a ha
      rw [x _ _ h1] at hu; cases hu
    have ww := w (hid M H2) (fun a vs q => by
      rw [hid_out fun hm => nt a hm vs q]
      exact q) fun a ha => hid_out (nm a ha)
    have bh : Ex Hb (hid M H2) := fun a o q => by
      rw [hid_out fun hm => by
        obtain ⟨h0, _⟩ := hM a hm
        rw [h0] at q; cases q]
      exact y _ _ (x _ _ (hb _ _ q))
    refine for_it ww (fun i σ' H' => ∃ t', P i t' ∧ Ex (hid M H2) H' ∧ G t' H' ∧ EnvD H' σ' (env t')) ⟨t0, p0, hid_ex, stable _ _ _ g0 (x.trans y), (n.ex y).wk e0⟩ (fun i σ' H' _ z => by obtain ⟨_, _, z, _⟩ := z; exact z) (fun i v σ' H3 H4 hl z yl => ?_) fun σ' H' z => ?_
    · rw [List.length_map] at hl
      obtain ⟨t', p', z1, z2, z3⟩ := z
      obtain ⟨y1, d, yd, yr⟩ := yl
      have ex : xs[i]? = some xs[i] := by simp [hl]
      rw [List.getElem?_map, ex] at yd
      cases yd
      refine hg _ v _ H4 _ yr fun us ur => ?_
      exact turn (hid M H2) bh (fun m hm => hid_in hm) i _ t' ex p' H4 (z1.trans y1) (stable _ _ _ z2 y1) _ H4 (Ex.refl _) ((z3.ex y1).setAll ur)
    · rw [List.length_map] at z
      obtain ⟨t', p', z1, z2, z3⟩ := z
      exact done t' p' H' (bh.trans z1) z2 σ' H' (Ex.refl _) z3
/-! ### the graph under construction -/
def ExS (M : List Addr) (H H' : Hp) : Prop := ∀ b o, b ∉ M → H b = some o → H' b = some o
theorem ExS.of {M : List Addr} (e : Ex H H') : ExS M H H' := fun b o _ h => e b o h
theorem ExS.ofB {M : List Addr} (e : ExB a H H') (h : a ∈ M) : ExS M H H' := fun b o n q => e b o (fun z => n (z ▸ h)) q
theorem ExS.trans {M : List Addr} {H1 : Hp} (x : ExS M H H1) (y : ExS M H1 H') : ExS M H H' := fun b o n h => y b o n (x b o n h)
theorem ExS.hid {M : List Addr} (x : Ex (hid M H) H') : ExS M H H' := fun b o n h => x b o (by rw [hid_out n]; exact h)
theorem ExS.to {M : List Addr} {H0 : Hp} (x : Ex H0 H) (n : ∀ m ∈ M, H0 m = none) (y : ExS M H H') : Ex H0 H' := fun b o h => y b o (fun z => by rw [n b z] at h; cases h) (x b o h)
theorem ExS.tex {M : List Addr} (x : ExS M H H') (n : ∀ m ∈ M, ∀ vs, H m ≠ some (.tup vs)) : TEx H H' := fun b vs h => x b _ (fun z => n b z vs h) h
def plM (ps : List Pr) : List (Pr × Int) := ps.zipIdx.map fun p => (p.1, (p.2 : Int))
theorem plM_get {ps : List Pr} {i : Nat} : (plM ps)[i]? = (ps[i]?).map fun o => (o, (i : Int)) := by
  unfold plM
  rw [List.getElem?_map, List.getElem?_zipIdx]
  cases ps[i]? <;> simp
theorem plM_len (ps : List Pr) : (plM ps).length = ps.length := by unfold plM; rw [List.length_map, List.length_zipIdx]
theorem plM_keys (ps : List Pr) : (plM ps).map (·.1) = ps := by
  refine List.ext_getElem? fun i => ?_
  rw [List.getElem?_map, plM_get]
  cases ps[i]? <;> rfl
theorem plM_in {ps : List Pr} (nd : ps.Nodup) {o : Pr} (h : o ∈ ps) : getP (plM ps) o = some (place ps o : Int) := by
  refine getP_of (by rw [plM_keys]; exact nd) ?_
  rw [List.mem_iff_getElem?]
  exact ⟨place ps o, by rw [plM_get, place_get h]; rfl⟩
theorem plM_out {ps : List Pr} {o : Pr} (h : o ∉ ps) : getP (plM ps) o = none := getP_none.mpr fun p hp e => h (by
  have : p.1 ∈ (plM ps).map (·.1) := List.mem_map_of_mem hp
  rw [plM_keys, e] at this
  exact this)
theorem plM_put {ps : List Pr} {o : Pr} (h : o ∉ ps) : putP (plM ps) o (ps.length : Int) = plM (ps ++ [o]) := by
  rw [putP_new fun p hp e => h (by
    have : p.1 ∈ (plM ps).map (·.1) := List.mem_map_of_mem hp
    rw [plM_keys, e] at this
    exact this)]
  unfold plM
  rw [List.zipIdx_append, List.map_append]
  simp
structure GC0 (K : PySem.W.Frag) (H : Hp) (g pa pl ea : Addr) (fs : List (Str × V)) (W : WL) : Prop where
  ins : InsAt H g (He.ga K "Graph") fs
  w : ∃ v, fs.lookup ("words" : Str) = some v ∧ Rp H (encW W) v
  p : fs.lookup ("pairs" : Str) = some (.ref pa)
  q : fs.lookup ("places" : Str) = some (.ref pl)
  e : fs.lookup ("edges" : Str) = some (.ref ea)
  m : fs.lookup ("add_steps" : Str) = none
  n1 : g ≠ pa
  n2 : g ≠ pl
  n3 : g ≠ ea
  n4 : pa ≠ pl
  n5 : pa ≠ ea
  n6 : pl ≠ ea
theorem GC0.exB {g pa pl ea b : Addr} {fs : List (Str × V)} {W : WL} (h : GC0 K H g pa pl ea fs W) (x : ExB b H H') (hb : b = pa ∨ b = pl ∨ b = ea) (t : TEx H H') : GC0 K H' g pa pl ea fs W := by
  refine ⟨h.ins.exB x ?_, ?_, h.p, h.q, h.e, h.m, h.n1, h.n2, h.n3, h.n4, h.n5, h.n6⟩
  · rcases hb with e | e | e
    · rw [e]; exact h.n1
    · rw [e]; exact h.n2
    · rw [e]; exact h.n3
  · obtain ⟨v, h1, h2⟩ := h.w
    exact ⟨v, h1, Rp.mono t _ _ h2⟩
theorem GC0.ex {g pa pl ea : Addr} {fs : List (Str × V)} {W : WL} (h : GC0 K H g pa pl ea fs W) (x : Ex H H') : GC0 K H' g pa pl ea fs W := h.exB (b := pa) (ExB.of x) (.inl rfl) x.tex
structure GphAt (K : PySem.W.Frag) (H : Hp) (g pa pl ea : Addr) (W : WL) (ps : List Pr) (es : List Ed) : Prop where
  c : ∃ fs, GC0 K H g pa pl ea fs W
  lp : LstAt H pa (ps.map encQ)
  ld : DtAt H pl (plM ps)
  le : LstAt H ea (es.map encEd)
theorem GphAt.ex {g pa pl ea : Addr} {W : WL} {ps : List Pr} {es : List Ed} (h : GphAt K H g pa pl ea W ps es) (x : Ex H H') : GphAt K H' g pa pl ea W ps es := by
  obtain ⟨⟨fs, c⟩, h2, h3, h4⟩ := h
  exact ⟨⟨fs, c.ex x⟩, h2.ex x, h3.ex x, h4.ex x⟩
theorem DtAt.exB {b : Addr} {m : List ((Tx × Tx) × Int)} (h : DtAt H a m) (x : ExB b H H') (ne : a ≠ b) : DtAt H' a m := x _ _ ne h
theorem GphAt.ob {g pa pl ea : Addr} {W : WL} {ps : List Pr} {es : List Ed} (h : GphAt K H g pa pl ea W ps es) : ∀ m ∈ [pa, pl, ea], ∃ o, H m = some o ∧ ∀ vs, o ≠ .tup vs := fun m hm => by
  rcases List.mem_cons.mp hm with e | hm
  · rw [e]; obtain ⟨vs, h, _⟩ := h.lp; exact ⟨_, h, fun us z => by cases z⟩
  rcases List.mem_cons.mp hm with e | hm
  · rw [e]; exact ⟨_, h.ld, fun us z => by cases z⟩
  · rw [List.mem_singleton.mp hm]; obtain ⟨vs, h, _⟩ := h.le; exact ⟨_, h, fun us z => by cases z⟩
end
section
variable {P : Program} {w : World} {K : PySem.W.Frag} {mg : Str → Option Value} {base : Heap}
/-! Graph.add_steps -/
def dnS (Dn : Nat → Nat → (Tx × Tx × Int × Int) → Prop) (p x : Nat) (l : List (Tx × Tx × Int × Int)) : Nat → Nat → (Tx × Tx × Int × Int) → Prop := fun i y r => Dn i y r ∨ (i = p ∧ y = x ∧ r ∈ l)
def R_add : PySem.W.Frag → Hp → List D → VK → Prop := fun K H ds Q => ∃ g pa pl ea W ps es Dn, ∃ p x : Nat, ∃ u : Pr, ds = [.adr g, .int (p : Int), .str [x]] ∧ GphAt K H g pa pl ea W ps es ∧ Wd W ∧ GI W ps es Dn ∧ ps[p]? = some u ∧ x ∈ letters W ∧ es.length ≤ 10000 ∧
  ∀ ps' es' H', GI W ps' es' (dnS Dn p x (steps W u.1 u.2 x)) → (∀ (i : Nat) (q : Pr), ps[i]? = some q → ps'[i]? = some q) → es'.length ≤ es.length + 2 → ExS [pa, pl, ea] H H' → GphAt K H' g pa pl ea W ps' es' → Q .non H'
theorem steps_len (W : WL) (h t : Tx) (x : Nat) : (steps W h t x).length ≤ 2 := by
  unfold steps
  rw [List.length_append]
  split <;> split <;> simp
def EAS (g : Addr) (p x : Nat) : List (Option D) := [some (.adr g), some (.int (p : Int)), some (.str [x]), none, none, none, none, none]
theorem okf_add (hd : Hd K mg) : OkA P w K mg base 6 (He.ma K (He.ga K "Graph") "add_steps") ["self", "place", "letter"] (spG (R_add K)) := by
  refine ok_Graph_add_steps hd (okf_steps_of hd) (len_G ?_) (rd_G ?_)
  · rintro H ds Q ⟨g, pa, pl, ea, W, ps, es, Dn, p, x, u, rfl, _⟩; rfl
  rintro ds H Q ⟨g, pa, pl, ea, W, ps, es, Dn, p, x, u, rfl, G0, hW, I0, hu, hx, hes, k⟩
  have hu2 := I0.held u (List.mem_of_getElem? hu)
  have l1 := hu2.1.len hW
  have l2 := hu2.2.len hW
  have sl := steps_len W u.1 u.2 x
  obtain ⟨⟨fs, c⟩, lp, ld, le⟩ := id G0
  obtain ⟨vw, ew, rw'⟩ := c.w
  have hpu : (ps.map encQ)[p]? = some (encQ u) := by rw [List.getElem?_map, hu]; rfl
  unfold t_Graph_add_steps
  refine dn_forN (Hb := hid [pa, pl, ea] H) (τ := List Pr × List Ed) [pa, pl, ea] (steps W u.1 u.2 x) encS (tgt := fun s => [.str s.1, .str s.2.1, .int s.2.2.1, .int s.2.2.2]) (fun s => dg_tup (dgs_cons (dgs_cons (dgs_cons (dgs_cons dgs_nil)))) rfl)
    (fun i s => GI W s.1 s.2 (dnS Dn p x ((steps W u.1 u.2 x).take i)) ∧ (∀ (i : Nat) (q : Pr), ps[i]? = some q → s.1[i]? = some q) ∧ s.2.length = es.length + i) (fun _ => EAS g p x) (fun s H' => GphAt K H' g pa pl ea W s.1 s.2) (ps, es)
    (din_lst (dl_call (da_cons (de_fld (de_var rfl) c.ins (cls_Graph hd) (noat_Graph_words hd) ew rw') (da_cons (de_ixTN (k := 0) (ds := [.str u.1, .str u.2]) (de_ixLN (k := p) (dl_adr (de_fld (de_var rfl) c.ins (cls_Graph hd) (noat_Graph_pairs hd) c.p rfl) lp) (de_var rfl) hpu) de_int rfl) (da_cons (de_ixTN (k := 1) (ds := [.str u.1, .str u.2]) (de_ixLN (k := p) (dl_adr (de_fld (de_var rfl) c.ins (cls_Graph hd) (noat_Graph_pairs hd) c.p rfl) lp) (de_var rfl) hpu) de_int rfl) (da_cons (de_var rfl) da_nil)))) ⟨W, u.1, u.2, x, rfl, rfl, hW, hu2.1.over hW, by omega, by omega, hx⟩)) hid_ex (fun m hm => ⟨hid_in hm, G0.ob m hm⟩) (fun s H3 H4 l x => l.ex x) ⟨I0.imp fun i y r z => ?_, fun i q h => h, by simp⟩ (Wk.refl _) G0 ?_ ?_
  · rcases z with z | ⟨_, _, z⟩
    · exact z
    · rw [List.take_zero] at z; cases z
  · rintro Hh xh hM i s ⟨qs, fs'⟩ hs ⟨I, pre, len⟩ H3 x3 G3
    have I : GI W qs fs' (dnS Dn p x ((steps W u.1 u.2 x).take i)) := I
    have pre : ∀ (i : Nat) (q : Pr), ps[i]? = some q → qs[i]? = some q := pre
    have len : fs'.length = es.length + i := len
    have hi := (List.getElem?_eq_some_iff.mp hs).1
    have hsm : s ∈ steps W u.1 u.2 x := List.mem_of_getElem? hs
    have I' := I.add hW (pre p u hu) hx hsm
    have pl169 := hW.pairs_len I.nd I.held
    obtain ⟨⟨fs, c⟩, lp, ld, le⟩ := G3
    have lp : LstAt H3 pa (qs.map encQ) := lp
    have ld : DtAt H3 pl (plM qs) := ld
    have le : LstAt H3 ea (fs'.map encEd) := le
    have n1 := c.n4
    have n2 := c.n5
    have n3 := c.n6
    have fin : GI W (addP qs (s.1, s.2.1)) (fs' ++ [⟨p, x, place (addP qs (s.1, s.2.1)) (s.1, s.2.1), s.2.2.1, s.2.2.2⟩]) (dnS Dn p x ((steps W u.1 u.2 x).take (i + 1))) := I'.imp fun j y r z => by
      rcases z with z | ⟨z1, z2, z3⟩
      · exact .inl (.inl z)
      · rw [List.take_succ, hs, Option.toList_some] at z3
        rcases List.mem_append.mp z3 with z3 | z3
        · exact .inl (.inr ⟨z1, z2, z3⟩)
        · exact .inr ⟨z1, z2, List.mem_singleton.mp z3⟩
    refine dn_seq (dn_asg (d := encQ (s.1, s.2.1)) (de_tup (da_cons (de_var rfl) (da_cons (de_var rfl) da_nil)) (by simp)) ?_)
    dsimp only
    refine dn_seq (dn_ifJ (τ := Unit) (fun _ H' => ExS [pa, pl, ea] H3 H' ∧ (∃ fs, GC0 K H' g pa pl ea fs W) ∧ LstAt H' pa ((addP qs (s.1, s.2.1)).map encQ) ∧ DtAt H' pl (plM (addP qs (s.1, s.2.1))) ∧ LstAt H' ea (fs'.map encEd)) (fun _ => [some (.adr g), some (.int (p : Int)), some (.str [x]), some (.str s.1), some (.str s.2.1), some (.int s.2.2.1), some (.int s.2.2.2), some (encQ (s.1, s.2.1))]) (dt_B (de_dnotT (q := (s.1, s.2.1)) (de_var rfl) (de_fld (de_var rfl) c.ins (cls_Graph hd) (noat_Graph_places hd) c.q rfl) ld)) ?_ ?_ ?_)
    · rintro _ H4 ⟨x4, ⟨fs4, c4⟩, lp4, ld4, le4⟩
      dsimp only
      refine dn_app (d := encEd ⟨p, x, place (addP qs (s.1, s.2.1)) (s.1, s.2.1), s.2.2.1, s.2.2.2⟩) (de_fld (de_var rfl) c4.ins (cls_Graph hd) (noat_Graph_edges hd) c4.e rfl) le4 (de_tup (da_cons (de_var rfl) (da_cons (de_var rfl) (da_cons (de_dgetT (q := (s.1, s.2.1)) (de_fld (de_var rfl) c4.ins (cls_Graph hd) (noat_Graph_places hd) c4.q rfl) ld4 (de_var rfl) (plM_in fin.nd (addP_mem _ _))) (da_cons (de_var rfl) (da_cons (de_var rfl) da_nil))))) (by simp)) (by rw [List.length_map]; omega) fun H5 x5 le5 => ?_
      have t5 : TEx H4 H5 := ExB.tex x5 le4.nt
      refine dn_turn (P := fun s => GI W s.1 s.2 (dnS Dn p x ((steps W u.1 u.2 x).take (i + 1))) ∧ (∀ (i : Nat) (q : Pr), ps[i]? = some q → s.1[i]? = some q) ∧ s.2.length = es.length + (i + 1)) (env := fun _ => EAS g p x) (G := fun s H' => GphAt K H' g pa pl ea W s.1 s.2) (addP qs (s.1, s.2.1), fs' ++ [⟨p, x, place (addP qs (s.1, s.2.1)) (s.1, s.2.1), s.2.2.1, s.2.2.2⟩]) ⟨fin, fun j q h => addP_old (pre j q h), by show (fs' ++ [_]).length = _; rw [List.length_append, len]; rfl⟩ (wk_same (wk_same (wk_same (wk_none (wk_none (wk_none (wk_none (wk_none wk_nil)))))))) (ExS.to x3 hM (x4.trans (ExS.ofB x5 (by simp)))) ⟨⟨fs4, c4.exB x5 (.inr (.inr rfl)) t5⟩, lp4.exB x5 n2 t5, ld4.exB x5 n3, ?_⟩ (fun s H3 H4 l x => l.ex x)
      show LstAt H5 ea ((fs' ++ [_]).map encEd)
      rw [List.map_append]
      exact le5
    · intro hb post
      have hb : (s.1, s.2.1) ∉ qs := fun z => by
        rw [plM_in I.nd z] at hb
        cases hb
      have ea' : addP qs (s.1, s.2.1) = qs ++ [(s.1, s.2.1)] := by unfold addP; rw [if_neg hb]
      refine dn_seq (dn_dputT (q := (s.1, s.2.1)) (c := (qs.length : Int)) (DE.is (de_lenL (dl_adr (de_fld (de_var rfl) c.ins (cls_Graph hd) (noat_Graph_pairs hd) c.p rfl) lp)) (by rw [List.length_map])) (de_fld (de_var rfl) c.ins (cls_Graph hd) (noat_Graph_places hd) c.q rfl) (de_var rfl) ld (by rw [plM_len]; omega) fun H4 x4 ld4 => ?_)
      have t4 : TEx H3 H4 := ExB.tex x4 (dict_tex ld fun vs z => by cases z)
      have c4 := c.exB x4 (.inr (.inl rfl)) t4
      have lp4 := lp.exB x4 n1 t4
      rw [plM_put hb] at ld4
      refine dn_app (d := encQ (s.1, s.2.1)) (de_fld (de_var rfl) c4.ins (cls_Graph hd) (noat_Graph_pairs hd) c4.p rfl) lp4 (de_var rfl) (by rw [List.length_map]; omega) fun H5 x5 lp5 => ?_
      have t5 : TEx H4 H5 := ExB.tex x5 lp4.nt
      refine post () H5 ⟨(ExS.ofB x4 (by simp)).trans (ExS.ofB x5 (by simp)), ⟨fs, c4.exB x5 (.inl rfl) t5⟩, ?_, ?_, (le.exB x4 (Ne.symm n3) t4).exB x5 (Ne.symm n2) t5⟩
      · rw [ea', List.map_append]; exact lp5
      · rw [ea']; exact ld4.exB x5 (Ne.symm n1)
    · intro hb post
      have hb : (s.1, s.2.1) ∈ qs := by
        by_cases z : (s.1, s.2.1) ∈ qs
        · exact z
        · rw [plM_out z] at hb; cases hb
      have ea' : addP qs (s.1, s.2.1) = qs := by unfold addP; rw [if_pos hb]
      refine dn_next (post () H3 ⟨ExS.of (Ex.refl _), ⟨fs, c⟩, ?_, ?_, le⟩)
      · rw [ea']; exact lp
      · rw [ea']; exact ld
  · rintro ⟨qs, fs'⟩ ⟨I, pre, len⟩ H3 x3 G3
    rw [List.take_length] at I
    intro σ H4 x4 n4
    exact k qs fs' H4 I pre (by have len : fs'.length = _ := len; omega) (ExS.hid (x3.trans x4)) (G3.ex x4)
end
end GC

-- part RD14
set_option Elab.async false
set_option linter.all false
set_option maxRecDepth 100000
set_option maxHeartbeats 4000000
namespace GC
open PySem PySem.Spec PyProof.Rows L2
section
variable {H H' : Hp} {ρ ρ' : List (Option D)} {K : PySem.W.Frag} {te ta tb td ty tl tk tv : TE} {E : Ends} {a f C : Addr} {ds : List D}
theorem lk_same {f : Str} {v : V} {fs : List (Str × V)} : (putF f v fs).lookup f = some v := by rw [lookup_putF, if_pos rfl]
theorem lk_ne {f g : Str} {v : V} {fs : List (Str × V)} (h : g ≠ f) : (putF f v fs).lookup g = fs.lookup g := by rw [lookup_putF, if_neg h]
/-- {key: value} into a field -/
theorem dn_fldD1 {fs : List (Str × V)} {f : Str} {q : Tx × Tx} {c : Int} (hk : DE tk H ρ (encQ q)) (hv : DE tv H ρ (.int c)) (ha : DE ta H ρ (.adr a)) (l : InsAt H a C fs) (cl : Cls K C) (na : NoAttr K C f) (hn : fs.length < 1000) (kk : ∀ b H', H b = none → ExB a H H' → InsAt H' a C (putF f (.ref b) fs) → DtAt H' b [(q, c)] → DN E.nx H' ρ) : DN (sFld K ta (tDisp1 tk tv) f E) H ρ :=
  fun σ H1 x n p hp => hk σ _ (x.trans (Ex.new hp)) (n.ex (Ex.new hp)) _ fun y H2 y2 r2 => hv σ H2 ((x.trans (Ex.new hp)).trans y2) ((n.ex (Ex.new hp)).ex y2) _ fun z H3 y3 r3 => by
    obtain ⟨b, e1, e2⟩ := rp_encQ (Rp.ex y3 r2)
    have r3 : z = .int c := r3
    subst e1 r3
    have xp : H3 p = some (.dT []) := y3 _ _ (y2 _ _ upd_same)
    refine ⟨b, kT q, rfl, e2, xp, ?_⟩
    have x13 : Ex H1 (upd H3 p (.dT [(kT q, .int c)])) := fun b o ho => by
      have nb : b ≠ p := fun e => by rw [e, hp] at ho; cases ho
      rw [upd_ne nb]
      exact y3 _ _ (y2 _ _ (by rw [upd_ne nb]; exact ho))
    refine ha σ _ (x.trans x13) (n.ex x13) _ fun w H4 y4 rw' => ?_
    have rw' : w = .ref a := rw'
    subst rw'
    have x14 := x13.trans y4
    obtain ⟨dx, l4⟩ := l.ex (x.trans x14)
    obtain ⟨dx1, l1⟩ := l.ex x
    have ne : p ≠ a := fun z => by subst z; rw [hp] at l1; cases l1
    have tt : TEx H4 (upd H4 a (.ins C dx (putF f (.ref p) fs))) := ExB.tex (a := a) ExB.upd (dict_tex l4 fun vs z => by cases z)
    exact ⟨a, C, dx, fs, rfl, l4, cl, na, hn, kk p _ (x.fresh hp) ((ExB.of (x.trans x14)).trans ExB.upd) ⟨dx, upd_same⟩ (by show upd H4 a _ p = _; rw [upd_ne ne]; exact y4 _ _ upd_same) σ _ (Ex.refl _) ((n.ex x14).mono tt)⟩
/-- e.m(..), its value dropped; into a slot -/
theorem dn_meth {R : Hp → List D → VK → Prop} {X0 : XK} {m : Str} {fs : List (Str × V)} {t : TA} (ha : DE ta H ρ (.adr a)) (l : InsAt H a C fs) (e : fs.lookup m = none) (ht : DA t H ρ ds) (k : ∀ H1, Ex H H1 → ∀ σ, EnvD H1 σ ρ → R H1 (.adr a :: ds) (fun _ H' => E.nx σ H')) : DN (tDrop (tMeth C m (spG R) [] X0 ta t) E) H ρ := fun σ H1 x n =>
  ha σ H1 x n _ fun v H2 y r => by
    have r : v = .ref a := r
    subst r
    obtain ⟨dx, l2⟩ := l.ex (x.trans y)
    refine ⟨a, dx, fs, rfl, l2, e, ht σ H2 (x.trans y) (n.ex y) _ fun vs H3 y3 rs => ?_⟩
    rw [List.append_nil]
    exact ⟨.adr a :: ds, ⟨.ref a, vs, rfl, rfl, rs⟩, k H3 ((x.trans y).trans y3) σ ((n.ex y).ex y3)⟩
theorem dn_methA {R : Hp → List D → VK → Prop} {X0 : XK} {m : Str} {fs : List (Str × V)} {t : TA} {i : Nat} (ha : DE ta H ρ (.adr a)) (l : InsAt H a C fs) (e : fs.lookup m = none) (ht : DA t H ρ ds) (k : ∀ H1, Ex H H1 → ∀ σ, EnvD H1 σ ρ → R H1 (.adr a :: ds) (fun v H' => E.nx (σ.set i (some v)) H')) : DN (tAsg (tMeth C m (spG R) [] X0 ta t) (gName i) E) H ρ := fun σ H1 x n =>
  ha σ H1 x n _ fun v H2 y r => by
    have r : v = .ref a := r
    subst r
    obtain ⟨dx, l2⟩ := l.ex (x.trans y)
    refine ⟨a, dx, fs, rfl, l2, e, ht σ H2 (x.trans y) (n.ex y) _ fun vs H3 y3 rs => ?_⟩
    rw [List.append_nil]
    exact ⟨.adr a :: ds, ⟨.ref a, vs, rfl, rfl, rs⟩, k H3 ((x.trans y).trans y3) σ ((n.ex y).ex y3)⟩
/-- a new instance into a slot -/
theorem dn_make {R : Hp → List D → VK → Prop} {X0 : XK} {t : TA} {i : Nat} (ht : DA t H ρ ds) (k : ∀ H1 g, Ex H H1 → H g = none → InsAt H1 g C [] → ∀ σ, EnvD H1 σ ρ → R H1 (.adr g :: ds) (fun v H' => v = .non ∧ E.nx (σ.set i (some (.ref g))) H')) : DN (tAsg (tMake C (spG R) [] X0 t) (gName i) E) H ρ := fun σ H1 x n =>
  ht σ H1 x n _ fun vs H2 y rs => fun g dx hg hdx ne => by
    rw [List.append_nil]
    have x2 : Ex H2 (upd (upd H2 dx (.own g)) g (.ins C dx [])) := (Ex.new hdx).trans (Ex.new (by rw [upd_ne (Ne.symm ne)]; exact hg))
    exact ⟨.adr g :: ds, ⟨.ref g, vs, rfl, rfl, rs.ex x2⟩, k _ g ((x.trans y).trans x2) (x.fresh (y.fresh hg)) ⟨dx, upd_same⟩ σ ((n.ex y).ex x2)⟩
theorem GphAt.nt {g pa pl ea : Addr} {W : WL} {ps : List Pr} {es : List Ed} (h : GphAt K H g pa pl ea W ps es) : ∀ m ∈ [pa, pl, ea], ∀ vs, H m ≠ some (.tup vs) := fun m hm vs z => by
  obtain ⟨o, h1, h2⟩ := h.ob m hm
  rw [h1] at z
  exact h2 vs (Option.some.inj z)
end
section
variable {P : Program} {w : World} {K : PySem.W.Frag} {mg : Str → Option Value} {base : Heap}
/-! Graph.__init__ -/
def R_graph : PySem.W.Frag → Hp → List D → VK → Prop := fun K H ds Q => ∃ g W, ds = [.adr g, encW W] ∧ InsAt H g (He.ga K "Graph") [] ∧ Wd W ∧ ∀ pa pl ea ps es H', Gr W ps es → ExB g H H' → GphAt K H' g pa pl ea W ps es → Q .non H'
def dnG (W : WL) (ps : List Pr) (p : Nat) : Nat → Nat → (Tx × Tx × Int × Int) → Prop := fun i y r => i < p ∧ ∃ u, ps[i]? = some u ∧ y ∈ letters W ∧ r ∈ steps W u.1 u.2 y
def dnL (W : WL) (ps : List Pr) (p j : Nat) : Nat → Nat → (Tx × Tx × Int × Int) → Prop := fun i y r => dnG W ps p i y r ∨ (i = p ∧ y ∈ (letters W).take j ∧ ∃ u, ps[p]? = some u ∧ r ∈ steps W u.1 u.2 y)
def EGI (g : Addr) (W : WL) (p : Nat) : List (Option D) := [some (.adr g), some (encW W), some (.int (p : Int)), none]
def PG1 (W : WL) (s : Nat × List Pr × List Ed) : Prop := GI W s.2.1 s.2.2 (dnG W s.2.1 s.1) ∧ s.1 ≤ s.2.1.length ∧ s.2.2.length ≤ 16 * s.1
def PG2 (W : WL) (p j : Nat) (s : List Pr × List Ed) : Prop := GI W s.1 s.2 (dnL W s.1 p j) ∧ p < s.1.length ∧ s.2.length ≤ 16 * p + 2 * j
theorem okf_graph (hd : Hd K mg) : OkA P w K mg base 7 (He.ma K (He.ga K "Graph") "__init__") ["self", "words"] (spG (R_graph K)) := by
  refine ok_Graph_init hd (okf_letters_in hd) (okf_add hd) (len_G ?_) (rd_G ?_)
  · rintro H ds Q ⟨g, W, rfl, _⟩; rfl
  rintro ds H Q ⟨g, W, rfl, g0, hW, k⟩
  have l8 := hW.letters_len
  unfold t_Graph_init
  refine dn_seq (dn_fld (de_var rfl) (de_var rfl) g0 (cls_Graph hd) (noat_Graph_words hd) (by simp) fun vw H1 x1 g1 r1 => ?_)
  have len1 := length_putF ("words" : Str) vw []
  refine dn_seq (dn_fldL (dl_lst (da_cons (d := encQ ([], [])) (de_tup (da_cons de_empty (da_cons de_empty da_nil)) (by simp)) da_nil) (by simp)) (de_var rfl) g1 (cls_Graph hd) (noat_Graph_pairs hd) (by simp at len1; omega) fun pa H2 np x2 g2 lp2 => ?_)
  have len2 := length_putF ("pairs" : Str) (.ref pa) (putF "words" vw [])
  refine dn_seq (dn_fldD1 (q := ([], [])) (c := 0) (de_tup (da_cons de_empty (da_cons de_empty da_nil)) (by simp)) de_int (de_var rfl) g2 (cls_Graph hd) (noat_Graph_places hd) (by simp at len1; omega) fun pl H3 nl x3 g3 ld3 => ?_)
  have len3 := length_putF ("places" : Str) (.ref pl) (putF "pairs" (.ref pa) (putF "words" vw []))
  refine dn_seq (dn_fldL (dl_lst da_nil (by simp)) (de_var rfl) g3 (cls_Graph hd) (noat_Graph_edges hd) (by simp at len1; omega) fun ea H4 ne x4 g4 le4 => ?_)
  have insne : ∀ {H : Hp} {b : Addr} {fs : List (Str × V)}, InsAt H g (He.ga K "Graph") fs → H b = none → g ≠ b := fun i e z => by
    obtain ⟨dx, i⟩ := i
    rw [z, e] at i; cases i
  have n1 : g ≠ pa := insne g1 np
  have n2 : g ≠ pl := insne g2 nl
  have n3 : g ≠ ea := insne g3 ne
  have n4 : pa ≠ pl := fun z => by obtain ⟨vs, e, _⟩ := lp2; rw [z, nl] at e; cases e
  have t2 : TEx H2 H3 := ExB.tex x3 (fun vs z => by obtain ⟨dx, e⟩ := g2; rw [e] at z; cases z)
  have t3 : TEx H3 H4 := ExB.tex x4 (fun vs z => by obtain ⟨dx, e⟩ := g3; rw [e] at z; cases z)
  have lp3 := lp2.exB x3 (Ne.symm n1) t2
  have n5 : pa ≠ ea := fun z => by obtain ⟨vs, e, _⟩ := lp3; rw [z, ne] at e; cases e
  have n6 : pl ≠ ea := fun z => by rw [z] at ld3; rw [ld3] at ne; cases ne
  have lp4 := lp3.exB x4 (Ne.symm n1) t3
  have ld4 : DtAt H4 pl (plM [([], [])]) := ld3.exB x4 (Ne.symm n2)
  have t1 : TEx H1 H2 := ExB.tex x2 (fun vs z => by obtain ⟨dx, e⟩ := g1; rw [e] at z; cases z)
  have r4 := Rp.mono t3 _ _ (Rp.mono t2 _ _ (Rp.mono t1 _ _ r1))
  have G4 : GphAt K H4 g pa pl ea W [([], [])] [] := by
    refine ⟨⟨_, g4, ⟨vw, ?_, r4⟩, ?_, ?_, lk_same, ?_, n1, n2, n3, n4, n5, n6⟩, lp4, ld4, le4⟩
    · rw [lk_ne (by decide +kernel), lk_ne (by decide +kernel), lk_ne (by decide +kernel)]; exact lk_same
    · rw [lk_ne (by decide +kernel), lk_ne (by decide +kernel)]; exact lk_same
    · rw [lk_ne (by decide +kernel)]; exact lk_same
    · rw [lk_ne (by decide +kernel), lk_ne (by decide +kernel), lk_ne (by decide +kernel), lk_ne (by decide +kernel)]; rfl
  dsimp only
  refine dn_seq (dn_asg de_int ?_)
  dsimp only
  refine dn_whileG (Hb := hid [pa, pl, ea] H4) (τ := Nat × List Pr × List Ed) (PG1 W) (fun s => 169 - s.1) (fun s => EGI g W s.1) (fun s H' => GphAt K H' g pa pl ea W s.2.1 s.2.2) (0, [([], [])], []) hid_ex ⟨GI.start.imp fun i y r z => by exact absurd z.1 (Nat.not_lt_zero _), by simp, by simp⟩ (Wk.refl _) G4 (fun s H3 H4 l x => l.ex x) ?_
  rintro ⟨p, ps, es⟩ ⟨I, hp, hes⟩ H5 x5 G5
  have I : GI W ps es (dnG W ps p) := I
  have hp : p ≤ ps.length := hp
  have hes : es.length ≤ 16 * p := hes
  have G5 : GphAt K H5 g pa pl ea W ps es := G5
  have p169 := hW.pairs_len I.nd I.held
  obtain ⟨⟨fs, c⟩, lp, ld, le⟩ := id G5
  refine ⟨decide (p < ps.length), dt_test (DE.is (de_cmpI (g := fun i j => decide (i < j)) (de_var rfl) (de_lenL (dl_adr (de_fld (de_var rfl) c.ins (cls_Graph hd) (noat_Graph_pairs hd) c.p rfl) lp))) (by rw [nat_lt_dec, List.length_map])), fun hb => ?_, fun hb => ?_⟩
  · have hp2 : p < ps.length := of_decide_eq_true hb
    refine dn_seq ?_
    refine dn_forG (Hb := hid [pa, pl, ea] H4) (τ := List Pr × List Ed) [pa, pl, ea] (letters W) (fun c => D.str [c]) (fun x => dg_name) (PG2 W p) (fun _ => EGI g W p) (fun s H' => GphAt K H' g pa pl ea W s.1 s.2) (ps, es) (di_str (de_call (da_cons (de_var rfl) da_nil) ⟨W, rfl, rfl, hW⟩)) x5 (fun m hm => ⟨hid_in hm, G5.ob m hm⟩) (fun s H3 H4 l x => l.ex x) ⟨I.imp fun i y r z => ?_, hp2, by show es.length ≤ _; omega⟩ (Wk.refl _) G5 ?_ ?_
    · rcases z with z | ⟨_, z, _⟩
      · exact z
      · rw [List.take_zero] at z; cases z
    · rintro Hh xh hM j x ⟨qs, fs'⟩ hx ⟨J, hq, len⟩ H6 x6 G6
      have J : GI W qs fs' (dnL W qs p j) := J
      have hq : p < qs.length := hq
      have len : fs'.length ≤ 16 * p + 2 * j := len
      have G6 : GphAt K H6 g pa pl ea W qs fs' := G6
      have hxm : x ∈ letters W := List.mem_of_getElem? hx
      have hj := (List.getElem?_eq_some_iff.mp hx).1
      have q169 := hW.pairs_len J.nd J.held
      obtain ⟨u, hu⟩ : ∃ u, qs[p]? = some u := ⟨qs[p], List.getElem?_eq_getElem hq⟩
      obtain ⟨⟨fs, c⟩, _⟩ := id G6
      refine dn_meth (de_var rfl) c.ins c.m (da_cons (de_var rfl) (da_cons (de_var rfl) da_nil)) fun H7 x7 σ n7 => ⟨g, pa, pl, ea, W, qs, fs', dnL W qs p j, p, x, u, rfl, G6.ex x7, hW, J, hu, hxm, by omega, ?_⟩
      intro qs' es' H8 I' pre len' x8 G8
      have G7 := G6.ex x7
      refine dn_turn (ρ := EGI g W p) (P := PG2 W p (j + 1)) (env := fun _ => EGI g W p) (G := fun s H' => GphAt K H' g pa pl ea W s.1 s.2) (qs', es') ⟨I'.imp fun i y r z => ?_, ?_, by show es'.length ≤ _; omega⟩ (Wk.refl _) (ExS.to (x6.trans x7) hM x8) G8 (fun s H3 H4 l x => l.ex x) σ H8 (Ex.refl _) ((n7.mono (x8.tex G7.nt)).wk (wk_same (wk_same (wk_same (wk_none wk_nil)))))
      · have hu' := pre p u hu
        rcases z with ⟨zi, v, zv, zy, zr⟩ | ⟨zi, zy, v, zv, zr⟩
        · left
          have hv : qs[i]? = some qs[i] := List.getElem?_eq_getElem (by omega)
          have := pre i _ hv
          rw [zv] at this
          have := Option.some.inj this
          subst this
          exact .inl ⟨zi, _, hv, zy, zr⟩
        · rw [hu'] at zv
          have zv := Option.some.inj zv
          subst zv
          rw [List.take_succ, hx, Option.toList_some] at zy
          rcases List.mem_append.mp zy with zy | zy
          · exact .inl (.inr ⟨zi, zy, u, hu, zr⟩)
          · have zy := List.mem_singleton.mp zy
            subst zy
            exact .inr ⟨zi, rfl, zr⟩
      · show p < qs'.length
        have := (List.getElem?_eq_some_iff.mp (pre p u hu)).1
        exact this
    · rintro ⟨qs, fs'⟩ ⟨J, hq, len⟩ H6 x6 G6
      have J : GI W qs fs' (dnL W qs p (letters W).length) := J
      have hq : p < qs.length := hq
      have len : fs'.length ≤ 16 * p + 2 * (letters W).length := len
      dsimp only
      refine dn_asg (de_addN (de_var rfl) (de_nat 1 rfl)) (dn_turnW (P := PG1 W) (m := fun s => 169 - s.1) (env := fun s => EGI g W s.1) (G := fun s H' => GphAt K H' g pa pl ea W s.2.1 s.2.2) (p + 1, qs, fs') (by show 169 - (p + 1) < 169 - p; omega) ⟨J.imp fun i y r z => ?_, by show p + 1 ≤ qs.length; omega, by show fs'.length ≤ _; omega⟩ (Wk.refl _) x6 G6 (fun s H3 H4 l x => l.ex x))
      obtain ⟨zi, u, zu, zy, zr⟩ := z
      have zi : i < p + 1 := zi
      by_cases e : i = p
      · subst e
        exact .inr ⟨rfl, by rw [List.take_length]; exact zy, u, zu, zr⟩
      · exact .inl ⟨by omega, u, zu, zy, zr⟩
  · have hp2 : ¬ p < ps.length := of_decide_eq_false hb
    have Gf : Gr W ps es := I.done (fun i u x s hi hx hs => ⟨by have := (List.getElem?_eq_some_iff.mp hi).1; omega, u, hi, hx, hs⟩) (by omega)
    intro σ H6 x6 n6
    refine k pa pl ea ps es H6 Gf ?_ (G5.ex x6)
    intro b o nb ho
    have h1 := x1 b o nb ho
    have b1 : b ≠ pa := fun e => by rw [e, np] at h1; cases h1
    have h2 := x2 b o nb h1
    have b2 : b ≠ pl := fun e => by rw [e, nl] at h2; cases h2
    have h3 := x3 b o nb h2
    have b3 : b ≠ ea := fun e => by rw [e, ne] at h3; cases h3
    have h4 := x4 b o nb h3
    exact x6 _ _ (x5 b o (by rw [hid_out (by simp [b1, b2, b3])]; exact h4))
end
end GC

-- part RD15
set_option Elab.async false
set_option linter.all false
set_option maxRecDepth 100000
set_option maxHeartbeats 4000000
namespace GC
open PySem PySem.Spec PyProof.Rows L2
def encO : Option Int → D
  | none => .non
  | some i => .int i
def encN : Option Nat → D
  | none => .non
  | some i => .int (i : Int)
section
variable {H H' : Hp} {ρ ρ' : List (Option D)} {K : PySem.W.Frag} {te ta tb td ty tl tk tv : TE} {E : Ends} {a f C : Addr} {ds : List D}
theorem dn_at {p : L2.St → Hp → Prop} {σ : L2.St} (h : DN p H ρ) (n : EnvD H σ ρ) : p σ H := h σ H (Ex.refl _) n
/-- the whole graph, to be read -/
def GrfAt (K : PySem.W.Frag) (H : Hp) (g : Addr) (ps : List Pr) (es : List Ed) : Prop := ∃ fs pa ea, InsAt H g (He.ga K "Graph") fs ∧ fs.lookup ("pairs" : Str) = some (.ref pa) ∧ LstAt H pa (ps.map encQ) ∧ fs.lookup ("edges" : Str) = some (.ref ea) ∧ LstAt H ea (es.map encEd)
theorem GrfAt.ex {g : Addr} {ps : List Pr} {es : List Ed} (h : GrfAt K H g ps es) (x : Ex H H') : GrfAt K H' g ps es := by
  obtain ⟨fs, pa, ea, h1, h2, h3, h4, h5⟩ := h
  exact ⟨fs, pa, ea, h1.ex x, h2, h3.ex x, h4, h5.ex x⟩
theorem GphAt.grf {g pa pl ea : Addr} {W : WL} {ps : List Pr} {es : List Ed} (h : GphAt K H g pa pl ea W ps es) : GrfAt K H g ps es := by
  obtain ⟨⟨fs, c⟩, h1, h2, h3⟩ := h
  exact ⟨fs, pa, ea, c.ins, c.p, h1, c.e, h3⟩
theorem GrfAt.exC {g c : Addr} {ps : List Pr} {es : List Ed} {fs' : List (Str × V)} (h : GrfAt K H g ps es) (i : InsAt H c C fs') (e : fs'.lookup ("pairs" : Str) = none) (x : ExB c H H') (t : TEx H H') : GrfAt K H' g ps es := by
  obtain ⟨fs, pa, ea, h1, h2, h3, h4, h5⟩ := h
  obtain ⟨dx, i⟩ := i
  refine ⟨fs, pa, ea, h1.exB x (fun z => ?_), h2, h3.exB x (fun z => ?_) t, h4, h5.exB x (fun z => ?_) t⟩
  · obtain ⟨dx2, h1⟩ := h1
    rw [z, i] at h1
    injection h1 with h1
    injection h1 with _ _ h1
    rw [← h1, e] at h2
    cases h2
  · obtain ⟨vs, h3, _⟩ := h3
    rw [z, i] at h3; cases h3
  · obtain ⟨vs, h5, _⟩ := h5
    rw [z, i] at h5; cases h5
structure CL0 (K : PySem.W.Frag) (H : Hp) (c g ha la wa : Addr) (fs : List (Str × V)) : Prop where
  ins : InsAt H c (He.ga K "Climb") fs
  g : fs.lookup ("graph" : Str) = some (.ref g)
  h : fs.lookup ("heights" : Str) = some (.ref ha)
  l : fs.lookup ("last" : Str) = some (.ref la)
  w : fs.lookup ("weights" : Str) = some (.ref wa)
  r : fs.lookup ("rise" : Str) = none
  o : fs.lookup ("circle" : Str) = none
  n1 : c ≠ ha
  n2 : c ≠ la
  n3 : wa ≠ ha
  n4 : wa ≠ la
  n5 : ha ≠ la
theorem CL0.mv {c g ha la wa : Addr} {fs : List (Str × V)} (h : CL0 K H c g ha la wa fs) (x : ∀ o, H c = some o → H' c = some o) : CL0 K H' c g ha la wa fs := by
  obtain ⟨dx, i⟩ := h.ins
  exact ⟨⟨dx, x _ i⟩, h.g, h.h, h.l, h.w, h.r, h.o, h.n1, h.n2, h.n3, h.n4, h.n5⟩
structure CliAt (K : PySem.W.Frag) (H : Hp) (c g ha la wa : Addr) (h : List (Option Int)) (l : List (Option Nat)) (ws : List Int) : Prop where
  c : ∃ fs, CL0 K H c g ha la wa fs
  lh : LstAt H ha (h.map encO)
  ll : LstAt H la (l.map encN)
  lw : LstAt H wa (ws.map D.int)
theorem CliAt.ex {c g ha la wa : Addr} {h : List (Option Int)} {l : List (Option Nat)} {ws : List Int} (x : CliAt K H c g ha la wa h l ws) (e : Ex H H') : CliAt K H' c g ha la wa h l ws := by
  obtain ⟨⟨fs, c⟩, h1, h2, h3⟩ := x
  exact ⟨⟨fs, c.mv fun o => e _ o⟩, h1.ex e, h2.ex e, h3.ex e⟩
theorem CliAt.ob {c g ha la wa : Addr} {h : List (Option Int)} {l : List (Option Nat)} {ws : List Int} (x : CliAt K H c g ha la wa h l ws) : ∀ m ∈ [ha, la], ∃ o, H m = some o ∧ ∀ vs, o ≠ .tup vs := fun m hm => by
  rcases List.mem_cons.mp hm with e | hm
  · rw [e]; obtain ⟨vs, h, _⟩ := x.lh; exact ⟨_, h, fun us z => by cases z⟩
  · rw [List.mem_singleton.mp hm]; obtain ⟨vs, h, _⟩ := x.ll; exact ⟨_, h, fun us z => by cases z⟩
theorem CliAt.nt {c g ha la wa : Addr} {h : List (Option Int)} {l : List (Option Nat)} {ws : List Int} (x : CliAt K H c g ha la wa h l ws) : ∀ m ∈ [ha, la], ∀ vs, H m ≠ some (.tup vs) := fun m hm vs z => by
  obtain ⟨o, h1, h2⟩ := x.ob m hm
  rw [h1] at z
  exact h2 vs (Option.some.inj z)
theorem hid_mono {M : List Addr} (x : ExS M H H') : Ex (hid M H) (hid M H') := fun b o h => by
  by_cases e : b ∈ M
  · rw [hid_in e] at h; cases h
  · rw [hid_out e] at h ⊢
    exact x b o e h
end
section
variable {P : Program} {w : World} {K : PySem.W.Frag} {mg : Str → Option Value} {base : Heap}
/-! Climb.__init__ -/
def R_climb : PySem.W.Frag → Hp → List D → VK → Prop := fun K H ds Q => ∃ c g ps es, ∃ a b : Int, ds = [.adr c, .adr g, .int a, .int b] ∧ InsAt H c (He.ga K "Climb") [] ∧ GrfAt K H g ps es ∧ 1 ≤ ps.length ∧ ps.length ≤ 1000 ∧ es.length ≤ 10000 ∧ (-100000 ≤ a ∧ a ≤ 100000) ∧ (-100000 ≤ b ∧ b ≤ 100000) ∧
  ∀ ha la wa H', H ha = none → H la = none → ExB c H H' → CliAt K H' c g ha la wa (startH ps.length) (startL ps.length) (es.map (wtOf a b)) → GrfAt K (hid [ha, la] H') g ps es → Q .non H'
theorem map_rep {α : Type} (l : List α) (d : D) : l.map (fun _ => d) = List.replicate l.length d := by
  induction l with
  | nil => rfl
  | cons a l ih => rw [List.map_cons, ih]; rfl
theorem okf_climb (hd : Hd K mg) : OkA P w K mg base 1 (He.ma K (He.ga K "Climb") "__init__") ["self", "graph", "a", "b"] (spG (R_climb K)) := by
  refine ok_Climb_init hd (len_G ?_) (rd_G ?_)
  · rintro H ds Q ⟨c, g, ps, es, a, b, rfl, _⟩; rfl
  rintro ds H Q ⟨c, g, ps, es, a, b, rfl, i0, G0, p1, p2, e1, ⟨a0, a1⟩, ⟨b0, b1⟩, k⟩
  have nt0 : ∀ {H : Hp} {fs : List (Str × V)}, InsAt H c (He.ga K "Climb") fs → ∀ vs, H c ≠ some (.tup vs) := fun i vs z => by obtain ⟨dx, e⟩ := i; rw [e] at z; cases z
  unfold t_Climb_init
  refine dn_seq (dn_fld (de_var rfl) (de_var rfl) i0 (cls_Climb hd) (noat_Climb_graph hd) (by simp) fun vg H1 x1 i1 r1 => ?_)
  have r1 : vg = .ref g := r1
  subst r1
  have G1 := G0.exC i0 rfl x1 (ExB.tex x1 (nt0 i0))
  have len1 := length_putF ("graph" : Str) (.ref g) []
  obtain ⟨fs, pa, ea, g1, g2, g3, g4, g5⟩ := id G1
  refine dn_seq (dn_fldL (ds := (List.replicate ps.length (none : Option Int)).map encO) (DLn.is (lc_M ps encQ (f := fun _ => .non) (js := [4]) (di_lst (de_fld (de_var rfl) g1 (cls_Graph hd) (noat_Graph_pairs hd) g2 rfl) g3) (fun x => dg_name) (by simp) (by omega) fun p hp => de_non) (by rw [map_rep, List.map_replicate]; rfl)) (de_var rfl) i1 (cls_Climb hd) (noat_Climb_heights hd) (by simp at len1; omega) fun ha H2 nh x2 i2 lh2 => ?_)
  have n1 : c ≠ ha := fun z => by obtain ⟨dx, e⟩ := i1; rw [z, nh] at e; cases e
  have G2 := G1.exC i1 (by rw [lk_ne (by decide +kernel)]; rfl) x2 (ExB.tex x2 (nt0 i1))
  have len2 := length_putF ("heights" : Str) (.ref ha) (putF "graph" (.ref g) [])
  refine dn_seq (dn_setI (k := 0) de_int (de_fld (de_var rfl) i2 (cls_Climb hd) (noat_Climb_heights hd) lk_same rfl) de_int lh2 (by simp; omega) fun H3 x3 lh3 => ?_)
  have t3 : TEx H2 H3 := ExB.tex x3 lh2.nt
  have i3 := i2.exB x3 n1
  have lh3 : LstAt H3 ha ((startH ps.length).map encO) := by
    unfold startH
    rw [List.map_set]
    exact lh3
  have hnh : H ha = none := by
    cases q : H ha with
    | none => rfl
    | some o => rw [x1 _ _ (Ne.symm n1) q] at nh; cases nh
  have G3 : GrfAt K H3 g ps es := by
    obtain ⟨fs, pa, ea, h1, h2, h3, h4, h5⟩ := G1
    have pn : pa ≠ ha := fun z => by obtain ⟨vs, e, _⟩ := h3; rw [z, nh] at e; cases e
    have en : ea ≠ ha := fun z => by obtain ⟨vs, e, _⟩ := h5; rw [z, nh] at e; cases e
    have gn : g ≠ ha := fun z => by obtain ⟨dx, e⟩ := h1; rw [z, nh] at e; cases e
    have t2 := ExB.tex x2 (nt0 i1)
    have pc : pa ≠ c := fun z => by obtain ⟨vs, e, _⟩ := h3; obtain ⟨dx, i⟩ := i1; rw [z, i] at e; cases e
    have ec : ea ≠ c := fun z => by obtain ⟨vs, e, _⟩ := h5; obtain ⟨dx, i⟩ := i1; rw [z, i] at e; cases e
    have gc : g ≠ c := fun z => by
      obtain ⟨dx, e⟩ := h1
      obtain ⟨dx2, i⟩ := i1
      rw [z, i] at e
      injection e with e
      injection e with _ _ e
      rw [← e, lk_ne (by decide +kernel)] at h2
      cases h2
    exact ⟨fs, pa, ea, (h1.exB x2 gc).exB x3 gn, h2, (h3.exB x2 pc t2).exB x3 pn t3, h4, (h5.exB x2 ec t2).exB x3 en t3⟩
  obtain ⟨fs, pa, ea, g1, g2, g3, g4, g5⟩ := id G3
  refine dn_seq (dn_fldL (ds := (startL ps.length).map encN) (DLn.is (lc_M ps encQ (f := fun _ => .non) (js := [4]) (di_lst (de_fld (de_var rfl) g1 (cls_Graph hd) (noat_Graph_pairs hd) g2 rfl) g3) (fun x => dg_name) (by simp) (by omega) fun p hp => de_non) (by unfold startL; rw [map_rep, List.map_replicate]; rfl)) (de_var rfl) i3 (cls_Climb hd) (noat_Climb_last hd) (by simp at len1; omega) fun la H4 nl x4 i4 ll4 => ?_)
  have n2 : c ≠ la := fun z => by obtain ⟨dx, e⟩ := i3; rw [z, nl] at e; cases e
  have n5 : ha ≠ la := fun z => by obtain ⟨vs, e, _⟩ := lh3; rw [z, nl] at e; cases e
  have t4 : TEx H3 H4 := ExB.tex x4 (nt0 i3)
  have lh4 := lh3.exB x4 (Ne.symm n1) t4
  have G4 := G3.exC i3 (by rw [lk_ne (by decide +kernel), lk_ne (by decide +kernel)]; rfl) x4 t4
  have len3 := length_putF ("last" : Str) (.ref la) (putF "heights" (.ref ha) (putF "graph" (.ref g) []))
  obtain ⟨fs, pa, ea, g1, g2, g3, g4, g5⟩ := id G4
  refine dn_fldL (ds := (es.map (wtOf a b)).map D.int) (DLn.is (lc_M es encEd (f := fun e => .int (wtOf a b e)) (js := [5]) (di_lst (de_fld (de_var rfl) g1 (cls_Graph hd) (noat_Graph_edges hd) g4 rfl) g5) (fun x => dg_name) (by simp) (by omega) fun e he => ?_) (by rw [List.map_map]; rfl)) (de_var rfl) i4 (cls_Climb hd) (noat_Climb_weights hd) (by simp at len1; omega) fun wa H5 nw x5 i5 lw5 => ?_
  · exact de_sub (de_mul (de_var rfl) (de_ixTN (k := 3) (ds := [.int (e.src : Nat), .str [e.x], .int (e.dst : Nat), .int e.g, .int e.l]) (de_var rfl) de_int rfl) (cmul_l b0 b1)) (de_mul (de_var rfl) (de_ixTN (k := 4) (ds := [.int (e.src : Nat), .str [e.x], .int (e.dst : Nat), .int e.g, .int e.l]) (de_var rfl) de_int rfl) (cmul_l a0 a1))
  · have t5 : TEx H4 H5 := ExB.tex x5 (nt0 i4)
    have n3 : wa ≠ ha := fun z => by obtain ⟨vs, e, _⟩ := lh4; rw [← z, nw] at e; cases e
    have n4 : wa ≠ la := fun z => by obtain ⟨vs, e, _⟩ := ll4; rw [← z, nw] at e; cases e
    have xx : ExB c H H5 := fun b o nb ho => by
      have h1 := x1 b o nb ho
      have nbh : b ≠ ha := fun e => by rw [e, nh] at h1; cases h1
      exact x5 b o nb (x4 b o nb (x3 b o nbh (x2 b o nb h1)))
    have hnl : H la = none := by
      cases q : H la with
      | none => rfl
      | some o =>
        have h1 := x1 _ _ (Ne.symm n2) q
        rw [x3 _ _ (Ne.symm n5) (x2 _ _ (Ne.symm n2) h1)] at nl; cases nl
    intro σ H6 x6 n6
    refine k ha la wa H6 hnh hnl (xx.trans (ExB.of x6)) (CliAt.ex ⟨⟨_, i5, ?_, ?_, ?_, lk_same, ?_, ?_, n1, n2, n3, n4, n5⟩, lh4.exB x5 (Ne.symm n1) t5, ll4.exB x5 (Ne.symm n2) t5, lw5⟩ x6) ?_
    · rw [lk_ne (by decide +kernel), lk_ne (by decide +kernel), lk_ne (by decide +kernel)]; exact lk_same
    · rw [lk_ne (by decide +kernel), lk_ne (by decide +kernel)]; exact lk_same
    · rw [lk_ne (by decide +kernel)]; exact lk_same
    · rw [lk_ne (by decide +kernel), lk_ne (by decide +kernel), lk_ne (by decide +kernel), lk_ne (by decide +kernel)]; rfl
    · rw [lk_ne (by decide +kernel), lk_ne (by decide +kernel), lk_ne (by decide +kernel), lk_ne (by decide +kernel)]; rfl
    · have xh : ExB c H (hid [ha, la] H6) := fun b o nb ho => by
        have b1 : b ≠ ha := fun e => by rw [e, hnh] at ho; cases ho
        have b2 : b ≠ la := fun e => by rw [e, hnl] at ho; cases ho
        rw [hid_out (by simp [b1, b2])]
        exact x6 _ _ (xx b o nb ho)
      exact G0.exC i0 rfl xh (ExB.tex xh (nt0 i0))
end
end GC

-- part RD16
set_option Elab.async false
set_option linter.all false
set_option maxRecDepth 100000
set_option maxHeartbeats 4000000
namespace GC
open PySem PySem.Spec PyProof.Rows L2
theorem rise_snoc (wt : Ed → Int) (e : Ed) : ∀ (xs : List Ed) (k : Nat) (st : BS), riseFrom wt k (xs ++ [e]) st = relax wt (riseFrom wt k xs st) e (k + xs.length)
  | [], k, st => rfl
  | x :: xs, k, st => by
    show riseFrom wt (k + 1) (xs ++ [e]) (relax wt st x k) = relax wt (riseFrom wt (k + 1) xs (relax wt st x k)) e (k + (xs.length + 1))
    rw [rise_snoc wt e xs (k + 1), show k + 1 + xs.length = k + (xs.length + 1) by omega]
theorem relax_none {wt : Ed → Int} {st : BS} {e : Ed} {k : Nat} (h : st.h[e.src]? = some none) : relax wt st e k = st := by
  unfold relax
  rw [h]
  rfl
theorem relax_new {wt : Ed → Int} {st : BS} {e : Ed} {k : Nat} {hu : Int} (h : st.h[e.src]? = some (some hu)) (h' : st.h[e.dst]? = some none) : relax wt st e k = ⟨st.h.set e.dst (some (hu + wt e)), st.l.set e.dst (some k), some e.dst⟩ := by
  unfold relax
  rw [h, h']
  rfl
theorem relax_old {wt : Ed → Int} {st : BS} {e : Ed} {k : Nat} {hu hv : Int} (h : st.h[e.src]? = some (some hu)) (h' : st.h[e.dst]? = some (some hv)) : relax wt st e k = if hv < hu + wt e then ⟨st.h.set e.dst (some (hu + wt e)), st.l.set e.dst (some k), some e.dst⟩ else st := by
  unfold relax
  rw [h, h']
  rfl
theorem CL0.hid {K : PySem.W.Frag} {H : Hp} {c g ha la wa : Addr} {fs : List (Str × V)} (h : CL0 K H c g ha la wa fs) : CL0 K (hid [ha, la] H) c g ha la wa fs := h.mv fun o e => by
  rw [hid_out (by simp [h.n1, h.n2])]; exact e
section
variable {P : Program} {w : World} {K : PySem.W.Frag} {mg : Str → Option Value} {base : Heap}
/-! Climb.rise -/
structure Es (n : Nat) (es : List Ed) : Prop where
  src : ∀ e ∈ es, e.src < n ∧ e.dst < n
  few : es.length ≤ 10000
def R_rise : PySem.W.Frag → Hp → List D → VK → Prop := fun K H ds Q => ∃ c g ha la wa ps es wt h l, ds = [.adr c] ∧ CliAt K H c g ha la wa h l (es.map wt) ∧ GrfAt K (hid [ha, la] H) g ps es ∧ h.length = ps.length ∧ l.length = ps.length ∧ ps.length ≤ 1000 ∧ Es ps.length es ∧
  ∀ v H', ExS [ha, la] H H' → CliAt K H' c g ha la wa (riseF wt es h l).h (riseF wt es h l).l (es.map wt) → Rp H' (encN (riseF wt es h l).r) v → Q v H'
def ERi (c : Addr) (st : BS) : List (Option D) := [some (.adr c), some (encN st.r), none, none, none]
theorem enum_zip (es : List Ed) : enumD (es.map encEd) = es.zipIdx.map fun p => D.tup [.int (p.2 : Nat), encEd p.1] := by
  unfold enumD
  rw [List.zipIdx_map, List.map_map]
  rfl
theorem okf_rise (hd : Hd K mg) : OkA P w K mg base 1 (He.ma K (He.ga K "Climb") "rise") ["self"] (spG (R_rise K)) := by
  refine ok_Climb_rise hd (len_G ?_) (rd_G ?_)
  · rintro H ds Q ⟨c, g, ha, la, wa, ps, es, wt, h, l, rfl, _⟩; rfl
  rintro ds H Q ⟨c, g, ha, la, wa, ps, es, wt, h, l, rfl, C0, G0, hl, ll, pl, Eh, k⟩
  have few := Eh.few
  obtain ⟨fs0, pa, ea, g1, g2, g3, g4, g5⟩ := id G0
  obtain ⟨fc, c0⟩ := C0.c
  have ch := c0.hid
  unfold t_Climb_rise
  refine dn_seq (dn_asg de_non (dn_seq ?_))
  refine dn_forG (Hb := hid [ha, la] H) (τ := BS) [ha, la] es.zipIdx (fun p => D.tup [.int (p.2 : Nat), encEd p.1]) (tgt := fun p => [.int (p.2 : Nat), encEd p.1]) (fun p => dg_tup (dgs_cons (dgs_cons dgs_nil)) rfl)
    (fun i st => st = riseFrom wt 0 (es.take i) ⟨h, l, none⟩ ∧ st.h.length = ps.length ∧ st.l.length = ps.length) (fun st => ERi c st) (fun st H' => CliAt K H' c g ha la wa st.h st.l (es.map wt)) ⟨h, l, none⟩
    (DI.is (di_enum (de_fld (de_fld (de_var rfl) ch.ins (cls_Climb hd) (noat_Climb_graph hd) ch.g rfl) g1 (cls_Graph hd) (noat_Graph_edges hd) g4 rfl) g5) (enum_zip es)) hid_ex (fun m hm => ⟨hid_in hm, C0.ob m hm⟩) (fun s H3 H4 l x => l.ex x) ⟨rfl, hl, ll⟩ (Wk.refl _) C0 ?_ ?_
  · rintro Hh xh hM i ⟨e, j⟩ ⟨sh, sl, sr⟩ hx ⟨p1, p2, p3⟩ H3 x3 C3
    have p2 : sh.length = ps.length := p2
    have p3 : sl.length = ps.length := p3
    have C3 : CliAt K H3 c g ha la wa sh sl (es.map wt) := C3
    rw [List.getElem?_zipIdx] at hx
    cases hei : es[i]? with
    | none => rw [hei] at hx; cases hx
    | some e' =>
    rw [hei] at hx
    have hx := Option.some.inj hx
    injection hx with hx1 hx2
    subst hx1
    have hx2 : i = j := by omega
    subst hx2
    have hem : e' ∈ es := List.mem_of_getElem? hei
    obtain ⟨es1, es2⟩ := Eh.src e' hem
    have hi := (List.getElem?_eq_some_iff.mp hei).1
    have nxt : riseFrom wt 0 (es.take (i + 1)) ⟨h, l, none⟩ = relax wt ⟨sh, sl, sr⟩ e' i := by
      rw [List.take_succ, hei, Option.toList_some, rise_snoc, ← p1, List.length_take, Nat.zero_add, Nat.min_eq_left (by omega)]
    obtain ⟨⟨fc, cc⟩, lh, lst, lw⟩ := id C3
    obtain ⟨ox, hox⟩ : ∃ ox, sh[e'.src]? = some ox := ⟨sh[e'.src], List.getElem?_eq_getElem (by omega)⟩
    obtain ⟨oy, hoy⟩ : ∃ oy, sh[e'.dst]? = some oy := ⟨sh[e'.dst], List.getElem?_eq_getElem (by omega)⟩
    have hoxe : (sh.map encO)[e'.src]? = some (encO ox) := by rw [List.getElem?_map, hox]; rfl
    have hoye : (sh.map encO)[e'.dst]? = some (encO oy) := by rw [List.getElem?_map, hoy]; rfl
    have hwe : ((es.map wt).map D.int)[i]? = some (.int (wt e')) := by rw [List.getElem?_map, List.getElem?_map, hei]; rfl
    have stay : relax wt ⟨sh, sl, sr⟩ e' i = ⟨sh, sl, sr⟩ → DN (fun σ' H' => ∃ t', (t' = riseFrom wt 0 (es.take (i + 1)) ⟨h, l, none⟩ ∧ t'.h.length = ps.length ∧ t'.l.length = ps.length) ∧ Ex Hh H' ∧ CliAt K H' c g ha la wa t'.h t'.l (es.map wt) ∧ EnvD H' σ' (ERi c t')) H3 (ERi c ⟨sh, sl, sr⟩) := fun q => by
      refine dn_turn (P := fun st : BS => st = riseFrom wt 0 (es.take (i + 1)) ⟨h, l, none⟩ ∧ st.h.length = ps.length ∧ st.l.length = ps.length) (env := fun st => ERi c st) (G := fun st H' => CliAt K H' c g ha la wa st.h st.l (es.map wt)) ⟨sh, sl, sr⟩ ⟨?_, p2, p3⟩ (Wk.refl _) x3 C3 (fun s H3 H4 l x => l.ex x)
      rw [nxt, q]
    have wkE : ∀ (x : Option D) (s : Option D) (t : Option D), Wk (ERi c ⟨sh, sl, sr⟩) [some (.adr c), some (encN sr), x, s, t] := fun x s t => wk_same (wk_same (wk_none (wk_none (wk_none wk_nil))))
    refine dn_if (dt_test (de_notN (de_ixLN (k := e'.src) (dl_adr (de_fld (de_var rfl) cc.ins (cls_Climb hd) (noat_Climb_heights hd) cc.h rfl) lh) (de_ixTN (k := 0) (ds := [.int (e'.src : Nat), .str [e'.x], .int (e'.dst : Nat), .int e'.g, .int e'.l]) (de_var rfl) de_int rfl) hoxe))) (fun hb => ?_) (fun hb => ?_)
    · cases ox with
      | none => cases hb
      | some hu =>
      refine dn_seq (dn_asg (de_add (de_ixLN (k := e'.src) (d := .int hu) (dl_adr (de_fld (de_var rfl) cc.ins (cls_Climb hd) (noat_Climb_heights hd) cc.h rfl) lh) (de_ixTN (k := 0) (ds := [.int (e'.src : Nat), .str [e'.x], .int (e'.dst : Nat), .int e'.g, .int e'.l]) (de_var rfl) de_int rfl) hoxe) (de_ixLN (k := i) (d := .int (wt e')) (dl_adr (de_fld (de_var rfl) cc.ins (cls_Climb hd) (noat_Climb_weights hd) cc.w rfl) lw) (de_var rfl) hwe)) ?_)
      have upd : relax wt ⟨sh, sl, sr⟩ e' i = ⟨sh.set e'.dst (some (hu + wt e')), sl.set e'.dst (some i), some e'.dst⟩ → DN ((tSeq (tAsg (tVar 4) (gSub (tFld K (tVar 0) "heights") (tOp (rIxT K) (tVar 3) (tC (.int 2))) rSetL)) (tSeq (tAsg (tVar 2) (gSub (tFld K (tVar 0) "last") (tOp (rIxT K) (tVar 3) (tC (.int 2))) rSetL)) (tAsg (tOp (rIxT K) (tVar 3) (tC (.int 2))) (gName 1)))) { nx := fun σ' H' => ∃ t', (t' = riseFrom wt 0 (es.take (i + 1)) ⟨h, l, none⟩ ∧ t'.h.length = ps.length ∧ t'.l.length = ps.length) ∧ Ex Hh H' ∧ CliAt K H' c g ha la wa t'.h t'.l (es.map wt) ∧ EnvD H' σ' (ERi c t'), rt := Q, bk := fun σ H => tRet (tVar 1) { nx := fun _ H' => Q .non H', rt := Q } σ H, ct := fun σ' H' => ∃ t', (t' = riseFrom wt 0 (es.take (i + 1)) ⟨h, l, none⟩ ∧ t'.h.length = ps.length ∧ t'.l.length = ps.length) ∧ Ex Hh H' ∧ CliAt K H' c g ha la wa t'.h t'.l (es.map wt) ∧ EnvD H' σ' (ERi c t') }) H3 [some (.adr c), some (encN sr), some (.int (i : Nat)), some (encEd e'), some (.int (hu + wt e'))] := fun q => by
        refine dn_seq (dn_setI (k := e'.dst) (de_var rfl) (de_fld (de_var rfl) cc.ins (cls_Climb hd) (noat_Climb_heights hd) cc.h rfl) (de_ixTN (k := 2) (ds := [.int (e'.src : Nat), .str [e'.x], .int (e'.dst : Nat), .int e'.g, .int e'.l]) (de_var rfl) de_int rfl) lh (by rw [List.length_map]; omega) fun H4 x4 lh4 => ?_)
        have t4 : TEx H3 H4 := ExB.tex x4 lh.nt
        have c4 := cc.mv fun o => x4 _ o cc.n1
        have ll4 := lst.exB x4 (Ne.symm cc.n5) t4
        have lw4 := lw.exB x4 cc.n3 t4
        refine dn_seq (dn_setI (k := e'.dst) (de_var rfl) (de_fld (de_var rfl) c4.ins (cls_Climb hd) (noat_Climb_last hd) c4.l rfl) (de_ixTN (k := 2) (ds := [.int (e'.src : Nat), .str [e'.x], .int (e'.dst : Nat), .int e'.g, .int e'.l]) (de_var rfl) de_int rfl) ll4 (by rw [List.length_map]; omega) fun H5 x5 ll5 => ?_)
        have t5 : TEx H4 H5 := ExB.tex x5 ll4.nt
        have c5 := c4.mv fun o => x5 _ o cc.n2
        refine dn_asg (d := .int (e'.dst : Nat)) (de_ixTN (k := 2) (ds := [.int (e'.src : Nat), .str [e'.x], .int (e'.dst : Nat), .int e'.g, .int e'.l]) (de_var rfl) de_int rfl) ?_
        refine dn_turn (P := fun st : BS => st = riseFrom wt 0 (es.take (i + 1)) ⟨h, l, none⟩ ∧ st.h.length = ps.length ∧ st.l.length = ps.length) (env := fun st => ERi c st) (G := fun st H' => CliAt K H' c g ha la wa st.h st.l (es.map wt)) ⟨sh.set e'.dst (some (hu + wt e')), sl.set e'.dst (some i), some e'.dst⟩ ⟨by rw [nxt, q], by simp [p2], by simp [p3]⟩ (wk_same (wk_same (wk_none (wk_none (wk_none wk_nil))))) (ExS.to x3 hM ((ExS.ofB x4 (by simp)).trans (ExS.ofB x5 (by simp)))) ⟨⟨fc, c5⟩, ?_, ?_, lw4.exB x5 cc.n4 t5⟩ (fun s H3 H4 l x => l.ex x)
        · show LstAt H5 ha ((sh.set e'.dst (some (hu + wt e'))).map encO)
          rw [List.map_set]
          exact lh4.exB x5 cc.n5 t5
        · show LstAt H5 la ((sl.set e'.dst (some i)).map encN)
          rw [List.map_set]
          exact ll5
      cases oy with
      | none =>
        have q := relax_new (wt := wt) (st := ⟨sh, sl, sr⟩) (k := i) hox hoy
        refine dn_ifT (DT.is (dt_or (a := true) (b := true) (dt_test (DE.is (d := .bl (D.isN .non)) (de_isN (de_ixLN (k := e'.dst) (d := .non) (dl_adr (de_fld (de_var rfl) cc.ins (cls_Climb hd) (noat_Climb_heights hd) cc.h rfl) lh) (de_ixTN (k := 2) (ds := [.int (e'.src : Nat), .str [e'.x], .int (e'.dst : Nat), .int e'.g, .int e'.l]) (de_var rfl) de_int rfl) hoye)) rfl)) fun z => by cases z) rfl) ?_
        exact upd q
      | some hv =>
        have q := relax_old (wt := wt) (st := ⟨sh, sl, sr⟩) (k := i) hox hoy
        refine dn_if (a := false || decide (hv < hu + wt e')) (dt_or (dt_test (DE.is (d := .bl (D.isN (.int hv))) (de_isN (de_ixLN (k := e'.dst) (d := .int hv) (dl_adr (de_fld (de_var rfl) cc.ins (cls_Climb hd) (noat_Climb_heights hd) cc.h rfl) lh) (de_ixTN (k := 2) (ds := [.int (e'.src : Nat), .str [e'.x], .int (e'.dst : Nat), .int e'.g, .int e'.l]) (de_var rfl) de_int rfl) hoye)) rfl)) fun _ => dt_test (de_cmpI (g := fun i j => decide (i < j)) (de_ixLN (k := e'.dst) (d := .int hv) (dl_adr (de_fld (de_var rfl) cc.ins (cls_Climb hd) (noat_Climb_heights hd) cc.h rfl) lh) (de_ixTN (k := 2) (ds := [.int (e'.src : Nat), .str [e'.x], .int (e'.dst : Nat), .int e'.g, .int e'.l]) (de_var rfl) de_int rfl) hoye) (de_var rfl))) (fun hb2 => ?_) (fun hb2 => ?_)
        · have hb2 : hv < hu + wt e' := of_decide_eq_true hb2
          rw [if_pos hb2] at q
          exact upd q
        · have hb2 : ¬ hv < hu + wt e' := of_decide_eq_false hb2
          rw [if_neg hb2] at q
          exact dn_next (dn_wk (wkE _ _ _) (stay q))
    · cases ox with
      | some hu => cases hb
      | none => exact dn_next (dn_wk (wkE _ _ _) (stay (relax_none hox)))
  · rintro st ⟨p1, p2, p3⟩ H3 x3 C3
    rw [List.length_zipIdx, List.take_length] at p1
    have p1 : st = riseF wt es h l := p1
    subst p1
    dsimp only
    exact dn_ret (de_var rfl) fun v H4 x4 r => k v H4 (ExS.hid (x3.trans x4)) (C3.ex x4) r
end
end GC

-- part RD17
set_option Elab.async false
set_option linter.all false
set_option maxRecDepth 100000
set_option maxHeartbeats 4000000
namespace GC
open PySem PySem.Spec PyProof.Rows L2
theorem lAt_get {l : List (Option Nat)} {v j : Nat} (h : lAt l v = some j) : l[v]? = some (some j) := by
  unfold lAt at h
  cases q : l[v]? with
  | none => rw [q] at h; cases h
  | some x =>
    rw [q] at h
    have h : x = some j := h
    rw [h]
theorem Gr.es {W : WL} {ps : List Pr} {es : List Ed} (G : Gr W ps es) : Es ps.length es := ⟨fun e he => G.src he, G.few⟩
section
variable {P : Program} {w : World} {K : PySem.W.Frag} {mg : Str → Option Value} {base : Heap}
/-! Climb.circle -/
def R_circle : PySem.W.Frag → Hp → List D → VK → Prop := fun K H ds Q => ∃ c g ha la wa W ps es wt, ds = [.adr c] ∧ CliAt K H c g ha la wa (startH ps.length) (startL ps.length) (es.map wt) ∧ GrfAt K (hid [ha, la] H) g ps es ∧ Gr W ps es ∧ Wd W ∧
  (∀ h l k r τ clk v H', ExS [ha, la] H H' → CliAt K H' c g ha la wa h l (es.map wt) → (∀ e ∈ es, Sat wt h e) → BFk ps.length es wt h l k r τ clk → Rp H' .non v → Q v H') ∧
  (∀ C a H', ExS [ha, la] H H' → H a = none → (∃ i, i < ps.length ∧ Chain es i C i) → C ≠ [] → C.length ≤ 169 → 0 < wsum wt C → LstAt H' a (C.map encEd) → Q (.ref a) H')
structure CS where
  h : List (Option Int)
  l : List (Option Nat)
  r : Option Nat
def PC1 (n : Nat) (es : List Ed) (wt : Ed → Int) (i : Nat) (s : CS) : Prop := ∃ r τ clk, BFk n es wt s.h s.l i r τ clk ∧ (i = 0 ∨ ∃ v, s.r = some v ∧ v < n ∧ r v = i)
def EC1 (c : Addr) (s : CS) : List (Option D) := [some (.adr c), some (encN s.r), none, none, none, none]
def EC2 (c : Addr) (r : Nat) : List (Option D) := [some (.adr c), some (.int (r : Int)), none, none, none, none]
def EC3 (c : Addr) (r : Nat) (f : Addr) (p : Nat) : List (Option D) := [some (.adr c), some (.int (r : Int)), none, some (.adr f), some (.int (p : Int)), none]
theorem okf_circle (hd : Hd K mg) : OkA P w K mg base 2 (He.ma K (He.ga K "Climb") "circle") ["self"] (spG (R_circle K)) := by
  refine ok_Climb_circle hd (okf_rise hd) (len_G ?_) (rd_G ?_)
  · rintro H ds Q ⟨c, g, ha, la, wa, W, ps, es, wt, rfl, _⟩; rfl
  rintro ds H Q ⟨c, g, ha, la, wa, W, ps, es, wt, rfl, C0, G0, Gg, hW, k1, k2⟩
  obtain ⟨pn1, pn2⟩ := Gg.len hW
  have Eh := Gg.es
  have hs : ∀ e ∈ es, e.src < ps.length := fun e he => (Eh.src e he).1
  have hdst : ∀ e ∈ es, e.dst < ps.length := fun e he => (Eh.src e he).2
  obtain ⟨fs0, pa, ea, g1, g2, g3, g4, g5⟩ := id G0
  obtain ⟨fc, c0⟩ := id C0.c
  have ch := c0.hid
  unfold t_Climb_circle
  refine dn_seq (dn_asg de_non (dn_seq ?_))
  refine dn_forG (Hb := hid [ha, la] H) (τ := CS) [ha, la] (List.range (ps.length + 1)) (fun k => D.int (k : Nat)) (fun x => dg_name) (PC1 ps.length es wt) (EC1 c) (fun s H' => CliAt K H' c g ha la wa s.h s.l (es.map wt)) ⟨startH ps.length, startL ps.length, none⟩
    (di_rngN (n := ps.length + 1) (de_addN (DE.is (de_lenL (dl_adr (de_fld (de_fld (de_var rfl) ch.ins (cls_Climb hd) (noat_Climb_graph hd) ch.g rfl) g1 (cls_Graph hd) (noat_Graph_pairs hd) g2 rfl) g3)) (by rw [List.length_map])) (de_nat 1 rfl)) (by omega)) hid_ex (fun m hm => ⟨hid_in hm, C0.ob m hm⟩) (fun s H3 H4 l x => l.ex x) ⟨_, _, _, BF.start (by omega), .inl rfl⟩ (Wk.refl _) C0 ?_ ?_
  · rintro Hh xh hM i y s hy ⟨r, τ, clk, B, _⟩ H3 x3 C3
    obtain ⟨b1, b2, r', τ', clk', B', b3⟩ := B.rise hdst
    obtain ⟨fc3, c3⟩ := id C3.c
    have xall : ExS [ha, la] H H3 := ExS.hid (xh.trans x3)
    refine dn_seq (dn_methA (de_var rfl) c3.ins c3.r da_nil fun H4 x4 σ n4 => ⟨c, g, ha, la, wa, ps, es, wt, s.h, s.l, rfl, C3.ex x4, ?_, B.hl, B.ll, by omega, Eh, ?_⟩)
    · exact (G0.ex (hid_mono xall)).ex (hid_mono (ExS.of x4))
    · intro v H5 x5 C5 rv
      have n5 : EnvD H5 (σ.set 1 (some v)) [some (.adr c), some (encN (riseF wt es s.h s.l).r), some (.int (y : Nat)), none, none, none] := (n4.mono (x5.tex (C3.ex x4).nt)).set rv
      refine dn_at ?_ n5
      cases hr : (riseF wt es s.h s.l).r with
      | none =>
        obtain ⟨q1, q2, q3⟩ := b1 hr
        refine dn_ifT (dt_test (DE.is (d := .bl (D.isN .non)) (de_isN (de_var rfl)) rfl)) ?_
        refine dn_ret de_non fun v H6 x6 r6 => ?_
        rw [q1, q2] at B' C5
        exact k1 s.h s.l (i + 1) r' τ' clk' v H6 (((xall.trans (ExS.of x4)).trans x5).trans (ExS.of x6)) (C5.ex x6) q3 B' r6
      | some u =>
        refine dn_ifF (dt_test (DE.is (d := .bl (D.isN (.int (u : Nat)))) (de_isN (de_var rfl)) rfl)) ?_
        refine dn_next (dn_turn (P := PC1 ps.length es wt (i + 1)) (env := EC1 c) (G := fun s H' => CliAt K H' c g ha la wa s.h s.l (es.map wt)) ⟨(riseF wt es s.h s.l).h, (riseF wt es s.h s.l).l, some u⟩ ⟨r', τ', clk', B', .inr ⟨u, rfl, b2 u hr, b3 u hr⟩⟩ (wk_same (wk_same (wk_none (wk_same (wk_same (wk_same wk_nil)))))) (ExS.to (x3.trans x4) hM x5) C5 (fun s H3 H4 l x => l.ex x))
  · rintro s ⟨r, τ, clk, B, hv⟩ H3 x3 C3
    rw [List.length_range] at B hv
    obtain ⟨v, sv, vn, rv⟩ : ∃ v, s.r = some v ∧ v < ps.length ∧ r v = ps.length + 1 := by
      rcases hv with z | z
      · omega
      · exact z
    have xall : ExS [ha, la] H H3 := ExS.hid x3
    obtain ⟨fc3, c3⟩ := id C3.c
    have G3 : GrfAt K H3 g ps es := (G0.ex (hid_mono xall)).ex hid_ex
    obtain ⟨fs0, pa, ea, g1, g2, g3, g4, g5⟩ := id G3
    have step : ∀ {ρ : List (Option D)} {ti : TE} {H : Hp} {z : Nat} {e : Ed} {j : Nat}, Ex H3 H → ρ[0]? = some (some (.adr c)) → DE ti H ρ (.int (z : Nat)) → lAt s.l z = some j → es[j]? = some e → DE (tOp (rIxL K) (tFld K (tFld K (tVar 0) "graph") "edges") (tOp (rIxL K) (tFld K (tVar 0) "last") ti)) H ρ (encEd e) := fun {ρ ti H z e j} x h0 hz hl he =>
      de_ixLN (k := j) (dl_adr (de_fld (de_fld (de_var h0) (c3.ins.ex x) (cls_Climb hd) (noat_Climb_graph hd) c3.g rfl) (g1.ex x) (cls_Graph hd) (noat_Graph_edges hd) g4 rfl) (g5.ex x)) (de_ixLN (k := z) (d := .int (j : Nat)) (dl_adr (de_fld (de_var h0) (c3.ins.ex x) (cls_Climb hd) (noat_Climb_last hd) c3.l rfl) (C3.ll.ex x)) hz (by rw [List.getElem?_map, lAt_get hl]; rfl)) (by rw [List.getElem?_map, he]; rfl)
    have pred : ∀ z, (lAt s.l z).isSome = true → ∃ j e, lAt s.l z = some j ∧ es[j]? = some e ∧ srcOf es s.l z = e.src ∧ e.dst = z ∧ e ∈ es := fun z hz => by
      obtain ⟨j, hj⟩ := Option.isSome_iff_exists.mp hz
      obtain ⟨e, hu, hv, q1, q2, q3, _⟩ := B.pred hj
      exact ⟨j, e, hj, q1, q2, q3, List.mem_of_getElem? q1⟩
    dsimp only
    refine dn_wk (ρ' := EC2 c v) ?_ ?_
    · have e : EC1 c s = EC2 c v := by unfold EC1 EC2; rw [sv]; rfl
      rw [e]
      exact Wk.refl _
    refine dn_seq ?_
    refine dn_forP (τ := Nat) (List.range ps.length) (fun k => D.int (k : Nat)) (fun x => dg_name) (fun i z => z = back es s.l i v) (EC2 c) v
      (di_rngN (n := ps.length) (DE.is (de_lenL (dl_adr (de_fld (de_fld (de_var rfl) c3.ins (cls_Climb hd) (noat_Climb_graph hd) c3.g rfl) g1 (cls_Graph hd) (noat_Graph_pairs hd) g2 rfl) g3)) (by rw [List.length_map])) (by omega)) rfl (Wk.refl _) ?_ ?_
    · rintro Hh xh i y z hy rfl
      have hi : i < ps.length := by
        have := (List.getElem?_eq_some_iff.mp hy).1
        rwa [List.length_range] at this
      obtain ⟨j, e, q1, q2, q3, q4, q5⟩ := pred _ (B.back_r (v := v) i (by omega)).2
      refine dn_asg (d := .int (e.src : Nat)) (de_ixTN (k := 0) (ds := [.int (e.src : Nat), .str [e.x], .int (e.dst : Nat), .int e.g, .int e.l]) (step xh rfl (de_var rfl) q1 q2) de_int rfl) ?_
      exact dn_turnP (P := fun z => z = back es s.l (i + 1) v) (env := EC2 c) e.src (by show e.src = srcOf es s.l (back es s.l i v); rw [q3]) (wk_same (wk_same (wk_none (wk_same (wk_same (wk_same wk_nil)))))) (Ex.refl _)
    · rintro z rfl
      rw [List.length_range]
      obtain ⟨p, p1, p2, p3, p4⟩ := B.circ hs vn rv
      have zn : back es s.l ps.length v < ps.length := B.back_lt hs vn _ (by omega)
      generalize back es s.l ps.length v = z at *
      dsimp only
      refine dn_seq (dn_asgL (dl_lst da_nil (by simp)) fun f H4 nf x4 lf => ?_)
      dsimp only
      refine dn_seq (dn_asg (de_var rfl) ?_)
      dsimp only
      refine dn_seq ?_
      refine dn_whileG (Hb := H3) (τ := List Ed) (fun C => C.length ≤ p ∧ Chain es (back es s.l C.length z) C.reverse z ∧ IsLast es s.l C.reverse) (fun C => p - C.length) (fun C => EC3 c z f (back es s.l C.length z)) (fun C H' => LstAt H' f (C.map encEd)) [] x4 ⟨by simp, rfl, fun e he => by cases he⟩ (Wk.refl _) lf (fun s H3 H4 l x => l.ex x) ?_
      rintro C ⟨cl, cc, il⟩ H5 x5 l5
      refine ⟨!decide (C.map encEd ≠ []) || !decide ((back es s.l C.length z : Int) = (z : Int)), dt_or (dt_not (dt_truL (de_var rfl) l5)) fun _ => dt_test (de_neI (de_var rfl) (de_var rfl)), fun hb => ?_, fun hb => ?_⟩
      · have lt : C.length < p := by
          by_cases q : C.length = p
          · exfalso
            have ne : C ≠ [] := fun e => by rw [e] at q; simp at q; omega
            rw [q, p3] at hb
            simp [ne] at hb
          · omega
        obtain ⟨j, e, q1, q2, q3, q4, q5⟩ := pred _ (p4 C.length)
        refine dn_seq (dn_asg (step x5 rfl (de_var rfl) q1 q2) ?_)
        dsimp only
        refine dn_seq (dn_app (de_var rfl) l5 (de_var rfl) (by rw [List.length_map]; omega) fun H6 x6 l6 => ?_)
        dsimp only
        refine dn_asg (d := .int (e.src : Nat)) (de_ixTN (k := 0) (ds := [.int (e.src : Nat), .str [e.x], .int (e.dst : Nat), .int e.g, .int e.l]) (de_var rfl) de_int rfl) ?_
        have el : (C ++ [e]).length = C.length + 1 := by simp
        have eb : back es s.l (C ++ [e]).length z = e.src := by
          rw [el]
          show srcOf es s.l (back es s.l C.length z) = e.src
          exact q3
        refine dn_turnW (P := fun C => C.length ≤ p ∧ Chain es (back es s.l C.length z) C.reverse z ∧ IsLast es s.l C.reverse) (m := fun C : List Ed => p - C.length) (env := fun C => EC3 c z f (back es s.l C.length z)) (G := fun C H' => LstAt H' f (C.map encEd)) (C ++ [e]) (by show p - (C ++ [e]).length < p - C.length; omega) ⟨by omega, ?_, ?_⟩ ?_ (x5.mut nf x6) ?_ (fun s H3 H4 l x => l.ex x)
        · rw [eb, List.reverse_append]
          exact ⟨q5, rfl, by rw [q4]; exact cc⟩
        · rw [List.reverse_append]
          intro d hd'
          rcases List.mem_cons.mp hd' with q | q
          · rw [q, q4]; exact ⟨j, q1, q2⟩
          · exact il d q
        · show Wk (EC3 c z f (back es s.l (C ++ [e]).length z)) _
          rw [eb]
          exact wk_same (wk_same (wk_same (wk_same (wk_same (wk_none wk_nil)))))
        · show LstAt H6 f ((C ++ [e]).map encEd)
          rw [List.map_append]
          exact l6
      · rw [Bool.or_eq_false_iff, Bool.not_eq_false', Bool.not_eq_false', decide_eq_true_eq, decide_eq_true_eq] at hb
        obtain ⟨h1, h2⟩ := hb
        have ne : C ≠ [] := fun e => h1 (by rw [e]; rfl)
        have bz : back es s.l C.length z = z := by omega
        rw [bz] at cc
        have rne : C.reverse ≠ [] := by simpa using ne
        refine dn_retL (DLn.is (dl_rev (dl_adr (de_var rfl) l5)) (show _ = C.reverse.map encEd by rw [List.map_reverse])) ?_
        intro a H6 na x6 l6
        refine k2 C.reverse a H6 ((xall.trans (ExS.of x5)).trans (ExS.of x6)) ?_ ⟨z, zn, cc⟩ rne (by rw [List.length_reverse]; omega) (B.pos cc il rne) l6
        cases q : H a with
        | none => rfl
        | some o =>
          exfalso
          by_cases m : a ∈ [ha, la]
          · obtain ⟨o', ho', _⟩ := C3.ob a m
            rw [x5 _ _ ho'] at na; cases na
          · rw [x5 _ _ (xall a o m q)] at na; cases na
end
end GC

-- part RD18
set_option Elab.async false
set_option linter.all false
set_option maxRecDepth 100000
set_option maxHeartbeats 4000000
namespace GC
open PySem PySem.Spec PyProof.Rows L2
structure SetOk (W : WL) (ps : List Pr) (es : List Ed) (a b : Int) (h : List (Option Int)) (l : List (Option Nat)) : Prop where
  gr : Gr W ps es
  rat : RatOk ps es a b
  sat : ∀ e ∈ es, Sat (wtOf a b) h e
  bf : ∃ k r τ clk, BFk ps.length es (wtOf a b) h l k r τ clk
section
variable {P : Program} {w : World} {K : PySem.W.Frag} {mg : Str → Option Value} {base : Heap}
variable {H H' : Hp} {ρ : List (Option D)} {E : Ends}
/-- climb = Climb(graph, a, b) -/
theorem dn_climb {t : TA} {g : Addr} {ps : List Pr} {es : List Ed} {a b : Int} {i : Nat} (ht : DA t H ρ [.adr g, .int a, .int b]) (G : GrfAt K H g ps es) (p1 : 1 ≤ ps.length) (p2 : ps.length ≤ 1000) (e1 : es.length ≤ 10000) (ha : -100000 ≤ a ∧ a ≤ 100000) (hb : -100000 ≤ b ∧ b ≤ 100000)
    (k : ∀ c ha la wa H', H ha = none → H la = none → Ex H H' → CliAt K H' c g ha la wa (startH ps.length) (startL ps.length) (es.map (wtOf a b)) → GrfAt K (hid [ha, la] H') g ps es → DN E.nx H' (ρ.set i (some (.adr c)))) : DN (tAsg (tMake (He.ga K "Climb") (spG (R_climb K)) [] E0 t) (gName i) E) H ρ :=
  dn_make ht fun H1 c x1 nc ic σ n => ⟨c, g, ps, es, a, b, rfl, ic, G.ex x1, p1, p2, e1, ha, hb, fun ha la wa H' nh nl xb C' G' => ⟨rfl, by
    have tt : TEx H1 H' := ExB.tex xb (fun vs z => by obtain ⟨dx, e⟩ := ic; rw [e] at z; cases z)
    exact dn_at (k c ha la wa H' (x1.fresh nh) (x1.fresh nl) (x1.mut nc xb) C' G') ((n.mono tt).set rfl)⟩⟩
/-- circle = climb.circle() -/
theorem dn_circ {W : WL} {c g ha la wa : Addr} {ps : List Pr} {es : List Ed} {wt : Ed → Int} {i j : Nat} {H0 : Hp} (h0 : ρ[j]? = some (some (.adr c))) (C : CliAt K H c g ha la wa (startH ps.length) (startL ps.length) (es.map wt)) (G : GrfAt K (hid [ha, la] H) g ps es) (Gg : Gr W ps es) (hW : Wd W) (x0 : Ex H0 H) (nh : H0 ha = none) (nl : H0 la = none)
    (k1 : ∀ h l k r τ clk H', Ex H0 H' → CliAt K H' c g ha la wa h l (es.map wt) → (∀ e ∈ es, Sat wt h e) → BFk ps.length es wt h l k r τ clk → DN E.nx H' (ρ.set i (some .non)))
    (k2 : ∀ C q H', Ex H0 H' → (∃ i, i < ps.length ∧ Chain es i C i) → C ≠ [] → C.length ≤ 169 → 0 < wsum wt C → LstAt H' q (C.map encEd) → DN E.nx H' (ρ.set i (some (.adr q)))) : DN (tAsg (tMeth (He.ga K "Climb") "circle" (spG (R_circle K)) [] E0 (tVar j) tNil) (gName i) E) H ρ := by
  obtain ⟨fc, c0⟩ := id C.c
  have nM : ∀ m ∈ [ha, la], H0 m = none := fun m hm => by
    rcases List.mem_cons.mp hm with e | hm
    · rw [e]; exact nh
    · rw [List.mem_singleton.mp hm]; exact nl
  refine dn_methA (de_var h0) c0.ins c0.o da_nil fun H1 x1 σ n => ⟨c, g, ha, la, wa, W, ps, es, wt, rfl, C.ex x1, G.ex (hid_mono (ExS.of x1)), Gg, hW, ?_, ?_⟩
  · intro h l k r τ clk v H' xs C' st B rv
    have rv : v = .non := rv
    subst rv
    exact dn_at (k1 h l k r τ clk H' (ExS.to (x0.trans x1) nM xs) C' st B) ((n.mono (xs.tex (C.ex x1).nt)).set (d := .non) rfl)
  · intro L q H' xs _ q1 q2 q3 q4 ll
    exact dn_at (k2 L q H' (ExS.to (x0.trans x1) nM xs) q1 q2 q3 q4 ll) ((n.mono (xs.tex (C.ex x1).nt)).set (d := .adr q) rfl)
/-! settle -/
def R_settle : PySem.W.Frag → Hp → List D → VK → Prop := fun K H ds Q => ∃ W, ds = [encW W] ∧ Wd W ∧
  ∀ g c ps es a b ha la wa h l v H', Ex H H' → SetOk W ps es a b h l → GrfAt K H' g ps es → CliAt K H' c g ha la wa h l (es.map (wtOf a b)) → Rp H' (.tup [.adr g, encRat a b, .adr c]) v → Q v H'
structure SSt where
  c : Addr
  a : Int
  b : Int
  o : Option (Addr × List Ed)
def ESt (W : WL) (g : Addr) (s : SSt) : List (Option D) := [some (encW W), some (.adr g), some (encRat s.a s.b), some (.adr s.c), some (match s.o with | none => .non | some p => .adr p.1), none]
def PSt (ps : List Pr) (es : List Ed) (s : SSt) : Prop := RatOk ps es s.a s.b ∧ ∀ p, s.o = some p → CycOk ps es s.a s.b p.2
def GSt (K : PySem.W.Frag) (W : WL) (g : Addr) (ps : List Pr) (es : List Ed) (s : SSt) (H : Hp) : Prop := match s.o with
  | none => ∃ ha la wa h l, CliAt K H s.c g ha la wa h l (es.map (wtOf s.a s.b)) ∧ SetOk W ps es s.a s.b h l
  | some p => LstAt H p.1 (p.2.map encEd)
theorem GSt.ex {W : WL} {g : Addr} {ps : List Pr} {es : List Ed} {s : SSt} (x : GSt K W g ps es s H) (e : Ex H H') : GSt K W g ps es s H' := by
  unfold GSt at x ⊢
  cases h : s.o with
  | none =>
    rw [h] at x
    obtain ⟨ha, la, wa, h, l, c, q⟩ := x
    exact ⟨ha, la, wa, h, l, c.ex e, q⟩
  | some p =>
    rw [h] at x
    exact LstAt.ex x e
def mSt (s : SSt) : Nat := 2 * (6084 * (1521 * 1521) - (s.a * (1521 * 1521)) / s.b).toNat + (match s.o with | none => 0 | some _ => 1)
theorem okf_settle (hd : Hd K mg) : OkA P w K mg base 9 (He.ga K "settle") ["words"] (spG (R_settle K)) := by
  refine ok_settle hd (okf_graph hd) (okf_climb hd) (okf_circle hd) (okf_lowest hd) (len_G ?_) (rd_G ?_)
  · rintro H ds Q ⟨W, rfl, _⟩; rfl
  rintro ds H Q ⟨W, rfl, hW, k⟩
  unfold t_settle
  refine dn_seq (dn_make (da_cons (de_var rfl) da_nil) fun H1 g x1 ng ig σ n1 => ⟨g, W, rfl, ig, hW, fun pa pl ea ps es H2 Gg xb Gp => ⟨rfl, ?_⟩⟩)
  have tt : TEx H1 H2 := ExB.tex xb (fun vs z => by obtain ⟨dx, e⟩ := ig; rw [e] at z; cases z)
  have x2 : Ex H H2 := x1.mut ng xb
  have Gf : GrfAt K H2 g ps es := Gp.grf
  obtain ⟨pn1, pn2⟩ := Gg.len hW
  have few := Gg.few
  refine dn_at (ρ := [some (encW W), some (.adr g), none, none, none, none]) ?_ ((n1.mono tt).set rfl)
  dsimp only
  refine dn_seq (dn_asg (d := encRat 1 1) (de_tup (da_cons de_int (da_cons de_int da_nil)) (by simp)) ?_)
  dsimp only
  refine dn_seq (dn_climb (ps := ps) (es := es) (a := 1) (b := 1) (da_cons (de_var rfl) (da_cons de_int (da_cons de_int da_nil))) Gf pn1 (by omega) few (by omega) (by omega) fun c ha la wa H3 nh nl x3 C3 G3 => ?_)
  dsimp only
  have loop : ∀ (s : SSt) (H4 : Hp), Ex H2 H4 → PSt ps es s → GSt K W g ps es s H4 → DN (tSeq (tWhile (tTest (tOp rNotN (tVar 4) (tC .non)))
    (tSeq (tAsg (tCall (spD R_lowest) [] E0 (tCons (tCB (rSum K) (tCons (tLc (iList K (tVar 4)) (gName 5) tYes (tOp (rIxT K) (tVar 5) (tC (.int 3))) [5]) tNil)) (tCons (tCB (rSum K) (tCons (tLc (iList K (tVar 4)) (gName 5) tYes (tOp (rIxT K) (tVar 5) (tC (.int 4))) [5]) tNil)) tNil))) (gName 2))
  (tSeq (tAsg (tMake (He.ga K "Climb") (spG (R_climb K)) [] E0 (tCons (tVar 1) (tCons (tOp (rIxT K) (tVar 2) (tC (.int 0))) (tCons (tOp (rIxT K) (tVar 2) (tC (.int 1))) tNil)))) (gName 3))
  (tAsg (tMeth (He.ga K "Climb") "circle" (spG (R_circle K)) [] E0 (tVar 3) tNil) (gName 4)))))
  (tRet (tTup (tCons (tVar 1) (tCons (tVar 2) (tCons (tVar 3) tNil))))) { nx := fun _ H' => Q .non H', rt := Q }) H4 (ESt W g s) := by
    intro s H4 x4 p4 g4
    refine dn_seq ?_
    refine dn_whileG (Hb := H2) (PSt ps es) mSt (ESt W g) (GSt K W g ps es) s x4 p4 (Wk.refl _) g4 (fun s H3 H4 l x => l.ex x) ?_
    rintro ⟨c, a, b, o⟩ ⟨R, cy⟩ H5 x5 G5
    have R : RatOk ps es a b := R
    have r1 := R.b1
    have r2 := R.bM
    have r3 := R.ab
    have r4 := R.aM
    cases o with
    | none =>
      refine ⟨false, dt_test (DE.is (d := .bl (!D.isN .non)) (de_notN (de_var rfl)) rfl), (fun z => by cases z), fun _ => ?_⟩
      obtain ⟨ha, la, wa, h, l, C, S⟩ := G5
      dsimp only
      exact dn_ret (d := .tup [.adr g, encRat a b, .adr c]) (de_tup (da_cons (de_var rfl) (da_cons (de_var rfl) (da_cons (de_var rfl) da_nil))) (by simp)) fun v H6 x6 r6 => k g c ps es a b ha la wa h l v H6 ((x2.trans x5).trans x6) S ((Gf.ex x5).ex x6) (C.ex x6) r6
    | some q =>
      obtain ⟨q, L⟩ := q
      refine ⟨true, dt_test (DE.is (d := .bl (!D.isN (.adr q))) (de_notN (de_var rfl)) rfl), fun _ => ?_, (fun z => by cases z)⟩
      have l5 : LstAt H5 q (L.map encEd) := G5
      have cyc : CycOk ps es a b L := cy _ rfl
      have cl := cyc.len
      obtain ⟨R', up, d1, d2⟩ := ratio_next hW Gg R cyc
      generalize ea : gains L / (Nat.gcd (gains L).natAbs (losses L).natAbs : Nat) = a' at R' up
      generalize eb : losses L / (Nat.gcd (gains L).natAbs (losses L).natAbs : Nat) = b' at R' up
      have up : a * b' < a' * b := up
      have s1 := R'.b1
      have s2 := R'.bM
      have s3 := R'.ab
      have s4 := R'.aM
      have low : DE (tCall (spD R_lowest) [] E0 (tCons (tCB (rSum K) (tCons (tLc (iList K (tVar 4)) (gName 5) tYes (tOp (rIxT K) (tVar 5) (tC (.int 3))) [5]) tNil)) (tCons (tCB (rSum K) (tCons (tLc (iList K (tVar 4)) (gName 5) tYes (tOp (rIxT K) (tVar 5) (tC (.int 4))) [5]) tNil)) tNil))) H5 (ESt W g ⟨c, a, b, some (q, L)⟩) (encRat a' b') :=
        de_call (da_cons (d := .int (gains L)) (de_sumM L (·.g) (lc_M L encEd (js := [5]) (di_lst (de_var rfl) l5) (fun x => dg_name) (by simp) (by omega) fun e he => de_ixTN (k := 3) (ds := [.int (e.src : Nat), .str [e.x], .int (e.dst : Nat), .int e.g, .int e.l]) (de_var rfl) de_int rfl)) (da_cons (d := .int (losses L)) (de_sumM L (·.l) (lc_M L encEd (js := [5]) (di_lst (de_var rfl) l5) (fun x => dg_name) (by simp) (by omega) fun e he => de_ixTN (k := 4) (ds := [.int (e.src : Nat), .str [e.x], .int (e.dst : Nat), .int e.g, .int e.l]) (de_var rfl) de_int rfl)) da_nil)) ⟨gains L, losses L, rfl, by rw [ea, eb]; rfl, d1, by omega⟩
      refine dn_seq (dn_asg low ?_)
      dsimp only
      refine dn_seq (dn_climb (ps := ps) (es := es) (a := a') (b := b') (da_cons (de_var rfl) (da_cons (de_ixTN (k := 0) (ds := [.int a', .int b']) (de_var rfl) de_int rfl) (da_cons (de_ixTN (k := 1) (ds := [.int a', .int b']) (de_var rfl) de_int rfl) da_nil))) (Gf.ex x5) pn1 (by omega) few (by omega) (by omega) fun c' ha la wa H6 nh nl x6 C6 G6 => ?_)
      dsimp only
      have big := ratio_up (M := 1521) (by omega) (by omega) r2 s2 up
      have top : (a' * (1521 * 1521)) / b' ≤ 6084 * (1521 * 1521) := Int.le_trans (Int.ediv_le_self _ (by omega)) (by omega)
      refine dn_circ (W := W) (H0 := H5) (c := c') rfl C6 G6 Gg hW x6 nh nl ?_ ?_
      · intro h l k r τ clk H7 x7 C7 st B
        refine dn_turnW (P := PSt ps es) (m := mSt) (env := ESt W g) (G := GSt K W g ps es) ⟨c', a', b', none⟩ ?_ ⟨R', fun p z => by cases z⟩ (Wk.refl _) (x5.trans x7) ⟨ha, la, wa, h, l, C7, Gg, R', st, k, r, τ, clk, B⟩ (fun s H3 H4 l x => l.ex x)
        show 2 * (_ - (a' * (1521 * 1521)) / b').toNat + 0 < 2 * (_ - (a * (1521 * 1521)) / b).toNat + 1
        omega
      · intro C q' H7 x7 q1 q2 q3 q4 ll
        refine dn_turnW (P := PSt ps es) (m := mSt) (env := ESt W g) (G := GSt K W g ps es) ⟨c', a', b', some (q', C)⟩ ?_ ⟨R', fun p z => ?_⟩ (Wk.refl _) (x5.trans x7) ll (fun s H3 H4 l x => l.ex x)
        · show 2 * (_ - (a' * (1521 * 1521)) / b').toNat + 1 < 2 * (_ - (a * (1521 * 1521)) / b).toNat + 1
          omega
        · cases z
          exact ⟨q1, q2, q3, q4⟩
  refine dn_seq (dn_circ (W := W) (H0 := H2) (c := c) rfl C3 G3 Gg hW x3 nh nl ?_ ?_)
  · intro h l k r τ clk H7 x7 C7 st B
    exact loop ⟨c, 1, 1, none⟩ H7 x7 ⟨RatOk.start ps es, fun p z => by cases z⟩ ⟨ha, la, wa, h, l, C7, Gg, RatOk.start ps es, st, k, r, τ, clk, B⟩
  · intro C q' H7 x7 q1 q2 q3 q4 ll
    exact loop ⟨c, 1, 1, some (q', C)⟩ H7 x7 ⟨RatOk.start ps es, fun p z => by cases z; exact ⟨q1, q2, q3, q4⟩⟩ ll
end
end GC

-- part M9
set_option Elab.async false
set_option linter.all false
set_option maxRecDepth 100000
set_option maxHeartbeats 4000000
namespace GC
/-! ### the end state: plain -/
section
variable {W : WL} {ps : List Pr} {es : List Ed} {a b : Int} {h : List (Option Int)} {l : List (Option Nat)}
theorem SetOk.all (S : SetOk W ps es a b h l) {v : Nat} (hv : v < ps.length) : ∃ x, hAt h v = some x := by
  obtain ⟨k, r, τ, clk, B⟩ := S.bf
  obtain ⟨z, hz, _⟩ := B.zero
  exact sat_all S.sat ⟨z, hz⟩ S.gr.reach v hv
/-- a last edge, in the end state -/
structure Down (es : List Ed) (a b : Int) (h : List (Option Int)) (τ : Nat → Nat) (v j : Nat) (e : Ed) : Prop where
  at_ : es[j]? = some e
  mem : e ∈ es
  dst : e.dst = v
  ht : ∀ x, hAt h v = some x → hAt h e.src = some (x - wtOf a b e)
  lt : τ e.src < τ v
theorem SetOk.down (S : SetOk W ps es a b h l) : ∃ τ : Nat → Nat, (∀ v j, lAt l v = some j → ∃ e, Down es a b h τ v j e) ∧ (∀ v, v ≠ 0 → (hAt h v).isSome = true → (lAt l v).isSome = true) ∧ lAt l 0 = none ∧ hAt h 0 = some 0 := by
  obtain ⟨k, r, τ, clk, B⟩ := S.bf
  have dn : ∀ v j, lAt l v = some j → ∃ e, Down es a b h τ v j e := fun v j q => by
    obtain ⟨e, hu, hv, q1, q2, q3, q4, q5, q6, _⟩ := B.from_ v j q
    have em : e ∈ es := List.mem_of_getElem? q1
    obtain ⟨y, y1, y2⟩ := S.sat e em hu q3
    rw [q2, q4] at y1
    have y1 := Option.some.inj y1
    refine ⟨e, q1, em, q2, fun x hx => ?_, ?_⟩
    · rw [q4] at hx
      have hx := Option.some.inj hx
      rw [q3]
      congr 1
      omega
    · rcases q6 with q6 | q6
      · omega
      · exact q6
  obtain ⟨n1, n2⟩ : 1 ≤ ps.length ∧ True := by
    obtain ⟨hh, _⟩ := List.getElem?_eq_some_iff.mp S.gr.zero
    exact ⟨by omega, trivial⟩
  have l0 : lAt l 0 = none := by
    cases q : lAt l 0 with
    | none => rfl
    | some j0 =>
      exfalso
      have allL : ∀ v, v < ps.length → (lAt l v).isSome = true := fun v hv => by
        by_cases e : v = 0
        · subst e; rw [q]; rfl
        · obtain ⟨x, hx⟩ := S.all hv
          exact B.some_ v e (by rw [hx]; rfl)
      have inf : ∀ m v, v < ps.length → τ v ≤ m → False := fun m => by
        induction m with
        | zero =>
          intro v hv ht
          obtain ⟨j, hj⟩ := Option.isSome_iff_exists.mp (allL v hv)
          obtain ⟨e, d⟩ := dn v j hj
          have := d.lt
          omega
        | succ m ih =>
          intro v hv ht
          obtain ⟨j, hj⟩ := Option.isSome_iff_exists.mp (allL v hv)
          obtain ⟨e, d⟩ := dn v j hj
          have := d.lt
          exact ih e.src (S.gr.src d.mem).1 (by omega)
      exact inf (τ 0) 0 (by omega) (Nat.le_refl _)
  obtain ⟨z, z1, z2, z3⟩ := B.zero
  refine ⟨τ, dn, B.some_, l0, ?_⟩
  rw [z1, z3 l0]
theorem SetOk.heights (S : SetOk W ps es a b h l) : ∃ xs : List Int, h = xs.map some ∧ xs.length = ps.length := by
  obtain ⟨k, r, τ, clk, B⟩ := S.bf
  refine ⟨h.map fun o => o.getD 0, ?_, by rw [List.length_map, B.hl]⟩
  refine List.ext_getElem? fun i => ?_
  rw [List.getElem?_map, List.getElem?_map]
  by_cases hi : i < ps.length
  · obtain ⟨x, hx⟩ := S.all hi
    unfold hAt at hx
    cases q : h[i]? with
    | none => rfl
    | some o =>
      rw [q] at hx
      have hx : o = some x := hx
      subst hx
      rfl
  · rw [List.getElem?_eq_none (by rw [B.hl]; omega)]
    rfl
theorem hAt_map {xs : List Int} {i : Nat} {x : Int} (h : xs[i]? = some x) : hAt (xs.map some) i = some x := by
  unfold hAt
  rw [List.getElem?_map, h]
  rfl
theorem hAt_get {xs : List Int} {i : Nat} {x : Int} (h : hAt (xs.map some) i = some x) : xs[i]? = some x := by
  unfold hAt at h
  rw [List.getElem?_map] at h
  cases q : xs[i]? with
  | none => rw [q] at h; cases h
  | some y => rw [q] at h; exact h
/-! the table -/
def tabL (ps : List Pr) (xs : List Int) : List (Tx × Tx × Int) := (ps.zip xs).map fun p => (p.1.1, p.1.2, p.2)
theorem tabL_mem {ps : List Pr} {xs : List Int} {p : Tx × Tx × Int} : p ∈ tabL ps xs ↔ ∃ i : Nat, ps[i]? = some (p.1, p.2.1) ∧ xs[i]? = some p.2.2 := by
  unfold tabL
  rw [List.mem_map]
  constructor
  · rintro ⟨⟨q, x⟩, hq, e⟩
    obtain ⟨i, hi⟩ := List.mem_iff_getElem?.mp hq
    obtain ⟨h1, h2⟩ := List.getElem?_zip_eq_some.mp hi
    subst e
    exact ⟨i, h1, h2⟩
  · rintro ⟨i, h1, h2⟩
    exact ⟨((p.1, p.2.1), p.2.2), List.mem_iff_getElem?.mpr ⟨i, List.getElem?_zip_eq_some.mpr ⟨h1, h2⟩⟩, rfl⟩
structure ExcOk (W : WL) (ps : List Pr) (h : List (Option Int)) (b e : Int) (pl : Nat) : Prop where
  top : ∀ (i : Nat) (q : Pr) (x : Int), ps[i]? = some q → q.2 = [] → hAt h i = some x → x + b * costRow W (matchOf W q.1) ≤ e
  is : (e = 0 ∧ pl = 0) ∨ (0 < e ∧ ∃ (q : Pr) (x : Int), ps[pl]? = some q ∧ q.2 = [] ∧ hAt h pl = some x ∧ e = x + b * costRow W (matchOf W q.1))
theorem tab_keys (xs : List Int) (hl : xs.length = ps.length) : (tabL ps xs).map key2 = ps := by
  unfold tabL
  rw [List.map_map]
  show (ps.zip xs).map (fun p => (p.1.1, p.1.2)) = ps
  have : (ps.zip xs).map (fun p => (p.1.1, p.1.2)) = (ps.zip xs).map (·.1) := List.map_congr_left fun p _ => rfl
  rw [this, List.map_fst_zip (by omega)]
theorem SetOk.tab (hW : Wd W) {xs : List Int} (S : SetOk W ps es a b (xs.map some) l) (hl : xs.length = ps.length) {c : Int} {pl : Nat} (X : ExcOk W ps (xs.map some) b c pl) : TabOk W a b c (srtP (tabL ps xs)) := by
  have pm := srtP_perm (tabL ps xs)
  have nd : ((tabL ps xs).map key2).Nodup := by rw [tab_keys xs hl]; exact S.gr.nd
  have mem : ∀ p, p ∈ srtP (tabL ps xs) ↔ ∃ i : Nat, ps[i]? = some (p.1, p.2.1) ∧ xs[i]? = some p.2.2 := fun p => by rw [pm.mem_iff, tabL_mem]
  obtain ⟨τ, _, _, _, h0⟩ := S.down
  refine ⟨?_, fun p hp => ?_, srtP_lt nd, ((pm.map key2).nodup_iff).mpr nd, ⟨0, Int.le_refl _, (mem _).mpr ⟨0, S.gr.zero, hAt_get h0⟩⟩, fun p hp e => ?_, fun p hp x hx s hs => ?_⟩
  · rw [pm.length_eq]
    have := (S.gr.len hW).2
    unfold tabL
    rw [List.length_map, List.length_zip]
    omega
  · obtain ⟨i, h1, h2⟩ := (mem p).mp hp
    exact S.gr.held _ (List.mem_of_getElem? h1)
  · obtain ⟨i, h1, h2⟩ := (mem p).mp hp
    exact X.top i _ _ h1 e (hAt_map h2)
  · obtain ⟨i, h1, h2⟩ := (mem p).mp hp
    obtain ⟨e, e1, e2, e3, e4, e5, e6⟩ := S.gr.closed i _ x s h1 hx hs
    obtain ⟨y, y1, y2⟩ := S.sat e e1 p.2.2 (by rw [e2]; exact hAt_map h2)
    refine ⟨y, (mem _).mpr ⟨e.dst, e4, hAt_get y1⟩, ?_⟩
    have w : wtOf a b e = b * s.2.2.1 - a * s.2.2.2 := by
      show b * e.g - a * e.l = _
      rw [e5, e6]
    omega
/-! the round -/
theorem rowOf_len (ps : List Pr) : ∀ (p : List Ed) (t : Tx), (rowOf ps t p).length ≤ p.length
  | [], t => Nat.le_refl _
  | e :: p, t => by
    have ih := rowOf_len ps p ((ps[e.dst]?).getD ([], [])).2
    show ((if ((ps[e.dst]?).getD ([], [])).2 = [] then [t ++ [e.x]] else []) ++ rowOf ps ((ps[e.dst]?).getD ([], [])).2 p).length ≤ p.length + 1
    rw [List.length_append]
    have : (if ((ps[e.dst]?).getD ([], [])).2 = [] then [t ++ [e.x]] else []).length ≤ 1 := by split <;> simp
    omega
theorem txt_len (p : List Ed) : (txt p).length = p.length := by unfold txt; rw [List.length_map]
theorem SetOk.tell (hW : Wd W) (S : SetOk W ps es a b h l) {p C : List Ed} {i : Nat} {q : Pr} (hq : ps[i]? = some q) (hp : Chain es 0 p i) (hc : Chain es i C i) (cn : C ≠ []) (pl : p.length ≤ 169) (cl : C.length ≤ 169) (z : wsum (wtOf a b) C = 0) :
    TellOk W a b (txt p) (txt C) q.2 (rowOf ps q.2 C) := by
  have n1 := (List.getElem?_eq_some_iff.mp S.gr.zero).1
  have n2 := (List.getElem?_eq_some_iff.mp hq).1
  obtain ⟨u, v, h1, h2, h3, h4, h5, h6, h7⟩ := (S.gr.told hW n1 hp).ex
  obtain ⟨u', v', k1, k2, k3, k4, k5, k6, k7⟩ := (S.gr.told hW n2 hc).ex
  rw [S.gr.zero] at h1
  have h1 := Option.some.inj h1
  rw [hq] at h2 k1 k2
  have h2 := Option.some.inj h2
  have k1 := Option.some.inj k1
  have k2 := Option.some.inj k2
  subst h1 h2 k1 k2
  have hheld := S.gr.held q (List.mem_of_getElem? hq)
  have l3 := hheld.2.len hW
  have h4 : txt p = (rowOf ps [] p).flatten ++ q.2 := h4
  have tl := txt_len p
  have tc := txt_len C
  have rl := rowOf_len ps C q.2
  have e3 : readAll W [] (txt p) = (gains p, q.1) := h3
  refine ⟨h7, k7, hheld.2.over hW, by omega, by omega, by omega, fun e => ?_, k6, by omega, ⟨?_, ?_⟩, k4, ?_, ?_⟩
  · rw [e] at tc
    exact cn (List.eq_nil_of_length_eq_zero (by simpa using tc.symm))
  · rw [h4, List.length_append]; omega
  · rw [h4, List.length_append, Nat.add_sub_cancel, List.drop_left]
  · rw [e3]
    show (readAll W q.1 (txt C)).2 = q.1
    rw [k3]
  · rw [e3]
    show (readAll W q.1 (txt C)).1 * b = _
    rw [k3, k5]
    rw [show wtOf a b = fun e : Ed => b * e.g - a * e.l from rfl, wsum_bg] at z
    show gains C * b = losses C * a
    rw [Int.mul_comm, Int.mul_comm (losses C)]
    omega
/-! the text shown -/
theorem show_empty (W : WL) (a b : Int) : ShowOk W a b 0 [] [] := ⟨Over.nil, by simp, (fun u hu => by cases hu), by simp, rfl, by
  show b * 0 - a * 0 = 0
  simp⟩
theorem SetOk.shown (hW : Wd W) (S : SetOk W ps es a b h l) {p : List Ed} {i : Nat} {q : Pr} {x : Int} (hq : ps[i]? = some q) (q2 : q.2 = []) (hp : Chain es 0 p i) (pl : p.length ≤ 169) (hx : x = wsum (wtOf a b) p) :
    ShowOk W a b (x + b * costRow W (matchOf W q.1)) (txt p) (rowOf ps [] p) := by
  have n1 := (List.getElem?_eq_some_iff.mp S.gr.zero).1
  obtain ⟨u, v, h1, h2, h3, h4, h5, h6, h7⟩ := (S.gr.told hW n1 hp).ex
  rw [S.gr.zero] at h1
  have h1 := Option.some.inj h1
  rw [hq] at h2
  have h2 := Option.some.inj h2
  subst h1 h2
  have tl := txt_len p
  have rl := rowOf_len ps p []
  have h4 : txt p = (rowOf ps [] p).flatten ++ q.2 := h4
  have h3 : readAll W [] (txt p) = (gains p, q.1) := h3
  have h5 : costRow W (rowOf ps [] p) = losses p := h5
  have e := hW.readAll_cost (txt p) [] (.inl rfl) h7
  rw [List.nil_append, h3] at e
  refine ⟨h7, by omega, h6, by omega, ?_, ?_⟩
  · rw [h4, q2, List.append_nil]
  · rw [e, h5, Int.mul_add, hx, show wtOf a b = fun e : Ed => b * e.g - a * e.l from rfl, wsum_bg]
    show b * gains p + b * costRow W (matchOf W q.1) - a * losses p = b * gains p - a * losses p + b * costRow W (matchOf W q.1)
    omega
end
/-! the ratio and the excess are one only -/
section
variable {W : WL}
theorem RightP.at (hW : Wd W) {a b c : Int} {f : Tx × Tx → Option Int} (R : RightP W a b c f) {ps : List Pr} {es : List Ed} (G : Gr W ps es) : ∀ m j, j ≤ m → j < ps.length → ∃ q n, ps[j]? = some q ∧ f q = some n := fun m => by
  induction m with
  | zero =>
    intro j hj hl
    have e : j = 0 := by omega
    subst e
    obtain ⟨n, n1, _⟩ := R.zero
    exact ⟨_, n, G.zero, n1⟩
  | succ m ih =>
    intro j hj hl
    by_cases e0 : j = 0
    · subst e0
      obtain ⟨n, n1, _⟩ := R.zero
      exact ⟨_, n, G.zero, n1⟩
    · obtain ⟨e, e1, e2, e3⟩ := G.reach j (by omega) hl
      obtain ⟨u, v, h1, h2, h3, h4⟩ := G.ed e e1
      obtain ⟨q, n, q1, q2⟩ := ih e.src (by omega) (by omega)
      rw [h1] at q1
      have q1 := Option.some.inj q1
      subst q1
      obtain ⟨k, k1, _⟩ := R.step u.1 u.2 n q2 e.x h3 _ h4
      rw [e2] at h2
      exact ⟨v, k, h2, k1⟩
theorem RightP.chain {a b c : Int} {f : Tx × Tx → Option Int} (R : RightP W a b c f) {ps : List Pr} {es : List Ed} (G : Gr W ps es) : ∀ {p : List Ed} {i j : Nat} {u : Pr} {n : Int}, Chain es i p j → ps[i]? = some u → f u = some n → ∃ v m, ps[j]? = some v ∧ f v = some m ∧ n + wsum (wtOf a b) p ≤ m
  | [], i, j, u, n, h, hu, hn => by
    have h : i = j := h
    subst h
    exact ⟨u, n, hu, hn, by show n + 0 ≤ n; omega⟩
  | e :: p, i, j, u, n, h, hu, hn => by
    obtain ⟨h1, h2, h3⟩ := h
    obtain ⟨u', v, k1, k2, k3, k4⟩ := G.ed e h1
    rw [h2, hu] at k1
    have k1 := Option.some.inj k1
    subst k1
    obtain ⟨m, m1, m2⟩ := R.step u.1 u.2 n hn e.x k3 _ k4
    obtain ⟨v', m', r1, r2, r3⟩ := RightP.chain R G h3 k2 m1
    refine ⟨v', m', r1, r2, ?_⟩
    rw [wsum_cons]
    have m2 : n + b * e.g - a * e.l ≤ m := m2
    have w : wtOf a b e = b * e.g - a * e.l := rfl
    omega
theorem ratio_le (hW : Wd W) {ps : List Pr} {es : List Ed} {a b : Int} {h : List (Option Int)} {l : List (Option Nat)} (S : SetOk W ps es a b h l) {a' b' c' : Int} (r' : RatioOk a' b') {f : Tx × Tx → Option Int} (R : RightP W a' b' c' f) : a * b' ≤ a' * b := by
  rcases S.rat.why with ⟨e1, e2⟩ | ⟨i, C, hi, hc, hn, e⟩
  · have := r'.ab
    rw [e1, e2]
    omega
  · obtain ⟨q, n, q1, q2⟩ := R.at hW S.gr i i (Nat.le_refl _) hi
    obtain ⟨v, m, v1, v2, v3⟩ := R.chain S.gr hc q1 q2
    rw [q1] at v1
    have v1 := Option.some.inj v1
    subst v1
    rw [q2] at v2
    have v2 := Option.some.inj v2
    rw [show wtOf a' b' = fun e : Ed => b' * e.g - a' * e.l from rfl, wsum_bg] at v3
    have lp := S.gr.losses_pos hW hi hc hn
    have b1 := S.rat.b1
    have le : b' * gains C ≤ a' * losses C := by omega
    have le2 : b * (b' * gains C) ≤ b * (a' * losses C) := Int.mul_le_mul_of_nonneg_left le (by omega)
    have e3 : b * (b' * gains C) = (a * b') * losses C := by
      rw [← Int.mul_assoc, Int.mul_comm b b', Int.mul_assoc, e, ← Int.mul_assoc, Int.mul_comm b' a]
    have e4 : b * (a' * losses C) = (a' * b) * losses C := by
      rw [← Int.mul_assoc, Int.mul_comm b a']
    rw [e3, e4] at le2
    exact Int.le_of_mul_le_mul_right le2 (by omega)
theorem ratio_eq {a b a' b' : Int} (r : RatioOk a b) (r' : RatioOk a' b') (e : a * b' = a' * b) : a = a' ∧ b = b' := by
  obtain ⟨m, rfl⟩ := Int.eq_ofNat_of_zero_le (show 0 ≤ a by have := r.b1; have := r.ab; omega)
  obtain ⟨n, rfl⟩ := Int.eq_ofNat_of_zero_le (show 0 ≤ b by have := r.b1; omega)
  obtain ⟨m', rfl⟩ := Int.eq_ofNat_of_zero_le (show 0 ≤ a' by have := r'.b1; have := r'.ab; omega)
  obtain ⟨n', rfl⟩ := Int.eq_ofNat_of_zero_le (show 0 ≤ b' by have := r'.b1; omega)
  have g := r.gcd
  have g' := r'.gcd
  simp only [Int.natAbs_natCast] at g g'
  have e : m * n' = m' * n := by exact_mod_cast e
  have d1 : n ∣ n' := (show Nat.Coprime n m from (Nat.gcd_comm n m).trans g).dvd_of_dvd_mul_left (by rw [e]; exact Nat.dvd_mul_left n m')
  have d2 : n' ∣ n := (show Nat.Coprime n' m' from (Nat.gcd_comm n' m').trans g').dvd_of_dvd_mul_left (by rw [← e]; exact Nat.dvd_mul_left n' m)
  have en : n = n' := Nat.dvd_antisymm d1 d2
  subst en
  have b1 := r.b1
  have em : m = m' := Nat.eq_of_mul_eq_mul_right (by omega) e
  exact ⟨by rw [em], rfl⟩
theorem RatOk.ratio {ps : List Pr} {es : List Ed} {a b : Int} (R : RatOk ps es a b) : RatioOk a b := ⟨R.b1, R.bM, R.ab, R.aM, R.gcd⟩
theorem show_le (hW : Wd W) {a b c c' : Int} {t : Tx} {r : List Tx} (s : ShowOk W a b c t r) {f : Tx × Tx → Option Int} (R : RightP W a b c' f) : c ≤ c' := by
  have q := R.bound hW s.row
  rw [s.flat] at q
  have := s.val
  omega
/-- the row shown is a cheapest one -/
theorem show_least (hW : Wd W) {a b c : Int} {t : Tx} {r : List Tx} (ha : 1 ≤ a) (s : ShowOk W a b c t r) {f : Tx × Tx → Option Int} (R : RightP W a b c f) : costRow W r = leastOf W t := by
  have L := leastOf_is hW s.ov
  have h1 := L.low r s.row s.flat
  obtain ⟨r', q1, q2, q3⟩ := L.is
  have q := R.bound hW q1
  rw [q2, q3] at q
  have v := s.val
  have : a * costRow W r ≤ a * leastOf W t := by omega
  have := Int.le_of_mul_le_mul_left this (by omega)
  omega
end
end GC

-- part RD19
set_option Elab.async false
set_option linter.all false
set_option maxRecDepth 100000
set_option maxHeartbeats 4000000
namespace GC
open PySem PySem.Spec PyProof.Rows L2
section
variable {P : Program} {w : World} {K : PySem.W.Frag} {mg : Str → Option Value} {base : Heap}
theorem lAtO {h : List (Option Int)} {v : Nat} {x : Int} (e : hAt h v = some x) : h[v]? = some (some x) := by
  unfold hAt at e
  cases q : h[v]? with
  | none => rw [q] at e; cases e
  | some y =>
    rw [q] at e
    have e : y = some x := e
    rw [e]
/-! told_by -/
def R_told : PySem.W.Frag → Hp → List D → VK → Prop := fun K H ds Q => ∃ g ps es q p tl, ds = [.adr g, .adr q, .str tl] ∧ GrfAt K H g ps es ∧ LstAt H q (p.map encEd) ∧ (∀ e ∈ p, e.dst < ps.length) ∧ (∀ u ∈ ps, u.2.length ≤ 3) ∧ tl.length ≤ 3 ∧ p.length ≤ 169 ∧
  ∀ v H', Ex H H' → Rp H' (encShow (txt p) (rowOf ps tl p)) v → Q v H'
def ETo (g q f : Addr) (t tl : Tx) : List (Option D) := [some (.adr g), some (.adr q), some (.str tl), some (.str t), some (.adr f), none, none]
theorem txt_flat (p : List Ed) : (p.map fun e => [e.x]).flatten = txt p := by
  unfold txt
  induction p with
  | nil => rfl
  | cons e p ih => rw [List.map_cons, List.flatten_cons, ih]; rfl
theorem okf_told (hd : Hd K mg) : OkA P w K mg base 1 (He.ga K "told_by") ["graph", "steps", "tail"] (spG (R_told K)) := by
  refine ok_told_by hd (len_G ?_) (rd_G ?_)
  · rintro H ds Q ⟨g, ps, es, q, p, tl, rfl, _⟩; rfl
  rintro ds H Q ⟨g, ps, es, q, p, tl, rfl, G, lq, hd1, hd2, tl3, pl, k⟩
  obtain ⟨fs0, pa, ea, g1, g2, g3, g4, g5⟩ := id G
  have tn := txt_len p
  unfold t_told_by
  refine dn_seq (dn_asg (d := .str (txt p)) (DE.is (de_joinM p (fun e => [e.x]) (lc_M p encEd (js := [5]) (di_lst (de_var rfl) lq) (fun x => dg_name) (by simp) (by omega) fun e he => de_ixTN (k := 1) (ds := [.int (e.src : Nat), .str [e.x], .int (e.dst : Nat), .int e.g, .int e.l]) (de_var rfl) de_int rfl) (by rw [txt_flat]; omega)) (by rw [txt_flat])) ?_)
  dsimp only
  refine dn_seq (dn_asgL (dl_lst da_nil (by simp)) fun f H1 nf x1 lf => ?_)
  dsimp only
  refine dn_seq ?_
  refine dn_forG (Hb := H) (τ := Tx × List Tx) [f] p encEd (fun x => dg_name) (fun i s => s.2 ++ rowOf ps s.1 (p.drop i) = rowOf ps tl p ∧ s.1.length ≤ 3 ∧ s.2.length ≤ i) (fun s => ETo g q f (txt p) s.1) (fun s H' => LstAt H' f (s.2.map D.str)) (tl, []) (di_lst (de_var rfl) lq) x1 (one_M nf lf) (fun s H3 H4 l x => l.ex x) ⟨rfl, tl3, by simp⟩ (Wk.refl _) lf ?_ ?_
  · rintro Hh xh hM i e ⟨t, r⟩ he ⟨p1, p2, p3⟩ H3 x3 l3
    have p1 : r ++ rowOf ps t (p.drop i) = rowOf ps tl p := p1
    have p2 : t.length ≤ 3 := p2
    have p3 : r.length ≤ i := p3
    have l3 : LstAt H3 f (r.map D.str) := l3
    have hem := List.mem_of_getElem? he
    have hi := (List.getElem?_eq_some_iff.mp he).1
    obtain ⟨u, hu⟩ : ∃ u, ps[e.dst]? = some u := ⟨_, List.getElem?_eq_getElem (hd1 e hem)⟩
    have u3 := hd2 u (List.mem_of_getElem? hu)
    have dr : p.drop i = e :: p.drop (i + 1) := by
      rw [List.drop_eq_getElem_cons hi]
      congr 1
      have := (List.getElem?_eq_getElem hi).symm.trans he
      exact Option.some.inj this
    have st : rowOf ps t (p.drop i) = (if u.2 = [] then [t ++ [e.x]] else []) ++ rowOf ps u.2 (p.drop (i + 1)) := by
      rw [dr]
      show (if ((ps[e.dst]?).getD ([], [])).2 = [] then [t ++ [e.x]] else []) ++ rowOf ps ((ps[e.dst]?).getD ([], [])).2 (p.drop (i + 1)) = _
      rw [hu]
      rfl
    rw [st] at p1
    have x03 := xh.trans x3
    refine dn_seq (dn_asg (d := .str (t ++ [e.x])) (de_cat (de_var rfl) (de_ixTN (k := 1) (ds := [.int (e.src : Nat), .str [e.x], .int (e.dst : Nat), .int e.g, .int e.l]) (de_var rfl) de_int rfl) (small_line (by simp; omega))) ?_)
    dsimp only
    refine dn_seq (dn_asg (d := .str u.2) (de_ixTN (k := 1) (ds := [.str u.1, .str u.2]) (de_ixLN (k := e.dst) (dl_adr (de_fld (de_var rfl) (g1.ex x03) (cls_Graph hd) (noat_Graph_pairs hd) g2 rfl) (g3.ex x03)) (de_ixTN (k := 2) (ds := [.int (e.src : Nat), .str [e.x], .int (e.dst : Nat), .int e.g, .int e.l]) (de_var rfl) de_int rfl) (by rw [List.getElem?_map, hu]; rfl)) de_int rfl) ?_)
    dsimp only
    refine dn_if (dt_test (de_eqT (de_var rfl) de_empty)) (fun hb => ?_) (fun hb => ?_)
    · have hb : u.2 = [] := of_decide_eq_true hb
      rw [if_pos hb, ← List.append_assoc] at p1
      refine dn_app (de_var rfl) l3 (de_var rfl) (by rw [List.length_map]; omega) fun H4 x4 l4 => ?_
      refine dn_turn (P := fun s => s.2 ++ rowOf ps s.1 (p.drop (i + 1)) = rowOf ps tl p ∧ s.1.length ≤ 3 ∧ s.2.length ≤ i + 1) (env := fun s => ETo g q f (txt p) s.1) (G := fun s H' => LstAt H' f (s.2.map D.str)) (u.2, r ++ [t ++ [e.x]]) ⟨p1, u3, by simp; omega⟩ (wk_same (wk_same (wk_same (wk_same (wk_same (wk_none (wk_none wk_nil))))))) (x3.mut (hM f (by simp)) x4) ?_ (fun s H3 H4 l x => l.ex x)
      show LstAt H4 f ((r ++ [t ++ [e.x]]).map D.str)
      rw [List.map_append]
      exact l4
    · have hb : ¬ u.2 = [] := of_decide_eq_false hb
      rw [if_neg hb, List.nil_append] at p1
      exact dn_next (dn_turn (τ := Tx × List Tx) (P := fun s => s.2 ++ rowOf ps s.1 (p.drop (i + 1)) = rowOf ps tl p ∧ s.1.length ≤ 3 ∧ s.2.length ≤ i + 1) (env := fun s => ETo g q f (txt p) s.1) (G := fun s H' => LstAt H' f (s.2.map D.str)) (u.2, r) ⟨p1, u3, by show r.length ≤ i + 1; omega⟩ (wk_same (wk_same (wk_same (wk_same (wk_same (wk_none (wk_none wk_nil))))))) x3 l3 (fun s H3 H4 l x => l.ex x))
  · rintro ⟨t, r⟩ ⟨p1, p2, p3⟩ H3 x3 l3
    have p1 : r ++ rowOf ps t (p.drop p.length) = rowOf ps tl p := p1
    rw [List.drop_length] at p1
    have p1 : r ++ [] = rowOf ps tl p := p1
    rw [List.append_nil] at p1
    have l3 : LstAt H3 f (r.map D.str) := l3
    dsimp only
    refine dn_ret (d := encShow (txt p) (rowOf ps tl p)) (DE.is (de_tup (da_cons (de_var rfl) (da_cons (de_tupL (dl_adr (de_var rfl) l3)) da_nil)) (by simp)) ?_) fun v H4 x4 r4 => k v H4 (x3.trans x4) r4
    rw [← p1]
    rfl
/-! way_to -/
def R_way : PySem.W.Frag → Hp → List D → VK → Prop := fun K H ds Q => ∃ g c ha la wa W ps es a b h l ws, ∃ v : Nat, ds = [.adr g, .adr c, .int (v : Int)] ∧ SetOk W ps es a b h l ∧ Wd W ∧ GrfAt K H g ps es ∧ CliAt K H c g ha la wa h l ws ∧ v < ps.length ∧
  ∀ p q H', H q = none → Ex H H' → LstAt H' q (p.map encEd) → Chain es 0 p v → hAt h v = some (wsum (wtOf a b) p) → p.length ≤ 169 → Q (.ref q) H'
def EWa (g c f : Addr) (u : Nat) : List (Option D) := [some (.adr g), some (.adr c), some (.int (u : Int)), some (.adr f), none]
structure PWa (es : List Ed) (a b : Int) (h : List (Option Int)) (τ : Nat → Nat) (n v : Nat) (s : Nat × List Ed) : Prop where
  ch : Chain es s.1 s.2.reverse v
  un : s.1 < n
  ht : ∃ y, hAt h s.1 = some y ∧ hAt h v = some (y + wsum (wtOf a b) s.2)
  nd : (s.2.map (·.dst)).Nodup
  up : ∀ e ∈ s.2, τ s.1 < τ e.dst ∧ e.dst < n
theorem PWa.len {es : List Ed} {a b : Int} {h : List (Option Int)} {τ : Nat → Nat} {n v : Nat} {s : Nat × List Ed} (p : PWa es a b h τ n v s) : s.2.length ≤ n := by
  have q := nodup_le (m := List.range n) p.nd fun d hd' => by
    obtain ⟨e, he, e2⟩ := List.mem_map.mp hd'
    rw [← e2]
    exact List.mem_range.mpr (p.up e he).2
  rwa [List.length_map, List.length_range] at q
theorem okf_way (hd : Hd K mg) : OkA P w K mg base 1 (He.ga K "way_to") ["graph", "climb", "place"] (spG (R_way K)) := by
  refine ok_way_to hd (len_G ?_) (rd_G ?_)
  · rintro H ds Q ⟨g, c, ha, la, wa, W, ps, es, a, b, h, l, ws, v, rfl, _⟩; rfl
  rintro ds H Q ⟨g, c, ha, la, wa, W, ps, es, a, b, h, l, ws, v, rfl, S, hW, G, C, vn, k⟩
  obtain ⟨fs0, pa, ea, g1, g2, g3, g4, g5⟩ := id G
  obtain ⟨fc, c0⟩ := id C.c
  obtain ⟨τ, dn, top, l0, h0⟩ := S.down
  obtain ⟨pn1, pn2⟩ := S.gr.len hW
  have ll : l.length = ps.length := by obtain ⟨_, _, _, _, B⟩ := S.bf; exact B.ll
  unfold t_way_to
  refine dn_seq (dn_asgL (dl_lst da_nil (by simp)) fun f H1 nf x1 lf => ?_)
  dsimp only
  refine dn_seq ?_
  obtain ⟨xv, hxv⟩ := S.all vn
  refine dn_whileG (Hb := H) (τ := Nat × List Ed) (PWa es a b h τ ps.length v) (fun s => τ s.1) (fun s => EWa g c f s.1) (fun s H' => LstAt H' f (s.2.map encEd)) (v, []) x1 ⟨rfl, vn, ⟨xv, hxv, by rw [hxv]; show _ = some (xv + 0); rw [Int.add_zero]⟩, by simp, fun e he => by cases he⟩ (Wk.refl _) lf (fun s H3 H4 l x => l.ex x) ?_
  rintro ⟨u, A⟩ p H3 x3 l3
  have un : u < ps.length := p.un
  have l3 : LstAt H3 f (A.map encEd) := l3
  have al := p.len
  have al : A.length ≤ ps.length := al
  obtain ⟨ol, hol⟩ : ∃ ol, l[u]? = some ol := ⟨_, List.getElem?_eq_getElem (by omega)⟩
  have holA : lAt l u = ol := by unfold lAt; rw [hol]; rfl
  have eL : (l.map encN)[u]? = some (encN ol) := by rw [List.getElem?_map, hol]; rfl
  refine ⟨!(encN ol).isN, dt_test (de_notN (de_ixLN (k := u) (dl_adr (de_fld (de_var rfl) (c0.ins.ex x3) (cls_Climb hd) (noat_Climb_last hd) c0.l rfl) (C.ll.ex x3)) (de_var rfl) eL)), fun hb => ?_, fun hb => ?_⟩
  · cases ol with
    | none => cases hb
    | some j =>
    obtain ⟨e, d⟩ := dn u j holA
    refine dn_seq (dn_asg (d := encEd e) (de_ixLN (k := j) (dl_adr (de_fld (de_var rfl) (g1.ex x3) (cls_Graph hd) (noat_Graph_edges hd) g4 rfl) (g5.ex x3)) (de_ixLN (k := u) (d := .int (j : Nat)) (dl_adr (de_fld (de_var rfl) (c0.ins.ex x3) (cls_Climb hd) (noat_Climb_last hd) c0.l rfl) (C.ll.ex x3)) (de_var rfl) eL) (by rw [List.getElem?_map, d.at_]; rfl)) ?_)
    dsimp only
    refine dn_seq (dn_app (de_var rfl) l3 (de_var rfl) (by rw [List.length_map]; omega) fun H4 x4 l4 => ?_)
    dsimp only
    refine dn_asg (d := .int (e.src : Nat)) (de_ixTN (k := 0) (ds := [.int (e.src : Nat), .str [e.x], .int (e.dst : Nat), .int e.g, .int e.l]) (de_var rfl) de_int rfl) ?_
    refine dn_turnW (P := PWa es a b h τ ps.length v) (m := fun s : Nat × List Ed => τ s.1) (env := fun s => EWa g c f s.1) (G := fun s H' => LstAt H' f (s.2.map encEd)) (e.src, A ++ [e]) d.lt ⟨?_, (S.gr.src d.mem).1, ?_, ?_, ?_⟩ (wk_same (wk_same (wk_same (wk_same (wk_none wk_nil))))) (x3.mut nf x4) ?_ (fun s H3 H4 l x => l.ex x)
    · show Chain es e.src (A ++ [e]).reverse v
      rw [List.reverse_append]
      exact ⟨d.mem, rfl, by rw [d.dst]; exact p.ch⟩
    · obtain ⟨y, y1, y2⟩ := p.ht
      refine ⟨_, d.ht y y1, ?_⟩
      rw [y2]
      show some (y + wsum (wtOf a b) A) = some (y - wtOf a b e + wsum (wtOf a b) (A ++ [e]))
      rw [wsum_append]
      have : wsum (wtOf a b) [e] = wtOf a b e := by show wtOf a b e + 0 = _; omega
      rw [this]
      congr 1
      omega
    · show ((A ++ [e]).map (·.dst)).Nodup
      rw [List.map_append, List.nodup_append]
      refine ⟨p.nd, by simp, fun z hz y hy q => ?_⟩
      rw [List.mem_singleton.mp hy] at q
      obtain ⟨e', he', e2⟩ := List.mem_map.mp hz
      have := (p.up e' he').1
      have e2 : e'.dst = z := e2
      have q : z = e.dst := q
      rw [e2, q, d.dst] at this
      exact absurd (show τ u < τ u from this) (Nat.lt_irrefl _)
    · intro e' he'
      have dl := d.lt
      rcases List.mem_append.mp he' with h1 | h1
      · have := p.up e' h1
        have t1 : τ u < τ e'.dst := this.1
        exact ⟨by show τ e.src < _; omega, this.2⟩
      · rw [List.mem_singleton.mp h1, d.dst]
        exact ⟨dl, un⟩
    · show LstAt H4 f ((A ++ [e]).map encEd)
      rw [List.map_append]
      exact l4
  · cases ol with
    | some j => cases hb
    | none =>
    have u0 : u = 0 := by
      by_cases e : u = 0
      · exact e
      · obtain ⟨x, hx⟩ := S.all un
        have := top u e (by rw [hx]; rfl)
        rw [holA] at this
        cases this
    subst u0
    obtain ⟨y, y1, y2⟩ := p.ht
    rw [h0] at y1
    have y1 : (0 : Int) = y := Option.some.inj y1
    have y2 : hAt h v = some (y + wsum (wtOf a b) A) := y2
    rw [← y1, Int.zero_add] at y2
    dsimp only
    refine dn_retL (DLn.is (dl_rev (dl_adr (de_var rfl) l3)) (show _ = A.reverse.map encEd by rw [List.map_reverse])) ?_
    intro q H4 nq x4 l4
    exact k A.reverse q H4 (x3.fresh nq) (x3.trans x4) l4 p.ch (by rw [wsum_rev]; exact y2) (by rw [List.length_reverse]; omega)
/-! excess_of -/
def R_exc : PySem.W.Frag → Hp → List D → VK → Prop := fun K H ds Q => ∃ g c ha la wa W ps es a b h l ws, ds = [encW W, .adr g, encRat a b, .adr c] ∧ SetOk W ps es a b h l ∧ Wd W ∧ GrfAt K H g ps es ∧ CliAt K H c g ha la wa h l ws ∧
  ∀ e pl v H', Ex H H' → ExcOk W ps h b e pl → Rp H' (.tup [.int e, .int (pl : Nat)]) v → Q v H'
structure PEx (W : WL) (ps : List Pr) (h : List (Option Int)) (b : Int) (i : Nat) (s : Int × Nat) : Prop where
  nn : 0 ≤ s.1
  top : ∀ (j : Nat) (q : Pr) (x : Int), j < i → ps[j]? = some q → q.2 = [] → hAt h j = some x → x + b * costRow W (matchOf W q.1) ≤ s.1
  is : (s.1 = 0 ∧ s.2 = 0) ∨ (0 < s.1 ∧ ∃ (q : Pr) (x : Int), ps[s.2]? = some q ∧ q.2 = [] ∧ hAt h s.2 = some x ∧ s.1 = x + b * costRow W (matchOf W q.1))
def EEx (W : WL) (g c : Addr) (a b : Int) (s : Int × Nat) : List (Option D) := [some (encW W), some (.adr g), some (encRat a b), some (.adr c), some (.tup [.int s.1, .int (s.2 : Nat)]), none, none, none]
theorem enum_zipQ (ps : List Pr) : enumD (ps.map encQ) = ps.zipIdx.map fun p => D.tup [.int (p.2 : Nat), encQ p.1] := by
  unfold enumD
  rw [List.zipIdx_map, List.map_map]
  rfl
theorem okf_exc (hd : Hd K mg) : OkA P w K mg base 5 (He.ga K "excess_of") ["words", "graph", "ratio", "climb"] (spG (R_exc K)) := by
  refine ok_excess_of hd (okf_cost_of_row hd) (okf_match_of hd) (len_G ?_) (rd_G ?_)
  · rintro H ds Q ⟨g, c, ha, la, wa, W, ps, es, a, b, h, l, ws, rfl, _⟩; rfl
  rintro ds H Q ⟨g, c, ha, la, wa, W, ps, es, a, b, h, l, ws, rfl, S, hW, G, C, k⟩
  obtain ⟨fs0, pa, ea, g1, g2, g3, g4, g5⟩ := id G
  obtain ⟨fc, c0⟩ := id C.c
  have b1 := S.rat.b1
  have bM := S.rat.bM
  unfold t_excess_of
  refine dn_seq (dn_asg (d := .tup [.int 0, .int ((0 : Nat) : Int)]) (de_tup (da_cons de_int (da_cons (de_nat 0 rfl) da_nil)) (by simp)) ?_)
  dsimp only
  refine dn_seq ?_
  refine dn_forP (τ := Int × Nat) ps.zipIdx (fun p => D.tup [.int (p.2 : Nat), encQ p.1]) (tgt := fun p => [.int (p.2 : Nat), encQ p.1]) (fun p => dg_tup (dgs_cons (dgs_cons dgs_nil)) rfl) (PEx W ps h b) (EEx W g c a b) (0, 0) (DI.is (di_enum (de_fld (de_var rfl) g1 (cls_Graph hd) (noat_Graph_pairs hd) g2 rfl) g3) (enum_zipQ ps)) ⟨Int.le_refl _, fun j q x hj => by omega, .inl ⟨rfl, rfl⟩⟩ (Wk.refl _) ?_ ?_
  · rintro Hh xh i ⟨q, j⟩ ⟨e, pl⟩ hx p
    rw [List.getElem?_zipIdx] at hx
    cases hqi : ps[i]? with
    | none => rw [hqi] at hx; cases hx
    | some q' =>
    rw [hqi] at hx
    have hx := Option.some.inj hx
    injection hx with hx1 hx2
    subst hx1
    have hx2 : i = j := by omega
    subst hx2
    have hi := (List.getElem?_eq_some_iff.mp hqi).1
    obtain ⟨x, hxi⟩ := S.all hi
    have hhi : h[i]? = some (some x) := lAtO hxi
    have hheld := S.gr.held q' (List.mem_of_getElem? hqi)
    have l3 := hheld.1.len hW
    obtain ⟨m1, m2⟩ := match_row hW (hheld.1.over hW)
    have keep : (q'.2 = [] → x + b * costRow W (matchOf W q'.1) ≤ e) → PEx W ps h b (i + 1) (e, pl) := fun z => ⟨p.nn, fun j q y hj hq hq2 hy => by
      by_cases ej : j = i
      · subst ej
        rw [hqi] at hq
        have hq := Option.some.inj hq
        subst hq
        rw [hxi] at hy
        have hy := Option.some.inj hy
        subst hy
        exact z hq2
      · exact p.top j q y (by omega) hq hq2 hy, p.is⟩
    refine dn_if (dt_test (de_eqT (de_ixTN (k := 1) (ds := [.str q'.1, .str q'.2]) (de_var rfl) de_int rfl) de_empty)) (fun hb => ?_) (fun hb => ?_)
    · have hb : q'.2 = [] := of_decide_eq_true hb
      refine dn_seq (dn_asg (d := .int (x + b * costRow W (matchOf W q'.1))) (de_add (de_ixLN (k := i) (d := .int x) (dl_adr (de_fld (de_var rfl) (c0.ins.ex xh) (cls_Climb hd) (noat_Climb_heights hd) c0.h rfl) (C.lh.ex xh)) (de_var rfl) (by rw [List.getElem?_map, hhi]; rfl)) (de_mul (de_ixTN (k := 1) (ds := [.int a, .int b]) (de_var rfl) de_int rfl) (de_call (da_cons (de_var rfl) (da_cons (de_call (da_cons (de_var rfl) (da_cons (de_ixTN (k := 0) (ds := [.str q'.1, .str q'.2]) (de_var rfl) de_int rfl) da_nil)) ⟨W, q'.1, rfl, rfl, hW, hheld.1.over hW, by show q'.1.length ≤ 50000; omega⟩) da_nil)) ⟨W, _, rfl, rfl, hW, m1, by omega⟩) (cmul_l (by omega) (by omega)))) ?_)
      dsimp only
      refine dn_if (dt_test (de_cmpI (g := fun i j => decide (j < i)) (de_var rfl) (de_ixTN (k := 0) (ds := [.int e, .int (pl : Nat)]) (de_var rfl) de_int rfl))) (fun hb2 => ?_) (fun hb2 => ?_)
      · have hb2 : e < x + b * costRow W (matchOf W q'.1) := of_decide_eq_true hb2
        have nn : 0 ≤ e := p.nn
        refine dn_asg (d := .tup [.int (x + b * costRow W (matchOf W q'.1)), .int (i : Nat)]) (de_tup (da_cons (de_var rfl) (da_cons (de_var rfl) da_nil)) (by simp)) (dn_turnP (P := PEx W ps h b (i + 1)) (env := EEx W g c a b) (x + b * costRow W (matchOf W q'.1), i) ⟨by show 0 ≤ x + _; omega, fun j q y hj hq hq2 hy => ?_, .inr ⟨by show 0 < x + _; omega, q', x, hqi, hb, hxi, rfl⟩⟩ (wk_same (wk_same (wk_same (wk_same (wk_same (wk_none (wk_none (wk_none wk_nil)))))))) (Ex.refl _))
        by_cases ej : j = i
        · subst ej
          rw [hqi] at hq
          have hq := Option.some.inj hq
          subst hq
          rw [hxi] at hy
          have hy := Option.some.inj hy
          subst hy
          exact Int.le_refl _
        · have t : y + b * costRow W (matchOf W q.1) ≤ e := p.top j q y (by omega) hq hq2 hy
          show y + _ ≤ x + _
          omega
      · have hb2 : ¬ e < x + b * costRow W (matchOf W q'.1) := of_decide_eq_false hb2
        exact dn_next (dn_turnP (P := PEx W ps h b (i + 1)) (env := EEx W g c a b) (e, pl) (keep fun _ => by omega) (wk_same (wk_same (wk_same (wk_same (wk_same (wk_none (wk_none (wk_none wk_nil)))))))) (Ex.refl _))
    · have hb : ¬ q'.2 = [] := of_decide_eq_false hb
      exact dn_next (dn_turnP (P := PEx W ps h b (i + 1)) (env := EEx W g c a b) (e, pl) (keep fun z => absurd z hb) (wk_same (wk_same (wk_same (wk_same (wk_same (wk_none (wk_none (wk_none wk_nil)))))))) (Ex.refl _))
  · rintro ⟨e, pl⟩ p
    rw [List.length_zipIdx] at p
    dsimp only
    refine dn_ret (de_var rfl) fun v H4 x4 r4 => k e pl v H4 x4 ⟨fun i q x hq hq2 hx => ?_, p.is⟩ r4
    exact p.top i q x (List.getElem?_eq_some_iff.mp hq).1 hq hq2 hx
end
end GC

-- part RD20
set_option Elab.async false
set_option linter.all false
set_option maxRecDepth 100000
set_option maxHeartbeats 4000000
namespace GC
open PySem PySem.Spec PyProof.Rows L2
section
variable {H H' : Hp} {ρ ρ' : List (Option D)} {K : PySem.W.Frag} {te ta tb td ty tl : TE} {E : Ends} {a f : Addr} {ds : List D}
/-- [[] for x in xs] into a slot -/
theorem dn_asgLL {α : Type} {xs : List α} {enc : α → D} {i j : Nat} (hi : DI (iList K tl) H ρ (xs.map enc)) (hn : xs.length ≤ 1000)
    (k : ∀ (D0 : Addr) (as : List Addr) H', H D0 = none → as.length = xs.length → as.Nodup → (∀ a ∈ as, H a = none ∧ a ≠ D0 ∧ LstAt H' a []) → LstAt H' D0 (as.map D.adr) → Ex H H' → DN E.nx H' (ρ.set i (some (.adr D0)))) :
    DN (tAsg (tLc (iList K tl) (gName j) tYes (tLst tNil) [j]) (gName i) E) H ρ := fun σ H1 x n => by
  unfold tAsg tLc
  refine hi σ H1 x n _ ?_
  intro J H2 src y hs w D0 hD
  have x2 : Ex H H2 := x.trans y
  refine lc_it (w H2 (fun _ _ h => h) fun a _ => rfl) (fun i H3 => Ex H2 H3 ∧ ∃ as : List Addr, as.length = i ∧ as.Nodup ∧ (∀ a ∈ as, H2 a = none ∧ a ≠ D0 ∧ LstAt H3 a []) ∧ LstAt H3 D0 (as.map D.adr)) ⟨Ex.new hD, [], rfl, by simp, (fun a ha => by cases ha), [], upd_same, rfl⟩ (fun i H3 _ z => z.1) (fun i v H3 H4 hi z yl => ?_) fun H3 z => ?_
  · rw [List.length_map] at hi
    obtain ⟨z1, as, z2, z3, z4, z5⟩ := z
    obtain ⟨y1, _⟩ := yl
    refine ⟨by rw [wipe_set (by simp), wipe_wipe fun _ h => h], ?_⟩
    unfold tYes
    refine iteT ⟨small_line (by simp), fun p hp => ?_⟩
    have z5' := (z5.ex y1).ex (Ex.new (o := .lst []) hp)
    obtain ⟨acc, a1, a2⟩ := z5'
    have pD : p ≠ D0 := fun e => by
      obtain ⟨vs, e1, _⟩ := z5.ex y1
      rw [← e, hp] at e1; cases e1
    have t5 : TEx (upd H4 p (.lst [])) (upd (upd H4 p (.lst [])) D0 (.lst (acc ++ [.ref p]))) := ExB.tex (a := D0) ExB.upd fun vs q => by rw [a1] at q; cases q
    refine ⟨acc, a1, ?_, ?_, as ++ [p], by simp [z2], ?_, fun a ha => ?_, _, upd_same, ?_⟩
    · have := a2.length
      rw [List.length_map] at this
      exact Nat.lt_of_lt_of_le (show acc.length < 100001 by omega) (by decide)
    · exact ((z1.trans y1).trans (Ex.new hp)).mut hD ExB.upd
    · rw [List.nodup_append]
      refine ⟨z3, by simp, fun a ha b hb e => ?_⟩
      rw [List.mem_singleton.mp hb] at e
      obtain ⟨vs, e1, _⟩ := (z4 a ha).2.2.ex y1
      rw [e, hp] at e1; cases e1
    · rcases List.mem_append.mp ha with ha | ha
      · obtain ⟨q1, q2, q3⟩ := z4 a ha
        exact ⟨q1, q2, ((q3.ex y1).ex (Ex.new hp)).exB ExB.upd q2 t5⟩
      · rw [List.mem_singleton.mp ha]
        refine ⟨(z1.trans y1).fresh hp, pD, LstAt.exB (H := upd H4 p (.lst [])) ⟨[], upd_same, rfl⟩ ExB.upd pD t5⟩
    · rw [List.map_append]
      exact Rps.mono t5 _ _ (a2.append (Rps.one rfl))
  · obtain ⟨z1, as, z2, z3, z4, z5⟩ := z
    rw [List.length_map] at z2
    exact dn_at (k D0 as H3 (x2.fresh hD) z2 z3 (fun a ha => ⟨x2.fresh (z4 a ha).1, (z4 a ha).2.1, (z4 a ha).2.2⟩) z5 (x2.trans z1)) (((n.ex y).ex z1).set rfl)
theorem din_rng {n : Nat} (h : DE ta H ρ (.int (n : Int))) (h1 : n ≤ 1000000) : DIN (iRng1 (tCons ta tNil)) H ρ ((List.range n).map fun k => D.int (k : Nat)) := fun σ H1 x m R q => h σ H1 x m _ fun v H2 y r => by
  have r : v = .int (n : Int) := r
  subst r
  refine ⟨(n : Int), rfl, by omega, by omega, q _ H2 [] y (fun b hb => by cases hb) fun Hb ht hs => ?_⟩
  have e : ((List.range n).map fun k => D.int (k : Nat)) = (List.range (n : Int).toNat).map fun k => D.int (0 + (k : Nat)) := by
    rw [Int.toNat_natCast]
    exact List.map_congr_left fun k _ => by rw [Int.zero_add]
  rw [e]
  exact walk_rng
theorem de_index {p : Addr} {ns : List Nat} {v k : Nat} (ha : DE ta H ρ (.adr p)) (l : LstAt H p (ns.map fun z : Nat => D.int (z : Int))) (hb : DE tb H ρ (.int (v : Int))) (h1 : ns[k]? = some v) (h2 : ∀ m z, m < k → ns[m]? = some z → z ≠ v) : DE (tBM K "list" (rIndex K) ta (tCons tb tNil)) H ρ (.int (k : Int)) := fun σ H1 x n Q q => ha σ H1 x n _ fun u H2 y r => by
  have r : u = .ref p := r
  subst r
  obtain ⟨vs0, b2, b3⟩ := l.ex (x.trans y)
  refine ⟨.inl ⟨rfl, _, .inl (.inl b2)⟩, hb σ H2 (x.trans y) (n.ex y) _ fun w H3 y' rw' => ?_⟩
  have rw' : w = .int (v : Int) := rw'
  subst rw'
  obtain ⟨vs, e2, e3⟩ := l.ex ((x.trans y).trans y')
  have e4 : vs = (ns.map fun z : Nat => (z : Int)).map V.int := by
    have : ns.map (fun z : Nat => D.int (z : Int)) = (ns.map fun z : Nat => (z : Int)).map D.int := by rw [List.map_map]; rfl
    rw [this] at e3
    exact e3.ints _
  subst e4
  refine ⟨p, _, .int (v : Int), k, .int (v : Int), rfl, rfl, SqL.of e2, rfl, flat_ints _, by rw [List.getElem?_map, List.getElem?_map, h1]; rfl, ?_, fun m z' hm hz => ?_, q _ H3 (y.trans y') rfl⟩
  · show ((v : Int) == (v : Int)) = true
    simp
  · rw [List.getElem?_map, List.getElem?_map] at hz
    cases hq : ns[m]? with
    | none => rw [hq] at hz; cases hz
    | some z =>
      rw [hq] at hz
      have hz : V.int (z : Int) = z' := Option.some.inj hz
      subst hz
      show ((z : Int) == (v : Int)) = false
      have := h2 m z hm hq
      simp
      omega
end
/-! tight edges: plain -/
theorem chain_drop {es : List Ed} : ∀ {p : List Ed} {i j k : Nat} {e : Ed}, Chain es i p j → p[k]? = some e → Chain es e.src (p.drop k) j
  | [], _, _, _, _, _, h => by simp at h
  | d :: p, i, j, 0, e, c, h => by
    simp at h
    subst h
    exact ⟨c.1, rfl, c.2.2⟩
  | d :: p, i, j, k + 1, e, c, h => by
    have q : p[k]? = some e := by simpa using h
    exact chain_drop (p := p) c.2.2 q
theorem tight_sum {es : List Ed} {wt : Ed → Int} {h : List (Option Int)} : ∀ {p : List Ed} {i j : Nat} {x : Int}, Chain es i p j → (∀ e ∈ p, Tight wt h e) → hAt h i = some x → hAt h j = some (x + wsum wt p)
  | [], i, j, x, c, _, hx => by
    have c : i = j := c
    subst c
    rw [hx]
    show _ = some (x + 0)
    rw [Int.add_zero]
  | e :: p, i, j, x, c, t, hx => by
    obtain ⟨c1, c2, c3⟩ := c
    obtain ⟨y, y1, y2⟩ := t e (by simp)
    rw [c2, hx] at y1
    have y1 := Option.some.inj y1
    subst y1
    have := tight_sum c3 (fun d hd => t d (by simp [hd])) y2
    rw [this, wsum_cons]
    congr 1
    omega
structure PT (es : List Ed) (wt : Ed → Int) (h : List (Option Int)) (n : Nat) (S : Nat → Prop) (T : List (List Ed)) : Prop where
  len : T.length = n
  sd : ∀ v L, T[v]? = some L → (∀ e ∈ L, e ∈ es ∧ e.src = v ∧ Tight wt h e) ∧ L.length ≤ 10000
  kp : ∀ v L, T[v]? = some L → ∀ e ∈ es, e.src = v → Tight wt h e → S v → S e.dst → e ∈ L
def sumT (T : List (List Ed)) : Nat := (T.map List.length).sum
theorem sumT_set : ∀ {T : List (List Ed)} {v : Nat} {L L' : List Ed}, T[v]? = some L → L'.length < L.length → sumT (T.set v L') < sumT T
  | [], v, L, L', h, _ => by simp at h
  | A :: T, 0, L, L', h, hl => by
    simp at h
    subst h
    show L'.length + (T.map List.length).sum < A.length + (T.map List.length).sum
    omega
  | A :: T, v + 1, L, L', h, hl => by
    have := sumT_set (T := T) (v := v) (L := L) (L' := L') (by simpa using h) hl
    show A.length + sumT (T.set v L') < A.length + sumT T
    omega
/-- an edge of T leads to a place with an edge -/
def okE (T : List (List Ed)) (e : Ed) : Bool := decide (0 < ((T[e.dst]?).getD []).length)
theorem PT.filter {es : List Ed} {wt : Ed → Int} {h : List (Option Int)} {n : Nat} {S : Nat → Prop} {T : List (List Ed)} (p : PT es wt h n S T) (ts : TS' es wt h n S) {v : Nat} {L : List Ed} (hv : T[v]? = some L) : PT es wt h n S (T.set v (L.filter (okE T))) where
  len := by rw [List.length_set]; exact p.len
  sd := fun u M hu => by
    by_cases e : v = u
    · subst e
      rw [List.getElem?_set_self (List.getElem?_eq_some_iff.mp hv).1] at hu
      have hu := Option.some.inj hu
      subst hu
      obtain ⟨q1, q2⟩ := p.sd v L hv
      exact ⟨fun e he => q1 e (List.mem_filter.mp he).1, Nat.le_trans (List.length_filter_le _ _) q2⟩
    · rw [List.getElem?_set_ne e] at hu
      exact p.sd u M hu
  kp := fun u M hu => by
    by_cases e : v = u
    · subst e
      rw [List.getElem?_set_self (List.getElem?_eq_some_iff.mp hv).1] at hu
      have hu := Option.some.inj hu
      subst hu
      intro d hd1 hd2 hd3 hd4 hd5
      refine List.mem_filter.mpr ⟨p.kp v L hv d hd1 hd2 hd3 hd4 hd5, decide_eq_true ?_⟩
      have ln := ts.lt _ hd5
      have hg : T[d.dst]? = some (T[d.dst]'(by rw [p.len]; exact ln)) := List.getElem?_eq_getElem _
      rw [hg]
      obtain ⟨f, f1, f2, f3, f4⟩ := ts.go _ hd5
      exact List.length_pos_of_mem (p.kp _ _ hg f f1 f2 f3 hd5 f4)
    · rw [List.getElem?_set_ne e] at hu
      exact p.kp u M hu
structure Tg (H : Hp) (Dd : Addr) (as : List Addr) (T : List (List Ed)) : Prop where
  d : LstAt H Dd (as.map D.adr)
  len : as.length = T.length
  at_ : ∀ (i : Nat) (a : Addr) (L : List Ed), as[i]? = some a → T[i]? = some L → LstAt H a (L.map encEd)
theorem Tg.ex {H H' : Hp} {Dd : Addr} {as : List Addr} {T : List (List Ed)} (t : Tg H Dd as T) (x : Ex H H') : Tg H' Dd as T := ⟨t.d.ex x, t.len, fun i a L h1 h2 => (t.at_ i a L h1 h2).ex x⟩
theorem Tg.get {H : Hp} {Dd : Addr} {as : List Addr} {T : List (List Ed)} (t : Tg H Dd as T) {v : Nat} {L : List Ed} (h : T[v]? = some L) : ∃ a, as[v]? = some a ∧ LstAt H a (L.map encEd) := by
  have := (List.getElem?_eq_some_iff.mp h).1
  have e : as[v]? = some (as[v]'(by rw [t.len]; exact this)) := List.getElem?_eq_getElem _
  exact ⟨_, e, t.at_ v _ L e h⟩
end GC

-- part RD21
set_option Elab.async false
set_option linter.all false
set_option maxRecDepth 100000
set_option maxHeartbeats 4000000
namespace GC
open PySem PySem.Spec PyProof.Rows L2
section
variable {P : Program} {w : World} {K : PySem.W.Frag} {mg : Str → Option Value} {base : Heap}
def R_tight : PySem.W.Frag → Hp → List D → VK → Prop := fun K H ds Q => ∃ g c ha la wa W ps es a b h l, ds = [.adr g, .adr c] ∧ SetOk W ps es a b h l ∧ Wd W ∧ GrfAt K H g ps es ∧ CliAt K H c g ha la wa h l (es.map (wtOf a b)) ∧
  ∀ C q H' i, H q = none → Ex H H' → LstAt H' q (C.map encEd) → i < ps.length → Chain es i C i → C ≠ [] → C.length ≤ 169 → wsum (wtOf a b) C = 0 → Q (.ref q) H'
def ET (g c Dd : Addr) : List (Option D) := [some (.adr g), some (.adr c), some (.adr Dd), none, none, none, none, none, none, none, none, none, none, none]
def ET2 (g c Dd lf : Addr) (ch : Bool) : List (Option D) := [some (.adr g), some (.adr c), some (.adr Dd), none, none, some (.adr lf), some (.bl ch), none, none, none, none, none, none, none]
def ET3 (g c Dd lf sn st : Addr) (pl : Nat) : List (Option D) := [some (.adr g), some (.adr c), some (.adr Dd), none, none, none, none, some (.int (pl : Int)), none, some (.adr sn), some (.adr st), none, none, none]
structure PT1 (es : List Ed) (wt : Ed → Int) (h : List (Option Int)) (n i : Nat) (T : List (List Ed)) : Prop where
  len : T.length = n
  mem : ∀ v L, T[v]? = some L → (∀ e, e ∈ L ↔ e ∈ es.take i ∧ e.src = v ∧ Tight wt h e) ∧ L.length ≤ i
structure PT2 (es : List Ed) (wt : Ed → Int) (h : List (Option Int)) (n : Nat) (S : Nat → Prop) (T0 : List (List Ed)) (i : Nat) (s : List Addr × List (List Ed) × Bool) : Prop where
  pt : PT es wt h n S s.2.1
  no : s.2.2 = false → s.2.1 = T0 ∧ ∀ j L, j < i → T0[j]? = some L → ∀ e ∈ L, okE T0 e = true
  ye : s.2.2 = true → sumT s.2.1 < sumT T0
structure Tg2 (H : Hp) (Dd lf : Addr) (as : List Addr) (T : List (List Ed)) : Prop where
  t : Tg H Dd as T
  l : LstAt H lf (T.map fun L => D.int (L.length : Nat))
  nm : ∀ a ∈ as, a ≠ Dd ∧ a ≠ lf
  ne : Dd ≠ lf
theorem Tg2.ex {H H' : Hp} {Dd lf : Addr} {as : List Addr} {T : List (List Ed)} (t : Tg2 H Dd lf as T) (x : Ex H H') : Tg2 H' Dd lf as T := ⟨t.t.ex x, t.l.ex x, t.nm, t.ne⟩
theorem Tg2.ob {H : Hp} {Dd lf : Addr} {as : List Addr} {T : List (List Ed)} (t : Tg2 H Dd lf as T) : ∀ m ∈ [Dd, lf], ∃ o, H m = some o ∧ ∀ vs, o ≠ .tup vs := fun m hm => by
  rcases List.mem_cons.mp hm with e | hm
  · rw [e]; obtain ⟨vs, h, _⟩ := t.t.d; exact ⟨_, h, fun us z => by cases z⟩
  · rw [List.mem_singleton.mp hm]; obtain ⟨vs, h, _⟩ := t.l; exact ⟨_, h, fun us z => by cases z⟩
theorem Tg.setA {H H' : Hp} {Dd a : Addr} {as : List Addr} {T : List (List Ed)} {v : Nat} {L : List Ed} (t : Tg H Dd as T) (nd : as.Nodup) (nm : Dd ∉ as) (ha : as[v]? = some a) (x : ExB a H H') (tt : TEx H H') (l : LstAt H' a (L.map encEd)) : Tg H' Dd as (T.set v L) := by
  refine ⟨t.d.exB x (fun e => nm (by rw [e]; exact List.mem_of_getElem? ha)) tt, by rw [List.length_set]; exact t.len, fun i b M hb hM => ?_⟩
  by_cases e : v = i
  · subst e
    rw [ha] at hb
    have hb := Option.some.inj hb
    subst hb
    by_cases hv : v < T.length
    · rw [List.getElem?_set_self hv] at hM
      have hM := Option.some.inj hM
      subst hM
      exact l
    · rw [List.getElem?_eq_none (by rw [List.length_set]; omega)] at hM
      cases hM
  · rw [List.getElem?_set_ne e] at hM
    refine (t.at_ i b M hb hM).exB x (fun z => e ?_) tt
    subst z
    have h1 := (List.getElem?_eq_some_iff.mp ha).1
    exact (List.getElem?_inj (i := v) (j := i) h1 nd).mp (ha.trans hb.symm)
theorem okf_tight (hd : Hd K mg) : OkA P w K mg base 1 (He.ga K "tight_circle") ["graph", "climb"] (spG (R_tight K)) := by
  refine ok_tight_circle hd (len_G ?_) (rd_G ?_)
  · rintro H ds Q ⟨g, c, ha, la, wa, W, ps, es, a, b, h, l, rfl, _⟩; rfl
  rintro ds H Q ⟨g, c, ha, la, wa, W, ps, es, a, b, h, l, rfl, S, hW, G, C, k⟩
  obtain ⟨fs0, pa, ea, g1, g2, g3, g4, g5⟩ := id G
  obtain ⟨fc, c0⟩ := id C.c
  obtain ⟨n1, n2⟩ := S.gr.len hW
  have few := S.gr.few
  obtain ⟨SS, ts⟩ := tight_set hW S.gr S.rat S.sat fun v hv => S.all hv
  unfold t_tight_circle
  refine dn_seq (dn_asgLL (xs := ps) (enc := encQ) (di_lst (de_fld (de_var rfl) g1 (cls_Graph hd) (noat_Graph_pairs hd) g2 rfl) g3) (by omega) fun Dd as H1 nD al and' af ld x1 => ?_)
  dsimp only
  have asD : Dd ∉ as := fun z => (af Dd z).2.1 rfl
  have hidx : Ex H (hid as H1) := fun b o ho => by
    rw [hid_out fun z => by rw [(af b z).1] at ho; cases ho]
    exact x1 b o ho
  have T0 : Tg H1 Dd as (List.replicate ps.length []) := ⟨ld, by rw [List.length_replicate]; exact al, fun i a L h1 h2 => by
    rw [List.getElem?_replicate] at h2
    split at h2
    · have h2 := Option.some.inj h2
      subst h2
      exact (af a (List.mem_of_getElem? h1)).2.2
    · cases h2⟩
  refine dn_seq ?_
  refine dn_forG (Hb := hid as H1) (τ := List (List Ed)) as es.zipIdx (fun p => D.tup [.int (p.2 : Nat), encEd p.1]) (tgt := fun p => [.int (p.2 : Nat), encEd p.1]) (fun p => dg_tup (dgs_cons (dgs_cons dgs_nil)) rfl)
    (fun i T => PT1 es (wtOf a b) h ps.length i T) (fun _ => ET g c Dd) (fun T H' => Tg H' Dd as T) (List.replicate ps.length [])
    (DI.is (di_enum (de_fld (de_var rfl) (g1.ex hidx) (cls_Graph hd) (noat_Graph_edges hd) g4 rfl) (g5.ex hidx)) (enum_zip es)) hid_ex (fun m hm => ⟨hid_in hm, by obtain ⟨vs, e, _⟩ := (af m hm).2.2; exact ⟨_, e, fun us z => by cases z⟩⟩) (fun s H3 H4 l x => l.ex x) ⟨by simp, fun v L hv => ?_⟩ (Wk.refl _) T0 ?_ ?_
  · rw [List.getElem?_replicate] at hv
    split at hv
    · have hv := Option.some.inj hv
      subst hv
      exact ⟨fun e => ⟨fun z => (by cases z), fun z => (by simp at z)⟩, Nat.le_refl _⟩
    · cases hv
  · rintro Hh xh hM i ⟨e, j⟩ T hx p H3 x3 t3
    rw [List.getElem?_zipIdx] at hx
    cases hei : es[i]? with
    | none => rw [hei] at hx; cases hx
    | some e' =>
    rw [hei] at hx
    have hx := Option.some.inj hx
    injection hx with hx1 hx2
    subst hx1
    have hx2 : i = j := by omega
    subst hx2
    have hem : e' ∈ es := List.mem_of_getElem? hei
    obtain ⟨es1, es2⟩ := S.gr.src hem
    have hi := (List.getElem?_eq_some_iff.mp hei).1
    obtain ⟨x, hxs⟩ := S.all es1
    obtain ⟨y, hys⟩ := S.all es2
    have x03 : Ex H H3 := (hidx.trans xh).trans x3
    have tk : es.take (i + 1) = es.take i ++ [e'] := by rw [List.take_succ, hei]; rfl
    refine dn_if (dt_test (de_eqI (de_ixLN (k := e'.dst) (d := .int y) (dl_adr (de_fld (de_var rfl) (c0.ins.ex x03) (cls_Climb hd) (noat_Climb_heights hd) c0.h rfl) (C.lh.ex x03)) (de_ixTN (k := 2) (ds := [.int (e'.src : Nat), .str [e'.x], .int (e'.dst : Nat), .int e'.g, .int e'.l]) (de_var rfl) de_int rfl) (by rw [List.getElem?_map, lAtO hys]; rfl)) (de_add (de_ixLN (k := e'.src) (d := .int x) (dl_adr (de_fld (de_var rfl) (c0.ins.ex x03) (cls_Climb hd) (noat_Climb_heights hd) c0.h rfl) (C.lh.ex x03)) (de_ixTN (k := 0) (ds := [.int (e'.src : Nat), .str [e'.x], .int (e'.dst : Nat), .int e'.g, .int e'.l]) (de_var rfl) de_int rfl) (by rw [List.getElem?_map, lAtO hxs]; rfl)) (de_ixLN (k := i) (d := .int (wtOf a b e')) (dl_adr (de_fld (de_var rfl) (c0.ins.ex x03) (cls_Climb hd) (noat_Climb_weights hd) c0.w rfl) (C.lw.ex x03)) (de_var rfl) (by rw [List.getElem?_map, List.getElem?_map, hei]; rfl))))) (fun hb => ?_) (fun hb => ?_)
    · have hb : y = x + wtOf a b e' := of_decide_eq_true hb
      have ti : Tight (wtOf a b) h e' := ⟨x, hxs, by rw [hys, hb]⟩
      obtain ⟨L, hL⟩ : ∃ L, T[e'.src]? = some L := ⟨_, List.getElem?_eq_getElem (by rw [p.len]; exact es1)⟩
      obtain ⟨ad, ha', lL⟩ := t3.get hL
      obtain ⟨pm, plen⟩ := p.mem _ _ hL
      refine dn_app (de_ixLN (k := e'.src) (d := .adr ad) (dl_adr (de_var rfl) t3.d) (de_ixTN (k := 0) (ds := [.int (e'.src : Nat), .str [e'.x], .int (e'.dst : Nat), .int e'.g, .int e'.l]) (de_var rfl) de_int rfl) (by rw [List.getElem?_map, ha']; rfl)) lL (de_var rfl) (by rw [List.length_map]; omega) fun H4 x4 l4 => ?_
      have t4 : TEx H3 H4 := ExB.tex x4 lL.nt
      have adm : ad ∈ as := List.mem_of_getElem? ha'
      refine dn_turn (P := fun T => PT1 es (wtOf a b) h ps.length (i + 1) T) (env := fun _ => ET g c Dd) (G := fun T H' => Tg H' Dd as T) (T.set e'.src (L ++ [e'])) ⟨by rw [List.length_set]; exact p.len, fun v M hv => ?_⟩ (wk_same (wk_same (wk_same (wk_none (wk_none (wk_same (wk_same (wk_same (wk_same (wk_same (wk_same (wk_same (wk_same (wk_same wk_nil)))))))))))))) (x3.mut (hM ad adm) x4) (t3.setA and' asD ha' x4 t4 (by rw [List.map_append]; exact l4)) (fun s H3 H4 l x => l.ex x)
      by_cases ev : e'.src = v
      · subst ev
        rw [List.getElem?_set_self (by rw [p.len]; exact es1)] at hv
        have hv := Option.some.inj hv
        subst hv
        refine ⟨fun d => ?_, by rw [List.length_append]; show _ + 1 ≤ _; omega⟩
        rw [List.mem_append, pm d, tk, List.mem_append, List.mem_singleton]
        constructor
        · rintro (⟨q1, q2, q3⟩ | q)
          · exact ⟨.inl q1, q2, q3⟩
          · rw [q]; exact ⟨.inr rfl, rfl, ti⟩
        · rintro ⟨q1 | q1, q2, q3⟩
          · exact .inl ⟨q1, q2, q3⟩
          · exact .inr q1
      · rw [List.getElem?_set_ne ev] at hv
        obtain ⟨r1, r2⟩ := p.mem v M hv
        refine ⟨fun d => ?_, by omega⟩
        rw [r1 d, tk, List.mem_append, List.mem_singleton]
        exact ⟨fun ⟨q1, q2, q3⟩ => ⟨.inl q1, q2, q3⟩, fun ⟨q1, q2, q3⟩ => ⟨q1.resolve_right fun z => ev (by rw [← z]; exact q2), q2, q3⟩⟩
    · have hb : ¬ y = x + wtOf a b e' := of_decide_eq_false hb
      have ti : ¬ Tight (wtOf a b) h e' := fun ⟨z, z1, z2⟩ => by
        rw [hxs] at z1
        have z1 := Option.some.inj z1
        subst z1
        rw [hys] at z2
        exact hb (Option.some.inj z2)
      refine dn_next (dn_turn (P := fun T => PT1 es (wtOf a b) h ps.length (i + 1) T) (env := fun _ => ET g c Dd) (G := fun T H' => Tg H' Dd as T) T ⟨p.len, fun v M hv => ?_⟩ (wk_same (wk_same (wk_same (wk_none (wk_none (wk_same (wk_same (wk_same (wk_same (wk_same (wk_same (wk_same (wk_same (wk_same wk_nil)))))))))))))) x3 t3 (fun s H3 H4 l x => l.ex x))
      obtain ⟨r1, r2⟩ := p.mem v M hv
      refine ⟨fun d => ?_, by omega⟩
      rw [r1 d, tk, List.mem_append, List.mem_singleton]
      exact ⟨fun ⟨q1, q2, q3⟩ => ⟨.inl q1, q2, q3⟩, fun ⟨q1, q2, q3⟩ => ⟨q1.resolve_right fun z => ti (by rw [← z]; exact q3), q2, q3⟩⟩
  rintro T p H2 x2 t2
  rw [List.length_zipIdx] at p
  have x02 : Ex H H2 := hidx.trans x2
  have pt0 : PT es (wtOf a b) h ps.length SS T := ⟨p.len, fun v L hv => by
    obtain ⟨r1, r2⟩ := p.mem v L hv
    refine ⟨fun e he => ?_, by omega⟩
    obtain ⟨q1, q2, q3⟩ := (r1 e).mp he
    rw [List.take_length] at q1
    exact ⟨q1, q2, q3⟩, fun v L hv e he q2 q3 _ _ => by
    obtain ⟨r1, r2⟩ := p.mem v L hv
    exact (r1 e).mpr ⟨by rw [List.take_length]; exact he, q2, q3⟩⟩
  dsimp only
  have zl : (as.zip T).map (fun q => D.adr q.1) = as.map D.adr := by
    have : (as.zip T).map (fun q => D.adr q.1) = ((as.zip T).map (·.1)).map D.adr := by rw [List.map_map]; rfl
    rw [this, List.map_fst_zip (by rw [t2.len]; exact Nat.le_refl _)]
  have zr : (as.zip T).map (fun q => D.int (q.2.length : Nat)) = T.map fun L => D.int (L.length : Nat) := by
    have : (as.zip T).map (fun q => D.int (q.2.length : Nat)) = ((as.zip T).map (·.2)).map fun L => D.int (L.length : Nat) := by rw [List.map_map]; rfl
    rw [this, List.map_snd_zip (by rw [t2.len]; exact Nat.le_refl _)]
  have tl := p.len
  refine dn_seq (dn_asgL (DLn.is (lc_M (as.zip T) (fun q => D.adr q.1) (f := fun q => .int (q.2.length : Nat)) (js := [10]) (DI.is (di_lst (de_var rfl) t2.d) zl.symm) (fun x => dg_name) (by simp) (by rw [List.length_zip]; omega) fun q hq => ?_) zr) fun lf H3 nlf x3 llf => ?_)
  · obtain ⟨i, hi⟩ := List.mem_iff_getElem?.mp hq
    obtain ⟨q1, q2⟩ := List.getElem?_zip_eq_some.mp hi
    exact DE.is (de_lenL (dl_adr (de_var rfl) (t2.at_ i q.1 q.2 q1 q2))) (by rw [List.length_map])
  dsimp only
  have x03 : Ex H H3 := x02.trans x3
  have nlf0 : H lf = none := x02.fresh nlf
  have Dlf : Dd ≠ lf := fun e => by obtain ⟨vs, q, _⟩ := t2.d; rw [e, nlf] at q; cases q
  have g2' : Tg2 H3 Dd lf as T := ⟨t2.ex x3, llf, fun a ha' => ⟨fun e => asD (by rw [← e]; exact ha'), fun e => by
    obtain ⟨i, hi⟩ := List.mem_iff_getElem?.mp ha'
    have hiT : i < T.length := by rw [← t2.len]; exact (List.getElem?_eq_some_iff.mp hi).1
    obtain ⟨vs, q, _⟩ := t2.at_ i a _ hi (List.getElem?_eq_getElem hiT)
    rw [e, nlf] at q; cases q⟩, Dlf⟩
  have nM : ∀ m ∈ [Dd, lf], H m = none := fun m hm => by
    rcases List.mem_cons.mp hm with e | hm
    · rw [e]; exact nD
    · rw [List.mem_singleton.mp hm]; exact nlf0
  have xH : Ex H (hid [Dd, lf] H3) := fun b o ho => by
    rw [hid_out fun z => by rw [nM b z] at ho; cases ho]
    exact x03 b o ho
  refine dn_seq (dn_asg de_bl ?_)
  dsimp only
  refine dn_seq ?_
  refine dn_whileG (Hb := hid [Dd, lf] H3) (τ := List Addr × List (List Ed) × Bool) (fun s => PT es (wtOf a b) h ps.length SS s.2.1 ∧ (s.2.2 = false → ∀ (j : Nat) (L : List Ed), s.2.1[j]? = some L → ∀ e ∈ L, okE s.2.1 e = true)) (fun s => 2 * sumT s.2.1 + if s.2.2 = true then 1 else 0) (fun s => ET2 g c Dd lf s.2.2) (fun s H' => Tg2 H' Dd lf s.1 s.2.1) (as, T, true) hid_ex ⟨pt0, fun z => by cases z⟩ (Wk.refl _) g2' (fun s H3 H4 l x => l.ex x) ?_
  rintro ⟨as, T, ch⟩ ⟨pt, cl⟩ H4 x4 t4
  have pt : PT es (wtOf a b) h ps.length SS T := pt
  have cl : ch = false → ∀ (j : Nat) (L : List Ed), T[j]? = some L → ∀ e ∈ L, okE T e = true := cl
  have t4 : Tg2 H4 Dd lf as T := t4
  have tlen := pt.len
  refine ⟨ch, dt_B (de_var rfl), fun hb => ?_, fun hb => ?_⟩
  · subst hb
    refine dn_seq (dn_asg de_bl ?_)
    dsimp only
    refine dn_forN (Hb := hid [Dd, lf] H3) (τ := List Addr × List (List Ed) × Bool) [Dd, lf] (List.range ps.length) (fun k => D.int (k : Nat)) (fun x => dg_name) (PT2 es (wtOf a b) h ps.length SS T) (fun s => ET2 g c Dd lf s.2.2) (fun s H' => Tg2 H' Dd lf s.1 s.2.1) (as, T, false)
      (din_rng (DE.is (de_lenL (dl_adr (de_var rfl) t4.t.d)) (by rw [List.length_map, t4.t.len, tlen])) (by omega)) x4 (fun m hm => ⟨hid_in hm, t4.ob m hm⟩) (fun s H3 H4 l x => l.ex x) ⟨pt, fun _ => ⟨rfl, fun j L hj => by omega⟩, fun z => by cases z⟩ (Wk.refl _) t4 ?_ ?_
    · rintro Hh xh hM i y ⟨bs, U, cg⟩ hy q H5 x5 t5
      have hi : i < ps.length := by
        have := (List.getElem?_eq_some_iff.mp hy).1
        rwa [List.length_range] at this
      have ey : y = i := by
        rw [List.getElem?_range hi] at hy
        exact (Option.some.inj hy).symm
      subst ey
      have qt : PT es (wtOf a b) h ps.length SS U := q.pt
      have t5 : Tg2 H5 Dd lf bs U := t5
      have ulen := qt.len
      obtain ⟨L, hL⟩ : ∃ L, U[y]? = some L := ⟨_, List.getElem?_eq_getElem (by omega)⟩
      obtain ⟨ad, ha', lL⟩ := t5.t.get hL
      obtain ⟨sd1, sd2⟩ := qt.sd _ _ hL
      refine dn_seq (dn_asgL (DLn.is (lc_D L encEd (p := okE U) (f := encEd) (js := [4]) (di_lst (de_ixLN (k := y) (d := .adr ad) (dl_adr (de_var rfl) t5.t.d) (de_var rfl) (by rw [List.getElem?_map, ha']; rfl)) lL) (fun x => dg_name) (by simp) (by omega) (fun e he => ?_) fun e he _ => de_var rfl) rfl) fun kp H6 nkp x6 lkp => ?_)
      · have ed := (S.gr.src (sd1 e he).1).2
        have hg : U[e.dst]? = some (U[e.dst]'(by omega)) := List.getElem?_eq_getElem _
        refine dt_test (DE.is (de_cmpI (g := fun i j => decide (j < i)) (de_ixLN (k := e.dst) (d := .int ((U[e.dst]'(by omega)).length : Nat)) (dl_adr (de_var rfl) t5.l) (de_ixTN (k := 2) (ds := [.int (e.src : Nat), .str [e.x], .int (e.dst : Nat), .int e.g, .int e.l]) (de_var rfl) de_int rfl) (by rw [List.getElem?_map, hg]; rfl)) de_int) ?_)
        congr 1
        unfold okE
        rw [hg]
        exact decide_eq_decide.mpr (by show (0 : Int) < _ ↔ _; simp)
      dsimp only
      have t6 := t5.ex x6
      have hlL : (U.map fun L => D.int (L.length : Nat))[y]? = some (.int (L.length : Nat)) := by rw [List.getElem?_map, hL]; rfl
      refine dn_if (dt_test (DE.is (de_cmpI (g := fun i j => decide (i < j)) (de_lenL (dl_adr (de_var rfl) lkp)) (de_ixLN (k := y) (dl_adr (de_var rfl) t6.l) (de_var rfl) hlL)) (by rw [nat_lt_dec, List.length_map]))) (fun hb => ?_) (fun hb => ?_)
      · have hb : (L.filter (okE U)).length < L.length := of_decide_eq_true hb
        refine dn_seq (dn_setI (k := y) (de_var rfl) (de_var rfl) (de_var rfl) t6.t.d (by rw [List.length_map, t6.t.len]; omega) fun H7 x7 d7 => ?_)
        have tt7 : TEx H6 H7 := ExB.tex x7 t6.t.d.nt
        have kD : kp ≠ Dd := fun e => by obtain ⟨vs, z, _⟩ := t5.t.d; rw [← e, nkp] at z; cases z
        have kl : kp ≠ lf := fun e => by obtain ⟨vs, z, _⟩ := t5.l; rw [← e, nkp] at z; cases z
        have l7 := t6.l.exB x7 (Ne.symm t6.ne) tt7
        have lk7 := lkp.exB x7 kD tt7
        dsimp only
        refine dn_seq (dn_setI (k := y) (DE.is (de_lenL (dl_adr (de_var rfl) lk7)) (by rw [List.length_map])) (de_var rfl) (de_var rfl) l7 (by rw [List.length_map]; omega) fun H8 x8 l8 => ?_)
        have tt8 : TEx H7 H8 := ExB.tex x8 l7.nt
        have st : sumT (U.set y (L.filter (okE U))) < sumT U := sumT_set hL hb
        dsimp only
        refine dn_asg (d := .bl true) de_bl ?_
        dsimp only
        refine dn_turn (P := PT2 es (wtOf a b) h ps.length SS T (y + 1)) (env := fun s => ET2 g c Dd lf s.2.2) (G := fun s H' => Tg2 H' Dd lf s.1 s.2.1) (bs.set y kp, U.set y (L.filter (okE U)), true) ⟨qt.filter ts hL, (fun z => by cases z), fun _ => ?_⟩ (wk_same (wk_same (wk_same (wk_none (wk_none (wk_same (wk_same (wk_none (wk_none (wk_same (wk_same (wk_same (wk_same (wk_same wk_nil)))))))))))))) (ExS.to (x5.trans x6) hM ((ExS.ofB x7 (by simp)).trans (ExS.ofB x8 (by simp)))) (show Tg2 H8 Dd lf (bs.set y kp) (U.set y (L.filter (okE U))) from ⟨⟨?_, ?_, fun j z M hz hM' => ?_⟩, ?_, fun z hz => ?_, t6.ne⟩) (fun s H3 H4 l x => l.ex x)
        · show sumT (U.set y _) < sumT T
          cases hc : cg with
          | true =>
            have : sumT U < sumT T := q.ye hc
            omega
          | false =>
            have : U = T := (q.no hc).1
            rw [← this]
            exact st
        · rw [List.map_set]
          exact d7.exB x8 t6.ne tt8
        · rw [List.length_set, List.length_set]; exact t6.t.len
        · by_cases e : y = j
          · subst e
            rw [List.getElem?_set_self (by rw [t6.t.len]; omega)] at hz
            rw [List.getElem?_set_self (by omega)] at hM'
            have hz := Option.some.inj hz
            have hM' := Option.some.inj hM'
            subst hz hM'
            exact lk7.exB x8 kl tt8
          · rw [List.getElem?_set_ne e] at hz hM'
            obtain ⟨m1, m2⟩ := t6.nm z (List.mem_of_getElem? hz)
            exact ((t6.t.at_ j z M hz hM').exB x7 m1 tt7).exB x8 m2 tt8
        · rw [List.map_set]
          exact l8
        · rcases List.mem_or_eq_of_mem_set hz with h1 | h1
          · exact t6.nm z h1
          · rw [h1]; exact ⟨kD, kl⟩
      · have hb : ¬ (L.filter (okE U)).length < L.length := of_decide_eq_false hb
        have hall : ∀ e ∈ L, okE U e = true := by
          have le := List.length_filter_le (okE U) L
          have : L.filter (okE U) = L := List.filter_sublist.eq_of_length (by omega)
          exact fun e he => List.filter_eq_self.mp this e he
        refine dn_next (dn_turn (P := PT2 es (wtOf a b) h ps.length SS T (y + 1)) (env := fun s => ET2 g c Dd lf s.2.2) (G := fun s H' => Tg2 H' Dd lf s.1 s.2.1) (bs, U, cg) ⟨qt, fun z => ?_, q.ye⟩ (wk_same (wk_same (wk_same (wk_none (wk_none (wk_same (wk_same (wk_none (wk_none (wk_same (wk_same (wk_same (wk_same (wk_same wk_nil)))))))))))))) (x5.trans x6) t6 (fun s H3 H4 l x => l.ex x))
        obtain ⟨z1, z2⟩ := q.no z
        have z1 : U = T := z1
        refine ⟨z1, fun j M hj hM' => ?_⟩
        by_cases e : j = y
        · subst e
          rw [z1] at hL hall
          rw [hL] at hM'
          have hM' := Option.some.inj hM'
          subst hM'
          exact hall
        · exact z2 j M (by omega) hM'
    · rintro ⟨bs, U, cg⟩ q H5 x5 t5
      rw [List.length_range] at q
      dsimp only
      refine dn_turnW (P := fun s : List Addr × List (List Ed) × Bool => PT es (wtOf a b) h ps.length SS s.2.1 ∧ (s.2.2 = false → ∀ (j : Nat) (L : List Ed), s.2.1[j]? = some L → ∀ e ∈ L, okE s.2.1 e = true)) (m := fun s : List Addr × List (List Ed) × Bool => 2 * sumT s.2.1 + if s.2.2 = true then 1 else 0) (env := fun s => ET2 g c Dd lf s.2.2) (G := fun s H' => Tg2 H' Dd lf s.1 s.2.1) (bs, U, cg) ?_ ⟨q.pt, fun z => ?_⟩ (Wk.refl _) x5 t5 (fun s H3 H4 l x => l.ex x)
      · show 2 * sumT U + (if cg = true then 1 else 0) < 2 * sumT T + 1
        cases hc : cg with
        | true =>
          have : sumT U < sumT T := q.ye hc
          simp
          omega
        | false =>
          have : U = T := (q.no hc).1
          rw [this]
          simp
      · obtain ⟨z1, z2⟩ := q.no z
        have z1 : U = T := z1
        rw [z1]
        intro j L hj
        have h1 : j < T.length := (List.getElem?_eq_some_iff.mp hj).1
        exact z2 j L (by omega) hj
  · have cl := cl hb
    have x04 : Ex H H4 := xH.trans x4
    dsimp only
    have dq : enumD (T.map fun L => D.int (L.length : Nat)) = T.zipIdx.map fun p => D.tup [.int (p.2 : Nat), .int (p.1.length : Nat)] := by
      unfold enumD
      rw [List.zipIdx_map, List.map_map]
      rfl
    obtain ⟨Z, hZ⟩ : ∃ Z, Z = T.zipIdx.filter fun p => decide (0 < p.1.length) := ⟨_, rfl⟩
    have Zne : Z ≠ [] := by
      obtain ⟨v, hv⟩ := ts.ne
      obtain ⟨e, e1, e2, e3, e4⟩ := ts.go v hv
      have hg : T[v]? = some (T[v]'(by rw [tlen]; exact ts.lt v hv)) := List.getElem?_eq_getElem _
      have hm := pt.kp v _ hg e e1 e2 e3 hv e4
      intro z
      have : (T[v]'(by rw [tlen]; exact ts.lt v hv), v) ∈ Z := by
        rw [hZ]
        refine List.mem_filter.mpr ⟨?_, decide_eq_true (List.length_pos_of_mem hm)⟩
        rw [List.mem_iff_getElem?]
        exact ⟨v, by rw [List.getElem?_zipIdx, hg]; simp⟩
      rw [z] at this
      cases this
    obtain ⟨⟨L0, v0⟩, Zr, eZ⟩ := List.exists_cons_of_ne_nil Zne
    have hm0 : (L0, v0) ∈ T.zipIdx.filter fun p => decide (0 < p.1.length) := by rw [← hZ, eZ]; simp
    obtain ⟨hm1, hm2⟩ := List.mem_filter.mp hm0
    have hL0 : 0 < L0.length := of_decide_eq_true hm2
    have hv0 : T[v0]? = some L0 := by
      obtain ⟨i, hi⟩ := List.mem_iff_getElem?.mp hm1
      rw [List.getElem?_zipIdx] at hi
      cases q : T[i]? with
      | none => rw [q] at hi; cases hi
      | some M =>
        rw [q] at hi
        have hi := Option.some.inj hi
        injection hi with hi1 hi2
        have hi2 : i = v0 := by omega
        rw [← hi2, q, hi1]
    refine dn_seq (dn_asg (d := .int (v0 : Nat)) (de_ixLN (k := 0) (lc_D T.zipIdx (fun p => D.tup [.int (p.2 : Nat), .int (p.1.length : Nat)]) (p := fun p => decide (0 < p.1.length)) (f := fun p => .int (p.2 : Nat)) (js := [12, 13]) (tgt := fun p => [.int (p.2 : Nat), .int (p.1.length : Nat)]) (DI.is (di_enum (de_var rfl) t4.l) dq) (fun p => dg_tup (dgs_cons (dgs_cons dgs_nil)) rfl) (by simp) (by rw [List.length_zipIdx]; omega)
      (fun p hp => dt_test (DE.is (de_cmpI (g := fun i j => decide (j < i)) (de_var rfl) de_int) (by congr 1; exact decide_eq_decide.mpr (by show (0 : Int) < _ ↔ _; simp)))) fun p hp _ => de_var rfl).dl de_int (by rw [← hZ, eZ]; rfl)) ?_)
    dsimp only
    refine dn_seq (dn_asgL (dl_lst da_nil (by simp)) fun sn H5 nsn x5 lsn => ?_)
    dsimp only
    refine dn_seq (dn_asgL (dl_lst da_nil (by simp)) fun st H6 nst x6 lst => ?_)
    dsimp only
    have nss : sn ≠ st := fun e => by obtain ⟨vs, z, _⟩ := lsn; rw [e, nst] at z; cases z
    refine dn_seq ?_
    have v0n : v0 < ps.length := by rw [← tlen]; exact (List.getElem?_eq_some_iff.mp hv0).1
    refine dn_whileG (Hb := H4) (τ := List Ed × Nat) (fun (s : List Ed × Nat) => Chain es v0 s.1 s.2 ∧ (s.1.map (fun e : Ed => e.src)).Nodup ∧ (∀ e ∈ s.1, e.src < ps.length ∧ Tight (wtOf a b) h e) ∧ ∃ L, T[s.2]? = some L ∧ 0 < L.length) (fun (s : List Ed × Nat) => ps.length - s.1.length) (fun (s : List Ed × Nat) => ET3 g c Dd lf sn st s.2) (fun (s : List Ed × Nat) H' => LstAt H' sn ((s.1.map (fun e : Ed => e.src)).map fun z : Nat => D.int (z : Int)) ∧ LstAt H' st (s.1.map encEd)) ([], v0) (x5.trans x6) ⟨rfl, by simp, (fun e he => by cases he), L0, hv0, hL0⟩ (wk_same (wk_same (wk_same (wk_none (wk_none (wk_none (wk_none (wk_same (wk_none (wk_same (wk_same (wk_none (wk_none (wk_none wk_nil)))))))))))))) ⟨lsn.ex x6, lst⟩ (fun s H3 H4 l x => ⟨l.1.ex x, l.2.ex x⟩) ?_
    rintro ⟨A, u⟩ ⟨ch1, nd1, ok1, L, hL, L1⟩ H7 x7 ⟨ls, lt⟩
    have ch1 : Chain es v0 A u := ch1
    have nd1 : (A.map (fun e : Ed => e.src)).Nodup := nd1
    have hL : T[u]? = some L := hL
    have ls : LstAt H7 sn ((A.map (fun e : Ed => e.src)).map fun z : Nat => D.int (z : Int)) := ls
    have lt : LstAt H7 st (A.map encEd) := lt
    have un : u < ps.length := by rw [← tlen]; exact (List.getElem?_eq_some_iff.mp hL).1
    have alen : A.length ≤ ps.length := by
      have q := nodup_le (m := List.range ps.length) nd1 fun d hd' => by
        obtain ⟨e, he, e2⟩ := List.mem_map.mp hd'
        rw [← e2]
        exact List.mem_range.mpr (ok1 e he).1
      rwa [List.length_map, List.length_range] at q
    have lsI : LstAt H7 sn (((A.map (fun e : Ed => e.src)).map fun z : Nat => (z : Int)).map D.int) := by rw [List.map_map]; exact ls
    refine ⟨!decide ((u : Int) ∈ (A.map (fun e : Ed => e.src)).map fun z : Nat => (z : Int)), dt_test (de_ninI (de_var rfl) (dl_adr (de_var rfl) lsI)), fun hb => ?_, fun hb => ?_⟩
    · rw [Bool.not_eq_true', decide_eq_false_iff_not] at hb
      have hu : u ∉ A.map (fun e : Ed => e.src) := fun z => hb (List.mem_map.mpr ⟨u, z, rfl⟩)
      obtain ⟨e, L', eL⟩ : ∃ e L', L = e :: L' := List.exists_cons_of_ne_nil (fun z => by rw [z] at L1; simp at L1)
      have heL : e ∈ L := by rw [eL]; simp
      obtain ⟨e1, e2, e3⟩ := (pt.sd u L hL).1 e heL
      have ok := cl u L hL e heL
      have ed := (S.gr.src e1).2
      have hg : T[e.dst]? = some (T[e.dst]'(by omega)) := List.getElem?_eq_getElem _
      have hpos : 0 < (T[e.dst]'(by omega)).length := by
        have := of_decide_eq_true ok
        rw [hg] at this
        exact this
      have alt : A.length < ps.length := by
        have q := nodup_le (l := u :: A.map (fun e : Ed => e.src)) (m := List.range ps.length) (List.nodup_cons.mpr ⟨hu, nd1⟩) fun d hd' => by
          rcases List.mem_cons.mp hd' with z | hd'
          · rw [z]; exact List.mem_range.mpr un
          · obtain ⟨e, he, e2⟩ := List.mem_map.mp hd'
            rw [← e2]
            exact List.mem_range.mpr (ok1 e he).1
        rw [List.length_cons, List.length_map, List.length_range] at q
        omega
      obtain ⟨ad, ha', lL⟩ := t4.t.get hL
      have fst : ∀ {ρ : List (Option D)} {H : Hp} {iv : Nat}, Ex H4 H → ρ[2]? = some (some (.adr Dd)) → ρ[7]? = some (some (.int (u : Nat))) → DE (tOp (rIxL K) (tOp (rIxL K) (tVar 2) (tVar 7)) (tC (.int 0))) H ρ (encEd e) := fun {ρ H iv} x h2 h7 =>
        de_ixLN (k := 0) (dl_adr (de_ixLN (k := u) (d := .adr ad) (dl_adr (de_var h2) (t4.t.d.ex x)) (de_var h7) (by rw [List.getElem?_map, ha']; rfl)) (lL.ex x)) de_int (by rw [eL]; rfl)
      refine dn_seq (dn_app (de_var rfl) ls (de_var rfl) (by rw [List.length_map, List.length_map]; omega) fun H8 x8 l8 => ?_)
      have tt8 : TEx H7 H8 := ExB.tex x8 ls.nt
      have lt8 := lt.exB x8 (Ne.symm nss) tt8
      have x48 : Ex H4 H8 := x7.mut nsn x8
      dsimp only
      refine dn_seq (dn_app (de_var rfl) lt8 (fst (iv := 0) x48 rfl rfl) (by rw [List.length_map]; omega) fun H9 x9 l9 => ?_)
      have tt9 : TEx H8 H9 := ExB.tex x9 lt8.nt
      have l89 := l8.exB x9 nss tt9
      have x49 : Ex H4 H9 := x48.mut (x5.fresh nst) x9
      dsimp only
      refine dn_asg (d := .int (e.dst : Nat)) (de_ixTN (k := 2) (ds := [.int (e.src : Nat), .str [e.x], .int (e.dst : Nat), .int e.g, .int e.l]) (fst (iv := 0) x49 rfl rfl) de_int rfl) ?_
      refine dn_turnW (P := fun s : List Ed × Nat => Chain es v0 s.1 s.2 ∧ (s.1.map (fun e : Ed => e.src)).Nodup ∧ (∀ e ∈ s.1, e.src < ps.length ∧ Tight (wtOf a b) h e) ∧ ∃ L, T[s.2]? = some L ∧ 0 < L.length) (m := fun s : List Ed × Nat => ps.length - s.1.length) (env := fun (s : List Ed × Nat) => ET3 g c Dd lf sn st s.2) (G := fun (s : List Ed × Nat) H' => LstAt H' sn ((s.1.map (fun e : Ed => e.src)).map fun z : Nat => D.int (z : Int)) ∧ LstAt H' st (s.1.map encEd)) (A ++ [e], e.dst) ?_ ⟨?_, ?_, ?_, _, hg, hpos⟩ (wk_same (wk_same (wk_same (wk_same (wk_same (wk_same (wk_same (wk_same (wk_same (wk_same (wk_same (wk_same (wk_same (wk_same wk_nil)))))))))))))) x49 ⟨?_, ?_⟩ (fun s H3 H4 l x => ⟨l.1.ex x, l.2.ex x⟩)
      · show ps.length - (A ++ [e]).length < ps.length - A.length
        rw [List.length_append]
        show ps.length - (A.length + 1) < _
        omega
      · exact ch1.append ⟨e1, e2, rfl⟩
      · show ((A ++ [e]).map (fun e : Ed => e.src)).Nodup
        rw [List.map_append, List.nodup_append]
        refine ⟨nd1, by simp, fun z hz y hy q => hu ?_⟩
        rw [List.mem_singleton.mp hy] at q
        have q : z = e.src := q
        rw [← e2, ← q]
        exact hz
      · intro d hd'
        rcases List.mem_append.mp hd' with z | z
        · exact ok1 d z
        · rw [List.mem_singleton.mp z]
          exact ⟨(S.gr.src e1).1, e3⟩
      · show LstAt H9 sn (((A ++ [e]).map (fun e : Ed => e.src)).map fun z : Nat => D.int (z : Int))
        rw [List.map_append, List.map_append, show [e].map (fun e : Ed => e.src) = [u] by rw [← e2]; rfl]
        exact l89
      · show LstAt H9 st ((A ++ [e]).map encEd)
        rw [List.map_append]
        exact l9
    · rw [Bool.not_eq_false', decide_eq_true_eq] at hb
      have hu : u ∈ A.map (fun e : Ed => e.src) := by
        obtain ⟨z, z1, z2⟩ := List.mem_map.mp hb
        have : z = u := by omega
        rw [← this]; exact z1
      obtain ⟨k0, hk⟩ : ∃ k0, k0 = (A.map (fun e : Ed => e.src)).idxOf u := ⟨_, rfl⟩
      have k1 : (A.map (fun e : Ed => e.src))[k0]? = some u := by
        rw [hk, List.getElem?_eq_some_iff]
        exact ⟨List.idxOf_lt_length_of_mem hu, List.getElem_idxOf _⟩
      have k2 : ∀ m z, m < k0 → (A.map (fun e : Ed => e.src))[m]? = some z → z ≠ u := fun m z hm hz e => by
        subst e
        have h1 := (List.getElem?_eq_some_iff.mp k1).1
        have := (List.getElem?_inj (i := m) (j := k0) (Nat.lt_trans hm h1) nd1).mp (hz.trans k1.symm)
        omega
      rw [List.getElem?_map] at k1
      cases hke : A[k0]? with
      | none => rw [hke] at k1; cases k1
      | some e =>
      rw [hke] at k1
      have k1' : e.src = u := Option.some.inj k1
      have k1'' : (A.map (fun e : Ed => e.src))[k0]? = some u := by rw [List.getElem?_map, hke]; exact k1
      have cd := chain_drop ch1 hke
      rw [k1'] at cd
      have kl := (List.getElem?_eq_some_iff.mp hke).1
      dsimp only
      refine dn_retL (DLn.is (dl_slL (dl_adr (de_var rfl) lt) (do_some (de_index (de_var rfl) ls (de_var rfl) k1'' k2)) do_none) (show _ = (A.drop k0).map encEd by rw [cut_from, List.map_drop])) ?_
      intro q H8 nq x8 l8
      refine k (A.drop k0) q H8 u (x04.fresh (x7.fresh nq)) ((x04.trans x7).trans x8) l8 un cd (fun z => ?_) (by rw [List.length_drop]; omega) ?_
      · have := congrArg List.length z
        rw [List.length_drop] at this
        simp at this
        omega
      · obtain ⟨x, hx⟩ := S.all un
        have := tight_sum cd (fun e he => (ok1 e (List.mem_of_mem_drop he)).2) hx
        rw [hx] at this
        have := Option.some.inj this
        omega
end
end GC

-- part RD22
set_option Elab.async false
set_option linter.all false
set_option maxRecDepth 100000
set_option maxHeartbeats 4000000
namespace GC
open PySem PySem.Spec PyProof.Rows L2
section
variable {H H' : Hp} {ρ ρ' : List (Option D)} {K : PySem.W.Frag} {te ta tb td ty tl : TE} {E : Ends} {a f : Addr} {ds : List D}
theorem dn_asgC {R : Hp → List D → VK → Prop} {X0 : XK} {t : TA} {g : TG} (ht : DA t H ρ ds) (k : ∀ H1, Ex H H1 → ∀ σ, EnvD H1 σ ρ → R H1 ds (fun v H' => g v σ H' E.nx)) : DN (tAsg (tCall (spG R) [] X0 t) g E) H ρ := fun σ H1 x n =>
  ht σ H1 x n _ fun vs H2 y rs => by
    rw [List.append_nil]
    exact ⟨ds, rs, k H2 (x.trans y) σ (n.ex y)⟩
theorem te_call {R : Hp → List D → VK → Prop} {X0 : XK} {t : TA} {σ : L2.St} {Q : VK} (ht : DA t H ρ ds) (n : EnvD H σ ρ) (k : ∀ H1, Ex H H1 → R H1 ds Q) : (tCall (spG R) [] X0 t) σ H Q :=
  ht σ H (Ex.refl _) n _ fun vs H2 y rs => by
    rw [List.append_nil]
    exact ⟨ds, rs, k H2 y⟩
theorem rix_at {v w : V} {i : Nat} {d : D} {Q : VK} (r : Rp H (.tup ds) v) (h : ds[i]? = some d) (e : w = .int (i : Int)) (q : ∀ z, Rp H d z → Q z H) : rIxT K v w H Q := by
  obtain ⟨a, vs, e1, e2, e3⟩ := r
  obtain ⟨z, h1, h2⟩ := e3.atI (atI_get h)
  exact ⟨a, vs, (i : Int), z, e1, e, SqT.of e2, h1, q z h2⟩
end
/-! one excess only: plain -/
section
variable {W : WL} {ps : List Pr} {es : List Ed} {a b : Int} {h : List (Option Int)} {l : List (Option Nat)}
theorem SetOk.path (S : SetOk W ps es a b h l) {v : Nat} (hv : v < ps.length) : ∃ p, Chain es 0 p v ∧ hAt h v = some (wsum (wtOf a b) p) := by
  obtain ⟨τ, dn, top, l0, h0⟩ := S.down
  have go : ∀ m v, v < ps.length → τ v ≤ m → ∃ p, Chain es 0 p v ∧ hAt h v = some (wsum (wtOf a b) p) := fun m => by
    induction m with
    | zero =>
      intro v hv hm
      by_cases e : v = 0
      · subst e; exact ⟨[], rfl, h0⟩
      · obtain ⟨x, hx⟩ := S.all hv
        obtain ⟨j, hj⟩ := Option.isSome_iff_exists.mp (top v e (by rw [hx]; rfl))
        obtain ⟨d, dd⟩ := dn v j hj
        have := dd.lt
        omega
    | succ m ih =>
      intro v hv hm
      by_cases e : v = 0
      · subst e; exact ⟨[], rfl, h0⟩
      · obtain ⟨x, hx⟩ := S.all hv
        obtain ⟨j, hj⟩ := Option.isSome_iff_exists.mp (top v e (by rw [hx]; rfl))
        obtain ⟨d, dd⟩ := dn v j hj
        have dl := dd.lt
        obtain ⟨p, p1, p2⟩ := ih d.src (S.gr.src dd.mem).1 (by omega)
        have q := dd.ht x hx
        rw [p2] at q
        have q := Option.some.inj q
        refine ⟨p ++ [d], p1.append (by rw [← dd.dst]; exact Chain.one dd.mem), ?_⟩
        rw [hx, wsum_append]
        have : wsum (wtOf a b) [d] = wtOf a b d := by show wtOf a b d + 0 = _; omega
        rw [this]
        congr 1
        omega
  exact go _ v hv (Nat.le_refl _)
theorem exc_le (hW : Wd W) (S : SetOk W ps es a b h l) {e : Int} {pl : Nat} (X : ExcOk W ps h b e pl) {c : Int} (c0 : 0 ≤ c) {f : Tx × Tx → Option Int} (R : RightP W a b c f) : e ≤ c := by
  rcases X.is with ⟨z, _⟩ | ⟨_, q, x, hq, q2, hx, e1⟩
  · omega
  · have pn := (List.getElem?_eq_some_iff.mp hq).1
    obtain ⟨p, p1, p2⟩ := S.path pn
    rw [hx] at p2
    have p2 := Option.some.inj p2
    have n1 := (List.getElem?_eq_some_iff.mp S.gr.zero).1
    obtain ⟨u, v, h1, h2, h3, h4, h5, h6, h7⟩ := (S.gr.told hW n1 p1).ex
    rw [S.gr.zero] at h1
    have h1 := Option.some.inj h1
    rw [hq] at h2
    have h2 := Option.some.inj h2
    subst h1 h2
    have h4 : txt p = (rowOf ps [] p).flatten ++ q.2 := h4
    have h3 : readAll W [] (txt p) = (gains p, q.1) := h3
    have h5 : costRow W (rowOf ps [] p) = losses p := h5
    rw [q2, List.append_nil] at h4
    have ec := hW.readAll_cost (txt p) [] (.inl rfl) h7
    rw [List.nil_append, h3] at ec
    have bd := R.bound hW h6
    rw [show (rowOf ps ([], []).2 p) = rowOf ps [] p from rfl, ← h4, ec, h5, Int.mul_add] at bd
    rw [p2, show wtOf a b = fun e : Ed => b * e.g - a * e.l from rfl, wsum_bg] at e1
    have bd : b * gains p + b * costRow W (matchOf W q.1) ≤ a * losses p + c := bd
    omega
theorem exc_nn {e : Int} {pl : Nat} (X : ExcOk W ps h b e pl) : 0 ≤ e := by
  rcases X.is with ⟨z, _⟩ | ⟨z, _⟩ <;> omega
end
section
variable {P : Program} {w : World} {K : PySem.W.Frag} {mg : Str → Option Value} {base : Heap}
/-! worst_ratio, worst_excess -/
def R_wr : Hp → List D → VK → Prop := fun H ds Q => ∃ W, ds = [encW W] ∧ Wd W ∧ ∀ a b ps es h l v H', Ex H H' → SetOk W ps es a b h l → Rp H' (encRat a b) v → Q v H'
theorem okf_wr (hd : Hd K mg) : OkA P w K mg base 10 (He.ga K "worst_ratio") ["words"] (spG R_wr) := by
  refine ok_worst_ratio hd (okf_check_words hd) (okf_settle hd) (len_G ?_) (rd_G ?_)
  · rintro H ds Q ⟨W, rfl, _⟩; rfl
  rintro ds H Q ⟨W, rfl, hW, k⟩
  unfold t_worst_ratio
  refine dn_seq (dn_drop (de_call (da_cons (de_var rfl) da_nil) ⟨W, rfl, rfl, hW⟩) ?_)
  intro σ H1 x n
  refine te_call (da_cons (de_var rfl) da_nil) n fun H2 x2 => ⟨W, rfl, hW, fun g c ps es a b ha la wa h l v H3 x3 S G C r => ?_⟩
  exact rix_at (i := 1) r rfl rfl fun z rz => k a b ps es h l z H3 ((x.trans x2).trans x3) S rz
def R_we : Hp → List D → VK → Prop := fun H ds Q => ∃ W, ds = [encW W] ∧ Wd W ∧ ∀ a b e pl ps es h l v H', Ex H H' → SetOk W ps es a b h l → ExcOk W ps h b e pl → Rp H' (.int e) v → Q v H'
theorem okf_we (hd : Hd K mg) : OkA P w K mg base 10 (He.ga K "worst_excess") ["words"] (spG R_we) := by
  refine ok_worst_excess hd (okf_check_words hd) (okf_settle hd) (okf_exc hd) (len_G ?_) (rd_G ?_)
  · rintro H ds Q ⟨W, rfl, _⟩; rfl
  rintro ds H Q ⟨W, rfl, hW, k⟩
  unfold t_worst_excess
  refine dn_seq (dn_drop (de_call (da_cons (de_var rfl) da_nil) ⟨W, rfl, rfl, hW⟩) ?_)
  dsimp only
  refine dn_seq (dn_asgC (da_cons (de_var rfl) da_nil) fun H1 x1 σ n => ⟨W, rfl, hW, fun g c ps es a b ha la wa h l v H2 x2 S G C r => ?_⟩)
  refine dg_tup (js := [1, 2, 3]) (ds := [.adr g, encRat a b, .adr c]) (dgs_cons (dgs_cons (dgs_cons dgs_nil))) rfl v σ H2 _ r fun vs rs => ?_
  refine dn_at (ρ := [some (encW W), some (.adr g), some (encRat a b), some (.adr c)]) ?_ ((n.ex x2).setAll rs)
  intro σ H3 x3 n3
  refine te_call (da_cons (de_var rfl) (da_cons (de_var rfl) (da_cons (de_var rfl) (da_cons (de_var rfl) da_nil)))) n3 fun H4 x4 => ⟨g, c, ha, la, wa, W, ps, es, a, b, h, l, _, rfl, S, hW, (G.ex x3).ex x4, (C.ex x3).ex x4, fun e pl v H5 x5 X r5 => ?_⟩
  exact rix_at (i := 0) r5 rfl rfl fun z rz => k a b e pl ps es h l z H5 ((((x1.trans x2).trans x3).trans x4).trans x5) S X rz
/-! answer_of -/
def R_ans : Hp → List D → VK → Prop := fun H ds Q => ∃ W, ds = [encW W] ∧ Wd W ∧ ∀ A v H', Ex H H' → AnsOk W A → (∃ ps es h l, SetOk W ps es A.a A.b h l) → 0 ≤ A.c → Rp H' (encAns A) v → Q v H'
theorem zip_enc (ps : List Pr) (xs : List Int) : ((ps.map encQ).zip ((xs.map some).map encO)).map (fun p => D.tup [p.1, p.2]) = (ps.zip xs).map fun p => D.tup [encQ p.1, .int p.2] := by
  rw [List.map_map, List.zip_map, List.map_map]
  rfl
theorem okf_answer_of (hd : Hd K mg) : OkA P w K mg base 10 (He.ga K "answer_of") ["words"] (spG R_ans) := by
  refine ok_answer_of hd (okf_settle hd) (okf_tight hd) (okf_told hd) (okf_way hd) (okf_exc hd) (len_G ?_) (rd_G ?_)
  · rintro H ds Q ⟨W, rfl, _⟩; rfl
  rintro ds H Q ⟨W, rfl, hW, k⟩
  unfold t_answer_of
  refine dn_seq (dn_asgC (da_cons (de_var rfl) da_nil) fun H1 x1 σ n => ⟨W, rfl, hW, fun g c ps es a b ha la wa h l v H2 x2 S G C r => ?_⟩)
  refine dg_tup (js := [1, 2, 3]) (ds := [.adr g, encRat a b, .adr c]) (dgs_cons (dgs_cons (dgs_cons dgs_nil))) rfl v σ H2 _ r fun vs rs => ?_
  refine dn_at (ρ := [some (encW W), some (.adr g), some (encRat a b), some (.adr c), none, none, none, none, none, none, none, none, none, none, none, none]) ?_ ((n.ex x2).setAll rs)
  have b1 := S.rat.b1
  have bM := S.rat.bM
  obtain ⟨n1, n2⟩ := S.gr.len hW
  have hu3 : ∀ u ∈ ps, u.2.length ≤ 3 := fun u hu => (S.gr.held u hu).2.len hW
  have xA : Ex H H2 := x1.trans x2
  -- a way to a place, told
  have tw : ∀ {ρ : List (Option D)} {σ : L2.St} {H3 : Hp} {Q : VK} {v j : Nat}, Ex H2 H3 → EnvD H3 σ ρ → ρ[1]? = some (some (.adr g)) → ρ[3]? = some (some (.adr c)) → ρ[j]? = some (some (.int (v : Int))) → v < ps.length →
      (∀ p u H4, Ex H3 H4 → Chain es 0 p v → hAt h v = some (wsum (wtOf a b) p) → p.length ≤ 169 → Rp H4 (encShow (txt p) (rowOf ps [] p)) u → Q u H4) →
      (tCall (spG (R_told K)) [] E0 (tCons (tVar 1) (tCons (tCall (spG (R_way K)) [] E0 (tCons (tVar 1) (tCons (tVar 3) (tCons (tVar j) tNil)))) (tCons (tC (.str "")) tNil)))) σ H3 Q := fun {ρ σ H3 Q v j} x3 n3 h1 h3 hj hv q => by
    obtain ⟨vg, e1, r1⟩ := n3.get 1 _ h1
    have r1 : vg = .ref g := r1
    subst r1
    refine ⟨_, e1, ?_⟩
    refine te_call (da_cons (de_var h1) (da_cons (de_var h3) (da_cons (de_var hj) da_nil))) n3 fun H4 x4 => ⟨g, c, ha, la, wa, W, ps, es, a, b, h, l, _, v, rfl, S, hW, (G.ex x3).ex x4, (C.ex x3).ex x4, hv, fun p qa H5 _ x5 lq cp hp pl => ?_⟩
    refine ⟨[.adr g, .adr qa, .str []], ⟨_, _, rfl, rfl, _, _, rfl, rfl, .str "", [], rfl, congrArg V.str empty_is, rfl⟩, g, ps, es, qa, p, [], rfl, ((G.ex x3).ex x4).ex x5, lq, fun e he => (S.gr.src (cp.mem e he)).2, hu3, by simp, pl, fun u H6 x6 r6 => q p u H6 ((x4.trans x5).trans x6) cp hp pl r6⟩
  dsimp only
  refine dn_seq (dn_asgC (da_cons (de_var rfl) (da_cons (de_var rfl) da_nil)) fun H3 x3 σ n3 => ⟨g, c, ha, la, wa, W, ps, es, a, b, h, l, rfl, S, hW, G.ex x3, C.ex x3, fun L qL H4 i nq x4 lL hi cL Ln Ll zL => ?_⟩)
  refine dn_at (ρ := [some (encW W), some (.adr g), some (encRat a b), some (.adr c), some (.adr qL), none, none, none, none, none, none, none, none, none, none, none]) ?_ ((n3.ex x4).set (d := .adr qL) rfl)
  have x24 : Ex H2 H4 := x3.trans x4
  obtain ⟨e0, L', eL⟩ := List.exists_cons_of_ne_nil Ln
  have e0i : e0.src = i := by rw [eL] at cL; exact cL.2.1
  obtain ⟨q, hq⟩ : ∃ q, ps[i]? = some q := ⟨_, List.getElem?_eq_getElem hi⟩
  obtain ⟨fs0, pa, ea, g1, g2, g3, g4, g5⟩ := id G
  obtain ⟨fc, c0⟩ := id C.c
  dsimp only
  refine dn_seq (dn_asg (d := .int (i : Nat)) (de_ixTN (k := 0) (ds := [.int (e0.src : Nat), .str [e0.x], .int (e0.dst : Nat), .int e0.g, .int e0.l]) (de_ixLN (k := 0) (dl_adr (de_var rfl) lL) de_int (by rw [eL]; rfl)) de_int (by rw [← e0i]; rfl)) ?_)
  dsimp only
  refine dn_seq (dn_asg (d := .str q.2) (de_ixTN (k := 1) (ds := [.str q.1, .str q.2]) (de_ixLN (k := i) (dl_adr (de_fld (de_var rfl) (g1.ex x24) (cls_Graph hd) (noat_Graph_pairs hd) g2 rfl) (g3.ex x24)) (de_var rfl) (by rw [List.getElem?_map, hq]; rfl)) de_int rfl) ?_)
  dsimp only
  refine dn_seq (dn_asgC (da_cons (de_var rfl) (da_cons (de_var rfl) (da_cons (de_var rfl) da_nil))) fun H5 x5 σ n5 => ⟨g, ps, es, qL, L, q.2, rfl, (G.ex x24).ex x5, lL.ex x5, fun e he => (S.gr.src (cL.mem e he)).2, hu3, hu3 q (List.mem_of_getElem? hq), Ll, fun v H6 x6 r6 => ?_⟩)
  refine dg_tup (js := [7, 8]) (ds := [.str (txt L), encR (rowOf ps q.2 L)]) (dgs_cons (dgs_cons dgs_nil)) rfl v σ H6 _ r6 fun vs rs => ?_
  refine dn_at (ρ := [some (encW W), some (.adr g), some (encRat a b), some (.adr c), some (.adr qL), some (.int (i : Nat)), some (.str q.2), some (.str (txt L)), some (encR (rowOf ps q.2 L)), none, none, none, none, none, none, none]) ?_ ((n5.ex x6).setAll rs)
  have x26 := (x24.trans x5).trans x6
  dsimp only
  refine dn_seq ?_
  intro σ H7 x7 n7
  refine tw (j := 5) (x26.trans x7) n7 rfl rfl rfl hi fun p u H8 x8 cp hp pl r8 => ?_
  refine rix_at (i := 0) r8 rfl rfl fun z rz => ?_
  refine dn_at (ρ := [some (encW W), some (.adr g), some (encRat a b), some (.adr c), some (.adr qL), some (.int (i : Nat)), some (.str q.2), some (.str (txt L)), some (encR (rowOf ps q.2 L)), some (.str (txt p)), none, none, none, none, none, none]) ?_ ((n7.ex x8).set rz)
  have x28 := (x26.trans x7).trans x8
  have tell := S.tell hW hq cp cL Ln pl Ll zL
  dsimp only
  refine dn_seq (dn_asgC (da_cons (de_var rfl) (da_cons (de_var rfl) (da_cons (de_var rfl) (da_cons (de_var rfl) da_nil)))) fun H9 x9 σ n9 => ⟨g, c, ha, la, wa, W, ps, es, a, b, h, l, _, rfl, S, hW, (G.ex x28).ex x9, (C.ex x28).ex x9, fun e pz v H10 x10 X r10 => ?_⟩)
  refine dg_tup (js := [10, 11]) (ds := [.int e, .int (pz : Nat)]) (dgs_cons (dgs_cons dgs_nil)) rfl v σ H10 _ r10 fun vs rs => ?_
  refine dn_at (ρ := [some (encW W), some (.adr g), some (encRat a b), some (.adr c), some (.adr qL), some (.int (i : Nat)), some (.str q.2), some (.str (txt L)), some (encR (rowOf ps q.2 L)), some (.str (txt p)), some (.int e), some (.int (pz : Nat)), none, none, none, none]) ?_ ((n9.ex x10).setAll rs)
  have x210 := (x28.trans x9).trans x10
  -- behind the text shown
  have fin : ∀ t r2 H11, Ex H2 H11 → ShowOk W a b e t r2 → DN (tSeq (tAsg (tCB (rTupleOf K) (tCons (tCB (rSortedD K) (tCons (tLc (iZip K (tCons (tFld K (tVar 1) "pairs") (tCons (tFld K (tVar 3) "heights") tNil))) (gTup K 2 (gCons (gName 14) (gCons (gName 15) gNil))) tYes (tOp (rCatT K) (tVar 14) (tTup (tCons (tVar 15) tNil))) [14, 15]) tNil)) tNil)) (gName 13))
  (tRet (tTup (tCons (tVar 2) (tCons (tVar 10) (tCons (tTup (tCons (tVar 9) (tCons (tVar 7) (tCons (tVar 6) (tCons (tVar 8) tNil))))) (tCons (tVar 12) (tCons (tVar 13) tNil))))))) { nx := fun _ H' => Q .non H', rt := Q }) H11 [some (encW W), some (.adr g), some (encRat a b), some (.adr c), some (.adr qL), some (.int (i : Nat)), some (.str q.2), some (.str (txt L)), some (encR (rowOf ps q.2 L)), some (.str (txt p)), some (.int e), some (.int (pz : Nat)), some (encShow t r2), none, none, none] := by
    intro t r2 H11 x11 sh
    obtain ⟨xs, hxs, lxs⟩ := S.heights
    have S' := S
    have X' := X
    rw [hxs] at S' X'
    have lh : LstAt H11 ha ((xs.map some).map encO) := by rw [← hxs]; exact C.lh.ex x11
    have tabs := S'.tab hW lxs X'
    refine dn_seq (dn_asg (d := encT (srtP (tabL ps xs))) (de_tupL (dl_sortedP (DLn.is (lc_M (ps.zip xs) (fun p => D.tup [encQ p.1, .int p.2]) (f := fun p => encP (p.1.1, p.1.2, p.2)) (js := [14, 15]) (tgt := fun p => [encQ p.1, .int p.2]) (DI.is (di_zip (de_fld (de_var rfl) (g1.ex x11) (cls_Graph hd) (noat_Graph_pairs hd) g2 rfl) (de_fld (de_var rfl) (c0.ins.ex x11) (cls_Climb hd) (noat_Climb_heights hd) c0.h rfl) (g3.ex x11) lh (by rw [List.length_map, List.length_map, List.length_map, lxs])) (zip_enc ps xs)) (fun p => dg_tup (dgs_cons (dgs_cons dgs_nil)) rfl) (by simp) (by rw [List.length_zip]; omega) fun p hp => de_catT (ds := [.str p.1.1, .str p.1.2]) (es := [.int p.2]) (de_var rfl) (de_tup (da_cons (de_var rfl) da_nil) (by simp)) (by simp) (by simp) (by simp)) (show _ = (tabL ps xs).map encP by unfold tabL; rw [List.map_map]; rfl)).dl).dl) ?_)
    dsimp only
    refine dn_ret (d := encAns ⟨a, b, e, txt p, txt L, q.2, rowOf ps q.2 L, t, r2, srtP (tabL ps xs)⟩) (de_tup (da_cons (de_var rfl) (da_cons (de_var rfl) (da_cons (de_tup (da_cons (de_var rfl) (da_cons (de_var rfl) (da_cons (de_var rfl) (da_cons (de_var rfl) da_nil)))) (by simp)) (da_cons (de_var rfl) (da_cons (de_var rfl) da_nil))))) (by simp)) fun v H12 x12 r12 => k _ v H12 ((xA.trans x11).trans x12) ⟨S.rat.ratio, tell, sh, tabs⟩ ⟨ps, es, h, l, S⟩ (exc_nn X) r12
  dsimp only
  refine dn_seq ?_
  have cond : DT (tOr (tTest (tOp (rI0 fun i j => .bl (decide (j < i))) (tVar 11) (tC (.int 0)))) (tTest (tOp (rI0 fun i j => .bl (decide (j < i))) (tVar 10) (tC (.int 0))))) H10 [some (encW W), some (.adr g), some (encRat a b), some (.adr c), some (.adr qL), some (.int (i : Nat)), some (.str q.2), some (.str (txt L)), some (encR (rowOf ps q.2 L)), some (.str (txt p)), some (.int e), some (.int (pz : Nat)), none, none, none, none] (decide ((0 : Int) < (pz : Int)) || decide (0 < e)) :=
    dt_or (dt_test (de_cmpI (g := fun i j => decide (j < i)) (de_var rfl) de_int)) fun _ => dt_test (de_cmpI (g := fun i j => decide (j < i)) (de_var rfl) de_int)
  intro σ H11 x11 n11
  refine cond σ H11 x11 n11 _ fun H12 x12 => ?_
  have n12 := n11.ex x12
  have x212 := (x210.trans x11).trans x12
  rcases X.is with ⟨z1, z2⟩ | ⟨z1, qz, xz, hqz, q2z, hxz, ez⟩
  · rw [z1, z2]
    refine iteF ?_
    have B : DE (tTup (tCons (tC (.str "")) (tCons (tTup tNil) tNil))) H12 [some (encW W), some (.adr g), some (encRat a b), some (.adr c), some (.adr qL), some (.int (i : Nat)), some (.str q.2), some (.str (txt L)), some (encR (rowOf ps q.2 L)), some (.str (txt p)), some (.int e), some (.int (pz : Nat)), none, none, none, none] (encShow [] []) :=
      de_tup (da_cons de_empty (da_cons (de_tup da_nil (by simp)) da_nil)) (by simp)
    refine B σ H12 (Ex.refl _) n12 _ fun v H13 x13 r13 => ?_
    have sh : ShowOk W a b e [] [] := by rw [z1]; exact show_empty W a b
    exact dn_at (fin [] [] H13 (x212.trans x13) sh) ((n12.ex x13).set r13)
  · have ct : (decide ((0 : Int) < (pz : Int)) || decide (0 < e)) = true := by rw [decide_eq_true z1, Bool.or_true]
    rw [ct]
    refine iteT ?_
    refine tw (j := 11) x212 n12 rfl rfl rfl (List.getElem?_eq_some_iff.mp hqz).1 fun p2 u H13 x13 cp2 hp2 pl2 r13 => ?_
    rw [hxz] at hp2
    have hp2 := Option.some.inj hp2
    have sh := S.shown hW hqz q2z cp2 pl2 hp2
    rw [← ez] at sh
    exact dn_at (fin (txt p2) (rowOf ps [] p2) H13 (x212.trans x13) sh) ((n12.ex x13).set r13)
/-! answer_for -/
theorem okf_answer_for (hd : Hd K mg) : OkA P w K mg base 11 (He.ga K "answer_for") ["words"] (spG R_ans) := by
  refine ok_answer_for hd (okf_check_words hd) (okf_answer_of hd) (len_G ?_) (rd_G ?_)
  · rintro H ds Q ⟨W, rfl, _⟩; rfl
  rintro ds H Q ⟨W, rfl, hW, k⟩
  unfold t_answer_for
  refine dn_seq (dn_drop (de_call (da_cons (de_var rfl) da_nil) ⟨W, rfl, rfl, hW⟩) ?_)
  intro σ H1 x n
  exact te_call (da_cons (de_var rfl) da_nil) n fun H2 x2 => ⟨W, rfl, hW, fun A v H3 x3 ok S c0 r => k A v H3 ((x.trans x2).trans x3) ok S c0 r⟩
end
end GC

-- part RD23
set_option Elab.async false
set_option linter.all false
set_option maxRecDepth 100000
set_option maxHeartbeats 4000000
namespace GC
open PySem PySem.Spec PyProof.Rows L2
section
variable {W : WL} {ps : List Pr} {es : List Ed} {a b : Int} {h : List (Option Int)} {l : List (Option Nat)}
theorem SetOk.exc (S : SetOk W ps es a b h l) : ∃ e pl, ExcOk W ps h b e pl := by
  have go : ∀ i, i ≤ ps.length → ∃ s, PEx W ps h b i s := fun i => by
    induction i with
    | zero => intro _; exact ⟨(0, 0), Int.le_refl _, fun j q x hj => by omega, .inl ⟨rfl, rfl⟩⟩
    | succ i ih =>
      intro hi
      obtain ⟨⟨e, pl⟩, p⟩ := ih (by omega)
      have hqi : ps[i]? = some ps[i] := List.getElem?_eq_getElem (by omega)
      obtain ⟨x, hxi⟩ := S.all (show i < ps.length by omega)
      by_cases c : (ps[i]).2 = [] ∧ e < x + b * costRow W (matchOf W (ps[i]).1)
      · obtain ⟨c1, c2⟩ := c
        have nn : 0 ≤ e := p.nn
        refine ⟨(x + b * costRow W (matchOf W (ps[i]).1), i), by show 0 ≤ x + _; omega, fun j q y hj hq hq2 hy => ?_, .inr ⟨by show 0 < x + _; omega, ps[i], x, hqi, c1, hxi, rfl⟩⟩
        by_cases ej : j = i
        · subst ej
          rw [hqi] at hq
          have hq := Option.some.inj hq
          subst hq
          rw [hxi] at hy
          have hy := Option.some.inj hy
          subst hy
          exact Int.le_refl _
        · have t : y + b * costRow W (matchOf W q.1) ≤ e := p.top j q y (by omega) hq hq2 hy
          show y + _ ≤ x + _
          omega
      · refine ⟨(e, pl), p.nn, fun j q y hj hq hq2 hy => ?_, p.is⟩
        by_cases ej : j = i
        · subst ej
          rw [hqi] at hq
          have hq := Option.some.inj hq
          subst hq
          rw [hxi] at hy
          have hy := Option.some.inj hy
          subst hy
          show x + _ ≤ e
          have : ¬ e < x + b * costRow W (matchOf W (ps[j]).1) := fun z => c ⟨hq2, z⟩
          omega
        · exact p.top j q y (by omega) hq hq2 hy
  obtain ⟨s, p⟩ := go ps.length (Nat.le_refl _)
  exact ⟨s.1, s.2, fun i q x hq hq2 hx => p.top i q x (List.getElem?_eq_some_iff.mp hq).1 hq hq2 hx, p.is⟩
theorem SetOk.right (hW : Wd W) (S : SetOk W ps es a b h l) {e : Int} {pl : Nat} (X : ExcOk W ps h b e pl) : ∃ f, RightP W a b e f := by
  obtain ⟨xs, hxs, lxs⟩ := S.heights
  have S' := S
  have X' := X
  rw [hxs] at S' X'
  exact ⟨_, (S'.tab hW lxs X').right⟩
/-- two runs end with one ratio -/
theorem set_ratio (hW : Wd W) (S : SetOk W ps es a b h l) {ps' : List Pr} {es' : List Ed} {a' b' : Int} {h' : List (Option Int)} {l' : List (Option Nat)} (S' : SetOk W ps' es' a' b' h' l') : a = a' ∧ b = b' := by
  obtain ⟨e, pl, X⟩ := S.exc
  obtain ⟨e', pl', X'⟩ := S'.exc
  obtain ⟨f, R⟩ := S.right hW X
  obtain ⟨f', R'⟩ := S'.right hW X'
  have h1 := ratio_le hW S S'.rat.ratio R'
  have h2 := ratio_le hW S' S.rat.ratio R
  exact ratio_eq S.rat.ratio S'.rat.ratio (by omega)
end
section
variable {P : Program} {w : World} {K : PySem.W.Frag} {mg : Str → Option Value} {base : Heap}
def R_law : PySem.W.Frag → Hp → List D → VK → Prop := fun K H ds Q => ∃ p, ∃ ns : List Int, ds = [.adr p] ∧ SqL K H p (ns.map V.int) ∧ ∀ H', Q (.bl true) H'
def ELaw (p sa : Addr) (W : WL) (A : Ans) : List (Option D) := [some (.adr p), some (.adr sa), some (encW W), some (encAns A), some (encRat A.a A.b), some (.int A.c), some (encTell A.bf A.cy A.tl A.r), some (encShow A.t A.r2), some (encT A.T), none, none]
theorem okf_law (hd : Hd K mg) {fd : FuncData} (F : FunD K "law" "law" (defArgs st_law) (defBody st_law) (defScope st_law) [] [] (He.ga K "law") fd) : FnOk P w K mg base CX0 12 (He.ga K "law") fd ["_law_script"] (spG (R_law K)) := by
  refine ok_law5 hd F (okf_law_stream hd) (okf_law_words hd) (okf_answer_for hd) (okf_law_accepts hd) (okf_accepts_answer hd) (okf_law_equal hd) (okf_we hd) (okf_wr hd) (okf_law_sum hd) (okf_law_least hd) (okf_law_all_texts hd) (okf_law_match hd) (len_G ?_) (rd_G ?_)
  · rintro H ds Q ⟨p, ns, rfl, _⟩; rfl
  rintro ds H Q ⟨p, ns, rfl, sq, k⟩
  unfold t_law
  refine dn_seq (dn_asgC (da_cons (de_var rfl) da_nil) fun H1 x1 σ n1 => ⟨p, ns, rfl, sql_ex sq x1, fun sa H2 nsa x2 st => ?_⟩)
  refine dn_at (ρ := [some (.adr p), some (.adr sa), none, none, none, none, none, none, none, none, none]) ?_ ((n1.ex x2).set (d := .adr sa) rfl)
  dsimp only
  refine dn_seq (dn_asgC (da_cons (de_var rfl) da_nil) fun H3 x3 σ n3 => ⟨sa, rfl, st.ex x3, fun W v H4 hW xb r4 => ?_⟩)
  refine dn_at (ρ := [some (.adr p), some (.adr sa), some (encW W), none, none, none, none, none, none, none, none]) ?_ ((n3.mono (ExB.tex xb (st.ex x3).nt)).set r4)
  dsimp only
  refine dn_seq (dn_asgC (da_cons (de_var rfl) da_nil) fun H5 x5 σ n5 => ⟨W, rfl, hW, fun A v H6 x6 hA hS c0 r6 => ?_⟩)
  refine dn_at (ρ := [some (.adr p), some (.adr sa), some (encW W), some (encAns A), none, none, none, none, none, none, none]) ?_ ((n5.ex x6).set r6)
  obtain ⟨psA, esA, hhA, llA, SA⟩ := hS
  have h1 := hA.rat.b1
  have h2 := hA.rat.bM
  have h3 := hA.rat.ab
  have h4 := hA.rat.aM
  have z1 := hA.sh.sz
  have z2 := hA.sh.rl
  have RA := hA.tab.right
  dsimp only
  refine dn_seq (dn_ifF (dt_orF (dt_notF (dt_B (de_call (da_cons (de_var rfl) (da_cons (de_var rfl) da_nil)) ⟨W, A, rfl, rfl, hW, hA⟩))) (dt_test (DE.is (de_notB (de_call (da_cons (de_var rfl) (da_cons (de_var rfl) da_nil)) ⟨W, A, rfl, rfl, hW, hA⟩) de_bl) rfl))) ?_)
  refine dn_next ?_
  dsimp only
  refine dn_seq (dn_asgT (ds := [encRat A.a A.b, .int A.c, encTell A.bf A.cy A.tl A.r, encShow A.t A.r2, encT A.T]) (js := [4, 5, 6, 7, 8]) (d := encAns A) (de_var rfl) (dg_tup (dgs_cons (dgs_cons (dgs_cons (dgs_cons (dgs_cons dgs_nil))))) rfl) ?_)
  dsimp only
  have eqv : DE (tCall (spG R_law_equal) [] E0 (tCons (tLst (tCons (tCall (spG R_wr) [] E0 (tCons (tVar 2) tNil)) (tCons (tCall (spG R_we) [] E0 (tCons (tVar 2) tNil)) tNil))) (tCons (tLst (tCons (tVar 4) (tCons (tVar 5) tNil))) tNil))) H6 (ELaw p sa W A) (.bl true) := fun σ H7 x7 n7 Q q => by
    show (tCall (spG R_wr) [] E0 (tCons (tVar 2) tNil)) σ H7 _
    refine te_call (da_cons (de_var rfl) da_nil) n7 fun H8 x8 => ⟨W, rfl, hW, fun a b ps es h l v1 H9 x9 S r1 => ?_⟩
    have n9 := (n7.ex x8).ex x9
    refine te_call (da_cons (de_var rfl) da_nil) n9 fun H10 x10 => ⟨W, rfl, hW, fun a' b' e pl ps' es' h' l' v2 H11 x11 S' X r2 => ⟨small_line (by simp), fun pp hp => ?_⟩⟩
    have n11 := (n9.ex x10).ex x11
    obtain ⟨ea, eb⟩ := set_ratio hW S SA
    obtain ⟨ea', eb'⟩ := set_ratio hW S' SA
    subst ea eb ea' eb'
    have e1 : e = A.c := by
      obtain ⟨f', R'⟩ := S'.right hW X
      have q1 := exc_le hW S' X c0 RA
      have q2 := show_le hW hA.sh R'
      omega
    subst e1
    have lp : LstAt (upd H11 pp (.lst [v1, v2])) pp [encRat A.a A.b, .int A.c] := ⟨_, upd_same, _, _, rfl, Rp.ex (Ex.new hp) (Rp.ex x11 (Rp.ex x10 r1)), _, _, rfl, Rp.ex (Ex.new hp) r2, rfl⟩
    refine dl_lst (H := upd H11 pp (.lst [v1, v2])) (da_cons (de_var rfl) (da_cons (de_var rfl) da_nil)) (by simp) σ _ (Ex.refl _) (n11.ex (Ex.new hp)) _ fun pq H12 npq x12 l12 => ?_
    refine ⟨[.adr pp, .adr pq], ⟨_, _, rfl, rfl, _, _, rfl, rfl, rfl⟩, pp, pq, A.a, A.b, A.c, rfl, lp.ex x12, l12, fun v H13 x13 r13 => q v H13 ?_ r13⟩
    exact x8.trans (x9.trans (x10.trans (x11.trans ((Ex.new hp).trans (x12.trans x13)))))
  refine dn_seq (dn_ifF (dt_notF (dt_B eqv)) ?_)
  refine dn_next ?_
  dsimp only
  have cl : costRow W A.r2 = leastOf W A.t := show_least hW (by omega) hA.sh RA
  refine dn_seq (dn_ifF (dt_test (DE.is (de_neI (de_call (da_cons (de_var rfl) (da_cons (de_ixTN (k := 1) (ds := [.str A.t, encR A.r2]) (de_var rfl) de_int rfl) da_nil)) ⟨W, A.r2, rfl, rfl, hW, hA.sh.row, by omega⟩) (de_call (da_cons (de_var rfl) (da_cons (de_ixTN (k := 0) (ds := [.str A.t, encR A.r2]) (de_var rfl) de_int rfl) da_nil)) ⟨W, A.t, rfl, rfl, hW, hA.sh.ov, z1⟩)) (by rw [cl]; simp))) ?_)
  refine dn_next ?_
  dsimp only
  refine dn_seq ?_
  have al := allT_le hW 3 (Nat.le_refl _)
  refine dn_forP (τ := Unit) (allT W 3) D.str (fun x => dg_name) (fun _ _ => True) (fun _ => ELaw p sa W A) () (di_lstN (dl_call (da_cons (de_var rfl) (da_cons de_int da_nil)) ⟨W, rfl, rfl, hW⟩)) trivial (Wk.refl _) ?_ ?_
  · intro Hh xh i t u ht _
    obtain ⟨to, tl⟩ := allT_mem 3 (List.mem_of_getElem? ht)
    obtain ⟨m1, m2⟩ := match_row hW to
    have L := leastOf_is hW to
    obtain ⟨r', q1, q2, q3⟩ := L.is
    have bd := RA.bound hW q1
    rw [q2, q3] at bd
    refine dn_seq (dn_asg (d := .int (costRow W (matchOf W t))) (de_call (da_cons (de_var rfl) (da_cons (de_call (da_cons (de_var rfl) (da_cons (de_var rfl) da_nil)) ⟨W, t, rfl, rfl, hW, to, by omega⟩) da_nil)) ⟨W, _, rfl, rfl, hW, m1, by omega⟩) ?_)
    dsimp only
    refine dn_ifF (dt_test (DE.is (de_cmpI (g := fun i j => decide (j < i)) (de_mul (de_ixTN (k := 1) (ds := [.int A.a, .int A.b]) (de_var rfl) de_int rfl) (de_var rfl) (cmul_l (by omega) (by omega))) (de_add (de_mul (de_ixTN (k := 0) (ds := [.int A.a, .int A.b]) (de_var rfl) de_int rfl) (de_call (da_cons (de_var rfl) (da_cons (de_var rfl) da_nil)) ⟨W, t, rfl, rfl, hW, to, by omega⟩) (cmul_l (by omega) (by omega))) (de_var rfl))) (by congr 1; exact decide_eq_false (by omega)))) ?_
    exact dn_next (dn_turnP (P := fun _ => True) (env := fun _ => ELaw p sa W A) () trivial (wk_same (wk_same (wk_same (wk_same (wk_same (wk_same (wk_same (wk_same (wk_same (wk_none (wk_none wk_nil))))))))))) (Ex.refl _))
  · intro u _
    dsimp only
    refine dn_ret de_bl fun v H7 x7 r7 => ?_
    have r7 : v = .bl true := r7
    subst r7
    exact k H7
end
end GC

-- part END
set_option Elab.async false
set_option linter.all false
set_option maxRecDepth 100000
set_option maxHeartbeats 0
namespace GC
open PySem PySem.Spec PyProof.Rows L2
theorem facts {P : Program} {w : World} {K : PySem.W.Frag} {h : Heap} {mg : Str → Option Value} {f : Addr} (X : K.In h) (G : h.Ns mainGlobals mg) (hfa : mg ("law" : Str) = some (.ref f)) (c : SaysM faL fnL K) :
    ∃ fd : FuncData, (∀ (s : Shared) (v : Value), BindsTo s fd ⟨[v], []⟩ [("_law_script", v)]) ∧ ∀ base : Heap, K.In base → base.Ns mainGlobals mg → FnOk P w K mg base CX0 12 f fd ["_law_script"] (spG (R_law K)) := by
  have hd : Hd K mg := ⟨c, h, X, G⟩
  obtain ⟨fd, F⟩ := fun_law hd
  have e := hfa.symm.trans (glo_law hd)
  cases e
  have b := FunD.bindsA (ps := ["_law_script"]) F fun _ _ _ _ _ _ us hl => match us, hl with | [_], _ => rfl
  exact ⟨fd, fun s v => b s [v] rfl, fun base _ _ => okf_law hd F⟩
end GC
open PySem PySem.W PySem.Calls PyProof.Rows
theorem PySem.Challenge.cw_greedycuts_k63_whole_answers_holds : PySem.Challenge.rw_greedycuts_k63_whole_answers.Holds := by
  w_on; o_law
  refine HandSHeadRun.head_imp (r := OpenLaw.row PySem.Challenge.rw_greedycuts_k63_whole_answers) (q := GC.qv) (H := GC.hk) (ob := GC.ob) (M := 20000) (loose := GC.loL) (d := HandSHeadRun.topDef (OpenLaw.row PySem.Challenge.rw_greedycuts_k63_whole_answers).prog 82) (kwd := []) GC.ob_eq GC.run
    (by kernel_rfl) (by kernel_rfl) (by kernel_rfl) (by rfl) (by first | assumption | decide +kernel) (by decide +kernel) ⟨rfl, rfl, rfl, rfl, rfl, by decide +kernel⟩ ?hw ?hc
  case hw => w_witness2
  case hc =>
    refine L2.walk_ofE (l := PySem.Challenge.rw_greedycuts_k63_whole_answers) (n := 63) (k := 12) (x := "_law_script") (CX := L2.CX0) rfl (by decide) (by kernel_rfl) ⟨rfl, by decide, by decide⟩ ?F (fun _ _ _ _ z => z)
    intro w mg fa h Y G hmg0
    obtain ⟨K, KX, c⟩ := Y
    have hmg : mg ("law" : PySem.Str) = some (.ref fa) := by
      have e : (HandSHeadRun.topDef (OpenLaw.row PySem.Challenge.rw_greedycuts_k63_whole_answers).prog 82).name = ("law" : PySem.Str) := by kernel_rfl
      rw [← e]
      exact hmg0
    obtain ⟨fd, hb, hF⟩ := GC.facts (P := (PySem.Challenge.rw_greedycuts_k63_whole_answers).prog) (w := w) KX G hmg c
    exact ⟨K, fd, GC.spG (GC.R_law K), KX, hb, fun H a ns hl _ hS => ⟨[.adr a], ⟨_, _, rfl, rfl, rfl⟩, a, ns, rfl, hS, fun _ => rfl⟩, hF⟩
