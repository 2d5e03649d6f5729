import PyProof.Rows.All
import Wide.All
import OpenK.AllK
import Wide.FinOn
import KE.KStateDown
import HandS.ForMost
import HandS.More
import HandS.WordsExc
import HandS.Defaults
import HandS.Head0
import HandS.Head1
import HandS.Head2
import HandS.HeadEnd
import HandS.HeadHook1
import HandS.HeadHook2
import PySem.Challenge.RW_sayonce_k39_whole_counting
import PyProof.LongRange
import KE.GoesEnum
import KE.DataFind
import KE.Datum
import HandS.SortInts
import HandS.SortKw
import HandS.Wide
import HandS.Walk
import HandS.TupAny
import HandS.Strs
import HandS.Steps
import HandS.Style
import HandS.Flow
import HandS.DictComp
import HandS.IsInst
import HandS.WordsDict
import HandS.Sort
import HandS.NoneIn
/-! part: Txt0 -/
set_option Elab.async false
set_option linter.all false
set_option maxRecDepth 100000
set_option maxHeartbeats 0
namespace Sy
open PySem PySem.Spec PyProof.Rows L2
def top (i : Nat) : Stmt := PySem.Challenge.pw_sayonce_k39_whole_counting.main.body.getD i (.Pass ⟨0, 0, 0, 0⟩)
abbrev s_D_init : Stmt := inClass (top 4) 0
abbrev s_D_words : Stmt := inClass (top 4) 2
abbrev s_D_parts : Stmt := inClass (top 4) 3
abbrev s_D_is_unsaid : Stmt := inClass (top 4) 4
abbrev s_D_below : Stmt := inClass (top 4) 5
abbrev s_D_learn : Stmt := inClass (top 4) 6
abbrev s_D_counted : Stmt := inClass (top 4) 7
abbrev s_D_fewest : Stmt := inClass (top 4) 8
abbrev s_D_ways : Stmt := inClass (top 4) 9
abbrev s_D_rests : Stmt := inClass (top 4) 10
abbrev s_D_count : Stmt := inClass (top 4) 11
abbrev s_D_least : Stmt := inClass (top 4) 12
abbrev s_D_choice : Stmt := inClass (top 4) 13
abbrev s_D_shortest_choice : Stmt := inClass (top 4) 14
abbrev s_D_phrase : Stmt := inClass (top 4) 15
abbrev s_D_first : Stmt := inClass (top 4) 16
abbrev s_check_range : Stmt := top 9
abbrev s_S_init : Stmt := inClass (top 10) 0
abbrev s_S_weight : Stmt := inClass (top 10) 1
abbrev s_S_low : Stmt := inClass (top 10) 2
abbrev s_S_first : Stmt := inClass (top 10) 3
abbrev s_S_of : Stmt := inClass (top 10) 4
abbrev s_S_period : Stmt := inClass (top 10) 5
abbrev s_S_up_to : Stmt := inClass (top 10) 6
abbrev s_S_further : Stmt := inClass (top 10) 7
abbrev s_said_between : Stmt := top 11
abbrev s_words_said : Stmt := top 12
abbrev s_times_said : Stmt := top 13
abbrev s_longest_said : Stmt := top 14
abbrev s_is_word : Stmt := top 22
abbrev s_simple_fault : Stmt := top 23
abbrev s_multiplier_fault : Stmt := top 24
abbrev s_check_rows : Stmt := top 25
abbrev s_check_words : Stmt := top 26
abbrev s_check_endless : Stmt := top 27
abbrev s_Y_init : Stmt := inClass (top 28) 0
abbrev s_Y_words : Stmt := inClass (top 28) 1
abbrev s_Y_endless : Stmt := inClass (top 28) 4
abbrev s_Y_bounded_maximum : Stmt := inClass (top 28) 5
abbrev s_l_pool : Stmt := top 30
abbrev s_l_take : Stmt := top 31
abbrev s_l_upto : Stmt := top 32
abbrev s_l_is_integer : Stmt := top 33
abbrev s_l_same : Stmt := top 34
abbrev s_l_pick : Stmt := top 35
abbrev s_l_word : Stmt := top 36
abbrev s_l_drawn : Stmt := top 37
abbrev s_l_regular : Stmt := top 38
abbrev s_l_nearly : Stmt := top 39
abbrev s_l_shaped : Stmt := top 40
abbrev s_l_words : Stmt := top 41
abbrev s_l_bounded : Stmt := top 42
abbrev s_l_made : Stmt := top 43
abbrev s_l_first : Stmt := top 44
abbrev s_l_said : Stmt := top 45
abbrev s_l_counted : Stmt := top 46
abbrev s_l_some_word : Stmt := top 47
abbrev s_l_with_outer : Stmt := top 48
abbrev s_l_outer : Stmt := top 49
abbrev s_l_told : Stmt := top 50
abbrev s_l_period_so : Stmt := top 51
abbrev s_law : Stmt := top 52
def d_D_init : He.DefD := ⟨("Derivations", some "__init__"), "__init__", "Derivations.__init__", defArgs s_D_init, defBody s_D_init, defScope s_D_init, [], []⟩
def d_D_words : He.DefD := ⟨("Derivations", some "words"), "words", "Derivations.words", defArgs s_D_words, defBody s_D_words, defScope s_D_words, [], []⟩
def d_D_parts : He.DefD := ⟨("Derivations", some "parts"), "parts", "Derivations.parts", defArgs s_D_parts, defBody s_D_parts, defScope s_D_parts, [], []⟩
def d_D_is_unsaid : He.DefD := ⟨("Derivations", some "is_unsaid"), "is_unsaid", "Derivations.is_unsaid", defArgs s_D_is_unsaid, defBody s_D_is_unsaid, defScope s_D_is_unsaid, [], []⟩
def d_D_below : He.DefD := ⟨("Derivations", some "below"), "below", "Derivations.below", defArgs s_D_below, defBody s_D_below, defScope s_D_below, [], []⟩
def d_D_learn : He.DefD := ⟨("Derivations", some "learn"), "learn", "Derivations.learn", defArgs s_D_learn, defBody s_D_learn, defScope s_D_learn, [], []⟩
def d_D_counted : He.DefD := ⟨("Derivations", some "_counted"), "_counted", "Derivations._counted", defArgs s_D_counted, defBody s_D_counted, defScope s_D_counted, [], []⟩
def d_D_fewest : He.DefD := ⟨("Derivations", some "_fewest"), "_fewest", "Derivations._fewest", defArgs s_D_fewest, defBody s_D_fewest, defScope s_D_fewest, [], []⟩
def d_D_ways : He.DefD := ⟨("Derivations", some "ways"), "ways", "Derivations.ways", defArgs s_D_ways, defBody s_D_ways, defScope s_D_ways, [], []⟩
def d_D_rests : He.DefD := ⟨("Derivations", some "rests"), "rests", "Derivations.rests", defArgs s_D_rests, defBody s_D_rests, defScope s_D_rests, [], []⟩
def d_D_count : He.DefD := ⟨("Derivations", some "count"), "count", "Derivations.count", defArgs s_D_count, defBody s_D_count, defScope s_D_count, [], []⟩
def d_D_least : He.DefD := ⟨("Derivations", some "least"), "least", "Derivations.least", defArgs s_D_least, defBody s_D_least, defScope s_D_least, [], []⟩
def d_D_choice : He.DefD := ⟨("Derivations", some "choice"), "choice", "Derivations.choice", defArgs s_D_choice, defBody s_D_choice, defScope s_D_choice, [], []⟩
def d_D_shortest_choice : He.DefD := ⟨("Derivations", some "shortest_choice"), "shortest_choice", "Derivations.shortest_choice", defArgs s_D_shortest_choice, defBody s_D_shortest_choice, defScope s_D_shortest_choice, [], []⟩
def d_D_phrase : He.DefD := ⟨("Derivations", some "phrase"), "phrase", "Derivations.phrase", defArgs s_D_phrase, defBody s_D_phrase, defScope s_D_phrase, [], []⟩
def d_D_first : He.DefD := ⟨("Derivations", some "first"), "first", "Derivations.first", defArgs s_D_first, defBody s_D_first, defScope s_D_first, [], []⟩
def d_check_range : He.DefD := ⟨("check_range", none), "check_range", "check_range", defArgs s_check_range, defBody s_check_range, defScope s_check_range, [], []⟩
def d_S_init : He.DefD := ⟨("Spoken", some "__init__"), "__init__", "Spoken.__init__", defArgs s_S_init, defBody s_S_init, defScope s_S_init, [.non], []⟩
def d_S_weight : He.DefD := ⟨("Spoken", some "weight"), "weight", "Spoken.weight", defArgs s_S_weight, defBody s_S_weight, defScope s_S_weight, [], []⟩
def d_S_low : He.DefD := ⟨("Spoken", some "low"), "low", "Spoken.low", defArgs s_S_low, defBody s_S_low, defScope s_S_low, [], []⟩
def d_S_first : He.DefD := ⟨("Spoken", some "_first"), "_first", "Spoken._first", defArgs s_S_first, defBody s_S_first, defScope s_S_first, [], []⟩
def d_S_of : He.DefD := ⟨("Spoken", some "of"), "of", "Spoken.of", defArgs s_S_of, defBody s_S_of, defScope s_S_of, [], []⟩
def d_S_period : He.DefD := ⟨("Spoken", some "period"), "period", "Spoken.period", defArgs s_S_period, defBody s_S_period, defScope s_S_period, [], []⟩
def d_S_up_to : He.DefD := ⟨("Spoken", some "up_to"), "up_to", "Spoken.up_to", defArgs s_S_up_to, defBody s_S_up_to, defScope s_S_up_to, [], []⟩
def d_S_further : He.DefD := ⟨("Spoken", some "_further"), "_further", "Spoken._further", defArgs s_S_further, defBody s_S_further, defScope s_S_further, [], []⟩
def d_said_between : He.DefD := ⟨("said_between", none), "said_between", "said_between", defArgs s_said_between, defBody s_said_between, defScope s_said_between, [], []⟩
def d_words_said : He.DefD := ⟨("words_said", none), "words_said", "words_said", defArgs s_words_said, defBody s_words_said, defScope s_words_said, [], []⟩
def d_times_said : He.DefD := ⟨("times_said", none), "times_said", "times_said", defArgs s_times_said, defBody s_times_said, defScope s_times_said, [], []⟩
def d_longest_said : He.DefD := ⟨("longest_said", none), "longest_said", "longest_said", defArgs s_longest_said, defBody s_longest_said, defScope s_longest_said, [], []⟩
def d_is_word : He.DefD := ⟨("is_word", none), "is_word", "is_word", defArgs s_is_word, defBody s_is_word, defScope s_is_word, [], []⟩
def d_simple_fault : He.DefD := ⟨("simple_fault", none), "simple_fault", "simple_fault", defArgs s_simple_fault, defBody s_simple_fault, defScope s_simple_fault, [], []⟩
def d_multiplier_fault : He.DefD := ⟨("multiplier_fault", none), "multiplier_fault", "multiplier_fault", defArgs s_multiplier_fault, defBody s_multiplier_fault, defScope s_multiplier_fault, [], []⟩
def d_check_rows : He.DefD := ⟨("check_rows", none), "check_rows", "check_rows", defArgs s_check_rows, defBody s_check_rows, defScope s_check_rows, [], []⟩
def d_check_words : He.DefD := ⟨("check_words", none), "check_words", "check_words", defArgs s_check_words, defBody s_check_words, defScope s_check_words, [], []⟩
def d_check_endless : He.DefD := ⟨("check_endless", none), "check_endless", "check_endless", defArgs s_check_endless, defBody s_check_endless, defScope s_check_endless, [], []⟩
def d_Y_init : He.DefD := ⟨("System", some "__init__"), "__init__", "System.__init__", defArgs s_Y_init, defBody s_Y_init, defScope s_Y_init, [], []⟩
def d_Y_words : He.DefD := ⟨("System", some "words"), "words", "System.words", defArgs s_Y_words, defBody s_Y_words, defScope s_Y_words, [], []⟩
def d_Y_endless : He.DefD := ⟨("System", some "endless"), "endless", "System.endless", defArgs s_Y_endless, defBody s_Y_endless, defScope s_Y_endless, [], []⟩
def d_Y_bounded_maximum : He.DefD := ⟨("System", some "bounded_maximum"), "bounded_maximum", "System.bounded_maximum", defArgs s_Y_bounded_maximum, defBody s_Y_bounded_maximum, defScope s_Y_bounded_maximum, [], []⟩
def d_l_pool : He.DefD := ⟨("_law_pool", none), "_law_pool", "_law_pool", defArgs s_l_pool, defBody s_l_pool, defScope s_l_pool, [], []⟩
def d_l_take : He.DefD := ⟨("_law_take", none), "_law_take", "_law_take", defArgs s_l_take, defBody s_l_take, defScope s_l_take, [], []⟩
def d_l_upto : He.DefD := ⟨("_law_upto", none), "_law_upto", "_law_upto", defArgs s_l_upto, defBody s_l_upto, defScope s_l_upto, [], []⟩
def d_l_is_integer : He.DefD := ⟨("_law_is_integer", none), "_law_is_integer", "_law_is_integer", defArgs s_l_is_integer, defBody s_l_is_integer, defScope s_l_is_integer, [], []⟩
def d_l_same : He.DefD := ⟨("_law_same", none), "_law_same", "_law_same", defArgs s_l_same, defBody s_l_same, defScope s_l_same, [], []⟩
def d_l_pick : He.DefD := ⟨("_law_pick", none), "_law_pick", "_law_pick", defArgs s_l_pick, defBody s_l_pick, defScope s_l_pick, [], []⟩
def d_l_word : He.DefD := ⟨("_law_word", none), "_law_word", "_law_word", defArgs s_l_word, defBody s_l_word, defScope s_l_word, [], []⟩
def d_l_drawn : He.DefD := ⟨("_law_drawn", none), "_law_drawn", "_law_drawn", defArgs s_l_drawn, defBody s_l_drawn, defScope s_l_drawn, [], []⟩
def d_l_regular : He.DefD := ⟨("_law_regular", none), "_law_regular", "_law_regular", defArgs s_l_regular, defBody s_l_regular, defScope s_l_regular, [], []⟩
def d_l_nearly : He.DefD := ⟨("_law_nearly", none), "_law_nearly", "_law_nearly", defArgs s_l_nearly, defBody s_l_nearly, defScope s_l_nearly, [], []⟩
def d_l_shaped : He.DefD := ⟨("_law_shaped", none), "_law_shaped", "_law_shaped", defArgs s_l_shaped, defBody s_l_shaped, defScope s_l_shaped, [], []⟩
def d_l_words : He.DefD := ⟨("_law_words", none), "_law_words", "_law_words", defArgs s_l_words, defBody s_l_words, defScope s_l_words, [], []⟩
def d_l_bounded : He.DefD := ⟨("_law_bounded", none), "_law_bounded", "_law_bounded", defArgs s_l_bounded, defBody s_l_bounded, defScope s_l_bounded, [], []⟩
def d_l_made : He.DefD := ⟨("_law_made", none), "_law_made", "_law_made", defArgs s_l_made, defBody s_l_made, defScope s_l_made, [], []⟩
def d_l_first : He.DefD := ⟨("_law_first", none), "_law_first", "_law_first", defArgs s_l_first, defBody s_l_first, defScope s_l_first, [], []⟩
def d_l_said : He.DefD := ⟨("_law_said", none), "_law_said", "_law_said", defArgs s_l_said, defBody s_l_said, defScope s_l_said, [], []⟩
def d_l_counted : He.DefD := ⟨("_law_counted", none), "_law_counted", "_law_counted", defArgs s_l_counted, defBody s_l_counted, defScope s_l_counted, [], []⟩
def d_l_some_word : He.DefD := ⟨("_law_some_word", none), "_law_some_word", "_law_some_word", defArgs s_l_some_word, defBody s_l_some_word, defScope s_l_some_word, [], []⟩
def d_l_with_outer : He.DefD := ⟨("_law_with_outer", none), "_law_with_outer", "_law_with_outer", defArgs s_l_with_outer, defBody s_l_with_outer, defScope s_l_with_outer, [], []⟩
def d_l_outer : He.DefD := ⟨("_law_outer", none), "_law_outer", "_law_outer", defArgs s_l_outer, defBody s_l_outer, defScope s_l_outer, [], []⟩
def d_l_told : He.DefD := ⟨("_law_told", none), "_law_told", "_law_told", defArgs s_l_told, defBody s_l_told, defScope s_l_told, [], []⟩
def d_l_period_so : He.DefD := ⟨("_law_period_so", none), "_law_period_so", "_law_period_so", defArgs s_l_period_so, defBody s_l_period_so, defScope s_l_period_so, [], []⟩
def d_law : He.DefD := ⟨("law", none), "law", "law", defArgs s_law, defBody s_law, defScope s_law, [], []⟩
def fn : List He.DefD := ([d_D_init, d_D_words, d_D_parts, d_D_is_unsaid, d_D_below, d_D_learn, d_D_counted, d_D_fewest, d_D_ways, d_D_rests, d_D_count, d_D_least, d_D_choice, d_D_shortest_choice, d_D_phrase, d_D_first, d_check_range, d_S_init, d_S_weight, d_S_low] : List He.DefD) ++ ([d_S_first, d_S_of, d_S_period, d_S_up_to, d_S_further, d_said_between, d_words_said, d_times_said, d_longest_said, d_is_word, d_simple_fault, d_multiplier_fault, d_check_rows, d_check_words, d_check_endless, d_Y_init, d_Y_words, d_Y_endless, d_Y_bounded_maximum, d_l_pool] : List He.DefD) ++ ([d_l_take, d_l_upto, d_l_is_integer, d_l_same, d_l_pick, d_l_word, d_l_drawn, d_l_regular, d_l_nearly, d_l_shaped, d_l_words, d_l_bounded, d_l_made, d_l_first, d_l_said, d_l_counted, d_l_some_word, d_l_with_outer, d_l_outer, d_l_told] : List He.DefD) ++ ([d_l_period_so, d_law] : List He.DefD)
def fa : List He.Fa := ([.glo "check_range", .glo "said_between", .glo "words_said", .glo "times_said", .glo "longest_said", .glo "is_word", .glo "simple_fault", .glo "multiplier_fault", .glo "check_rows", .glo "check_words", .glo "check_endless", .glo "_law_pool", .glo "_law_take", .glo "_law_upto", .glo "_law_is_integer", .glo "_law_same", .glo "_law_pick", .glo "_law_word", .glo "_law_drawn", .glo "_law_regular"] : List He.Fa) ++ ([.glo "_law_nearly", .glo "_law_shaped", .glo "_law_words", .glo "_law_bounded", .glo "_law_made", .glo "_law_first", .glo "_law_said", .glo "_law_counted", .glo "_law_some_word", .glo "_law_with_outer", .glo "_law_outer", .glo "_law_told", .glo "_law_period_so", .glo "law", .glo "Derivations", .cls "Derivations", .mkr "Derivations", .noat "Derivations" "system", .noat "Derivations" "_known", .glo "Spoken"] : List He.Fa) ++ ([.cls "Spoken", .mkr "Spoken", .noat "Spoken" "system", .noat "Spoken" "word", .noat "Spoken" "outer", .noat "Spoken" "top", .noat "Spoken" "held", .noat "Spoken" "said", .noat "Spoken" "sums", .glo "System", .cls "System", .mkr "System", .noat "System" "simple", .noat "System" "multipliers", .noat "System" "_values", .noat "System" "_rows", .meth "Derivations" "words", .meth "Derivations" "parts", .meth "Derivations" "is_unsaid", .meth "Derivations" "below"] : List He.Fa) ++ ([.meth "Derivations" "learn", .meth "Derivations" "_counted", .meth "Derivations" "_fewest", .meth "Derivations" "ways", .meth "Derivations" "rests", .meth "Derivations" "count", .meth "Derivations" "least", .meth "Derivations" "choice", .meth "Derivations" "shortest_choice", .meth "Derivations" "phrase", .meth "Derivations" "first", .meth "Spoken" "weight", .meth "Spoken" "low", .meth "Spoken" "_first", .meth "Spoken" "of", .meth "Spoken" "period", .meth "Spoken" "up_to", .meth "Spoken" "_further", .meth "System" "words", .meth "System" "endless"] : List He.Fa) ++ ([.meth "System" "bounded_maximum", .free "len", .free "enumerate", .free "range", .free "sorted", .free "min", .free "max", .free "tuple", .free "list", .free "isinstance", .free "int", .free "bool", .free "str", .free "sum", .free "any", .free "all", .int "MOST_APART" 100000, .str "LETTERS" "abcdefghijklmnopqrstuvwxyz", .int "MOST_LETTERS" 8, .int "MOST_SIMPLE" 24] : List He.Fa) ++ ([.int "MOST_MULTIPLIERS" 6, .int "MOST_VALUE" 100000] : List He.Fa)
def names : List PySem.Str := (["_wall", "SayError", "Derivations", "MOST_APART", "BadRange", "WordMissing", "check_range", "Spoken", "said_between", "words_said", "times_said", "longest_said", "LETTERS", "MOST_LETTERS", "MOST_SIMPLE", "MOST_MULTIPLIERS", "MOST_VALUE", "BadSystem", "is_word", "simple_fault"] : List PySem.Str) ++ (["multiplier_fault", "check_rows", "check_words", "check_endless", "System", "_law_pool", "_law_take", "_law_upto", "_law_is_integer", "_law_same", "_law_pick", "_law_word", "_law_drawn", "_law_regular", "_law_nearly", "_law_shaped", "_law_words", "_law_bounded", "_law_made", "_law_first"] : List PySem.Str) ++ (["_law_said", "_law_counted", "_law_some_word", "_law_with_outer", "_law_outer", "_law_told", "_law_period_so"] : List PySem.Str)
end Sy

/-! part: Rules -/
set_option Elab.async false
set_option linter.all false
set_option maxRecDepth 100000
set_option maxHeartbeats 4000000
/-! own rules: a range of great ints; enumerate of a tuple; sorted of a dict of ints; min and max with default=; count of a tuple of texts -/
namespace Sy
open PySem PySem.Spec PyProof.Rows L2

/-! ### range(lo, hi), whatever the size of the ends -/
theorem turn_longr {P : Program} {w : World} {K : PySem.W.Frag} {tg : Expr} (it : Addr) (lo : Int) (n : Nat) : Turn P w K tg (Itr lo n) [it] it (fun i h => IsLongIter h it (lo + (i : Nat) * 1) ((n : Int) - (i : Nat)) 1) where
  mem := by simp
  obj := fun i h st b hb => by
    obtain rfl : b = it := by simpa using hb
    exact ⟨_, st, fun v z => by cases (show Data.fields _ = Data.cell v from z)⟩
  keep := fun i h h' st k => k it (by simp) _ st
  item := by
    intro X hP hw hK hc i pins s σ H E I hf st hg
    subst hP hw hK
    obtain ⟨f0, f1, f2, f3, f4, f5⟩ := hf it (by simp)
    have W := Walks.longrange (prog := X.prog) (w := X.w) (I.ok.hd hc) it lo 1 n
    refine W.item i s _ _ hg st fun v h' tk hv st' kk => ?_
    obtain ⟨t, rfl⟩ := hv
    have I1 := I.turned (h' := h') (t' := tk) (fun b o hb e => kk b o (by simpa using hb) e) f0 f1 f3 f4 f5
    refine ⟨_, rfl, go_of (s := { s with heap := h', toks := tk }) (n := "longrange_iterator") st' rfl rfl (by decide) ⟨.int (lo + i), H, I1, ⟨t, ?_⟩, ⟨rfl, rfl⟩, st', fun b hb => (hf b hb).1⟩⟩
    rw [Int.mul_one]
  done := by
    intro X hP hw hK hc i pins s σ H E I hf st hg
    subst hP hw hK
    obtain ⟨f0, f1, f2, f3, f4, f5⟩ := hf it (by simp)
    have hz : ((n : Int) - (i : Nat)) ≤ 0 := by have : n ≤ i := hg; omega
    exact wpAny_pyNext_long_end (I.ok.hd hc) st hz fun h' eb => ⟨rfl, I.turned (t' := s.toks) (fun b o hb e => eb b o hb e) f0 f1 f3 f4 f5⟩
  self := fun _ _ _ _ _ st h => wpAny_pyIter_longiter st h
section
variable {X : Cx} {tg : Expr}
theorem rsize_one (a b : Int) : Builtin.Range.rangeSize a b 1 = ((b - a).toNat : Int) := by
  rw [rangeSize_one]; split <;> omega
theorem rangeB_it {pins : List (Addr × Obj)} {σ : L2.St} {H : Hp} {s : Shared} {R : It → Hp → Prop} {E : Value → Shared → Prop} {lo hi : Int} {t u v : Tok} {tk : Nat} (I : Inv X pins σ H s)
    (q : R (Itr lo (hi - lo).toNat) H) : wpAny (model X.prog X.w) X.A (pyIter (.ref s.heap.objs.size)) (PIE X pins σ tg R) E { s with heap := s.heap.push { cls := .type "range", data := .fields #[.int lo t, .int hi u, .int 1 v] }, toks := tk } := by
  have I1 : Inv X pins σ H { s with heap := s.heap.push { cls := .type "range", data := .fields #[.int lo t, .int hi u, .int 1 v] }, toks := tk } := I.kept fun b o e => Heap.get?_push_of_some _ e
  generalize hh : s.heap.push { cls := .type "range", data := .fields #[.int lo t, .int hi u, .int 1 v] } = h1 at I1
  have hr : IsRange h1 s.heap.objs.size lo hi 1 t u v := by rw [← hh]; exact IsRange.new ..
  have e1 : lo + ((0 : Nat) : Int) * 1 = lo := by simp
  have e2 : (((hi - lo).toNat : Nat) : Int) - ((0 : Nat) : Int) = Builtin.Range.rangeSize lo hi 1 := by rw [rsize_one]; simp
  have fp0 : ∀ b ∈ [h1.objs.size], FpOk X pins H b := fun b hb => by
    obtain rfl : b = h1.objs.size := by simpa using hb
    exact I1.fpOk (s := { s with heap := h1, toks := tk }) (Nat.le_refl _) (I1.hok.fresh (Nat.le_refl _))
  cases hs : Builtin.Range.small lo hi 1 with
  | true =>
    refine wpAny_pyIter_range (s := { s with heap := h1, toks := tk }) hr hs ?_
    refine ⟨h1.objs.size, [h1.objs.size], _, _, H, rfl, I1.kept (t' := tk) fun b o e => Heap.get?_push_of_some _ e, turn_range _ lo (hi - lo).toNat, ?_, fp0, q⟩
    show IsRangeIter _ _ (lo + ((0 : Nat) : Int) * 1) ((((hi - lo).toNat : Nat) : Int) - ((0 : Nat) : Int)) 1
    rw [e1, e2]
    exact Heap.get?_push_size _ rfl
  | false =>
    refine wpAny_pyIter_longrange (s := { s with heap := h1, toks := tk }) hr hs ?_
    refine ⟨h1.objs.size, [h1.objs.size], _, _, H, rfl, I1.kept (t' := tk) fun b o e => Heap.get?_push_of_some _ e, turn_longr _ lo (hi - lo).toNat, ?_, fp0, q⟩
    show IsLongIter _ _ (lo + ((0 : Nat) : Int) * 1) ((((hi - lo).toNat : Nat) : Int) - ((0 : Nat) : Int)) 1
    rw [e1, e2]
    exact Heap.get?_push_size _ rfl
def iRngB (ta : TA) : TI := fun σ H R => ta σ H fun vs H1 => ∃ i j : Int, vs = [.int i, .int j] ∧ R (Itr i (j - i).toNat) H1
theorem pi_rangeB {a b : Expr} {ta : TA} {p pos : Pos} (hg : Gl X "range") (hm : X.mg "range" = none) (ha : PA X [a, b] ta) (hs : starEach [a, b] X.env = [(false, eval a X.env), (false, eval b X.env)] := by rfl) (hs2 : starEach [b] X.env = [(false, eval b X.env)] := by rfl) :
    PI X tg (.Call (.Name "range" p) [a, b] [] pos) (iRngB ta) := by
  refine ⟨fun pins s σ H R I h => ?_⟩
  refine Call_ (ld_blt I hg hm boot_range (PyProof.Rows.callWith_type1 (thn (ha.run pos pins s σ H _ I h) fun us s1 ⟨vs, H1, I1, r1, i, j, e, q⟩ => ?_) (by rw [hs, hs2]) (by rw [hs2]; rfl)))
  subst e
  obtain ⟨u1, u2, rfl, ⟨t, rfl⟩, ⟨t', rfl⟩⟩ := r1.two
  exact call_range_2 (rangeB_it I1 q)
end

/-! ### enumerate(t), t a tuple: each item in a new pair -/
section
variable {prog : Program} {w : World} {A : Around} {E : Value → Shared → Prop} {s : Shared}
theorem enum_new1 (a : Addr) (items : Array Value) : Meets (Builtin.«enumerate.__new__» ⟨[.type "enumerate", .ref a], []⟩) (fun _ Rt st => st.heap.IsTuple a items ∧
      Rt (.ok (.ret (.ref (st.heap.push { cls := .type "tuple_iterator", data := .fields #[.ref a, .int 0 0] }).objs.size)))
        { st with heap := (st.heap.push { cls := .type "tuple_iterator", data := .fields #[.ref a, .int 0 0] }).push { cls := .type "enumerate", data := .fields #[.none, .bool false, .ref st.heap.objs.size, rawInt 0, .none, .none] } }) :=
  .of_wp fun prog w A Rt st h => by
    obtain ⟨hp, g, d, tk, os⟩ := st
    obtain ⟨ht, h⟩ := h
    have hsub := sub_enumerate
    have q1 : ∀ {A' : Around} {E : Value → Shared → Prop} {Q : Value → Shared → Prop}, Q (.ref hp.objs.size) ⟨hp.push { cls := .type "tuple_iterator", data := .fields #[.ref a, .int 0 0] }, g, d, tk, os⟩ → wpAny (model prog w) A' (pyIter (.ref a)) Q E ⟨hp, g, d, tk, os⟩ :=
      fun q => wpAny_pyIter_tuple (s := ⟨hp, g, d, tk, os⟩) ht q
    wp_walk using q1
    refine wpAny_stack_any fun fr => wpAny_pure ?_
    split
    · rename_i c _ _ _ _ _
      cases (c == Value.type "enumerate")
      all_goals (wp_walk using q1; exact ⟨_, rfl, h⟩)
    · wp_walk using q1
      exact ⟨_, rfl, h⟩
theorem call_enum_tup {a : Addr} {items : Array Value} {Q : Value → Shared → Prop} (ht : s.heap.IsTuple a items)
    (h : ∀ h', IsEnum h' (s.heap.objs.size + 1) s.heap.objs.size 0 .none → h'.IsTupleIter s.heap.objs.size a 0 → h'.objs.size = s.heap.objs.size + 2 →
      (∀ b o, s.heap.get? b = some o → h'.get? b = some o) → Q (.ref (s.heap.objs.size + 1)) { s with heap := h' }) :
    wpAny (model prog w) A (call (.type "enumerate") [.ref a]) Q E s := by
  refine callType_new F.called_enumerate (by decide) (F.typeCall_enumerate_1 _) (F.newCall_enumerate_1 _) (fun obj => F.args_object_init_2 obj _) F.entry_enumerate_new (enum_new1 a items) ⟨ht, ?_⟩
  have hz : (s.heap.push { cls := .type "tuple_iterator", data := .fields #[.ref a, .int 0 0] }).objs.size = s.heap.objs.size + 1 := Heap.size_push ..
  generalize hg : s.heap.push { cls := .type "tuple_iterator", data := .fields #[.ref a, .int 0 0] } = h1 at hz
  have hi : h1.get? s.heap.objs.size = some { cls := .type "tuple_iterator", data := .fields #[.ref a, .int 0 0] } := by rw [← hg]; exact Heap.get?_push_size _ rfl
  have hk : ∀ b o, s.heap.get? b = some o → h1.get? b = some o := fun b o x => by rw [← hg]; exact Heap.get?_push_of_some _ x
  show _ ∧ _
  have he := Heap.get?_push_size h1 (o := { cls := .type "enumerate", data := .fields #[.none, .bool false, .ref s.heap.objs.size, rawInt 0, .none, .none] }) rfl
  have hs := Heap.size_push h1 { cls := .type "enumerate", data := .fields #[.none, .bool false, .ref s.heap.objs.size, rawInt 0, .none, .none] }
  have hk2 : ∀ b o, h1.get? b = some o → (h1.push { cls := .type "enumerate", data := .fields #[.none, .bool false, .ref s.heap.objs.size, rawInt 0, .none, .none] }).get? b = some o := fun b o x => Heap.get?_push_of_some _ x
  rw [hz] at he hs
  rw [hz]
  exact ⟨⟨_, he, rfl⟩, h _ he ⟨_, hk2 _ _ hi, rfl, rfl⟩ (by rw [hs]) fun b o x => hk2 b o (hk b o x)⟩
end
def IteT (K : PySem.W.Frag) (a : Addr) : It :=
  ⟨fun i H => ∃ (xs : List V) (x : V), SqT K H a xs ∧ xs[i]? = some x, fun i H v H' => ∃ T x, v = .ref T ∧ H T = none ∧ H' = upd H T (.tup [.int (i : Nat), x]) ∧ ∀ xs, SqT K H a xs → xs[i]? = some x, fun i H => ∃ xs : List V, SqT K H a xs ∧ xs.length = i⟩
theorem turn_enumT {P : Program} {w : World} {K : PySem.W.Frag} {elts : List Expr} {kk : Nat} {tpos : Pos} (a e it : Addr) :
    Turn P w K (.Tuple elts kk tpos) (IteT K a) [e, it] e (fun i h => (∃ old, IsEnum h e it ((i : Nat) : Int) old) ∧ h.IsTupleIter it a i ∧ e ≠ it ∧ a ≠ it ∧ a ≠ e) where
  mem := by simp
  obj := fun i h st b hb => by
    obtain ⟨⟨old, he⟩, ⟨o, ho, hc, hd⟩, _⟩ := st
    rcases (show b = e ∨ b = it by simpa using hb) with rfl | rfl
    · exact ⟨_, he, fun v q => nomatch q⟩
    · exact ⟨o, ho, fun v q => by rw [hd] at q; cases q⟩
  keep := fun i h h' st k => let ⟨⟨old, he⟩, hi, hne⟩ := st; ⟨⟨old, k e (by simp) _ he⟩, hi.at fun o q => k it (by simp) o q, hne⟩
  item := by
    intro X hP hw hK hc i pins s σ H E I hf st hg
    subst hP hw hK
    obtain ⟨⟨old, he⟩, hit, hne, hai, hae⟩ := st
    obtain ⟨xs, x, hq, hx⟩ := hg
    obtain ⟨its, rv, p, hz⟩ := I.tuple hq
    obtain ⟨u, hu, ru⟩ := rv.get hx
    have hu' : its.toArray[i]? = some u := by simpa using hu
    have hlt : i < its.toArray.size := (Array.getElem?_eq_some_iff.mp hu').1
    have hh2 : X.A.in1.in1.handled = none := I.ok.hd hc
    have D := Draws.tuple (prog := X.prog) (w := X.w) (A := X.A.in1) hh2 it a hai its.toArray
    have hel : e < s.heap.objs.size := Heap.lt_size he
    have hil : it < s.heap.objs.size := by obtain ⟨_, q, _⟩ := hit; exact Heap.lt_size q
    refine wpAny_pyNext_enum_itemD D he ⟨hit, p⟩ hlt hne (by simp [hne, hae.symm]) fun y h' tk hy ho hst' hT hsz hk => ?_
    obtain rfl : u = y := Option.some.inj (hu'.symm.trans hy)
    refine ⟨_, rfl, wpAny_letOwnedTupleGo_enum (s := { s with heap := h', toks := tk + 1 }) ho fun h'' he' sb => ?_⟩
    have hT2 := (sb.2 s.heap.objs.size (Nat.ne_of_gt hel)).trans hT
    have new : ObjOk X.prog X.w (upd H s.heap.objs.size (.tup [.int (i : Nat), x])) h'' s.heap.objs.size (.tup [.int (i : Nat), x]) :=
      ⟨by show 2 ≤ sizeLine; decide, [.int i tk, u], .cons ⟨_, rfl⟩ (.cons ru .nil), ⟨_, hT2, rfl, _, rfl⟩⟩
    have I1 := I.turnedNew (h' := h'') (t' := tk + 1) (ch := [e, it]) (fun b ob hb q => (sb.2 b (fun z => hb (by simp [z]))).trans (hk b ob (fun z => hb (by simp [z])) (fun z => hb (by simp [z])) q)) hf (Nat.le_refl _) new
    refine ⟨.ref s.heap.objs.size, _, I1, rfl, ⟨_, x, rfl, I.hok.fresh (Nat.le_refl _), rfl, fun ys hy => by rw [I.tuple_inj hy hq]; exact hx⟩, ⟨⟨u, ?_⟩, hst'.1.at fun o q => (sb.2 it (Ne.symm hne)).trans q, hne, hai, hae⟩, fun b hb => ?_⟩
    · rw [show ((i + 1 : Nat) : Int) = (i : Int) + 1 by omega]; exact he'
    · have hb' : b < s.heap.objs.size := by
        rcases (show b = e ∨ b = it by simpa using hb) with rfl | rfl
        · exact hel
        · exact hil
      rw [upd_ne (Nat.ne_of_lt hb')]
      exact (hf b hb).1
  done := by
    intro X hP hw hK hc i pins s σ H E I hf st hg
    subst hP hw hK
    obtain ⟨⟨old, he⟩, hit, hne, hai, hae⟩ := st
    obtain ⟨xs, hq, hx⟩ := hg
    obtain ⟨its, rv, p, hz⟩ := I.tuple hq
    have hh2 : X.A.in1.in1.handled = none := I.ok.hd hc
    have hl := rv.length
    obtain ⟨f0, f1, f2, f3, f4, f5⟩ := hf it (by simp)
    have D := Draws.tuple (prog := X.prog) (w := X.w) (A := X.A.in1) hh2 it a hai its.toArray
    have hn : its.toArray.size = i := by rw [List.size_toArray, ← hl, hx]
    have hst : s.heap.IsTupleIter it a its.toArray.size ∧ s.heap.IsTuple a its.toArray := ⟨by rw [hn]; exact hit, p⟩
    exact wpAny_pyNext_enum_endD D he hst fun h' eb => ⟨rfl, I.turned (t' := s.toks) (fun b o hb q => eb b o hb q) f0 f1 f3 f4 f5⟩
  self := fun A i s Q E st h => let ⟨⟨_, he⟩, _⟩ := st; wpAny_pyIter_enum he h

def iEnumT (K : PySem.W.Frag) (ta : TA) : TI := fun σ H R => ta σ H fun vs H1 => ∃ a xs, vs = [.ref a] ∧ ((SqL K H1 a xs ∧ R (Ite K a) H1) ∨ (SqT K H1 a xs ∧ R (IteT K a) H1))
theorem pi_enumT {X : Cx} {e : Expr} {ta : TA} {p pos tpos : Pos} {elts : List Expr} {kk : Nat} (hg : Gl X "enumerate") (hm : X.mg "enumerate" = none) (ha : PA X [e] ta) (hs : starEach [e] X.env = [(false, eval e X.env)] := by rfl) :
    PI X (.Tuple elts kk tpos) (.Call (.Name "enumerate" p) [e] [] pos) (iEnumT X.K ta) := by
  refine ⟨fun pins s σ H R I h => ?_⟩
  refine Call_ (ld_blt I hg hm boot_enumerate (PyProof.Rows.callWith_type1 (thn (ha.run pos pins s σ H _ I h) fun us s1 ⟨vs, H1, I1, r1, a, xs, ex, q1⟩ => ?_) hs rfl))
  subst ex
  obtain ⟨u, rfl, ru⟩ := vals1 r1
  cases ru
  have hfp : ∀ b ∈ [s1.heap.objs.size + 1, s1.heap.objs.size], FpOk X pins H1 b := fun b hb => by
    have hle : s1.heap.objs.size ≤ b := by
      rcases (show b = s1.heap.objs.size + 1 ∨ b = s1.heap.objs.size by simpa using hb) with rfl | rfl
      · exact Nat.le_add_right _ _
      · exact Nat.le_refl _
    exact I1.fpOk hle (I1.hok.fresh hle)
  rcases q1 with ⟨hq, q⟩ | ⟨hq, q⟩
  · obtain ⟨its, rv, p', hz⟩ := I1.list hq
    refine call_enumerate_list p'.isList fun h' he hit hsz hk => wpAny_pyIter_enum he ?_
    exact ⟨s1.heap.objs.size + 1, [s1.heap.objs.size + 1, s1.heap.objs.size], _, _, H1, rfl, I1.kept (t' := s1.toks) hk, turn_enum a (s1.heap.objs.size + 1) s1.heap.objs.size, ⟨⟨.none, he⟩, hit, Nat.succ_ne_self _⟩, hfp, q⟩
  · obtain ⟨its, rv, p', hz⟩ := I1.tuple hq
    have ha0 : a < s1.heap.objs.size := p'.lt
    refine call_enum_tup (show s1.heap.IsTuple a its.toArray from p') fun h' he hit hsz hk => wpAny_pyIter_enum he ?_
    exact ⟨s1.heap.objs.size + 1, [s1.heap.objs.size + 1, s1.heap.objs.size], _, _, H1, rfl, I1.kept (t' := s1.toks) hk, turn_enumT a (s1.heap.objs.size + 1) s1.heap.objs.size, ⟨⟨.none, he⟩, hit, Nat.succ_ne_self _, Nat.ne_of_lt ha0, Nat.ne_of_lt (Nat.lt_succ_of_lt ha0)⟩, hfp, q⟩
theorem walk_enumT {K : PySem.W.Frag} {a : Addr} {xs : List V} : Walk (IteT K a) xs.length (fun H => SqT K H a xs) (YPair (fun i => some (.int (i : Nat))) (fun i => xs[i]?)) := by
  refine ⟨fun i _ hi q => ⟨xs, xs[i], q, by simp [hi]⟩, fun _ q => ⟨xs, q, rfl⟩, fun i H v H' _ q y => ?_⟩
  obtain ⟨T, x, h1, h2, h3, h4⟩ := y
  exact ⟨T, .int (i : Nat), x, h1, h2, h3, rfl, h4 xs q⟩

/-! ### sorted(d), d a dict whose keys are ints, of any length -/
section
variable {X : Cx}
theorem cr_sortedDI (hcalm : X.calm = true) : CallR X (.builtin "sorted") (fun xs H Q => ∃ (a : Addr) (kvs : List (Key × V)) (ks : List Int), xs = [.ref a] ∧ Rd H a (.dK kvs) ∧ kvs.map (·.1) = ks.map Sum.inl ∧
    ∀ (ys : List Int) (p : Addr), ys.Perm ks → ys.Pairwise (· ≤ ·) → H p = none → Q (.ref p) (upd H p (.lst (ys.map V.int)))) := by
  intro pins s σ H xs us Q I r ⟨a, kvs, ks, ex, hd, hks, q⟩
  subst ex
  obtain ⟨u, rfl, rx⟩ := vals1 r
  cases rx
  obtain ⟨hzk, lo, vs, rel, dd⟩ := dk_rd I.hok hd
  obtain ⟨ep, hat⟩ := dd.dictAt
  have hkeys : vs.map (·.1) = ks.map Sum.inl := rel.keys.symm.trans hks
  have hl : vs.length = ks.length := by simpa using congrArg List.length hkeys
  have hl2 : kvs.length = ks.length := by simpa using congrArg List.length hks
  have h16 : vs.length ≤ sizeLine := by rw [hl, ← hl2]; exact hzk
  refine Calls.call_function_entry PyProof.Rows.kind_sorted PyProof.Rows.plain_sorted PyProof.Rows.entry_sorted (PyProof.Rows.args_sorted1 _) ?_
  unfold Builtin.«sorted»
  refine wpAny_bind (m := checkCount "sorted" 1 1 _) (wpAny_pure ?_)
  refine wpAny_bind (PySem.W.kdu_collect (A := X.A.in1) (PySem.W.kdl_dict (knd := mixKind X.prog X.w) (kvs := vs) (ep := ep) lo) (I.ok.hd hcalm) hat h16 fun h' tk acc hk hacc => ?_)
  have hal : acc.toList.length = ks.length := by rw [Array.length_toList, hacc.1, hl]
  have hS : IntsAre acc.toList ks := ints_each hal fun j v e => by
    obtain ⟨k, x, e1, e2⟩ := hacc.2 j v (by simpa using e)
    have e3 : (vs.map (·.1))[j]? = some k := by simp [e1]
    rw [hkeys, List.getElem?_map] at e3
    obtain ⟨y, e4, rfl⟩ := Option.map_eq_some_iff.mp e3
    rcases keyIs_shape (show keyIs (Sum.inl y) v = true from e2) with ⟨i, t, ek, ev⟩ | ⟨z, t, ek, ev⟩
    · cases ek
      exact ⟨y, t, e4, ev⟩
    · cases ek
  have I1 : Inv X pins σ H { s with heap := h', toks := tk } := I.kept hk
  have hza : acc.toList.length ≤ sizeLine := by rw [hal, ← hl2]; exact hzk
  refine wpAny_bind (wpAny_newList ?_ hza)
  have hoL : (h'.push (seqObj "list" acc.toList.toArray 0)).get? h'.objs.size = some (seqObj "list" acc.toList.toArray 0) := Heap.get?_push_size _ rfl
  show wpAny _ _ _ _ _ { s with heap := h'.push (seqObj "list" acc.toList.toArray 0), toks := tk }
  refine wpAny_bind (wpAny_holding (wpAny_call_entry PyProof.Rows.slot_list_sort ⟨_, hoL, rfl⟩ PyProof.Rows.entry_list_sort
    (SrtO.list_sort_ord (s := { s with heap := h'.push (seqObj "list" acc.toList.toArray 0), toks := tk }) SrtO.swo_int hoL hza (fun h2 => SrtO.ints_sortable hS h2) fun out h1 h2 => ⟨_, rfl, ?_⟩) (PyProof.Rows.args_list_sort _)))
  obtain ⟨g1, g2, g3⟩ := SrtO.ints_out hS h1 h2
  obtain ⟨e', he'⟩ := PyProof.Rows.sortedHeap_at (vs := acc.toList) (out := out.toArray) hoL
  have hlen : ((out.map SrtO.iv).map V.int).length ≤ sizeLine := by
    rw [List.length_map, g2.length_eq, ← hl2]
    exact hzk
  refine wpAny_pure ⟨_, rfl, .ref h'.objs.size, upd H h'.objs.size (.lst ((out.map SrtO.iv).map V.int)), I1.laid (t' := tk) (fun b u e => ?_) (Nat.le_refl _)
    (show ObjOk X.prog X.w _ _ _ (.lst ((out.map SrtO.iv).map V.int)) from ⟨hlen, out, e', vals_of_ints g1, he'⟩), rfl, q _ _ g2 g3 (I1.hok.fresh (Nat.le_refl _))⟩
  have hb : b < h'.objs.size := Heap.lt_size e
  rw [PyProof.Rows.sortedHeap_old (Nat.ne_of_lt hb) (by rw [size_push']; exact Nat.lt_succ_of_lt hb)]
  exact Heap.get?_push_of_some _ e
end

/-! ### min and max of a list of ints, default= -/

section
variable {prog : Program} {w : World} {A : Around} {R : Result → Shared → Prop} {I : Addr} {fp wr : List Addr} {n : Nat} {P : Nat → Value → Prop} {St : Nat → Heap → Prop}
abbrev kwD (d : Value) : List (Str × Value) := [(Str.ofString "default", d)]
theorem maxd_loop (d : Value) (W : Walks prog w A.in1 I fp wr n P St) (bt : Nat → Nat → Bool) (hc : CmpOf prog w A.in1 .Gt P bt) (S : Addr) (nS : S ∉ fp) (r : Nat) : ∀ (j : Nat) (s : Shared) (vb : Value) (c : Nat), n = j + 1 + r → St (j + 1) s.heap → P (argBest bt j) vb →
    s.heap.get? S = some (seqObj "list" #[vb, vb] c) → (∀ v h' tk, P (argBest bt (n - 1)) v → (∀ b o, b ∉ wr → b ≠ S → s.heap.get? b = some o → h'.get? b = some o) → R (.ok (.ret v)) { s with heap := h', toks := tk }) →
    codeAny (model prog w) A (.builtin "max.loop" ⟨[.ref I, .none, .ref S], kwD d⟩) R s := by
  have hw : S ∉ wr := fun h => nS (W.sub _ h)
  have nm : (toString "max" ++ toString ".loop" : String) = "max.loop" := by decide
  have oth : ∀ (h : Heap) (f : Obj → Obj) (b : Addr), b ≠ S → (h.update S f).get? b = h.get? b := fun h f b hb => Heap.get?_update_other _ _ (Ne.symm hb)
  induction r with
  | zero =>
    intro j s vb c hn st pb hS done
    refine codeAny_builtin PySem.F.entry_max_loop ?_
    rw [Around.under_plainId PySem.F.plain_max_loop _]
    show wpAny _ A.in1 (seqItems? (.ref S) >>= _) _ _ s
    refine wpAny_bind (wpAny_seqItems hS rfl ?_)
    show wpAny _ A.in1 (tryCatch (pyNext (.ref I)) _ >>= _) _ _ s
    refine wpAny_bind (wpAny_tryCatch (W.done s _ _ (by rw [hn]; exact st) fun h1 t1 k1 => ?_))
    show wpAny _ A.in1 (updateSeq S (fun _ => #[]) >>= _) _ _ _
    refine wpAny_bind (wpAny_updateSeq (k1 S _ hw hS) rfl (wpAny_bind (wpAny_letGo (wpAny_pure (done vb _ t1 ?_ ?_)))))
    · rw [hn]; exact pb
    · exact fun b o nb nbS e => (oth _ _ b nbS).trans (k1 b o nb e)
  | succ r ih =>
    intro j s vb c hn st pb hS done
    refine codeAny_builtin PySem.F.entry_max_loop ?_
    rw [Around.under_plainId PySem.F.plain_max_loop _]
    show wpAny _ A.in1 (seqItems? (.ref S) >>= _) _ _ s
    refine wpAny_bind (wpAny_seqItems hS rfl ?_)
    show wpAny _ A.in1 (tryCatch (pyNext (.ref I)) _ >>= _) _ _ s
    refine wpAny_bind (wpAny_tryCatch (W.item (j + 1) s _ _ (by omega) st fun v h1 t1 pv st1 k1 => ?_))
    have hS1 := k1 S _ hw hS
    show wpAny _ A.in1 (tryCatch (holding [v, v] (richCompare .Gt v vb >>= _)) _ >>= _) _ _ _
    refine wpAny_bind (wpAny_tryCatch (wpAny_holding (wpAny_bind (hc (j + 1) (argBest bt j) v vb _ _ _ pv pb (wpAny_bind (wpAny_holding (wpAny_truthy_bool (wpAny_bind (wpAny_letGo (wpAny_pure ?_))))))))))
    cases hb : bt (j + 1) (argBest bt j) with
    | true =>
      simp only [if_true]
      refine wpAny_bind (wpAny_updateSeq hS1 rfl (wpAny_bind (wpAny_letGo ?_)))
      rw [nm]
      refine wpAny_pure ⟨plainId_quiet PySem.F.plain_max_loop _, ih (j + 1) _ v _ (by omega) (W.frame _ _ _ st1 fun b hf o e => (oth _ _ b fun z => nS (z ▸ hf)).trans e) ?_ (Heap.get?_update_self _ hS1 rfl) fun v' h2 t2 p2 k2 => ?_⟩
      · simp only [argBest, hb, if_true]; exact pv
      · exact done v' h2 t2 p2 fun b o nb nbS e => k2 b o nb nbS ((oth _ _ b nbS).trans (k1 b o nb e))
    | false =>
      simp only [Bool.false_eq_true, if_false]
      refine wpAny_bind (wpAny_letGo ?_)
      rw [nm]
      refine wpAny_pure ⟨plainId_quiet PySem.F.plain_max_loop _, ih (j + 1) _ vb c (by omega) st1 ?_ hS1 fun v' h2 t2 p2 k2 => ?_⟩
      · simp only [argBest, hb, Bool.false_eq_true, if_false]; exact pb
      · exact done v' h2 t2 p2 fun b o nb nbS e => k2 b o nb nbS (k1 b o nb e)
theorem maxd_first (d : Value) (W : Walks prog w A.in1 I fp wr n P St) (bt : Nat → Nat → Bool) (hc : CmpOf prog w A.in1 .Gt P bt) (S : Addr) (nS : S ∉ fp) {s : Shared} {c : Nat} (st : St 0 s.heap)
    (hS : s.heap.get? S = some (seqObj "list" #[] c)) (done : ∀ v h' tk, (n = 0 ∧ v = d ∨ 0 < n ∧ P (argBest bt (n - 1)) v) → (∀ b o, b ∉ wr → b ≠ S → s.heap.get? b = some o → h'.get? b = some o) → R (.ok (.ret v)) { s with heap := h', toks := tk }) :
    codeAny (model prog w) A (.builtin "max.loop" ⟨[.ref I, .none, .ref S], kwD d⟩) R s := by
  have hw : S ∉ wr := fun h => nS (W.sub _ h)
  have nm : (toString "max" ++ toString ".loop" : String) = "max.loop" := by decide
  have oth : ∀ (h : Heap) (f : Obj → Obj) (b : Addr), b ≠ S → (h.update S f).get? b = h.get? b := fun h f b hb => Heap.get?_update_other _ _ (Ne.symm hb)
  refine codeAny_builtin PySem.F.entry_max_loop ?_
  rw [Around.under_plainId PySem.F.plain_max_loop _]
  show wpAny _ A.in1 (seqItems? (.ref S) >>= _) _ _ s
  refine wpAny_bind (wpAny_seqItems hS rfl ?_)
  show wpAny _ A.in1 (tryCatch (pyNext (.ref I)) _ >>= _) _ _ s
  rcases Nat.eq_zero_or_pos n with h0 | h0
  · refine wpAny_bind (wpAny_tryCatch (W.done s _ _ (by rw [h0]; exact st) fun h1 t1 k1 => ?_))
    show wpAny _ A.in1 (rule _ >>= _) _ _ _
    exact wpAny_bind (wpAny_rule (wpAny_pure (done d h1 t1 (.inl ⟨h0, rfl⟩) fun b o nb _ e => k1 b o nb e)))
  · refine wpAny_bind (wpAny_tryCatch (W.item 0 s _ _ h0 st fun v h1 t1 pv st1 k1 => ?_))
    show wpAny _ A.in1 (updateSeq S (fun _ => #[v, v]) >>= _) _ _ _
    have hS1 := k1 S _ hw hS
    refine wpAny_bind (wpAny_updateSeq hS1 rfl ?_)
    rw [nm]
    refine wpAny_pure ⟨plainId_quiet PySem.F.plain_max_loop _, maxd_loop d W bt hc S nS (n - 1) 0 _ v _ (by omega) (W.frame _ _ _ st1 fun b hf o e => (oth _ _ b fun z => nS (z ▸ hf)).trans e) pv (Heap.get?_update_self _ hS1 rfl) fun v' h2 t2 p2 k2 => ?_⟩
    exact done v' h2 t2 (.inr ⟨h0, p2⟩) fun b o nb nbS e => k2 b o nb nbS ((oth _ _ b nbS).trans (k1 b o nb e))
theorem args_maxd (a v : Value) : argsOk "max" ⟨[a], kwD v⟩ := by unfold argsOk; kernel_rfl
theorem call_maxd {l : Addr} {vs : List Value} {ns : List Int} {d : Value} {s : Shared} {E : Value → Shared → Prop} {Q : Value → Shared → Prop} (hh : A.handled = none) (hl : s.heap.IsList l vs.toArray) (hi : IntsAre vs ns)
    (h0 : ns = [] → ∀ h' tk, (∀ b o, s.heap.get? b = some o → h'.get? b = some o) → Q d { s with heap := h', toks := tk })
    (h1 : ∀ m t h' tk, m ∈ ns → (∀ y ∈ ns, y ≤ m) → (∀ b o, s.heap.get? b = some o → h'.get? b = some o) → Q (.int m t) { s with heap := h', toks := tk }) :
    wpAny (model prog w) A (call (.builtin "max") [.ref l] (kwD d)) Q E s := by
  have nm : (toString "max" ++ toString ".loop" : String) = "max.loop" := by decide
  obtain ⟨xs, e⟩ := hi.allInts.items
  have hns : ns = xs.toList.map (·.1) := by rw [← hi.numsOf, ← nums_intItems, ← e]
  have hsz : ns.length = xs.size := by rw [hns, List.length_map, Array.length_toList]
  rw [e] at hl
  refine kmk_tree PySem.F.kind_max PySem.F.plain_max PySem.F.entry_max (args_maxd _ _) ?_
  show wpAny _ A.in1 (Builtin.Builtins.bindParams "max" ["key", "default"] 0 ⟨[], kwD d⟩ >>= _) _ _ s
  refine wpAny_bind (wpAny_of_eq (show Builtin.Builtins.bindParams "max" ["key", "default"] 0 ⟨[], kwD d⟩ = pure [none, some d] from rfl) (wpAny_bind (wpAny_pure ?_)))
  refine wpAny_bind (iter_intList hl fun s2 e2 st hfp hlI => ?_)
  refine wpAny_bind (wpAny_newObj_type ?_)
  rw [nm]
  have W := Walks.list (prog := prog) (w := w) (A := A.in1) hh s.heap.objs.size l hlI (intItems xs)
  have nS : s2.heap.objs.size ∉ [s.heap.objs.size, l] := fun hm => Nat.lt_irrefl _ (hfp _ hm)
  subst e2
  refine wpAny_pure ⟨plainId_quiet PySem.F.plain_max_loop _, maxd_first d W _ (CmpOf.ints_gt (numAt xs) fun _ _ => intItems_at) _ nS (W.frame _ _ _ st fun b _ o e => Heap.get?_push_of_some _ e) (Heap.get?_push_size _ rfl) fun v h' tk hv hk => ?_⟩
  have hold : ∀ b o, s.heap.get? b = some o → h'.get? b = some o := fun b o e => by
    have hb := Heap.lt_size e
    refine hk b o ?_ ?_ (Heap.get?_push_of_some _ (Heap.get?_push_of_some _ e))
    · intro z
      obtain rfl : b = s.heap.objs.size := by simpa using z
      exact Nat.lt_irrefl _ hb
    · rw [show (Heap.push s.heap { cls := Value.type "list_iterator", data := Data.fields #[Value.ref l, Value.int 0 0] }).objs.size = s.heap.objs.size + 1 from Heap.size_push ..]
      exact Nat.ne_of_lt (Nat.lt_succ_of_lt hb)
  have hz : (intItems xs).size = xs.size := by simp [intItems]
  rcases hv with ⟨z, rfl⟩ | ⟨z, hv⟩
  · exact h0 (List.length_eq_zero_iff.mp (by rw [hsz, ← hz, z])) h' tk hold
  · obtain ⟨t, rfl⟩ := intItems_at hv
    obtain ⟨a1, a2⟩ := argBest_gt (numAt xs) ((intItems xs).size - 1)
    refine h1 _ t h' tk ?_ (fun y hy => ?_) hold
    · rw [numAt_eq, ← hns]
      exact PySem.getD_mem (by rw [hsz, ← hz]; exact Nat.lt_of_le_of_lt a1 (by omega))
    · obtain ⟨j, hj, rfl⟩ := PySem.mem_getD hy
      have q := a2 j (by omega)
      rw [numAt_eq xs j, ← hns] at q
      exact q
def rmaxd (K : PySem.W.Frag) : List V → List V → Hp → VK → Prop := fun vs zs H Q => ∃ (a : Addr) (ns : List Int) (d : V), vs = [V.ref a] ∧ zs = [d] ∧ SqL K H a (ns.map V.int) ∧ (ns = [] → Q d H) ∧ ∀ m, m ∈ ns → (∀ y ∈ ns, y ≤ m) → Q (.int m) H
theorem cr_maxd {X : Cx} (hc : X.calm = true) : CallRK X (.builtin "max") [Str.ofString "default"] (rmaxd X.K) := by
  intro pins s σ H vs zs us ws Q I r rz ⟨a, ns, d, ev, ez, hs, q0, q1⟩
  subst ev ez
  obtain rfl := Vals.ref1 r
  obtain ⟨dv, rfl, rd⟩ := vals1 rz
  obtain ⟨its, rv, hl, _⟩ := I.list hs
  exact call_maxd (I.ok.hd hc) hl.isList rv.ints (fun e h' tk hk => ⟨d, H, I.kept hk, rd, q0 e⟩) fun m t h' tk hm hle hk => ⟨.int m, H, I.kept hk, ⟨t, rfl⟩, q1 m hm hle⟩
end

section
variable {prog : Program} {w : World} {A : Around} {R : Result → Shared → Prop} {I : Addr} {fp wr : List Addr} {n : Nat} {P : Nat → Value → Prop} {St : Nat → Heap → Prop}
theorem mind_loop (d : Value) (W : Walks prog w A.in1 I fp wr n P St) (bt : Nat → Nat → Bool) (hc : CmpOf prog w A.in1 .Lt P bt) (S : Addr) (nS : S ∉ fp) (r : Nat) : ∀ (j : Nat) (s : Shared) (vb : Value) (c : Nat), n = j + 1 + r → St (j + 1) s.heap → P (argBest bt j) vb →
    s.heap.get? S = some (seqObj "list" #[vb, vb] c) → (∀ v h' tk, P (argBest bt (n - 1)) v → (∀ b o, b ∉ wr → b ≠ S → s.heap.get? b = some o → h'.get? b = some o) → R (.ok (.ret v)) { s with heap := h', toks := tk }) →
    codeAny (model prog w) A (.builtin "min.loop" ⟨[.ref I, .none, .ref S], kwD d⟩) R s := by
  have hw : S ∉ wr := fun h => nS (W.sub _ h)
  have nm : (toString "min" ++ toString ".loop" : String) = "min.loop" := by decide
  have oth : ∀ (h : Heap) (f : Obj → Obj) (b : Addr), b ≠ S → (h.update S f).get? b = h.get? b := fun h f b hb => Heap.get?_update_other _ _ (Ne.symm hb)
  induction r with
  | zero =>
    intro j s vb c hn st pb hS done
    refine codeAny_builtin PySem.F.entry_min_loop ?_
    rw [Around.under_plainId PySem.F.plain_min_loop _]
    show wpAny _ A.in1 (seqItems? (.ref S) >>= _) _ _ s
    refine wpAny_bind (wpAny_seqItems hS rfl ?_)
    show wpAny _ A.in1 (tryCatch (pyNext (.ref I)) _ >>= _) _ _ s
    refine wpAny_bind (wpAny_tryCatch (W.done s _ _ (by rw [hn]; exact st) fun h1 t1 k1 => ?_))
    show wpAny _ A.in1 (updateSeq S (fun _ => #[]) >>= _) _ _ _
    refine wpAny_bind (wpAny_updateSeq (k1 S _ hw hS) rfl (wpAny_bind (wpAny_letGo (wpAny_pure (done vb _ t1 ?_ ?_)))))
    · rw [hn]; exact pb
    · exact fun b o nb nbS e => (oth _ _ b nbS).trans (k1 b o nb e)
  | succ r ih =>
    intro j s vb c hn st pb hS done
    refine codeAny_builtin PySem.F.entry_min_loop ?_
    rw [Around.under_plainId PySem.F.plain_min_loop _]
    show wpAny _ A.in1 (seqItems? (.ref S) >>= _) _ _ s
    refine wpAny_bind (wpAny_seqItems hS rfl ?_)
    show wpAny _ A.in1 (tryCatch (pyNext (.ref I)) _ >>= _) _ _ s
    refine wpAny_bind (wpAny_tryCatch (W.item (j + 1) s _ _ (by omega) st fun v h1 t1 pv st1 k1 => ?_))
    have hS1 := k1 S _ hw hS
    show wpAny _ A.in1 (tryCatch (holding [v, v] (richCompare .Lt v vb >>= _)) _ >>= _) _ _ _
    refine wpAny_bind (wpAny_tryCatch (wpAny_holding (wpAny_bind (hc (j + 1) (argBest bt j) v vb _ _ _ pv pb (wpAny_bind (wpAny_holding (wpAny_truthy_bool (wpAny_bind (wpAny_letGo (wpAny_pure ?_))))))))))
    cases hb : bt (j + 1) (argBest bt j) with
    | true =>
      simp only [if_true]
      refine wpAny_bind (wpAny_updateSeq hS1 rfl (wpAny_bind (wpAny_letGo ?_)))
      rw [nm]
      refine wpAny_pure ⟨plainId_quiet PySem.F.plain_min_loop _, ih (j + 1) _ v _ (by omega) (W.frame _ _ _ st1 fun b hf o e => (oth _ _ b fun z => nS (z ▸ hf)).trans e) ?_ (Heap.get?_update_self _ hS1 rfl) fun v' h2 t2 p2 k2 => ?_⟩
      · simp only [argBest, hb, if_true]; exact pv
      · exact done v' h2 t2 p2 fun b o nb nbS e => k2 b o nb nbS ((oth _ _ b nbS).trans (k1 b o nb e))
    | false =>
      simp only [Bool.false_eq_true, if_false]
      refine wpAny_bind (wpAny_letGo ?_)
      rw [nm]
      refine wpAny_pure ⟨plainId_quiet PySem.F.plain_min_loop _, ih (j + 1) _ vb c (by omega) st1 ?_ hS1 fun v' h2 t2 p2 k2 => ?_⟩
      · simp only [argBest, hb, Bool.false_eq_true, if_false]; exact pb
      · exact done v' h2 t2 p2 fun b o nb nbS e => k2 b o nb nbS (k1 b o nb e)
theorem mind_first (d : Value) (W : Walks prog w A.in1 I fp wr n P St) (bt : Nat → Nat → Bool) (hc : CmpOf prog w A.in1 .Lt P bt) (S : Addr) (nS : S ∉ fp) {s : Shared} {c : Nat} (st : St 0 s.heap)
    (hS : s.heap.get? S = some (seqObj "list" #[] c)) (done : ∀ v h' tk, (n = 0 ∧ v = d ∨ 0 < n ∧ P (argBest bt (n - 1)) v) → (∀ b o, b ∉ wr → b ≠ S → s.heap.get? b = some o → h'.get? b = some o) → R (.ok (.ret v)) { s with heap := h', toks := tk }) :
    codeAny (model prog w) A (.builtin "min.loop" ⟨[.ref I, .none, .ref S], kwD d⟩) R s := by
  have hw : S ∉ wr := fun h => nS (W.sub _ h)
  have nm : (toString "min" ++ toString ".loop" : String) = "min.loop" := by decide
  have oth : ∀ (h : Heap) (f : Obj → Obj) (b : Addr), b ≠ S → (h.update S f).get? b = h.get? b := fun h f b hb => Heap.get?_update_other _ _ (Ne.symm hb)
  refine codeAny_builtin PySem.F.entry_min_loop ?_
  rw [Around.under_plainId PySem.F.plain_min_loop _]
  show wpAny _ A.in1 (seqItems? (.ref S) >>= _) _ _ s
  refine wpAny_bind (wpAny_seqItems hS rfl ?_)
  show wpAny _ A.in1 (tryCatch (pyNext (.ref I)) _ >>= _) _ _ s
  rcases Nat.eq_zero_or_pos n with h0 | h0
  · refine wpAny_bind (wpAny_tryCatch (W.done s _ _ (by rw [h0]; exact st) fun h1 t1 k1 => ?_))
    show wpAny _ A.in1 (rule _ >>= _) _ _ _
    exact wpAny_bind (wpAny_rule (wpAny_pure (done d h1 t1 (.inl ⟨h0, rfl⟩) fun b o nb _ e => k1 b o nb e)))
  · refine wpAny_bind (wpAny_tryCatch (W.item 0 s _ _ h0 st fun v h1 t1 pv st1 k1 => ?_))
    show wpAny _ A.in1 (updateSeq S (fun _ => #[v, v]) >>= _) _ _ _
    have hS1 := k1 S _ hw hS
    refine wpAny_bind (wpAny_updateSeq hS1 rfl ?_)
    rw [nm]
    refine wpAny_pure ⟨plainId_quiet PySem.F.plain_min_loop _, mind_loop d W bt hc S nS (n - 1) 0 _ v _ (by omega) (W.frame _ _ _ st1 fun b hf o e => (oth _ _ b fun z => nS (z ▸ hf)).trans e) pv (Heap.get?_update_self _ hS1 rfl) fun v' h2 t2 p2 k2 => ?_⟩
    exact done v' h2 t2 (.inr ⟨h0, p2⟩) fun b o nb nbS e => k2 b o nb nbS ((oth _ _ b nbS).trans (k1 b o nb e))
theorem args_mind (a v : Value) : argsOk "min" ⟨[a], kwD v⟩ := by unfold argsOk; kernel_rfl
theorem call_mind {l : Addr} {vs : List Value} {ns : List Int} {d : Value} {s : Shared} {E : Value → Shared → Prop} {Q : Value → Shared → Prop} (hh : A.handled = none) (hl : s.heap.IsList l vs.toArray) (hi : IntsAre vs ns)
    (h0 : ns = [] → ∀ h' tk, (∀ b o, s.heap.get? b = some o → h'.get? b = some o) → Q d { s with heap := h', toks := tk })
    (h1 : ∀ m t h' tk, m ∈ ns → (∀ y ∈ ns, m ≤ y) → (∀ b o, s.heap.get? b = some o → h'.get? b = some o) → Q (.int m t) { s with heap := h', toks := tk }) :
    wpAny (model prog w) A (call (.builtin "min") [.ref l] (kwD d)) Q E s := by
  have nm : (toString "min" ++ toString ".loop" : String) = "min.loop" := by decide
  obtain ⟨xs, e⟩ := hi.allInts.items
  have hns : ns = xs.toList.map (·.1) := by rw [← hi.numsOf, ← nums_intItems, ← e]
  have hsz : ns.length = xs.size := by rw [hns, List.length_map, Array.length_toList]
  rw [e] at hl
  refine kmk_tree PySem.F.kind_min PySem.F.plain_min PySem.F.entry_min (args_mind _ _) ?_
  show wpAny _ A.in1 (Builtin.Builtins.bindParams "min" ["key", "default"] 0 ⟨[], kwD d⟩ >>= _) _ _ s
  refine wpAny_bind (wpAny_of_eq (show Builtin.Builtins.bindParams "min" ["key", "default"] 0 ⟨[], kwD d⟩ = pure [none, some d] from rfl) (wpAny_bind (wpAny_pure ?_)))
  refine wpAny_bind (iter_intList hl fun s2 e2 st hfp hlI => ?_)
  refine wpAny_bind (wpAny_newObj_type ?_)
  rw [nm]
  have W := Walks.list (prog := prog) (w := w) (A := A.in1) hh s.heap.objs.size l hlI (intItems xs)
  have nS : s2.heap.objs.size ∉ [s.heap.objs.size, l] := fun hm => Nat.lt_irrefl _ (hfp _ hm)
  subst e2
  refine wpAny_pure ⟨plainId_quiet PySem.F.plain_min_loop _, mind_first d W _ (CmpOf.ints_lt (numAt xs) fun _ _ => intItems_at) _ nS (W.frame _ _ _ st fun b _ o e => Heap.get?_push_of_some _ e) (Heap.get?_push_size _ rfl) fun v h' tk hv hk => ?_⟩
  have hold : ∀ b o, s.heap.get? b = some o → h'.get? b = some o := fun b o e => by
    have hb := Heap.lt_size e
    refine hk b o ?_ ?_ (Heap.get?_push_of_some _ (Heap.get?_push_of_some _ e))
    · intro z
      obtain rfl : b = s.heap.objs.size := by simpa using z
      exact Nat.lt_irrefl _ hb
    · rw [show (Heap.push s.heap { cls := Value.type "list_iterator", data := Data.fields #[Value.ref l, Value.int 0 0] }).objs.size = s.heap.objs.size + 1 from Heap.size_push ..]
      exact Nat.ne_of_lt (Nat.lt_succ_of_lt hb)
  have hz : (intItems xs).size = xs.size := by simp [intItems]
  rcases hv with ⟨z, rfl⟩ | ⟨z, hv⟩
  · exact h0 (List.length_eq_zero_iff.mp (by rw [hsz, ← hz, z])) h' tk hold
  · obtain ⟨t, rfl⟩ := intItems_at hv
    obtain ⟨a1, a2⟩ := argBest_lt (numAt xs) ((intItems xs).size - 1)
    refine h1 _ t h' tk ?_ (fun y hy => ?_) hold
    · rw [numAt_eq, ← hns]
      exact PySem.getD_mem (by rw [hsz, ← hz]; exact Nat.lt_of_le_of_lt a1 (by omega))
    · obtain ⟨j, hj, rfl⟩ := PySem.mem_getD hy
      have q := a2 j (by omega)
      rw [numAt_eq xs j, ← hns] at q
      exact q
def rmind (K : PySem.W.Frag) : List V → List V → Hp → VK → Prop := fun vs zs H Q => ∃ (a : Addr) (ns : List Int) (d : V), vs = [V.ref a] ∧ zs = [d] ∧ SqL K H a (ns.map V.int) ∧ (ns = [] → Q d H) ∧ ∀ m, m ∈ ns → (∀ y ∈ ns, m ≤ y) → Q (.int m) H
theorem cr_mind {X : Cx} (hc : X.calm = true) : CallRK X (.builtin "min") [Str.ofString "default"] (rmind X.K) := by
  intro pins s σ H vs zs us ws Q I r rz ⟨a, ns, d, ev, ez, hs, q0, q1⟩
  subst ev ez
  obtain rfl := Vals.ref1 r
  obtain ⟨dv, rfl, rd⟩ := vals1 rz
  obtain ⟨its, rv, hl, _⟩ := I.list hs
  exact call_mind (I.ok.hd hc) hl.isList rv.ints (fun e h' tk hk => ⟨d, H, I.kept hk, rd, q0 e⟩) fun m t h' tk hm hle hk => ⟨.int m, H, I.kept hk, ⟨t, rfl⟩, q1 m hm hle⟩
end

/-! ### tuples whose object is known to bear no dict of its own (the tuple's own method count wants that) -/
def FT (H : Hp) (a : Addr) (xs : List V) : Prop := ∃ o : Obj, o.dict = none ∧ H a = some (.frz o (.tup xs))
theorem FT.sq {K : PySem.W.Frag} {H : Hp} {a : Addr} {xs : List V} (h : FT H a xs) : SqT K H a xs := by
  obtain ⟨o, _, e⟩ := h
  exact .inl (.inr ⟨o, e⟩)
theorem FT.same {H H' : Hp} {a : Addr} {xs : List V} (s : Same H H') (h : FT H a xs) : FT H' a xs := by
  obtain ⟨o, d, e⟩ := h
  exact ⟨o, d, s _ _ e⟩
section
variable {X : Cx} {e : Expr} {es : List Expr} {te : TE} {t : TA} {pos : Pos}
/-- a new tuple, and its object -/
def QF (H : Hp) (xs : List V) (Q : VK) : Prop := ∀ p o, H p = none → o.dict = none → Q (.ref p) (upd H p (.frz o (.tup xs)))
def tTupF (t : TA) : TE := fun σ H Q => t σ H fun xs H1 => xs.length ≤ sizeLine ∧ QF H1 xs Q
theorem laid_tupF {pins : List (Addr × Obj)} {σ : L2.St} {H : Hp} {s : Shared} {xs : List V} {us : List Value} {Q : VK} (I : Inv X pins σ H s) (r : Vals xs us) (z : xs.length ≤ sizeLine) (q : QF H xs Q) :
    EP X pins σ Q (.ref s.heap.objs.size) { s with heap := s.heap.push { cls := .type "tuple", data := .seq us.toArray } } := by
  have hf : H s.heap.objs.size = none := I.hok.fresh (Nat.le_refl _)
  have g : (s.heap.push { cls := .type "tuple", data := .seq us.toArray }).get? s.heap.objs.size = some { cls := .type "tuple", data := .seq us.toArray } := Heap.get?_push_size _ rfl
  exact ⟨.ref s.heap.objs.size, _, I.laid (t' := s.toks) (o := .frz { cls := .type "tuple", data := .seq us.toArray } (.tup xs)) (fun b u e => Heap.get?_push_of_some _ e) (Nat.le_refl _) ⟨g, z, us, r, ⟨_, g, rfl, _, rfl⟩⟩, rfl, q _ _ hf rfl⟩
theorem pe_tupF {x1} (h : PA X es t) : PE X (.Tuple es x1 pos) (tTupF t) := by
  refine ⟨fun pins s σ H Q I hq => ?_⟩
  exact wpAny_Tuple_spliced (thn (h.run pos pins s σ H _ I hq) fun us s1 ⟨xs, H1, I1, r, z, q⟩ => ⟨by rw [← r.length]; exact z, laid_tupF I1 r z q⟩)
def rCatF (K : PySem.W.Frag) : R2 := fun x y H Q => ∃ a b xs ys, x = .ref a ∧ y = .ref b ∧ SqT K H a xs ∧ SqT K H b ys ∧ xs.length + ys.length ≤ sizeLine ∧
  (xs = [] → Q (.ref b) H) ∧ (xs ≠ [] → ys = [] → Q (.ref a) H) ∧ (xs ≠ [] → ys ≠ [] → QF H (xs ++ ys) Q)
theorem op_catF : OpR X (binaryOp .Add) (rCatF X.K) := by
  intro pins s σ H x y v u Q I rx ry ⟨a, b, xs, ys, ex, ey, ha, hb, hz, q0, q1, q2⟩
  subst ex ey
  cases rx
  cases ry
  obtain ⟨its, r1, p1, _⟩ := I.tuple ha
  obtain ⟨its2, r2, p2, _⟩ := I.tuple hb
  by_cases hx : xs = []
  · subst hx
    cases r1
    exact cat_tup0 p1 p2 ⟨.ref b, H, I, rfl, q0 rfl⟩
  · refine HT.cat_tup p1 p2 (fun z => hx (r1.nil_iff.mp z)) (fun z => ⟨.ref a, H, I, rfl, q1 hx (r2.nil_iff.mp z)⟩) (fun z => ?_) (by rw [← r1.length, ← r2.length]; exact hz)
    exact laid_tupF I (r1.append r2) (by rw [List.length_append]; exact hz) (q2 hx fun w => z (r2.nil_iff.mpr w))
/-- t.count(e), texts -/
def tCnt (to te : TE) : TE := fun σ H Q => to σ H fun x H1 => ∃ (p : Addr) (ys : List Str), x = .ref p ∧ FT H1 p (ys.map V.str) ∧ tCons te tNil σ H1 fun vs H2 => ∃ z : Str, vs = [.str z] ∧ FT H2 p (ys.map V.str) ∧ Q (.int ((ys.countP fun y => decide (y = z) : Nat) : Int)) H2
theorem strs_hold {h : Heap} : ∀ {ys : List Str} {us : List Value}, Vals (ys.map V.str) us → PySem.W.HoldAll h us ys
  | [], _, r => by
    cases r
    exact ⟨_, .nil⟩
  | y :: ys, us, r => by
    cases r with
    | cons r1 r2 =>
      obtain ⟨t, rfl⟩ := r1
      obtain ⟨as, q⟩ := strs_hold (h := h) r2
      exact ⟨_, .cons (.str y t) q⟩
theorem FT.ok {pins : List (Addr × Obj)} {σ : L2.St} {H : Hp} {s : Shared} {a : Addr} {xs : List V} (I : Inv X pins σ H s) (h : FT H a xs) : ∃ (o : Obj) (us : List Value) (n : Nat), s.heap.get? a = some o ∧ o.cls = .type "tuple" ∧ o.dict = none ∧ o.data = .seq us.toArray n ∧ Vals xs us := by
  obtain ⟨o, hd, e⟩ := h
  obtain ⟨g, _, us, r, o', g', hc, n, hdt⟩ := I.hok a _ e
  rw [g] at g'
  cases g'
  exact ⟨o, us, n, g, hc, hd, hdt, r⟩
theorem pe_cnt {o e : Expr} {to te : TE} {apos cpos : Pos} (hu : X.A.units + 64 < cLine) (ho : PE X o to) (ha : PE X e te)
    (hbase : attributeBase o "count" X.env (eval o X.env) = eval o X.env := by rfl)
    (hfew : ((backTo cpos (starEach [e] X.env)).all (fun x => !x.1) && (backToKw cpos (keywordEach [] X.env)).all (fun x => x.1.isSome)
      && decide ([e].length + ([] : List Keyword).length + (if ([] : List Keyword).isEmpty then 0 else 1) < 30)) = true := by rfl)
    (hline : (apos.endLine == cpos.line) = true := by rfl) (hs : starEach [e] X.env = (false, eval e X.env) :: starEach [] X.env := by rfl) (hplain : (backTo cpos (starEach [] X.env)).any (·.1) = false := by rfl) :
    PE X (.Call (.Attribute o "count" apos) [e] [] cpos) (tCnt to te) := by
  refine ⟨fun pins s σ H Q I h => ?_⟩
  refine wpAny_Call_method_late hbase hfew hline rfl (thn (ho.run pins s σ H _ I h) fun v s1 ⟨x, H1, I1, r1, p, ys, ex, hp, q1⟩ => ?_)
  subst ex
  cases r1
  obtain ⟨ob, us, n, g, hc, hd, hdt, rv⟩ := hp.ok I1
  refine ⟨"tuple", "tuple.count", PySem.F.plainAttrs_tuple, PySem.F.slot_tuple_count, PySem.F.type_tuple_count, ⟨ob, g, hc⟩, fun a e => by cases e; exact ⟨ob, g, hd⟩, ?_⟩
  have hA := (pa_cons ha pa_nil hs).run cpos pins s1 σ H1 _ I1 q1
  rw [hs] at hA ⊢
  refine Calls.callWith_builtin (by show (false || (backTo cpos (starEach [] X.env)).any (·.1)) = false; rw [hplain] <;> rfl) (Calls.evalArgs_plain (thn hA fun us2 s2 ⟨vs, H2, I2, r2, z, ev, hp2, q2⟩ => ?_))
  subst ev
  obtain ⟨u, rfl, t, rfl⟩ := vals1 r2
  obtain ⟨ob2, us3, n2, g2, hc2, hd2, hdt2, rv2⟩ := hp2.ok I2
  refine PySem.W.count_tuple_datum (l := p) (vs := us3.toArray) ⟨ob2, g2, hc2, n2, hdt2⟩ (by simpa using strs_hold rv2) (x := z) ⟨_, Reads.str z t⟩ ?_ ⟨.int ((ys.countP fun y => decide (y = z) : Nat) : Int), H2, I2.tok _, ⟨_, rfl⟩, q2⟩
  show X.A.units + 1 + 0 < cLine
  omega
end
end Sy

/-! part: Base -/
set_option Elab.async false
set_option linter.all false
set_option maxRecDepth 100000
set_option maxHeartbeats 4000000
namespace Sy
open PySem PySem.Spec PyProof.Rows L2
structure Wd (K : PySem.W.Frag) (mg : Str → Option Value) : Prop where
  says : He.SaysD fa fn K
  glo : ∀ x : Str, (He.Fa.glo x).ok K = true → mg x = some (.ref (He.ga K x))
  free : ∀ x : Str, (He.Fa.free x).ok K = true → mg x = none
  int : ∀ (x : Str) (i : Int), (He.Fa.int x i).ok K = true → ∃ t, mg x = some (.int i t)
  str : ∀ x z : Str, (He.Fa.str x z).ok K = true → ∃ t, mg x = some (.str z t)
theorem Wd.of {K : PySem.W.Frag} {h : Heap} {mg : Str → Option Value} (X : K.In h) (G : h.Ns mainGlobals mg) (c : He.SaysD fa fn K) : Wd K mg :=
  ⟨c, fun _ z => He.glo_ok X G z, fun _ z => He.free_ok X G z, fun _ _ z => He.int_ok X G z, fun _ _ z => He.str_ok X G z⟩
section
variable {K : PySem.W.Frag} {mg : Str → Option Value}
theorem Wd.g_check_range (W : Wd K mg) : mg "check_range" = some (.ref (He.ga K "check_range")) := W.glo _ (W.says.fact 0)
theorem Wd.g_said_between (W : Wd K mg) : mg "said_between" = some (.ref (He.ga K "said_between")) := W.glo _ (W.says.fact 1)
theorem Wd.g_words_said (W : Wd K mg) : mg "words_said" = some (.ref (He.ga K "words_said")) := W.glo _ (W.says.fact 2)
theorem Wd.g_times_said (W : Wd K mg) : mg "times_said" = some (.ref (He.ga K "times_said")) := W.glo _ (W.says.fact 3)
theorem Wd.g_longest_said (W : Wd K mg) : mg "longest_said" = some (.ref (He.ga K "longest_said")) := W.glo _ (W.says.fact 4)
theorem Wd.g_is_word (W : Wd K mg) : mg "is_word" = some (.ref (He.ga K "is_word")) := W.glo _ (W.says.fact 5)
theorem Wd.g_simple_fault (W : Wd K mg) : mg "simple_fault" = some (.ref (He.ga K "simple_fault")) := W.glo _ (W.says.fact 6)
theorem Wd.g_multiplier_fault (W : Wd K mg) : mg "multiplier_fault" = some (.ref (He.ga K "multiplier_fault")) := W.glo _ (W.says.fact 7)
theorem Wd.g_check_rows (W : Wd K mg) : mg "check_rows" = some (.ref (He.ga K "check_rows")) := W.glo _ (W.says.fact 8)
theorem Wd.g_check_words (W : Wd K mg) : mg "check_words" = some (.ref (He.ga K "check_words")) := W.glo _ (W.says.fact 9)
theorem Wd.g_check_endless (W : Wd K mg) : mg "check_endless" = some (.ref (He.ga K "check_endless")) := W.glo _ (W.says.fact 10)
theorem Wd.g_l_pool (W : Wd K mg) : mg "_law_pool" = some (.ref (He.ga K "_law_pool")) := W.glo _ (W.says.fact 11)
theorem Wd.g_l_take (W : Wd K mg) : mg "_law_take" = some (.ref (He.ga K "_law_take")) := W.glo _ (W.says.fact 12)
theorem Wd.g_l_upto (W : Wd K mg) : mg "_law_upto" = some (.ref (He.ga K "_law_upto")) := W.glo _ (W.says.fact 13)
theorem Wd.g_l_is_integer (W : Wd K mg) : mg "_law_is_integer" = some (.ref (He.ga K "_law_is_integer")) := W.glo _ (W.says.fact 14)
theorem Wd.g_l_same (W : Wd K mg) : mg "_law_same" = some (.ref (He.ga K "_law_same")) := W.glo _ (W.says.fact 15)
theorem Wd.g_l_pick (W : Wd K mg) : mg "_law_pick" = some (.ref (He.ga K "_law_pick")) := W.glo _ (W.says.fact 16)
theorem Wd.g_l_word (W : Wd K mg) : mg "_law_word" = some (.ref (He.ga K "_law_word")) := W.glo _ (W.says.fact 17)
theorem Wd.g_l_drawn (W : Wd K mg) : mg "_law_drawn" = some (.ref (He.ga K "_law_drawn")) := W.glo _ (W.says.fact 18)
theorem Wd.g_l_regular (W : Wd K mg) : mg "_law_regular" = some (.ref (He.ga K "_law_regular")) := W.glo _ (W.says.fact 19)
theorem Wd.g_l_nearly (W : Wd K mg) : mg "_law_nearly" = some (.ref (He.ga K "_law_nearly")) := W.glo _ (W.says.fact 20)
theorem Wd.g_l_shaped (W : Wd K mg) : mg "_law_shaped" = some (.ref (He.ga K "_law_shaped")) := W.glo _ (W.says.fact 21)
theorem Wd.g_l_words (W : Wd K mg) : mg "_law_words" = some (.ref (He.ga K "_law_words")) := W.glo _ (W.says.fact 22)
theorem Wd.g_l_bounded (W : Wd K mg) : mg "_law_bounded" = some (.ref (He.ga K "_law_bounded")) := W.glo _ (W.says.fact 23)
theorem Wd.g_l_made (W : Wd K mg) : mg "_law_made" = some (.ref (He.ga K "_law_made")) := W.glo _ (W.says.fact 24)
theorem Wd.g_l_first (W : Wd K mg) : mg "_law_first" = some (.ref (He.ga K "_law_first")) := W.glo _ (W.says.fact 25)
theorem Wd.g_l_said (W : Wd K mg) : mg "_law_said" = some (.ref (He.ga K "_law_said")) := W.glo _ (W.says.fact 26)
theorem Wd.g_l_counted (W : Wd K mg) : mg "_law_counted" = some (.ref (He.ga K "_law_counted")) := W.glo _ (W.says.fact 27)
theorem Wd.g_l_some_word (W : Wd K mg) : mg "_law_some_word" = some (.ref (He.ga K "_law_some_word")) := W.glo _ (W.says.fact 28)
theorem Wd.g_l_with_outer (W : Wd K mg) : mg "_law_with_outer" = some (.ref (He.ga K "_law_with_outer")) := W.glo _ (W.says.fact 29)
theorem Wd.g_l_outer (W : Wd K mg) : mg "_law_outer" = some (.ref (He.ga K "_law_outer")) := W.glo _ (W.says.fact 30)
theorem Wd.g_l_told (W : Wd K mg) : mg "_law_told" = some (.ref (He.ga K "_law_told")) := W.glo _ (W.says.fact 31)
theorem Wd.g_l_period_so (W : Wd K mg) : mg "_law_period_so" = some (.ref (He.ga K "_law_period_so")) := W.glo _ (W.says.fact 32)
theorem Wd.g_law (W : Wd K mg) : mg "law" = some (.ref (He.ga K "law")) := W.glo _ (W.says.fact 33)
theorem Wd.g_Derivations (W : Wd K mg) : mg "Derivations" = some (.ref (He.ga K "Derivations")) := W.glo _ (W.says.fact 34)
theorem Wd.k_Derivations (W : Wd K mg) : Cls K (He.ga K "Derivations") := He.cls_ok (W.says.fact 35)
theorem Wd.i_Derivations (W : Wd K mg) : Mk K (He.ga K "Derivations") (He.ma K (He.ga K "Derivations") "__init__") := He.mkr_ok (W.says.fact 36)
theorem Wd.n_Derivations_system (W : Wd K mg) : NoAttr K (He.ga K "Derivations") "system" := He.noat_ok (W.says.fact 37)
theorem Wd.n_Derivations_known (W : Wd K mg) : NoAttr K (He.ga K "Derivations") "_known" := He.noat_ok (W.says.fact 38)
theorem Wd.g_Spoken (W : Wd K mg) : mg "Spoken" = some (.ref (He.ga K "Spoken")) := W.glo _ (W.says.fact 39)
theorem Wd.k_Spoken (W : Wd K mg) : Cls K (He.ga K "Spoken") := He.cls_ok (W.says.fact 40)
theorem Wd.i_Spoken (W : Wd K mg) : Mk K (He.ga K "Spoken") (He.ma K (He.ga K "Spoken") "__init__") := He.mkr_ok (W.says.fact 41)
theorem Wd.n_Spoken_system (W : Wd K mg) : NoAttr K (He.ga K "Spoken") "system" := He.noat_ok (W.says.fact 42)
theorem Wd.n_Spoken_word (W : Wd K mg) : NoAttr K (He.ga K "Spoken") "word" := He.noat_ok (W.says.fact 43)
theorem Wd.n_Spoken_outer (W : Wd K mg) : NoAttr K (He.ga K "Spoken") "outer" := He.noat_ok (W.says.fact 44)
theorem Wd.n_Spoken_top (W : Wd K mg) : NoAttr K (He.ga K "Spoken") "top" := He.noat_ok (W.says.fact 45)
theorem Wd.n_Spoken_held (W : Wd K mg) : NoAttr K (He.ga K "Spoken") "held" := He.noat_ok (W.says.fact 46)
theorem Wd.n_Spoken_said (W : Wd K mg) : NoAttr K (He.ga K "Spoken") "said" := He.noat_ok (W.says.fact 47)
theorem Wd.n_Spoken_sums (W : Wd K mg) : NoAttr K (He.ga K "Spoken") "sums" := He.noat_ok (W.says.fact 48)
theorem Wd.g_System (W : Wd K mg) : mg "System" = some (.ref (He.ga K "System")) := W.glo _ (W.says.fact 49)
theorem Wd.k_System (W : Wd K mg) : Cls K (He.ga K "System") := He.cls_ok (W.says.fact 50)
theorem Wd.i_System (W : Wd K mg) : Mk K (He.ga K "System") (He.ma K (He.ga K "System") "__init__") := He.mkr_ok (W.says.fact 51)
theorem Wd.n_System_simple (W : Wd K mg) : NoAttr K (He.ga K "System") "simple" := He.noat_ok (W.says.fact 52)
theorem Wd.n_System_multipliers (W : Wd K mg) : NoAttr K (He.ga K "System") "multipliers" := He.noat_ok (W.says.fact 53)
theorem Wd.n_System_values (W : Wd K mg) : NoAttr K (He.ga K "System") "_values" := He.noat_ok (W.says.fact 54)
theorem Wd.n_System_rows (W : Wd K mg) : NoAttr K (He.ga K "System") "_rows" := He.noat_ok (W.says.fact 55)
theorem Wd.m_Derivations_words (W : Wd K mg) : Meth K (He.ga K "Derivations") "words" (He.ma K (He.ga K "Derivations") "words") := He.meth_ok (W.says.fact 56)
theorem Wd.m_Derivations_parts (W : Wd K mg) : Meth K (He.ga K "Derivations") "parts" (He.ma K (He.ga K "Derivations") "parts") := He.meth_ok (W.says.fact 57)
theorem Wd.m_Derivations_is_unsaid (W : Wd K mg) : Meth K (He.ga K "Derivations") "is_unsaid" (He.ma K (He.ga K "Derivations") "is_unsaid") := He.meth_ok (W.says.fact 58)
theorem Wd.m_Derivations_below (W : Wd K mg) : Meth K (He.ga K "Derivations") "below" (He.ma K (He.ga K "Derivations") "below") := He.meth_ok (W.says.fact 59)
theorem Wd.m_Derivations_learn (W : Wd K mg) : Meth K (He.ga K "Derivations") "learn" (He.ma K (He.ga K "Derivations") "learn") := He.meth_ok (W.says.fact 60)
theorem Wd.m_Derivations_counted (W : Wd K mg) : Meth K (He.ga K "Derivations") "_counted" (He.ma K (He.ga K "Derivations") "_counted") := He.meth_ok (W.says.fact 61)
theorem Wd.m_Derivations_fewest (W : Wd K mg) : Meth K (He.ga K "Derivations") "_fewest" (He.ma K (He.ga K "Derivations") "_fewest") := He.meth_ok (W.says.fact 62)
theorem Wd.m_Derivations_ways (W : Wd K mg) : Meth K (He.ga K "Derivations") "ways" (He.ma K (He.ga K "Derivations") "ways") := He.meth_ok (W.says.fact 63)
theorem Wd.m_Derivations_rests (W : Wd K mg) : Meth K (He.ga K "Derivations") "rests" (He.ma K (He.ga K "Derivations") "rests") := He.meth_ok (W.says.fact 64)
theorem Wd.m_Derivations_count (W : Wd K mg) : Meth K (He.ga K "Derivations") "count" (He.ma K (He.ga K "Derivations") "count") := He.meth_ok (W.says.fact 65)
theorem Wd.m_Derivations_least (W : Wd K mg) : Meth K (He.ga K "Derivations") "least" (He.ma K (He.ga K "Derivations") "least") := He.meth_ok (W.says.fact 66)
theorem Wd.m_Derivations_choice (W : Wd K mg) : Meth K (He.ga K "Derivations") "choice" (He.ma K (He.ga K "Derivations") "choice") := He.meth_ok (W.says.fact 67)
theorem Wd.m_Derivations_shortest_choice (W : Wd K mg) : Meth K (He.ga K "Derivations") "shortest_choice" (He.ma K (He.ga K "Derivations") "shortest_choice") := He.meth_ok (W.says.fact 68)
theorem Wd.m_Derivations_phrase (W : Wd K mg) : Meth K (He.ga K "Derivations") "phrase" (He.ma K (He.ga K "Derivations") "phrase") := He.meth_ok (W.says.fact 69)
theorem Wd.m_Derivations_first (W : Wd K mg) : Meth K (He.ga K "Derivations") "first" (He.ma K (He.ga K "Derivations") "first") := He.meth_ok (W.says.fact 70)
theorem Wd.m_Spoken_weight (W : Wd K mg) : Meth K (He.ga K "Spoken") "weight" (He.ma K (He.ga K "Spoken") "weight") := He.meth_ok (W.says.fact 71)
theorem Wd.m_Spoken_low (W : Wd K mg) : Meth K (He.ga K "Spoken") "low" (He.ma K (He.ga K "Spoken") "low") := He.meth_ok (W.says.fact 72)
theorem Wd.m_Spoken_first (W : Wd K mg) : Meth K (He.ga K "Spoken") "_first" (He.ma K (He.ga K "Spoken") "_first") := He.meth_ok (W.says.fact 73)
theorem Wd.m_Spoken_of (W : Wd K mg) : Meth K (He.ga K "Spoken") "of" (He.ma K (He.ga K "Spoken") "of") := He.meth_ok (W.says.fact 74)
theorem Wd.m_Spoken_period (W : Wd K mg) : Meth K (He.ga K "Spoken") "period" (He.ma K (He.ga K "Spoken") "period") := He.meth_ok (W.says.fact 75)
theorem Wd.m_Spoken_up_to (W : Wd K mg) : Meth K (He.ga K "Spoken") "up_to" (He.ma K (He.ga K "Spoken") "up_to") := He.meth_ok (W.says.fact 76)
theorem Wd.m_Spoken_further (W : Wd K mg) : Meth K (He.ga K "Spoken") "_further" (He.ma K (He.ga K "Spoken") "_further") := He.meth_ok (W.says.fact 77)
theorem Wd.m_System_words (W : Wd K mg) : Meth K (He.ga K "System") "words" (He.ma K (He.ga K "System") "words") := He.meth_ok (W.says.fact 78)
theorem Wd.m_System_endless (W : Wd K mg) : Meth K (He.ga K "System") "endless" (He.ma K (He.ga K "System") "endless") := He.meth_ok (W.says.fact 79)
theorem Wd.m_System_bounded_maximum (W : Wd K mg) : Meth K (He.ga K "System") "bounded_maximum" (He.ma K (He.ga K "System") "bounded_maximum") := He.meth_ok (W.says.fact 80)
theorem Wd.f_len (W : Wd K mg) : mg "len" = none := W.free _ (W.says.fact 81)
theorem Wd.f_enumerate (W : Wd K mg) : mg "enumerate" = none := W.free _ (W.says.fact 82)
theorem Wd.f_range (W : Wd K mg) : mg "range" = none := W.free _ (W.says.fact 83)
theorem Wd.f_sorted (W : Wd K mg) : mg "sorted" = none := W.free _ (W.says.fact 84)
theorem Wd.f_min (W : Wd K mg) : mg "min" = none := W.free _ (W.says.fact 85)
theorem Wd.f_max (W : Wd K mg) : mg "max" = none := W.free _ (W.says.fact 86)
theorem Wd.f_tuple (W : Wd K mg) : mg "tuple" = none := W.free _ (W.says.fact 87)
theorem Wd.f_list (W : Wd K mg) : mg "list" = none := W.free _ (W.says.fact 88)
theorem Wd.f_isinstance (W : Wd K mg) : mg "isinstance" = none := W.free _ (W.says.fact 89)
theorem Wd.f_int (W : Wd K mg) : mg "int" = none := W.free _ (W.says.fact 90)
theorem Wd.f_bool (W : Wd K mg) : mg "bool" = none := W.free _ (W.says.fact 91)
theorem Wd.f_str (W : Wd K mg) : mg "str" = none := W.free _ (W.says.fact 92)
theorem Wd.f_sum (W : Wd K mg) : mg "sum" = none := W.free _ (W.says.fact 93)
theorem Wd.f_any (W : Wd K mg) : mg "any" = none := W.free _ (W.says.fact 94)
theorem Wd.f_all (W : Wd K mg) : mg "all" = none := W.free _ (W.says.fact 95)
theorem Wd.c_MOST_APART (W : Wd K mg) : ∃ t, mg "MOST_APART" = some (.int 100000 t) := W.int _ _ (W.says.fact 96)
theorem Wd.c_LETTERS (W : Wd K mg) : ∃ t, mg "LETTERS" = some (.str "abcdefghijklmnopqrstuvwxyz" t) := W.str _ _ (W.says.fact 97)
theorem Wd.c_MOST_LETTERS (W : Wd K mg) : ∃ t, mg "MOST_LETTERS" = some (.int 8 t) := W.int _ _ (W.says.fact 98)
theorem Wd.c_MOST_SIMPLE (W : Wd K mg) : ∃ t, mg "MOST_SIMPLE" = some (.int 24 t) := W.int _ _ (W.says.fact 99)
theorem Wd.c_MOST_MULTIPLIERS (W : Wd K mg) : ∃ t, mg "MOST_MULTIPLIERS" = some (.int 6 t) := W.int _ _ (W.says.fact 100)
theorem Wd.c_MOST_VALUE (W : Wd K mg) : ∃ t, mg "MOST_VALUE" = some (.int 100000 t) := W.int _ _ (W.says.fact 101)
end
/-! ### a list or a tuple, walked -/
def tTruK (K : PySem.W.Frag) (ta : TE) : TT := fun σ H Q => ta σ H fun x H' => ∃ k, TruV K x H' k ∧ Q k H'
section
variable {X : Cx} {tg : Expr}
def iSeq (K : PySem.W.Frag) (tl : TE) : TI := fun σ H R => tl σ H fun x H1 => ∃ a xs, x = .ref a ∧ ((SqL K H1 a xs ∧ R (Itl K a) H1) ∨ (SqT K H1 a xs ∧ R (Itt K a) H1))
theorem pi_seq {l : Expr} {tl : TE} (hl : PE X l tl) : PI X tg l (iSeq X.K tl) := by
  refine ⟨fun pins s σ H R I h => ?_⟩
  refine thn (hl.run pins s σ H _ I h) fun v s1 ⟨x, H1, I1, r1, a, xs, e, q1⟩ => ?_
  subst e
  cases r1
  have hfp : ∀ b ∈ [s1.heap.objs.size], FpOk X pins H1 b := fun b hb => by
    obtain rfl : b = s1.heap.objs.size := by simpa using hb
    exact I1.fpOk (Nat.le_refl _) (I1.hok.fresh (Nat.le_refl _))
  rcases q1 with ⟨hq, q⟩ | ⟨hq, q⟩
  · obtain ⟨its, rv, p, hz⟩ := I1.list hq
    refine wpAny_pyIter_list p.isList ?_
    exact ⟨s1.heap.objs.size, [s1.heap.objs.size], _, _, H1, rfl, I1.kept (t' := s1.toks) fun b o e => Heap.get?_push_of_some _ e, turn_list a _, ⟨_, Heap.get?_push_size _ rfl, rfl, rfl⟩, hfp, q⟩
  · obtain ⟨its, rv, p, hz⟩ := I1.tuple hq
    refine wpAny_pyIter_tuple (show s1.heap.IsTuple a its.toArray from p) ?_
    exact ⟨s1.heap.objs.size, [s1.heap.objs.size], _, _, H1, rfl, I1.kept (t' := s1.toks) fun b o e => Heap.get?_push_of_some _ e, turn_tuple a _, ⟨_, Heap.get?_push_size _ rfl, rfl, rfl⟩, hfp, q⟩
end
/-! ### heaps: what stays -/
theorem _root_.L2.Same.new {H : Hp} {p : Addr} {o : HO} (h : H p = none) : Same H (upd H p o) := fun b u e => by
  rw [upd_ne (ne_of_none e h)]; exact e
theorem _root_.L2.Same.new' {F H : Hp} {p : Addr} {o : HO} (s : Same F H) (h : H p = none) : Same F (upd H p o) := s.trans (Same.new h)
/-- a thing that F does not hold changes -/
theorem _root_.L2.Same.mut {F H : Hp} {p : Addr} {o : HO} (s : Same F H) (h : F p = none) : Same F (upd H p o) := fun b u e => by
  rw [upd_ne (ne_of_none e h)]; exact s b u e
theorem _root_.L2.Same.tup {K : PySem.W.Frag} {H H' : Hp} {a : Addr} {xs : List V} (e : Same H H') (h : SqT K H a xs) : SqT K H' a xs := by
  rcases h with (h | ⟨o, h⟩) | h
  · exact .inl (.inl (e _ _ h))
  · exact .inl (.inr ⟨o, e _ _ h⟩)
  · exact .inr h
/-- all but the things in l stays -/
def But (l : List Addr) (H H' : Hp) : Prop := ∀ a o, H a = some o → a ∉ l → H' a = some o
theorem But.refl (l : List Addr) (H : Hp) : But l H H := fun _ _ h _ => h
theorem But.trans {l : List Addr} {H H1 H2 : Hp} (a : But l H H1) (b : But l H1 H2) : But l H H2 := fun x o h n => b x o (a x o h n) n
theorem But.of {l : List Addr} {H H' : Hp} (s : Same H H') : But l H H' := fun x o h _ => s x o h
theorem But.upd {l : List Addr} {H H' : Hp} {p : Addr} {o : HO} (b : But l H H') (h : p ∈ l ∨ H p = none) : But l H (L2.upd H' p o) := fun x u e n => by
  have ne : x ≠ p := by
    rintro rfl
    rcases h with h | h
    · exact n h
    · rw [h] at e; cases e
  rw [upd_ne ne]; exact b x u e n
theorem But.sub {l m : List Addr} {H H' : Hp} (b : But l H H') (s : ∀ x ∈ l, x ∈ m) : But m H H' := fun x o h n => b x o h fun z => n (s x z)
theorem But.nil {H H' : Hp} (b : But [] H H') : Same H H' := fun x o h => b x o h (by simp)
/-- what the base holds, stays -/
theorem But.base {l : List Addr} {F H H' : Hp} (b : But l H H') (s : Same F H) (n : ∀ x ∈ l, F x = none) : Same F H' := fun x o h => b x o (s x o h) fun z => by
  rw [n x z] at h; cases h
theorem But.at {l : List Addr} {H H' : Hp} {a : Addr} {o : HO} (b : But l H H') (h : H a = some o) (n : a ∉ l) : H' a = some o := b a o h n
theorem no_in {F : Hp} {a p : Addr} {o : HO} (h : F a = some o) (n : F p = none) : a ≠ p := ne_of_none h n
/-! ### tests -/
theorem r_dec {p A B : Prop} [Decidable p] (h1 : p → A) (h2 : ¬ p → B) : if decide p = true then A else B := by
  by_cases h : p
  · rw [decide_eq_true h, if_pos rfl]; exact h1 h
  · rw [decide_eq_false h, if_neg Bool.false_ne_true]; exact h2 h
theorem r_ndec {p A B : Prop} [Decidable p] (h1 : ¬ p → A) (h2 : p → B) : if (!decide p) = true then A else B := by
  by_cases h : p
  · rw [decide_eq_true h]; exact h2 h
  · rw [decide_eq_false h]; exact h1 h
theorem r_b {b : Bool} {A B : Prop} (h1 : b = true → A) (h2 : b = false → B) : if b = true then A else B := by
  cases b
  · exact h2 rfl
  · exact h1 rfl
theorem r_nb {b : Bool} {A B : Prop} (h1 : b = false → A) (h2 : b = true → B) : if (!b) = true then A else B := by
  cases b
  · exact h1 rfl
  · exact h2 rfl
/-! ### rules that a comprehension's block uses: the written part said -/
section
variable {X : Cx} {K : PySem.W.Frag}
theorem ix_tupK (h : X.K = K) : IxR X (rIxT K) := h ▸ ix_tup
theorem ix_seqK (h : X.K = K) : IxR X (rIx K) := h ▸ ix_seq
def rTupOf (K : PySem.W.Frag) : List V → Hp → VK → Prop := fun xs H Q => ∃ p ys, xs = [.ref p] ∧ ((SqL K H p ys ∧ ∀ l, H l = none → Q (.ref l) (upd H l (.tup ys))) ∨ (SqT K H p ys ∧ Q (.ref p) H))
def rListOf (K : PySem.W.Frag) : List V → Hp → VK → Prop := fun xs H Q => ∃ p ys, xs = [.ref p] ∧ (SqL K H p ys ∨ SqT K H p ys) ∧ ∀ l, H l = none → Q (.ref l) (upd H l (.lst ys))
theorem call_tuple_ofK (h : X.K = K) : CallR X (.type "tuple") (rTupOf K) := h ▸ call_tuple_of
theorem call_list_ofK (h : X.K = K) : CallR X (.type "list") (rListOf K) := h ▸ call_list_of
end
/-! ### // and % of numbers that are not negative -/
section
variable {X : Cx}
def rNdiv : R2 := fun x y H Q => ∃ i j : Nat, x = .int (i : Nat) ∧ y = .int (j : Nat) ∧ (0 < j ∧ j < 1073741824) ∧ Q (.int ((i / j : Nat) : Int)) H
def rNmod : R2 := fun x y H Q => ∃ i j : Nat, x = .int (i : Nat) ∧ y = .int (j : Nat) ∧ 0 < j ∧ Q (.int ((i % j : Nat) : Int)) H
theorem op_ndiv : OpR X (binaryOp .FloorDiv) rNdiv := by
  intro pins s σ H x y v u Q I rx ry ⟨i, j, ex, ey, ⟨h1, h2⟩, q⟩
  refine op_fdivN pins s σ H x y v u Q I rx ry ⟨i, j, ex, ey, ⟨by omega, by omega⟩, ?_⟩
  show Q (.int ((i : Int).fdiv (j : Int))) H
  rw [Int.fdiv_eq_ediv_of_nonneg (i : Int) (by omega : (0 : Int) ≤ (j : Int))]
  exact q
theorem op_nmod : OpR X (binaryOp .Mod) rNmod := by
  intro pins s σ H x y v u Q I rx ry ⟨i, j, ex, ey, h1, q⟩
  refine op_modN pins s σ H x y v u Q I rx ry ⟨i, j, ex, ey, (by show (j : Int) ≠ 0; omega), ?_⟩
  show Q (.int ((i : Int).fmod (j : Int))) H
  rw [Int.fmod_eq_emod_of_nonneg (i : Int) (by omega : (0 : Int) ≤ (j : Int))]
  exact q
end
theorem sub_div_mul (n v : Nat) : (n : Int) - ((n / v : Nat) : Int) * (v : Int) = ((n % v : Nat) : Int) := by
  have h := Nat.div_add_mod n v
  have e : ((n / v : Nat) : Int) * (v : Int) = ((v * (n / v) : Nat) : Int) := by rw [← Int.natCast_mul, Nat.mul_comm]
  rw [e]
  omega
/-- a test without effect -/
theorem st_ans {c : TT} {t u : TS} {D : Ends} {σ : L2.St} {H : Hp} {b : Bool} (h : Ans c σ H b) (h1 : b = true → t D σ H) (h2 : b = false → u D σ H) : tIfS c t u D σ H := by
  cases b with
  | true => exact st_yes h (h1 rfl)
  | false => exact st_no h (h2 rfl)
theorem small_le {n : Nat} (h : n ≤ 100000) : n ≤ sizeLine := Nat.le_trans h (by decide)
theorem small_lt {n : Nat} (h : n ≤ 100000) : n < sizeLine := Nat.lt_of_le_of_lt h (by decide)
/-! ### + - * of numbers that are not negative -/
section
variable {X : Cx}
def rNadd : R2 := fun x y H Q => ∃ i j : Nat, x = .int (i : Nat) ∧ y = .int (j : Nat) ∧ Q (.int ((i + j : Nat) : Int)) H
def rNsub : R2 := fun x y H Q => ∃ i j : Nat, x = .int (i : Nat) ∧ y = .int (j : Nat) ∧ j ≤ i ∧ Q (.int ((i - j : Nat) : Int)) H
def rNmul : R2 := fun x y H Q => ∃ i j : Nat, x = .int (i : Nat) ∧ y = .int (j : Nat) ∧ (i < 2 ^ 64 ∨ j < 2 ^ 64) ∧ Q (.int ((i * j : Nat) : Int)) H
theorem op_nadd : OpR X (binaryOp .Add) rNadd := by
  intro pins s σ H x y v u Q I rx ry ⟨i, j, ex, ey, q⟩
  exact op_add pins s σ H x y v u Q I rx ry ⟨i, j, ex, ey, q⟩
theorem op_nsub : OpR X (binaryOp .Sub) rNsub := by
  intro pins s σ H x y v u Q I rx ry ⟨i, j, ex, ey, h, q⟩
  refine op_sub pins s σ H x y v u Q I rx ry ⟨i, j, ex, ey, ?_⟩
  show Q (.int ((i : Int) - (j : Int))) H
  rw [← Int.ofNat_sub h]
  exact q
theorem op_nmul : OpR X (binaryOp .Mult) rNmul := by
  intro pins s σ H x y v u Q I rx ry ⟨i, j, ex, ey, h, q⟩
  refine op_mul pins s σ H x y v u Q I rx ry ⟨i, j, ex, ey, ?_, ?_⟩
  · rcases h with h | h
    · exact .inl ⟨by omega, by omega⟩
    · exact .inr ⟨by omega, by omega⟩
  · show Q (.int ((i : Int) * (j : Int))) H
    rw [← Int.natCast_mul]
    exact q
def pN (f : Nat → Nat → Nat) : TIp := fun x y H Q => ∃ i j : Nat, x = .int (i : Nat) ∧ y = .int (j : Nat) ∧ Q (.int ((f i j : Nat) : Int)) H
theorem ip_nadd : PIp X .Add (pN fun i j => i + j) := by
  intro pins s σ H x y v u Q I rx ry ⟨i, j, ex, ey, q⟩
  exact ip_add pins s σ H x y v u Q I rx ry ⟨i, j, ex, ey, q⟩
theorem ip_nsub : PIp X .Sub (fun x y H Q => ∃ i j : Nat, x = .int (i : Nat) ∧ y = .int (j : Nat) ∧ j ≤ i ∧ Q (.int ((i - j : Nat) : Int)) H) := by
  intro pins s σ H x y v u Q I rx ry ⟨i, j, ex, ey, h, q⟩
  refine ip_sub pins s σ H x y v u Q I rx ry ⟨i, j, ex, ey, ?_⟩
  show Q (.int ((i : Int) - (j : Int))) H
  rw [← Int.ofNat_sub h]
  exact q
end
theorem sub_div_mul' (n v : Nat) : n - n / v * v = n % v := by
  have h := Nat.div_add_mod n v
  rw [Nat.mul_comm] at h
  omega
theorem div_mul_le' (n v : Nat) : n / v * v ≤ n := Nat.div_mul_le_self n v
section
variable {X : Cx}
def rNmulW : R2 := fun x y H Q => ∃ i j : Nat, x = .int (i : Nat) ∧ y = .int (j : Nat) ∧ CMulW (i : Int) (j : Int) ∧ Q (.int ((i * j : Nat) : Int)) H
def rNdivW : R2 := fun x y H Q => ∃ i j : Nat, x = .int (i : Nat) ∧ y = .int (j : Nat) ∧ CDivW (i : Int) (j : Int) ∧ Q (.int ((i / j : Nat) : Int)) H
theorem op_nmulW : OpR X (binaryOp .Mult) rNmulW := by
  intro pins s σ H x y v u Q I rx ry ⟨i, j, ex, ey, h, q⟩
  refine op_mulW pins s σ H x y v u Q I rx ry ⟨i, j, ex, ey, h, ?_⟩
  show Q (.int ((i : Int) * (j : Int))) H
  rw [← Int.natCast_mul]
  exact q
theorem op_ndivW : OpR X (binaryOp .FloorDiv) rNdivW := by
  intro pins s σ H x y v u Q I rx ry ⟨i, j, ex, ey, h, q⟩
  exact op_fdivW pins s σ H x y v u Q I rx ry ⟨i, j, ex, ey, h, q⟩
end
/-! ### a word between two statements: what follows is shown once, from Mid -/
def tMid (t u : TS) : TS := fun D σ H => ∃ Mid : L2.St → Hp → Prop, t { D with nx := Mid } σ H ∧ ∀ σ' H', Mid σ' H' → u D σ' H'
theorem pss_mid {X : Cx} {s0 : Stmt} {more : List Stmt} {t u : TS} (a : PS X s0 t) (b : PSs X more u) : PSs X (s0 :: more) (tMid t u) := by
  refine ⟨fun pins s σ H D I ⟨Mid, hm, hu⟩ => wpAny_execs_cons (thn (a.run pins s σ H { D with nx := Mid } I hm) fun f s1 q => ?_)⟩
  cases f with
  | next =>
    obtain ⟨σ', H', I', q⟩ := q
    exact b.run pins s1 σ' H' D I' (hu σ' H' q)
  | _ => exact q
/-! ### a def that keeps its promise, as its callers take it -/
section
variable (P : Program) (w : World) (K : PySem.W.Frag) (mg : Str → Option Value) (base : Heap)
structure Has (k : Nat) (f : Addr) (ps : List Str) (dvs : List V) (sp : Sp) : Prop where
  ex : ∃ fd ds, FnOk P w K mg base CX0 k f fd ps sp ∧ Binds K fd ps ds ∧ Vals dvs ds
  kp : PySem.W.keepIn K (.ref f) = true
end
section
variable {P : Program} {w : World} {K : PySem.W.Frag} {mg : Str → Option Value} {base : Heap} {k j : Nat} {f : Addr} {ps : List Str} {dvs : List V} {sp sp' : Sp}
theorem Has.mono (h : Has P w K mg base j f ps dvs sp) (l : j ≤ k) : Has P w K mg base k f ps dvs sp := by
  obtain ⟨⟨fd, ds, F, b, v⟩, kp⟩ := h
  exact ⟨⟨fd, ds, F.mono l, b, v⟩, kp⟩
theorem Has.imp (h : Has P w K mg base k f ps dvs sp) (q : ∀ vs H Q E, sp' vs H Q E → sp vs H Q E) : Has P w K mg base k f ps dvs sp' := by
  obtain ⟨⟨fd, ds, F, b, v⟩, kp⟩ := h
  exact ⟨⟨fd, ds, F.imp q, b, v⟩, kp⟩
/-- no defaults: a def of the text keeps its promise -/
theorem mkHas {d : He.DefD} {N : List Str} (hd : ∃ fd, FunD K d.name d.qual d.params d.body d.scope [] [] (He.fAd K d.at_) fd) (S : FnScope N ps d.scope)
    (hb : ∀ (kV doc pm : Value) (an : Option Addr) (cdv ct : Value) (us : List Value), us.length = ps.length → bindArgs (PySem.W.fnOf d.name d.qual d.params d.body d.scope .none kV doc pm an cdv ct) ⟨us, []⟩ = pure (ps.zip us))
    (len : ∀ vs H Q E, sp vs H Q E → vs.length = ps.length)
    (hbody : ∀ (cdv : Value) (A : Around) (outer : List Env) (s : Shared) (H : Hp) (vs : List V) (Q : VK) (E : XK), Room k (A.deeper (envOfC d.qual d.scope s.heap.objs.size (He.fAd K d.at_) cdv)) → sp vs H Q E →
      ∃ t, PSs (cxOf CX0 P w K mg base N d.qual d.scope (He.fAd K d.at_) cdv A outer s H E).nox d.body t ∧ t { nx := fun _ H' => Q .non H', rt := Q } (start N vs) H) :
    Has P w K mg base (k + 1) (He.fAd K d.at_) ps [] sp := by
  obtain ⟨fd, F⟩ := hd
  refine ⟨⟨fd, [], F.ok S len fun cdv A outer s H vs Q E hr hsp => ?_, F.bindsN hb, .nil⟩, F.kp⟩
  obtain ⟨t, h, q⟩ := hbody cdv A outer s H vs Q E hr hsp
  exact ⟨t, h.nox, q⟩
/-- none can call it: every promise that nobody can ask for -/
theorem Has.no {d : He.DefD} (hd : ∃ fd, FunD K d.name d.qual d.params d.body d.scope [] [] (He.fAd K d.at_) fd)
    (hb : ∀ (kV doc pm : Value) (an : Option Addr) (cdv ct : Value) (us : List Value), us.length = ps.length → bindArgs (PySem.W.fnOf d.name d.qual d.params d.body d.scope .none kV doc pm an cdv ct) ⟨us, []⟩ = pure (ps.zip us)) :
    Has P w K mg base k (He.fAd K d.at_) ps [] (fun _ _ _ _ => False) := by
  obtain ⟨fd, F⟩ := hd
  exact ⟨⟨fd, [], ⟨fun _ _ _ _ h => h.elim, fun _ _ _ _ _ _ _ _ _ _ _ _ _ h => h.elim⟩, F.bindsN hb, .nil⟩, F.kp⟩
end
/-! ### calls -/
section
variable {X : Cx} {k : Nat} {f C : Addr} {ps : List Str} {sp : Sp} {dvs : List V} {x m : Str} {p pos apos : Pos} {e o : Expr} {es : List Expr} {ta : TE} {t : TA}
theorem pe_callH (h : Has X.prog X.w X.K X.mg X.base k f ps dvs sp) (hm : X.mg x = some (.ref f)) (hr : Room k X.A) (hg : Gl X x) (ha : PA X (e :: es) t) (hdb : (x == ("__debug__" : Str)) = false := by decide)
    (he : starEach (e :: es) X.env = (false, eval e X.env) :: starEach es X.env := by rfl) (hpl : (backTo pos (starEach es X.env)).any (·.1) = false := by rfl) : PE X (.Call (.Name x p) (e :: es) [] pos) (tCall sp dvs E0 t) := by
  obtain ⟨⟨fd, ds, F, b, v⟩, kp⟩ := h
  exact pe_call F hr hg hm kp b v pass0 ha hdb he hpl
theorem pe_methH {pl : Sem Bool} (h : Has X.prog X.w X.K X.mg X.base k f ps dvs sp) (c : Cls X.K C) (hm : Meth X.K C m f) (hr : Room k X.A) (he : PE X o ta) (ha : PA X (e :: es) t)
    (hst : starEach (e :: es) X.env = (false, eval e X.env) :: starEach es X.env := by rfl) (hpl : (backTo pos (starEach es X.env)).any (·.1) = false := by rfl)
    (ht : eval (.Call (.Attribute o m apos) (e :: es) [] pos) X.env = (do
      let ov ← eval o X.env
      standAt apos.atName
      let (f, first) ← holding [ov] (getMethod ov m pl)
      callWith pos f first (backTo pos (starEach (e :: es) X.env)) (backToKw pos (keywordEach [] X.env))) := by rfl) : PE X (.Call (.Attribute o m apos) (e :: es) [] pos) (tMeth C m sp dvs E0 ta t) := by
  obtain ⟨⟨fd, ds, F, b, v⟩, _⟩ := h
  exact pe_meth he c hm F hr b v pass0 ha hst hpl ht
theorem pe_methH0 {pl : Sem Bool} (h : Has X.prog X.w X.K X.mg X.base k f ps dvs sp) (c : Cls X.K C) (hm : Meth X.K C m f) (hr : Room k X.A) (he : PE X o ta)
    (ht : eval (.Call (.Attribute o m apos) [] [] pos) X.env = (do
      let ov ← eval o X.env
      standAt apos.atName
      let (f, first) ← holding [ov] (getMethod ov m pl)
      callWith pos f first (backTo pos (starEach [] X.env)) (backToKw pos (keywordEach [] X.env))) := by rfl) : PE X (.Call (.Attribute o m apos) [] [] pos) (tMeth C m sp dvs E0 ta tNil) := by
  obtain ⟨⟨fd, ds, F, b, v⟩, _⟩ := h
  exact pe_meth0 he c hm F hr b v pass0 ht
theorem pe_makeH (h : Has X.prog X.w X.K X.mg X.base k f ps dvs sp) (M : Mk X.K C f) (hm : X.mg x = some (.ref C)) (hr : Room (k + 1) X.A) (hg : Gl X x) (ha : PA X (e :: es) t) (hdb : (x == ("__debug__" : Str)) = false := by decide)
    (he : starEach (e :: es) X.env = (false, eval e X.env) :: starEach es X.env := by rfl) (hpl : (backTo pos (starEach es X.env)).any (·.1) = false := by rfl) : PE X (.Call (.Name x p) (e :: es) [] pos) (tMake C sp dvs E0 t) := by
  obtain ⟨⟨fd, ds, F, b, v⟩, _⟩ := h
  exact pe_make M F hr hg hm b v pass0 ha hdb he hpl
theorem pe_globI {i : Int} (hm : ∃ t, X.mg x = some (.int i t)) (hg : Gl X x) (hd : (x == ("__debug__" : Str)) = false := by decide) : PE X (.Name x pos) (tC (.int i)) := by
  obtain ⟨t, e⟩ := hm
  exact pe_glob hg e ⟨t, rfl⟩ hd
theorem pe_globS {z : Str} (hm : ∃ t, X.mg x = some (.str z t)) (hg : Gl X x) (hd : (x == ("__debug__" : Str)) = false := by decide) : PE X (.Name x pos) (tC (.str z)) := by
  obtain ⟨t, e⟩ := hm
  exact pe_glob hg e ⟨t, rfl⟩ hd
/-- a list's, tuple's, dict's truth as a test -/
theorem pt_truthK {a : Expr} {ta : TE} (ha : PE X a ta) (he : ∀ whole, isTrue a X.env whole = (do let v ← whole; standAt a.pos; holding [v] (truthy v)) := by intro _; rfl) : PT X a (tTruK X.K ta) := pt_truth ha he
end
abbrev N_D_init : List Str := ["self", "system"]
theorem sc_D_init : FnScope N_D_init ["self", "system"] (defScope s_D_init) := ⟨rfl, rfl, rfl, by decide +kernel, rfl, by decide +kernel, by decide +kernel⟩
abbrev N_D_words : List Str := ["self", "number", "word", "value"]
theorem sc_D_words : FnScope N_D_words ["self", "number"] (defScope s_D_words) := ⟨rfl, rfl, rfl, by decide +kernel, rfl, by decide +kernel, by decide +kernel⟩
abbrev N_D_parts : List Str := ["self", "number", "found", "index", "count", "left", "_", "value", "most", "rest"]
theorem sc_D_parts : FnScope N_D_parts ["self", "number"] (defScope s_D_parts) := ⟨rfl, rfl, rfl, by decide +kernel, rfl, by decide +kernel, by decide +kernel⟩
abbrev N_D_is_unsaid : List Str := ["self", "index", "count"]
theorem sc_D_is_unsaid : FnScope N_D_is_unsaid ["self", "index", "count"] (defScope s_D_is_unsaid) := ⟨rfl, rfl, rfl, by decide +kernel, rfl, by decide +kernel, by decide +kernel⟩
abbrev N_D_below : List Str := ["self", "number", "found", "index", "count", "left"]
theorem sc_D_below : FnScope N_D_below ["self", "number"] (defScope s_D_below) := ⟨rfl, rfl, rfl, by decide +kernel, rfl, by decide +kernel, by decide +kernel⟩
abbrev N_D_learn : List Str := ["self", "number", "waiting", "seen", "one"]
theorem sc_D_learn : FnScope N_D_learn ["self", "number"] (defScope s_D_learn) := ⟨rfl, rfl, rfl, by decide +kernel, rfl, by decide +kernel, by decide +kernel⟩
abbrev N_D_counted : List Str := ["self", "number", "found", "index", "count", "left"]
theorem sc_D_counted : FnScope N_D_counted ["self", "number"] (defScope s_D_counted) := ⟨rfl, rfl, rfl, by decide +kernel, rfl, by decide +kernel, by decide +kernel⟩
abbrev N_D_fewest : List Str := ["self", "number", "found", "index", "count", "left", "sizes"]
theorem sc_D_fewest : FnScope N_D_fewest ["self", "number"] (defScope s_D_fewest) := ⟨rfl, rfl, rfl, by decide +kernel, rfl, by decide +kernel, by decide +kernel⟩
abbrev N_D_ways : List Str := ["self", "index", "count"]
theorem sc_D_ways : FnScope N_D_ways ["self", "index", "count"] (defScope s_D_ways) := ⟨rfl, rfl, rfl, by decide +kernel, rfl, by decide +kernel, by decide +kernel⟩
abbrev N_D_rests : List Str := ["self", "left"]
theorem sc_D_rests : FnScope N_D_rests ["self", "left"] (defScope s_D_rests) := ⟨rfl, rfl, rfl, by decide +kernel, rfl, by decide +kernel, by decide +kernel⟩
abbrev N_D_count : List Str := ["self", "number"]
theorem sc_D_count : FnScope N_D_count ["self", "number"] (defScope s_D_count) := ⟨rfl, rfl, rfl, by decide +kernel, rfl, by decide +kernel, by decide +kernel⟩
abbrev N_D_choice : List Str := ["self", "number", "index", "words", "place", "count", "left", "rests", "many", "found"]
theorem sc_D_choice : FnScope N_D_choice ["self", "number", "index"] (defScope s_D_choice) := ⟨rfl, rfl, rfl, by decide +kernel, rfl, by decide +kernel, by decide +kernel⟩
abbrev N_D_phrase : List Str := ["self", "number", "index", "found", "waiting", "one", "made"]
theorem sc_D_phrase : FnScope N_D_phrase ["self", "number", "index"] (defScope s_D_phrase) := ⟨rfl, rfl, rfl, by decide +kernel, rfl, by decide +kernel, by decide +kernel⟩
abbrev N_D_first : List Str := ["self", "number"]
theorem sc_D_first : FnScope N_D_first ["self", "number"] (defScope s_D_first) := ⟨rfl, rfl, rfl, by decide +kernel, rfl, by decide +kernel, by decide +kernel⟩
abbrev N_check_range : List Str := ["start", "stop"]
theorem sc_check_range : FnScope N_check_range ["start", "stop"] (defScope s_check_range) := ⟨rfl, rfl, rfl, by decide +kernel, rfl, by decide +kernel, by decide +kernel⟩
abbrev N_S_init : List Str := ["self", "system", "word"]
theorem sc_S_init : FnScope N_S_init ["self", "system", "word"] (defScope s_S_init) := ⟨rfl, rfl, rfl, by decide +kernel, rfl, by decide +kernel, by decide +kernel⟩
abbrev N_S_weight : List Str := ["self", "word"]
theorem sc_S_weight : FnScope N_S_weight ["self", "word"] (defScope s_S_weight) := ⟨rfl, rfl, rfl, by decide +kernel, rfl, by decide +kernel, by decide +kernel⟩
abbrev N_S_low : List Str := ["self", "number", "made", "told", "count", "total"]
theorem sc_S_low : FnScope N_S_low ["self", "number"] (defScope s_S_low) := ⟨rfl, rfl, rfl, by decide +kernel, rfl, by decide +kernel, by decide +kernel⟩
abbrev N_S_first : List Str := ["self", "number", "words", "index", "count", "left", "ahead", "behind"]
theorem sc_S_first : FnScope N_S_first ["self", "number"] (defScope s_S_first) := ⟨rfl, rfl, rfl, by decide +kernel, rfl, by decide +kernel, by decide +kernel⟩
abbrev N_S_of : List Str := ["self", "number", "many", "told", "count", "left", "behind", "word", "value", "_", "is_unsaid", "rest"]
theorem sc_S_of : FnScope N_S_of ["self", "number"] (defScope s_S_of) := ⟨rfl, rfl, rfl, by decide +kernel, rfl, by decide +kernel, by decide +kernel⟩
abbrev N_S_period : List Str := ["self", "count", "most", "ahead", "limit", "word", "_", "is_unsaid", "rest", "many", "total"]
theorem sc_S_period : FnScope N_S_period ["self", "count", "most"] (defScope s_S_period) := ⟨rfl, rfl, rfl, by decide +kernel, rfl, by decide +kernel, by decide +kernel⟩
abbrev N_S_up_to : List Str := ["self", "number", "steps", "found", "step"]
theorem sc_S_up_to : FnScope N_S_up_to ["self", "number"] (defScope s_S_up_to) := ⟨rfl, rfl, rfl, by decide +kernel, rfl, by decide +kernel, by decide +kernel⟩
abbrev N_S_further : List Str := ["self", "number", "inner", "first", "last", "ahead", "many", "total", "part", "word", "value", "_", "is_unsaid", "rest", "counts", "said", "rests", "behind", "told"]
theorem sc_S_further : FnScope N_S_further ["self", "number", "inner"] (defScope s_S_further) := ⟨rfl, rfl, rfl, by decide +kernel, rfl, by decide +kernel, by decide +kernel⟩
abbrev N_said_between : List Str := ["system", "word", "start", "stop", "held"]
theorem sc_said_between : FnScope N_said_between ["system", "word", "start", "stop"] (defScope s_said_between) := ⟨rfl, rfl, rfl, by decide +kernel, rfl, by decide +kernel, by decide +kernel⟩
abbrev N_words_said : List Str := ["system", "start", "stop"]
theorem sc_words_said : FnScope N_words_said ["system", "start", "stop"] (defScope s_words_said) := ⟨rfl, rfl, rfl, by decide +kernel, rfl, by decide +kernel, by decide +kernel⟩
abbrev N_times_said : List Str := ["system", "start", "stop", "word"]
theorem sc_times_said : FnScope N_times_said ["system", "start", "stop", "word"] (defScope s_times_said) := ⟨rfl, rfl, rfl, by decide +kernel, rfl, by decide +kernel, by decide +kernel⟩
abbrev N_longest_said : List Str := ["system", "start", "stop", "held", "best", "most", "number", "told"]
theorem sc_longest_said : FnScope N_longest_said ["system", "start", "stop"] (defScope s_longest_said) := ⟨rfl, rfl, rfl, by decide +kernel, rfl, by decide +kernel, by decide +kernel⟩
abbrev N_is_word : List Str := ["text", "letter"]
theorem sc_is_word : FnScope N_is_word ["text"] (defScope s_is_word) := ⟨rfl, rfl, rfl, by decide +kernel, rfl, by decide +kernel, by decide +kernel⟩
abbrev N_simple_fault : List Str := ["row"]
theorem sc_simple_fault : FnScope N_simple_fault ["row"] (defScope s_simple_fault) := ⟨rfl, rfl, rfl, by decide +kernel, rfl, by decide +kernel, by decide +kernel⟩
abbrev N_multiplier_fault : List Str := ["row", "word", "value", "count", "_", "rest"]
theorem sc_multiplier_fault : FnScope N_multiplier_fault ["row"] (defScope s_multiplier_fault) := ⟨rfl, rfl, rfl, by decide +kernel, rfl, by decide +kernel, by decide +kernel⟩
abbrev N_check_rows : List Str := ["part", "rows", "most", "number", "row", "reason"]
theorem sc_check_rows : FnScope N_check_rows ["part", "rows", "most"] (defScope s_check_rows) := ⟨rfl, rfl, rfl, by decide +kernel, rfl, by decide +kernel, by decide +kernel⟩
abbrev N_check_words : List Str := ["simple", "multipliers", "seen", "part", "rows", "number", "row"]
theorem sc_check_words : FnScope N_check_words ["simple", "multipliers"] (defScope s_check_words) := ⟨rfl, rfl, rfl, by decide +kernel, rfl, by decide +kernel, by decide +kernel⟩
abbrev N_check_endless : List Str := ["multipliers", "found", "number", "row"]
theorem sc_check_endless : FnScope N_check_endless ["multipliers"] (defScope s_check_endless) := ⟨rfl, rfl, rfl, by decide +kernel, rfl, by decide +kernel, by decide +kernel⟩
abbrev N_Y_init : List Str := ["self", "simple", "multipliers", "row"]
theorem sc_Y_init : FnScope N_Y_init ["self", "simple", "multipliers"] (defScope s_Y_init) := ⟨rfl, rfl, rfl, by decide +kernel, rfl, by decide +kernel, by decide +kernel⟩
abbrev N_Y_words : List Str := ["self", "row"]
theorem sc_Y_words : FnScope N_Y_words ["self"] (defScope s_Y_words) := ⟨rfl, rfl, rfl, by decide +kernel, rfl, by decide +kernel, by decide +kernel⟩
abbrev N_Y_endless : List Str := ["self", "row"]
theorem sc_Y_endless : FnScope N_Y_endless ["self"] (defScope s_Y_endless) := ⟨rfl, rfl, rfl, by decide +kernel, rfl, by decide +kernel, by decide +kernel⟩
abbrev N_Y_bounded_maximum : List Str := ["self", "found", "row"]
theorem sc_Y_bounded_maximum : FnScope N_Y_bounded_maximum ["self"] (defScope s_Y_bounded_maximum) := ⟨rfl, rfl, rfl, by decide +kernel, rfl, by decide +kernel, by decide +kernel⟩
abbrev N_l_pool : List Str := ["_law_script", "_law_cell"]
theorem sc_l_pool : FnScope N_l_pool ["_law_script"] (defScope s_l_pool) := ⟨rfl, rfl, rfl, by decide +kernel, rfl, by decide +kernel, by decide +kernel⟩
abbrev N_l_take : List Str := ["_law_pool_here", "_law_many", "_law_cell", "_law_mixed", "_law_digit"]
theorem sc_l_take : FnScope N_l_take ["_law_pool_here", "_law_many"] (defScope s_l_take) := ⟨rfl, rfl, rfl, by decide +kernel, rfl, by decide +kernel, by decide +kernel⟩
abbrev N_l_upto : List Str := ["_law_pool_here", "_law_many", "_law_found", "_law_turn"]
theorem sc_l_upto : FnScope N_l_upto ["_law_pool_here", "_law_many"] (defScope s_l_upto) := ⟨rfl, rfl, rfl, by decide +kernel, rfl, by decide +kernel, by decide +kernel⟩
abbrev N_l_is_integer : List Str := ["_law_actual"]
theorem sc_l_is_integer : FnScope N_l_is_integer ["_law_actual"] (defScope s_l_is_integer) := ⟨rfl, rfl, rfl, by decide +kernel, rfl, by decide +kernel, by decide +kernel⟩
abbrev N_l_same : List Str := ["_law_actual", "_law_due", "_law_k"]
theorem sc_l_same : FnScope N_l_same ["_law_actual", "_law_due"] (defScope s_l_same) := ⟨rfl, rfl, rfl, by decide +kernel, rfl, by decide +kernel, by decide +kernel⟩
abbrev N_l_pick : List Str := ["_law_pool_here", "_law_rows"]
theorem sc_l_pick : FnScope N_l_pick ["_law_pool_here", "_law_rows"] (defScope s_l_pick) := ⟨rfl, rfl, rfl, by decide +kernel, rfl, by decide +kernel, by decide +kernel⟩
abbrev N_l_word : List Str := ["_law_pool_here", "_law_number", "_law_letters", "_law_total", "_law_found", "_law_k"]
theorem sc_l_word : FnScope N_l_word ["_law_pool_here", "_law_number"] (defScope s_l_word) := ⟨rfl, rfl, rfl, by decide +kernel, rfl, by decide +kernel, by decide +kernel⟩
abbrev N_l_drawn : List Str := ["_law_pool_here", "_law_simple", "_law_k", "_law_multipliers", "_law_value", "_law_count", "_law_rest", "_law_row"]
theorem sc_l_drawn : FnScope N_l_drawn ["_law_pool_here"] (defScope s_l_drawn) := ⟨rfl, rfl, rfl, by decide +kernel, rfl, by decide +kernel, by decide +kernel⟩
abbrev N_l_regular : List Str := ["_law_pool_here", "_law_base", "_law_is_unsaid", "_law_simple", "_law_multipliers", "_law_value", "_law_k"]
theorem sc_l_regular : FnScope N_l_regular ["_law_pool_here"] (defScope s_l_regular) := ⟨rfl, rfl, rfl, by decide +kernel, rfl, by decide +kernel, by decide +kernel⟩
abbrev N_l_nearly : List Str := ["_law_pool_here", "_law_rows", "_law_at", "_law_kind", "_law_word_here", "_law_value", "_law_count", "_law_is_unsaid", "_law_rest"]
theorem sc_l_nearly : FnScope N_l_nearly ["_law_pool_here"] (defScope s_l_nearly) := ⟨rfl, rfl, rfl, by decide +kernel, rfl, by decide +kernel, by decide +kernel⟩
abbrev N_l_shaped : List Str := ["_law_pool_here", "_law_rows", "_law_found", "_law_row"]
theorem sc_l_shaped : FnScope N_l_shaped ["_law_pool_here", "_law_rows"] (defScope s_l_shaped) := ⟨rfl, rfl, rfl, by decide +kernel, rfl, by decide +kernel, by decide +kernel⟩
abbrev N_l_words : List Str := ["_law_rows", "_law_row"]
theorem sc_l_words : FnScope N_l_words ["_law_rows"] (defScope s_l_words) := ⟨rfl, rfl, rfl, by decide +kernel, rfl, by decide +kernel, by decide +kernel⟩
abbrev N_l_bounded : List Str := ["_law_rows", "_law_found", "_law_word_here", "_law_value", "_law_most", "_law_is_unsaid", "_law_last"]
theorem sc_l_bounded : FnScope N_l_bounded ["_law_rows"] (defScope s_l_bounded) := ⟨rfl, rfl, rfl, by decide +kernel, rfl, by decide +kernel, by decide +kernel⟩
abbrev N_l_made : List Str := ["_law_pool_here", "_law_rows"]
theorem sc_l_made : FnScope N_l_made ["_law_pool_here", "_law_rows"] (defScope s_l_made) := ⟨rfl, rfl, rfl, by decide +kernel, rfl, by decide +kernel, by decide +kernel⟩
abbrev N_l_first : List Str := ["_law_rows", "_law_number", "_law_known", "_law_found", "_law_word_here", "_law_value", "_law_most", "_law_is_unsaid", "_law_last", "_law_count", "_law_rest", "_law_ahead", "_law_behind"]
theorem sc_l_first : FnScope N_l_first ["_law_rows", "_law_number", "_law_known"] (defScope s_l_first) := ⟨rfl, rfl, rfl, by decide +kernel, rfl, by decide +kernel, by decide +kernel⟩
abbrev N_l_said : List Str := ["_law_rows", "_law_number", "_law_word_here", "_law_known", "_law_phrase"]
theorem sc_l_said : FnScope N_l_said ["_law_rows", "_law_number", "_law_word_here", "_law_known"] (defScope s_l_said) := ⟨rfl, rfl, rfl, by decide +kernel, rfl, by decide +kernel, by decide +kernel⟩
abbrev N_l_counted : List Str := ["_law_rows", "_law_start", "_law_stop", "_law_word_here", "_law_known", "_law_total", "_law_number"]
theorem sc_l_counted : FnScope N_l_counted ["_law_rows", "_law_start", "_law_stop", "_law_word_here", "_law_known"] (defScope s_l_counted) := ⟨rfl, rfl, rfl, by decide +kernel, rfl, by decide +kernel, by decide +kernel⟩
abbrev N_l_some_word : List Str := ["_law_pool_here", "_law_rows", "_law_words_here"]
theorem sc_l_some_word : FnScope N_l_some_word ["_law_pool_here", "_law_rows"] (defScope s_l_some_word) := ⟨rfl, rfl, rfl, by decide +kernel, rfl, by decide +kernel, by decide +kernel⟩
abbrev N_l_with_outer : List Str := ["_law_pool_here", "_law_kind", "_law_rows", "_law_value", "_law_more", "_law_multipliers", "_law_row"]
theorem sc_l_with_outer : FnScope N_l_with_outer ["_law_pool_here"] (defScope s_l_with_outer) := ⟨rfl, rfl, rfl, by decide +kernel, rfl, by decide +kernel, by decide +kernel⟩
abbrev N_l_outer : List Str := ["_law_rows", "_law_row"]
theorem sc_l_outer : FnScope N_l_outer ["_law_rows"] (defScope s_l_outer) := ⟨rfl, rfl, rfl, by decide +kernel, rfl, by decide +kernel, by decide +kernel⟩
abbrev N_l_told : List Str := ["_law_system", "_law_start", "_law_stop", "_law_word_here"]
theorem sc_l_told : FnScope N_l_told ["_law_system", "_law_start", "_law_stop", "_law_word_here"] (defScope s_l_told) := ⟨rfl, rfl, rfl, by decide +kernel, rfl, by decide +kernel, by decide +kernel⟩
abbrev N_l_period_so : List Str := ["_law_pool_here", "_law_rows", "_law_system", "_law_known", "_law_word_here", "_law_outer_here", "_law_least", "_law_count", "_law_ahead", "_law_rests", "_law_due", "_law_start", "_law_best", "_law_size", "_law_rest", "_law_told_here", "_law_one"]
theorem sc_l_period_so : FnScope N_l_period_so ["_law_pool_here", "_law_rows", "_law_system", "_law_known", "_law_word_here"] (defScope s_l_period_so) := ⟨rfl, rfl, rfl, by decide +kernel, rfl, by decide +kernel, by decide +kernel⟩
abbrev N_law : List Str := ["_law_script", "_law_pool_here", "_law_rows", "_law_system", "_law_known", "_law_turn", "_law_value", "_law_more", "_law_other", "_law_start", "_law_word_here", "_law_row"]
theorem sc_law : FnScope N_law ["_law_script"] (defScope s_law) := ⟨rfl, rfl, rfl, by decide +kernel, rfl, by decide +kernel, by decide +kernel⟩
end Sy

/-! part: Math -/
/-! The plain laws: what is said of a number, how many ways there are, sums. No program here. -/
namespace Sy
structure Mul (α : Type) where
  word : α
  value : Nat
  count : Option Nat
  unsaid : Bool
  rest : Nat
structure Rows (α : Type) where
  simple : List (α × Nat)
  mults : List (Mul α)
structure Part (α : Type) where
  ix : Nat
  m : Mul α
  c : Nat
  r : Nat
set_option linter.all false
variable {α : Type}
def Mul.fits (m : Mul α) (c r : Nat) : Bool := decide (1 ≤ c) && ((match m.count with | none => true | some k => decide (c ≤ k)) && decide (r ≤ m.rest))
def partsL : List (Mul α) → Nat → Nat → List (Part α)
  | [], _, _ => []
  | m :: ms, i, n => if m.fits (n / m.value) (n % m.value) = true then ⟨i, m, n / m.value, n % m.value⟩ :: partsL ms (i + 1) n else partsL ms (i + 1) n
def Rows.parts (R : Rows α) (n : Nat) : List (Part α) := partsL R.mults 0 n
/-- nothing is said ahead -/
def Mul.un (m : Mul α) (c : Nat) : Bool := decide (c = 1) && m.unsaid
structure Rows.Ok (R : Rows α) : Prop where
  sv : ∀ p ∈ R.simple, 1 ≤ p.2
  mv : ∀ m ∈ R.mults, 2 ≤ m.value
  ml : ∀ m ∈ R.mults, m.value ≤ 1000
  mr : ∀ m ∈ R.mults, m.rest < m.value
  mc : ∀ m ∈ R.mults, ∀ k, m.count = some k → 1 ≤ k ∧ k ≤ 1000
  sz : R.simple.length ≤ 24
  mz : R.mults.length ≤ 6
theorem fits_pos {m : Mul α} {c r : Nat} (h : m.fits c r = true) : 1 ≤ c ∧ r ≤ m.rest := by
  unfold Mul.fits at h
  simp only [Bool.and_eq_true, decide_eq_true_eq] at h
  exact ⟨h.1, h.2.2⟩
theorem fits_count {m : Mul α} {c r k : Nat} (h : m.fits c r = true) (hk : m.count = some k) : c ≤ k := by
  unfold Mul.fits at h
  rw [hk] at h
  simp only [Bool.and_eq_true, decide_eq_true_eq] at h
  exact h.2.1
theorem partsL_mem : ∀ {ms : List (Mul α)} {i n : Nat} {p : Part α}, p ∈ partsL ms i n → (∃ j, p.ix = i + j ∧ ms[j]? = some p.m) ∧ p.c = n / p.m.value ∧ p.r = n % p.m.value ∧ p.m.fits p.c p.r = true
  | [], _, _, _, h => by simp [partsL] at h
  | m :: ms, i, n, p, h => by
    unfold partsL at h
    split at h
    · rename_i hf
      rcases List.mem_cons.mp h with rfl | h
      · exact ⟨⟨0, rfl, rfl⟩, rfl, rfl, hf⟩
      · obtain ⟨⟨j, e1, e2⟩, q⟩ := partsL_mem h
        exact ⟨⟨j + 1, by omega, by simpa using e2⟩, q⟩
    · obtain ⟨⟨j, e1, e2⟩, q⟩ := partsL_mem h
      exact ⟨⟨j + 1, by omega, by simpa using e2⟩, q⟩
theorem parts_mem {R : Rows α} {n : Nat} {p : Part α} (h : p ∈ R.parts n) : R.mults[p.ix]? = some p.m ∧ p.c = n / p.m.value ∧ p.r = n % p.m.value ∧ p.m.fits p.c p.r = true := by
  obtain ⟨⟨j, e1, e2⟩, q⟩ := partsL_mem h
  rw [show p.ix = j by omega]
  exact ⟨e2, q⟩
theorem partsL_len : ∀ (ms : List (Mul α)) (i n : Nat), (partsL ms i n).length ≤ ms.length
  | [], _, _ => Nat.le_refl _
  | m :: ms, i, n => by
    unfold partsL
    have := partsL_len ms (i + 1) n
    split <;> simp <;> omega
theorem parts_in {R : Rows α} {n : Nat} {p : Part α} (h : p ∈ R.parts n) : p.m ∈ R.mults := List.mem_of_getElem? (parts_mem h).1
theorem parts_lt {R : Rows α} (ok : R.Ok) {n : Nat} {p : Part α} (h : p ∈ R.parts n) : 1 ≤ p.c ∧ p.c < n ∧ p.r < n ∧ p.c + p.r < n := by
  obtain ⟨_, e1, e2, hf⟩ := parts_mem h
  have hv := ok.mv _ (parts_in h)
  have hp := (fits_pos hf).1
  have hd := Nat.div_add_mod n p.m.value
  rw [← e1, ← e2] at hd
  have h2 : 2 * p.c ≤ p.m.value * p.c := Nat.mul_le_mul_right _ hv
  have hr : p.r < p.m.value := by rw [e2]; exact Nat.mod_lt _ (by omega)
  have h3 : p.m.value * 1 ≤ p.m.value * p.c := Nat.mul_le_mul_left _ hp
  omega

/-! ### what is said -/
def cmb (f : Nat → Option (List α)) (p : Part α) : Option (List α) :=
  match (if p.m.un p.c = true then some [] else f p.c), (if p.r = 0 then some [] else f p.r) with
  | some a, some b => some (a ++ p.m.word :: b)
  | _, _ => none
def Rows.wordsOf (R : Rows α) (n : Nat) : List α := (R.simple.filter fun p => decide (p.2 = n)).map (·.1)
def step (R : Rows α) (f : Nat → Option (List α)) (n : Nat) : Option (List α) := match R.wordsOf n with
  | w :: _ => some [w]
  | [] => (R.parts n).findSome? (cmb f)
def phr (R : Rows α) (n : Nat) : Option (List α) := step R (fun k => if k < n then phr R k else none) n
termination_by n
theorem findSome_congr {β γ : Type} {f g : β → Option γ} : ∀ {l : List β}, (∀ x ∈ l, f x = g x) → l.findSome? f = l.findSome? g
  | [], _ => rfl
  | x :: l, h => by
    rw [List.findSome?_cons, List.findSome?_cons, h x (List.mem_cons_self ..), findSome_congr fun y hy => h y (List.mem_cons_of_mem _ hy)]
theorem cmb_congr {f g : Nat → Option (List α)} {p : Part α} (h1 : f p.c = g p.c) (h2 : f p.r = g p.r) : cmb f p = cmb g p := by
  unfold cmb; rw [h1, h2]
theorem phr_eq {R : Rows α} (ok : R.Ok) (n : Nat) : phr R n = step R (phr R) n := by
  rw [phr]
  unfold step
  split
  · rfl
  · refine findSome_congr fun p hp => ?_
    obtain ⟨_, h1, h2, _⟩ := parts_lt ok hp
    exact cmb_congr (if_pos h1) (if_pos h2)

/-! ### how many ways -/
def wy (f : Nat → Nat) (p : Part α) : Nat := (if p.m.un p.c = true then 1 else f p.c) * (if p.r = 0 then 1 else f p.r)
def wayStep (R : Rows α) (f : Nat → Nat) (n : Nat) : Nat := (R.wordsOf n).length + ((R.parts n).map (wy f)).sum
def ways (R : Rows α) (n : Nat) : Nat := wayStep R (fun k => if k < n then ways R k else 0) n
termination_by n
theorem ways_eq {R : Rows α} (ok : R.Ok) (n : Nat) : ways R n = wayStep R (ways R) n := by
  rw [ways]
  unfold wayStep
  congr 2
  refine List.map_congr_left fun p hp => ?_
  obtain ⟨_, h1, h2, _⟩ := parts_lt ok hp
  show (if p.m.un p.c = true then 1 else (if p.c < n then ways R p.c else 0)) * (if p.r = 0 then 1 else (if p.r < n then ways R p.r else 0)) = wy (ways R) p
  rw [if_pos h1, if_pos h2]
  rfl
theorem sum_pos : ∀ {l : List Nat}, 0 < l.sum ↔ ∃ x ∈ l, 0 < x
  | [] => by simp
  | x :: l => by
    have := sum_pos (l := l)
    simp only [List.sum_cons, List.mem_cons]
    constructor
    · intro h
      rcases Nat.eq_zero_or_pos x with e | e
      · obtain ⟨y, hy, q⟩ := this.mp (by omega)
        exact ⟨y, .inr hy, q⟩
      · exact ⟨x, .inl rfl, e⟩
    · rintro ⟨y, rfl | hy, q⟩
      · omega
      · have := this.mpr ⟨y, hy, q⟩
        omega
theorem findSome_isSome {β γ : Type} {f : β → Option γ} : ∀ {l : List β}, (l.findSome? f).isSome = true ↔ ∃ x ∈ l, (f x).isSome = true
  | [] => by simp
  | x :: l => by
    rw [List.findSome?_cons]
    cases e : f x with
    | none => simp [findSome_isSome (l := l), e]
    | some y => simp [e]
theorem cmb_isSome {f : Nat → Option (List α)} {p : Part α} : (cmb f p).isSome = true ↔ (p.m.un p.c = true ∨ (f p.c).isSome = true) ∧ (p.r = 0 ∨ (f p.r).isSome = true) := by
  unfold cmb
  by_cases h1 : p.m.un p.c = true <;> by_cases h2 : p.r = 0 <;> simp only [h1, h2, if_true, if_false]
  · simp
  · cases f p.r <;> simp
  · cases f p.c <;> simp
  · cases f p.c <;> cases f p.r <;> simp
theorem wy_pos {f : Nat → Nat} {p : Part α} : 0 < wy f p ↔ (p.m.un p.c = true ∨ 0 < f p.c) ∧ (p.r = 0 ∨ 0 < f p.r) := by
  unfold wy
  rw [Nat.pos_iff_ne_zero, Nat.mul_ne_zero_iff]
  by_cases h1 : p.m.un p.c = true <;> by_cases h2 : p.r = 0 <;> simp [h1, h2, Nat.pos_iff_ne_zero]
theorem ways_pos {R : Rows α} (ok : R.Ok) (n : Nat) : 0 < ways R n ↔ (phr R n).isSome = true := by
  induction n using Nat.strongRecOn with
  | ind n ih =>
    rw [ways_eq ok, phr_eq ok]
    unfold wayStep step
    cases hw : R.wordsOf n with
    | cons w ws => simp; omega
    | nil =>
      simp only [List.length_nil, Nat.zero_add]
      rw [sum_pos, findSome_isSome]
      constructor
      · rintro ⟨x, hx, q⟩
        obtain ⟨p, hp, rfl⟩ := List.mem_map.mp hx
        obtain ⟨_, h1, h2, _⟩ := parts_lt ok hp
        rw [wy_pos, ih _ h1, ih _ h2] at q
        exact ⟨p, hp, cmb_isSome.mpr q⟩
      · rintro ⟨p, hp, q⟩
        obtain ⟨_, h1, h2, _⟩ := parts_lt ok hp
        rw [cmb_isSome, ← ih _ h1, ← ih _ h2] at q
        exact ⟨_, List.mem_map.mpr ⟨p, hp, rfl⟩, wy_pos.mpr q⟩
theorem words_mem {R : Rows α} {n : Nat} {w : α} (h : w ∈ R.wordsOf n) : (w, n) ∈ R.simple := by
  unfold Rows.wordsOf at h
  obtain ⟨⟨a, b⟩, hp, rfl⟩ := List.mem_map.mp h
  obtain ⟨h1, h2⟩ := List.mem_filter.mp hp
  rw [← of_decide_eq_true h2]
  exact h1
theorem words_len (R : Rows α) (n : Nat) : (R.wordsOf n).length ≤ R.simple.length := by
  unfold Rows.wordsOf
  rw [List.length_map]
  exact List.length_filter_le ..
theorem phr_zero {R : Rows α} (ok : R.Ok) : phr R 0 = none := by
  rw [phr_eq ok]
  unfold step
  split
  · rename_i w ws e
    have := ok.sv _ (words_mem (R := R) (n := 0) (w := w) (by rw [e]; exact List.mem_cons_self ..))
    simp at this
  · rw [List.findSome?_eq_none_iff]
    intro p hp
    have := (parts_lt ok hp).2.1
    omega

/-! ### how much is said -/
section
variable [DecidableEq α]
def wt1 (wd : Option α) (w : α) : Nat := if wd = none ∨ wd = some w then 1 else 0
def wt (wd : Option α) : List α → Nat
  | [] => 0
  | w :: ws => wt1 wd w + wt wd ws
theorem wt_append (wd : Option α) : ∀ a b : List α, wt wd (a ++ b) = wt wd a + wt wd b
  | [], b => by simp [wt]
  | w :: ws, b => by
    show wt1 wd w + wt wd (ws ++ b) = wt1 wd w + wt wd ws + wt wd b
    rw [wt_append wd ws b]
    omega
theorem wt_none : ∀ a : List α, wt none a = a.length
  | [] => rfl
  | w :: ws => by
    show wt1 none w + wt none ws = ws.length + 1
    rw [wt_none ws]
    unfold wt1
    rw [if_pos (.inl rfl)]
    omega
theorem wt_some (v : α) : ∀ a : List α, wt (some v) a = a.countP fun y => decide (y = v)
  | [] => rfl
  | w :: ws => by
    show wt1 (some v) w + wt (some v) ws = _
    rw [wt_some v ws, List.countP_cons]
    unfold wt1
    by_cases h : w = v
    · simp [h]; omega
    · have : ¬ v = w := fun e => h e.symm
      simp [h, this]
def told (R : Rows α) (wd : Option α) (n : Nat) : Option Nat := (phr R n).map (wt wd)
def oadd (a : Option Nat) (w : Nat) (b : Option Nat) : Option Nat := match a, b with
  | some x, some y => some (x + w + y)
  | _, _ => none
def aheadT (t : Nat → Option Nat) (m : Mul α) (c : Nat) : Option Nat := if m.un c = true then some 0 else t c
def behindT (t : Nat → Option Nat) (r : Nat) : Option Nat := if r = 0 then some 0 else t r
def cmbT (wd : Option α) (t : Nat → Option Nat) (p : Part α) : Option Nat := oadd (aheadT t p.m p.c) (wt1 wd p.m.word) (behindT t p.r)
theorem cmb_told (R : Rows α) (wd : Option α) (p : Part α) : (cmb (phr R) p).map (wt wd) = cmbT wd (told R wd) p := by
  unfold cmb cmbT aheadT behindT told
  by_cases h1 : p.m.un p.c = true <;> by_cases h2 : p.r = 0 <;> simp only [h1, h2, if_true, if_false]
  · simp [oadd, wt]
  · cases phr R p.r <;> simp [oadd, wt]
  · cases phr R p.c <;> simp [oadd, wt, wt_append]
  · cases phr R p.c <;> cases phr R p.r <;> simp [oadd, wt, wt_append]; omega
theorem map_findSome {β γ δ : Type} (g : γ → δ) (f : β → Option γ) : ∀ l : List β, (l.findSome? f).map g = l.findSome? fun x => (f x).map g
  | [] => rfl
  | x :: l => by
    rw [List.findSome?_cons, List.findSome?_cons]
    cases f x with
    | none => exact map_findSome g f l
    | some y => rfl
theorem told_eq {R : Rows α} (ok : R.Ok) (wd : Option α) (n : Nat) : told R wd n = match R.wordsOf n with
    | w :: _ => some (wt1 wd w)
    | [] => (R.parts n).findSome? (cmbT wd (told R wd)) := by
  unfold told
  rw [phr_eq ok]
  unfold step
  cases R.wordsOf n with
  | cons w ws => simp [wt]
  | nil =>
    show ((R.parts n).findSome? (cmb (phr R))).map (wt wd) = _
    rw [map_findSome]
    exact findSome_congr fun p _ => cmb_told R wd p
theorem told_zero {R : Rows α} (ok : R.Ok) (wd : Option α) : told R wd 0 = none := by
  unfold told; rw [phr_zero ok]; rfl
end

/-! ### above the bounded maximum -/
structure IsB (R : Rows α) (B : Nat) : Prop where
  s : ∀ p ∈ R.simple, p.2 ≤ B
  m : ∀ m ∈ R.mults, ∀ k, m.count = some k → k * m.value + m.rest ≤ B
structure IsOut (R : Rows α) (out : Mul α) : Prop where
  at_ : ∃ j : Nat, R.mults[j]? = some out ∧ ∀ (i : Nat) m, R.mults[i]? = some m → m.count = none → i = j
  no : out.count = none
theorem IsOut.mem {R : Rows α} {out : Mul α} (h : IsOut R out) : out ∈ R.mults := by
  obtain ⟨j, e, _⟩ := h.at_
  exact List.mem_of_getElem? e
theorem partsL_of : ∀ {ms : List (Mul α)} {i n j : Nat} {m : Mul α}, ms[j]? = some m → m.fits (n / m.value) (n % m.value) = true → (⟨i + j, m, n / m.value, n % m.value⟩ : Part α) ∈ partsL ms i n
  | [], _, _, _, _, h, _ => by simp at h
  | m0 :: ms, i, n, 0, m, h, hf => by
    have e : m0 = m := by simpa using h
    subst e
    unfold partsL
    rw [if_pos hf]
    exact List.mem_cons_self ..
  | m0 :: ms, i, n, j + 1, m, h, hf => by
    have q := partsL_of (i := i + 1) (n := n) (j := j) (ms := ms) (by simpa using h) hf
    rw [show i + 1 + j = i + (j + 1) by omega] at q
    unfold partsL
    split
    · exact List.mem_cons_of_mem _ q
    · exact q
theorem findSome_same {β γ : Type} {f : β → Option γ} {p : β} : ∀ {l : List β}, (∀ x ∈ l, x = p) → l.findSome? f = if l = [] then none else f p
  | [], _ => rfl
  | x :: l, h => by
    rw [List.findSome?_cons, h x (List.mem_cons_self ..), findSome_same fun y hy => h y (List.mem_cons_of_mem _ hy)]
    cases e : f p with
    | some y => simp
    | none => simp
theorem big_words {R : Rows α} {B n : Nat} (hb : IsB R B) (hn : B < n) : R.wordsOf n = [] := by
  cases e : R.wordsOf n with
  | nil => rfl
  | cons w ws =>
    have := hb.s _ (words_mem (R := R) (n := n) (w := w) (by rw [e]; exact List.mem_cons_self ..))
    simp at this
    omega
theorem big_none {R : Rows α} {B n : Nat} (hb : IsB R B) (hn : B < n) {p : Part α} (hp : p ∈ R.parts n) : p.m.count = none := by
  obtain ⟨_, e1, e2, hf⟩ := parts_mem hp
  cases hc : p.m.count with
  | none => rfl
  | some k =>
    have q := hb.m _ (parts_in hp) k hc
    have h1 := fits_count hf hc
    have h2 := (fits_pos hf).2
    have hd := Nat.div_add_mod n p.m.value
    rw [← e1, ← e2, Nat.mul_comm] at hd
    have h3 : p.c * p.m.value ≤ k * p.m.value := Nat.mul_le_mul_right _ h1
    omega
theorem big_parts {R : Rows α} {B n : Nat} {out : Mul α} {γ : Type} (hb : IsB R B) (ho : IsOut R out) (hn : B < n) (f : Part α → Option γ) (hf : ∀ p q : Part α, p.m = q.m → p.c = q.c → p.r = q.r → f p = f q) :
    (R.parts n).findSome? f = if 1 ≤ n / out.value ∧ n % out.value ≤ out.rest then f ⟨0, out, n / out.value, n % out.value⟩ else none := by
  obtain ⟨j, ej, uj⟩ := ho.at_
  have all : ∀ x ∈ R.parts n, x = ⟨j, out, n / out.value, n % out.value⟩ := fun x hx => by
    obtain ⟨ix, m, c, r⟩ := x
    obtain ⟨e1, e2, e3, _⟩ := parts_mem hx
    obtain rfl := uj _ _ e1 (big_none hb hn hx)
    have : m = out := Option.some.inj (e1.symm.trans ej)
    subst this
    simp only at e2 e3
    rw [e2, e3]
  rw [findSome_same all, hf ⟨j, out, n / out.value, n % out.value⟩ ⟨0, out, n / out.value, n % out.value⟩ rfl rfl rfl]
  by_cases h : 1 ≤ n / out.value ∧ n % out.value ≤ out.rest
  · rw [if_pos h, if_neg]
    intro e
    have q := partsL_of (i := 0) (n := n) ej (by unfold Mul.fits; rw [ho.no]; simp [h.1, h.2])
    rw [show partsL R.mults 0 n = R.parts n from rfl, e] at q
    simp at q
  · rw [if_neg h]
    split
    · rfl
    · rename_i ne
      exfalso
      cases hl : R.parts n with
      | nil => exact ne hl
      | cons x xs =>
        have hx : x ∈ R.parts n := by rw [hl]; exact List.mem_cons_self ..
        have q := (parts_mem hx).2.2.2
        rw [all x hx] at q
        exact h (fits_pos q)
theorem big_phr {R : Rows α} (ok : R.Ok) {B n : Nat} {out : Mul α} (hb : IsB R B) (ho : IsOut R out) (hn : B < n) :
    phr R n = if 1 ≤ n / out.value ∧ n % out.value ≤ out.rest then cmb (phr R) ⟨0, out, n / out.value, n % out.value⟩ else none := by
  rw [phr_eq ok]
  unfold step
  rw [big_words hb hn]
  exact big_parts hb ho hn _ fun p q e1 e2 e3 => by unfold cmb; rw [e1, e2, e3]
section
variable [DecidableEq α]
theorem big_told {R : Rows α} (ok : R.Ok) (wd : Option α) {B n : Nat} {out : Mul α} (hb : IsB R B) (ho : IsOut R out) (hn : B < n) :
    told R wd n = if 1 ≤ n / out.value ∧ n % out.value ≤ out.rest then oadd (aheadT (told R wd) out (n / out.value)) (wt1 wd out.word) (behindT (told R wd) (n % out.value)) else none := by
  rw [told_eq ok, big_words hb hn]
  exact big_parts hb ho hn _ fun p q e1 e2 e3 => by unfold cmbT; rw [e1, e2, e3]
/-- a count and a rest -/
theorem big_at {R : Rows α} (ok : R.Ok) (wd : Option α) {B C r : Nat} {out : Mul α} (hb : IsB R B) (ho : IsOut R out) (hC : B < C * out.value) (hr : r < out.value) :
    told R wd (C * out.value + r) = if r ≤ out.rest then oadd (aheadT (told R wd) out C) (wt1 wd out.word) (behindT (told R wd) r) else none := by
  have hv := ok.mv _ ho.mem
  have e1 : (C * out.value + r) / out.value = C := by
    rw [Nat.add_comm, Nat.add_mul_div_right _ _ (by omega), Nat.div_eq_of_lt hr, Nat.zero_add]
  have e2 : (C * out.value + r) % out.value = r := by
    rw [Nat.add_comm, Nat.add_mul_mod_self_right, Nat.mod_eq_of_lt hr]
  rw [big_told ok wd hb ho (by omega), e1, e2]
  have : 1 ≤ C := by
    rcases Nat.eq_zero_or_pos C with e | e
    · subst e; simp at hC
    · exact e
  by_cases h : r ≤ out.rest
  · rw [if_pos ⟨this, h⟩, if_pos h]
  · rw [if_neg fun q => h q.2, if_neg h]
end

/-! ### sums -/
def sums (t : Nat → Option Nat) : Nat → Nat × Nat
  | 0 => (0, 0)
  | n + 1 => match t (n + 1) with
    | none => sums t n
    | some k => ((sums t n).1 + 1, (sums t n).2 + k)
theorem sums_none {t : Nat → Option Nat} {n : Nat} (h : t (n + 1) = none) : sums t (n + 1) = sums t n := by
  simp only [sums, h]
theorem sums_some {t : Nat → Option Nat} {n k : Nat} (h : t (n + 1) = some k) : sums t (n + 1) = ((sums t n).1 + 1, (sums t n).2 + k) := by
  simp only [sums, h]
section
variable [DecidableEq α]
/-- the numbers of one count with rests up to m -/
theorem per {R : Rows α} (ok : R.Ok) (wd : Option α) {B C : Nat} {out : Mul α} (hb : IsB R B) (ho : IsOut R out) (hC : B < C * out.value) : ∀ m, m < out.value →
    sums (told R wd) (C * out.value + m) = match aheadT (told R wd) out C with
      | none => sums (told R wd) (C * out.value - 1)
      | some a => ((sums (told R wd) (C * out.value - 1)).1 + ((sums (told R wd) (min m out.rest)).1 + 1), (sums (told R wd) (C * out.value - 1)).2 + ((a + wt1 wd out.word) * ((sums (told R wd) (min m out.rest)).1 + 1) + (sums (told R wd) (min m out.rest)).2))
  | 0, hm => by
    have q := big_at ok wd (r := 0) hb ho hC hm
    rw [if_pos (Nat.zero_le _)] at q
    have e0 : C * out.value + 0 = C * out.value - 1 + 1 := by omega
    rw [e0] at q ⊢
    cases ha : aheadT (told R wd) out C with
    | none =>
      rw [ha] at q
      exact sums_none q
    | some a =>
      rw [ha] at q
      rw [sums_some q]
      simp [sums, Nat.zero_min]
  | m + 1, hm => by
    have ih := per ok wd hb ho hC m (by omega)
    have q := big_at ok wd (r := m + 1) hb ho hC hm
    rw [show C * out.value + (m + 1) = C * out.value + m + 1 from rfl] at q ⊢
    by_cases hr : m + 1 ≤ out.rest
    · rw [if_pos hr, show behindT (told R wd) (m + 1) = told R wd (m + 1) from if_neg (by omega)] at q
      rw [Nat.min_eq_left hr]
      rw [Nat.min_eq_left (show m ≤ out.rest by omega)] at ih
      cases ha : aheadT (told R wd) out C with
      | none =>
        rw [ha] at q ih
        rw [sums_none (by rw [q]; rfl)]
        exact ih
      | some a =>
        rw [ha] at q ih
        simp only at ih ⊢
        cases ht : told R wd (m + 1) with
        | none =>
          rw [ht] at q
          rw [sums_none (show told R wd (C * out.value + m + 1) = none by rw [q]; rfl), sums_none ht]
          exact ih
        | some k =>
          rw [ht] at q
          rw [sums_some (show told R wd (C * out.value + m + 1) = some (a + wt1 wd out.word + k) by rw [q]; rfl), sums_some ht, ih]
          refine Prod.ext ?_ ?_
          · show _ + (_ + 1) + 1 = _ + (_ + 1 + 1)
            omega
          · show _ + ((a + wt1 wd out.word) * (_ + 1) + _) + (a + wt1 wd out.word + k) = _ + ((a + wt1 wd out.word) * (_ + 1 + 1) + (_ + k))
            rw [Nat.mul_add (a + wt1 wd out.word) (_ + 1) 1]
            omega
    · rw [if_neg hr] at q
      rw [sums_none q, ih, Nat.min_eq_right (show out.rest ≤ m + 1 by omega), Nat.min_eq_right (show out.rest ≤ m by omega)]
/-- whole counts -/
theorem block {R : Rows α} (ok : R.Ok) (wd : Option α) {B F : Nat} {out : Mul α} (hb : IsB R B) (ho : IsOut R out) (hF : B < F * out.value) : ∀ d : Nat, ∃ c s : Nat,
    sums (aheadT (told R wd) out) (F + d - 1) = ((sums (aheadT (told R wd) out) (F - 1)).1 + c, (sums (aheadT (told R wd) out) (F - 1)).2 + s) ∧
    sums (told R wd) ((F + d) * out.value - 1) = ((sums (told R wd) (F * out.value - 1)).1 + c * ((sums (told R wd) out.rest).1 + 1),
      (sums (told R wd) (F * out.value - 1)).2 + (s * ((sums (told R wd) out.rest).1 + 1) + c * (wt1 wd out.word * ((sums (told R wd) out.rest).1 + 1) + (sums (told R wd) out.rest).2)))
  | 0 => ⟨0, 0, by simp, by simp⟩
  | d + 1 => by
    obtain ⟨c, s, h1, h2⟩ := block ok wd hb ho hF d
    have hv := ok.mv _ ho.mem
    have hF1 : 1 ≤ F := by
      rcases Nat.eq_zero_or_pos F with e | e
      · subst e; simp at hF
      · exact e
    have hC : B < (F + d) * out.value := Nat.lt_of_lt_of_le hF (Nat.mul_le_mul_right _ (by omega))
    have p := per ok wd hb ho hC (out.value - 1) (by omega)
    have e1 : (F + d) * out.value + (out.value - 1) = (F + (d + 1)) * out.value - 1 := by
      rw [show F + (d + 1) = F + d + 1 from rfl, Nat.add_mul (F + d) 1]
      omega
    rw [e1, Nat.min_eq_right (show out.rest ≤ out.value - 1 by have := ok.mr _ ho.mem; omega)] at p
    have e2 : F + (d + 1) - 1 = F + d - 1 + 1 := by omega
    have e3 : F + d - 1 + 1 = F + d := by omega
    cases ha : aheadT (told R wd) out (F + d) with
    | none =>
      rw [ha] at p
      refine ⟨c, s, ?_, ?_⟩
      · rw [e2, sums_none (by rw [e3]; exact ha), h1]
      · rw [p]; exact h2
    | some a =>
      rw [ha] at p
      simp only at p
      refine ⟨c + 1, s + a, ?_, ?_⟩
      · rw [e2, sums_some (by rw [e3]; exact ha), h1]
        exact Prod.ext (by show _ + c + 1 = _ + (c + 1); omega) (by show _ + s + a = _ + (s + a); omega)
      · rw [p, h2]
        generalize (sums (told R wd) out.rest).1 + 1 = z
        generalize (sums (told R wd) out.rest).2 = y
        refine Prod.ext ?_ ?_
        · show _ + c * z + z = _ + (c + 1) * z
          rw [Nat.add_mul, Nat.one_mul]
          omega
        · show _ + (s * z + c * (wt1 wd out.word * z + y)) + ((a + wt1 wd out.word) * z + y) = _ + ((s + a) * z + (c + 1) * (wt1 wd out.word * z + y))
          rw [Nat.add_mul s a, Nat.add_mul c 1, Nat.add_mul a, Nat.one_mul]
          omega
/-- the sums of the counts, where a count of one may be left out -/
theorem ahead_sums (t : Nat → Option Nat) (m : Mul α) : ∀ n, sums (aheadT t m) n = if m.unsaid = true ∧ 1 ≤ n then (match t 1 with
    | none => ((sums t n).1 + 1, (sums t n).2)
    | some k => ((sums t n).1, (sums t n).2 - k)) else sums t n
  | 0 => by simp [sums]
  | n + 1 => by
    have ih := ahead_sums t m n
    by_cases hu : m.unsaid = true
    · rw [if_pos ⟨hu, by omega⟩]
      rcases Nat.eq_zero_or_pos n with h0 | h0
      · subst h0
        have e : aheadT t m 1 = some 0 := by unfold aheadT Mul.un; simp [hu]
        cases h1 : t 1 with
        | none => simp [sums, e, h1]
        | some k => simp [sums, e, h1]
      · rw [if_pos ⟨hu, h0⟩] at ih
        have e : aheadT t m (n + 1) = t (n + 1) := by
          unfold aheadT Mul.un
          rw [if_neg (by simp; omega)]
        have ge : ∀ k, t 1 = some k → k ≤ (sums t n).2 := fun k hk => by
          have mono : ∀ d, k ≤ (sums t (1 + d)).2 := fun d => by
            induction d with
            | zero => simp [sums, hk]
            | succ d id =>
              cases hx : t (1 + d + 1) with
              | none => rw [show 1 + (d + 1) = 1 + d + 1 from rfl, sums_none hx]; exact id
              | some y => rw [show 1 + (d + 1) = 1 + d + 1 from rfl, sums_some hx]; show k ≤ _ + y; omega
          have := mono (n - 1)
          rwa [show 1 + (n - 1) = n by omega] at this
        cases hx : t (n + 1) with
        | none =>
          rw [sums_none (e.trans hx), sums_none hx]
          exact ih
        | some y =>
          rw [sums_some (e.trans hx), sums_some hx, ih]
          cases h1 : t 1 with
          | none => rfl
          | some k =>
            have := ge k h1
            exact Prod.ext rfl (by show _ - k + y = _ + y - k; omega)
    · rw [if_neg fun q => hu q.1]
      rw [if_neg fun q => hu q.1] at ih
      have e : aheadT t m (n + 1) = t (n + 1) := by
        unfold aheadT Mul.un
        rw [if_neg (by simp [hu])]
      simp only [sums, e, ih]
end
end Sy

/-! part: Rep -/
set_option Elab.async false
set_option linter.all false
set_option maxRecDepth 100000
set_option maxHeartbeats 4000000
namespace Sy
open PySem PySem.Spec PyProof.Rows L2
/-! ### how the data stand in a heap -/
abbrev M := Mul Str
abbrev Rs := Rows Str
def cntV : Option Nat → V
  | none => .non
  | some k => .int (k : Nat)
def mulL (m : M) : List V := [.str m.word, .int (m.value : Nat), cntV m.count, .bl m.unsaid, .int (m.rest : Nat)]
def SimRow (K : PySem.W.Frag) (H : Hp) (x : V) (p : Str × Nat) : Prop := ∃ a, x = .ref a ∧ SqT K H a [.str p.1, .int (p.2 : Nat)]
def MulRow (K : PySem.W.Frag) (H : Hp) (x : V) (m : M) : Prop := ∃ a, x = .ref a ∧ SqT K H a (mulL m)
def Rel {α : Type} (f : V → α → Prop) (xs : List V) (ys : List α) : Prop := xs.length = ys.length ∧ ∀ (i : Nat) x y, xs[i]? = some x → ys[i]? = some y → f x y
theorem Rel.imp {α : Type} {f g : V → α → Prop} {xs : List V} {ys : List α} (h : Rel f xs ys) (q : ∀ x y, f x y → g x y) : Rel g xs ys := ⟨h.1, fun i x y e1 e2 => q x y (h.2 i x y e1 e2)⟩
theorem Rel.nil {α : Type} {f : V → α → Prop} : Rel f [] [] := ⟨rfl, fun i x y e => by simp at e⟩
theorem Rel.get {α : Type} {f : V → α → Prop} {xs : List V} {ys : List α} (h : Rel f xs ys) {i : Nat} {x : V} (e : xs[i]? = some x) : ∃ y, ys[i]? = some y ∧ f x y := by
  have hl := (List.getElem?_eq_some_iff.mp e).1
  have hi : i < ys.length := by rw [← h.1]; exact hl
  exact ⟨ys[i], List.getElem?_eq_getElem hi, h.2 i x _ e (List.getElem?_eq_getElem hi)⟩
theorem Rel.get' {α : Type} {f : V → α → Prop} {xs : List V} {ys : List α} (h : Rel f xs ys) {i : Nat} {y : α} (e : ys[i]? = some y) : ∃ x, xs[i]? = some x ∧ f x y := by
  have hl := (List.getElem?_eq_some_iff.mp e).1
  have hi : i < xs.length := by rw [h.1]; exact hl
  exact ⟨xs[i], List.getElem?_eq_getElem hi, h.2 i _ y (List.getElem?_eq_getElem hi) e⟩
theorem Rel.snoc {α : Type} {f : V → α → Prop} {xs : List V} {ys : List α} {x : V} {y : α} (h : Rel f xs ys) (q : f x y) : Rel f (xs ++ [x]) (ys ++ [y]) := by
  refine ⟨by simp [h.1], fun i a b e1 e2 => ?_⟩
  by_cases hi : i < xs.length
  · rw [List.getElem?_append_left hi] at e1
    rw [List.getElem?_append_left (by rw [← h.1]; exact hi)] at e2
    exact h.2 i a b e1 e2
  · have hl := (List.getElem?_eq_some_iff.mp e1).1
    rw [List.length_append, List.length_singleton] at hl
    obtain rfl : i = xs.length := by omega
    rw [List.getElem?_append_right (Nat.le_refl _), Nat.sub_self] at e1
    rw [h.1, List.getElem?_append_right (Nat.le_refl _), Nat.sub_self] at e2
    cases e1; cases e2
    exact q
theorem Rel.cons {α : Type} {f : V → α → Prop} {xs : List V} {ys : List α} {x : V} {y : α} (q : f x y) (h : Rel f xs ys) : Rel f (x :: xs) (y :: ys) := by
  refine ⟨by simp [h.1], fun i a b e1 e2 => ?_⟩
  cases i with
  | zero => cases e1; cases e2; exact q
  | succ i => exact h.2 i a b (by simpa using e1) (by simpa using e2)
def SimAt (K : PySem.W.Frag) (H : Hp) (s : Addr) (sim : List (Str × Nat)) : Prop := ∃ xs, SqT K H s xs ∧ Rel (SimRow K H) xs sim
def MulAt (K : PySem.W.Frag) (H : Hp) (s : Addr) (ms : List M) : Prop := ∃ xs, SqT K H s xs ∧ Rel (MulRow K H) xs ms
abbrev sysF (s m v r : Addr) : List (Str × V) := [("simple", .ref s), ("multipliers", .ref m), ("_values", .ref v), ("_rows", .ref r)]
abbrev derF (y k : Addr) : List (Str × V) := [("system", .ref y), ("_known", .ref k)]
abbrev spoF (y : Addr) (wd : V) (o : Addr) (top : Int) (h sd sm : Addr) : List (Str × V) := [("system", .ref y), ("word", wd), ("outer", .ref o), ("top", .int top), ("held", .ref h), ("said", .ref sd), ("sums", .ref sm)]
abbrev cD (K : PySem.W.Frag) : Addr := He.ga K "Derivations"
abbrev cS (K : PySem.W.Frag) : Addr := He.ga K "Spoken"
abbrev cY (K : PySem.W.Frag) : Addr := He.ga K "System"
/-- a system stands at y -/
structure SysAt (K : PySem.W.Frag) (H : Hp) (y : Addr) (R : Rs) (s m : Addr) : Prop where
  ins : ∃ dx v r, H y = some (.ins (cY K) dx (sysF s m v r))
  sim : SimAt K H s R.simple
  mul : MulAt K H m R.mults
theorem SimRow.same {K : PySem.W.Frag} {H H' : Hp} (e : Same H H') {x : V} {p : Str × Nat} (h : SimRow K H x p) : SimRow K H' x p := by
  obtain ⟨a, q, h⟩ := h; exact ⟨a, q, e.tup h⟩
theorem MulRow.same {K : PySem.W.Frag} {H H' : Hp} (e : Same H H') {x : V} {m : M} (h : MulRow K H x m) : MulRow K H' x m := by
  obtain ⟨a, q, h⟩ := h; exact ⟨a, q, e.tup h⟩
theorem SysAt.same {K : PySem.W.Frag} {H H' : Hp} (e : Same H H') {y : Addr} {R : Rs} {s m : Addr} (h : SysAt K H y R s m) : SysAt K H' y R s m := by
  obtain ⟨⟨dx, v, r, hi⟩, ⟨xs, h1, h2⟩, ⟨zs, h3, h4⟩⟩ := h
  exact ⟨⟨dx, v, r, e _ _ hi⟩, ⟨xs, e.tup h1, h2.imp fun _ _ => SimRow.same e⟩, ⟨zs, e.tup h3, h4.imp fun _ _ => MulRow.same e⟩⟩
/-! ### fields -/
theorem lk_Y_simple {s m v r : Addr} : (sysF s m v r).lookup ("simple" : Str) = some (.ref s) := by with_unfolding_all rfl
theorem lk_Y_multipliers {s m v r : Addr} : (sysF s m v r).lookup ("multipliers" : Str) = some (.ref m) := by with_unfolding_all rfl
theorem lk_D_system {y k : Addr} : (derF y k).lookup ("system" : Str) = some (.ref y) := by with_unfolding_all rfl
theorem lk_D_known {y k : Addr} : (derF y k).lookup ("_known" : Str) = some (.ref k) := by with_unfolding_all rfl
theorem lk_S_system {y o h sd sm : Addr} {wd : V} {top : Int} : (spoF y wd o top h sd sm).lookup ("system" : Str) = some (.ref y) := by with_unfolding_all rfl
theorem lk_S_word {y o h sd sm : Addr} {wd : V} {top : Int} : (spoF y wd o top h sd sm).lookup ("word" : Str) = some (wd) := by with_unfolding_all rfl
theorem lk_S_outer {y o h sd sm : Addr} {wd : V} {top : Int} : (spoF y wd o top h sd sm).lookup ("outer" : Str) = some (.ref o) := by with_unfolding_all rfl
theorem lk_S_top {y o h sd sm : Addr} {wd : V} {top : Int} : (spoF y wd o top h sd sm).lookup ("top" : Str) = some (.int top) := by with_unfolding_all rfl
theorem lk_S_held {y o h sd sm : Addr} {wd : V} {top : Int} : (spoF y wd o top h sd sm).lookup ("held" : Str) = some (.ref h) := by with_unfolding_all rfl
theorem lk_S_said {y o h sd sm : Addr} {wd : V} {top : Int} : (spoF y wd o top h sd sm).lookup ("said" : Str) = some (.ref sd) := by with_unfolding_all rfl
theorem lk_S_sums {y o h sd sm : Addr} {wd : V} {top : Int} : (spoF y wd o top h sd sm).lookup ("sums" : Str) = some (.ref sm) := by with_unfolding_all rfl
/-- an object's methods are no fields of its own -/
theorem no_Y {s m v r : Addr} : (sysF s m v r).lookup ("words" : Str) = none ∧ (sysF s m v r).lookup ("endless" : Str) = none ∧ (sysF s m v r).lookup ("bounded_maximum" : Str) = none := by
  refine ⟨?_, ?_, ?_⟩ <;> with_unfolding_all rfl
theorem no_D {y k : Addr} (x : Str) (h : x ≠ "system" ∧ x ≠ "_known") : (derF y k).lookup x = none := by
  show (match x == ("system" : Str) with | true => _ | false => (match x == ("_known" : Str) with | true => _ | false => _)) = none
  rw [beq_eq_false_iff_ne.mpr h.1, beq_eq_false_iff_ne.mpr h.2]
  rfl
theorem no_S {y o h sd sm : Addr} {wd : V} {top : Int} (x : Str) (q : x ≠ "system" ∧ x ≠ "word" ∧ x ≠ "outer" ∧ x ≠ "top" ∧ x ≠ "held" ∧ x ≠ "said" ∧ x ≠ "sums") : (spoF y wd o top h sd sm).lookup x = none := by
  obtain ⟨q1, q2, q3, q4, q5, q6, q7⟩ := q
  simp only [spoF, List.lookup, beq_eq_false_iff_ne.mpr q1, beq_eq_false_iff_ne.mpr q2, beq_eq_false_iff_ne.mpr q3, beq_eq_false_iff_ne.mpr q4, beq_eq_false_iff_ne.mpr q5, beq_eq_false_iff_ne.mpr q6, beq_eq_false_iff_ne.mpr q7]
/-- a Derivations stands at d -/
structure DerAt (K : PySem.W.Frag) (H : Hp) (d y k s m : Addr) (R : Rs) : Prop where
  ins : ∃ dx, H d = some (.ins (cD K) dx (derF y k))
  sys : SysAt K H y R s m
theorem DerAt.same {K : PySem.W.Frag} {H H' : Hp} (e : Same H H') {d y k s m : Addr} {R : Rs} (h : DerAt K H d y k s m R) : DerAt K H' d y k s m R := by
  obtain ⟨⟨dx, h1⟩, h2⟩ := h
  exact ⟨⟨dx, e _ _ h1⟩, h2.same e⟩
end Sy

/-! part: D1 -/
set_option Elab.async false
set_option linter.all false
set_option maxRecDepth 100000
set_option maxHeartbeats 4000000
namespace Sy
open PySem PySem.Spec PyProof.Rows L2
section
variable {P : Program} {w : World} {K : PySem.W.Frag} {mg : Str → Option Value} {base : Heap}
/-! ### Derivations: words, parts, is_unsaid, below -/
theorem filter_take {α β : Type} (p : α → Bool) (f : α → β) (l : List α) (i : Nat) (x : α) (h : l[i]? = some x) : ((l.take (i + 1)).filter p).map f = ((l.take i).filter p).map f ++ (if p x = true then [f x] else []) := by
  have hi := (List.getElem?_eq_some_iff.mp h).1
  have e := (List.getElem?_eq_some_iff.mp h).2
  rw [List.take_succ_eq_append_getElem hi, List.filter_append, List.map_append, e]
  congr 1
  by_cases hp : p x = true
  · simp [hp]
  · simp [hp]
theorem filter_take_len {α β : Type} (p : α → Bool) (f : α → β) (l : List α) (i : Nat) : (((l.take i).filter p).map f).length ≤ l.length := by
  rw [List.length_map]
  have h1 := List.length_filter_le p (l.take i)
  have h2 : (l.take i).length ≤ l.length := by rw [List.length_take]; omega
  omega
def spD_words (K : PySem.W.Frag) : Sp := fun vs H Q _ => ∃ (d y k s m : Addr) (R : Rs) (n : Nat), vs = [.ref d, .int n] ∧ DerAt K H d y k s m R ∧ R.Ok ∧
  ∀ l H', Same H H' → H l = none → H' l = some (.lst ((R.wordsOf n).map V.str)) → Q (.ref l) H'
theorem ok_D_words (W : Wd K mg) : Has P w K mg base 1 (He.ma K (He.ga K "Derivations") "words") ["self", "number"] [] (spD_words K) := by
  refine mkHas (d := d_D_words) (N := N_D_words) (ps := ["self", "number"]) (W.says.def_ 1) sc_D_words (fun _ _ _ _ _ _ us hl => match us, hl with | [_, _], _ => rfl) (fun vs H Q E h => ?_) (fun cdv A outer s0 H vs Q E hr h => ?_)
  · obtain ⟨_, _, _, _, _, _, _, rfl, _⟩ := h
    rfl
  obtain ⟨d, y, k, s, m, R, n, rfl, ⟨⟨dx, hd⟩, ⟨⟨dy, v, r, hy⟩, ⟨xs, hx, rx⟩, _⟩⟩, ok, q⟩ := h
  refine ⟨_, (pss_one (ps_ret (pe_lc (own := [("word", 2), ("value", 3)]) (g := gTup K 2 (gCons (gName 2) (gCons (gName 3) gNil))) rfl sc_D_words.nd (pi_tup (pe_fld (pe_fld (pv 0) rfl) rfl)) (blkOk_by (own := [("word", 2), ("value", 3)]) (N := N_D_words) (sc := defScope s_D_words) (by decide +kernel)) (fun _ _ _ _ _ => (pg_tup rfl (pgs_cons (pg_name (i := 2) sc_D_words.nd rfl (Or.inl rfl)) (pgs_cons (pg_name (i := 3) sc_D_words.nd rfl (Or.inl rfl)) pgs_nil)))) (fun _ _ _ _ _ => (pts_one (pt_cmpR op_eq (pv 3) (pv 1) (nomark _)))) (fun _ _ _ _ _ => (pv 2))))), ?_⟩
  refine ⟨_, rfl, _, _, _, _, _, rfl, hd, W.k_Derivations, W.n_Derivations_system, lk_D_system, _, _, _, _, _, rfl, hy, W.k_System, W.n_System_simple, lk_Y_simple, s, rfl, ⟨xs, hx⟩, fun D nD => ?_⟩
  refine lc_tup (xs := xs) (fun i H' => Same H H' ∧ H' D = some (.lst (((R.simple.take i).filter fun p => decide (p.2 = n)).map fun p => V.str p.1))) ⟨Same.new nD, upd_same⟩ (fun i H' _ p => p.1.tup hx) ?_ ?_
  · rintro i x H' hi ⟨sH, hD⟩
    obtain ⟨⟨wd, vl⟩, ep, a, rfl, ha⟩ := rx.get hi
    refine ⟨a, _, rfl, sH.tup ha, rfl, _, _, rfl, _, _, rfl, rfl, rfl, ?_⟩
    refine ⟨_, rfl, _, rfl, rfl, _, rfl, ?_⟩
    have e := filter_take (fun p : Str × Nat => decide (p.2 = n)) (fun p => V.str p.1) R.simple i _ ep
    refine r_dec (fun c => ?_) fun c => ?_
    · have c' : vl = n := by injection c with c; omega
      rw [if_pos (decide_eq_true c')] at e
      refine ⟨_, rfl, _, hD, ?_, sH.mut nD, ?_⟩
      · have h1 := filter_take_len (fun p : Str × Nat => decide (p.2 = n)) (fun p => V.str p.1) R.simple i
        have h2 := ok.sz
        exact small_lt (by omega)
      · rw [upd_same, e]
    · have c' : ¬ vl = n := fun z => c (by rw [z])
      rw [if_neg (by simpa using c'), List.append_nil] at e
      exact ⟨sH, by rw [e]; exact hD⟩
  · rintro H' ⟨sH, hD⟩
    refine q D H' sH nD ?_
    rw [hD, rx.1, List.take_length]
    unfold Rows.wordsOf
    rw [List.map_map]
    rfl
def PartRow (H : Hp) (x : V) (p : Part Str) : Prop := ∃ t, x = .ref t ∧ H t = some (.tup [.int (p.ix : Nat), .int (p.c : Nat), .int (p.r : Nat)])
theorem partsL_snoc {α : Type} (m : Mul α) (n : Nat) : ∀ (ms : List (Mul α)) (i : Nat), partsL (ms ++ [m]) i n = partsL ms i n ++ (if m.fits (n / m.value) (n % m.value) = true then [⟨i + ms.length, m, n / m.value, n % m.value⟩] else [])
  | [], i => by simp [partsL]
  | a :: ms, i => by
    show partsL (a :: (ms ++ [m])) i n = _
    unfold partsL
    rw [partsL_snoc m n ms (i + 1), show i + 1 + ms.length = i + (ms.length + 1) by omega]
    split <;> simp
theorem parts_take {α : Type} (R : Rows α) (n i : Nat) (m : Mul α) (h : R.mults[i]? = some m) : partsL (R.mults.take (i + 1)) 0 n = partsL (R.mults.take i) 0 n ++ (if m.fits (n / m.value) (n % m.value) = true then [⟨i, m, n / m.value, n % m.value⟩] else []) := by
  have hi := (List.getElem?_eq_some_iff.mp h).1
  rw [List.take_succ_eq_append_getElem hi, (List.getElem?_eq_some_iff.mp h).2, partsL_snoc, List.length_take, Nat.min_eq_left (Nat.le_of_lt hi), Nat.zero_add]
def spD_parts (K : PySem.W.Frag) : Sp := fun vs H Q _ => ∃ (d y k s m : Addr) (R : Rs) (n : Nat), vs = [.ref d, .int n] ∧ DerAt K H d y k s m R ∧ R.Ok ∧
  ∀ l H' xs, Same H H' → H l = none → H' l = some (.lst xs) → Rel (PartRow H') xs (R.parts n) → Q (.ref l) H'
/-- the test of parts -/
theorem ans_fits {σ : L2.St} {H : Hp} {i j a b : Nat} {m : M} {c r : Nat} (h1 : σ[i]? = some (some (.int (c : Nat)))) (h2 : σ[a]? = some (some (cntV m.count))) (h3 : σ[j]? = some (some (.int (r : Nat)))) (h4 : σ[b]? = some (some (.int (m.rest : Nat)))) :
    Ans (tAnd (tTest (tOp (rI0 fun i j => .bl (decide (j ≤ i))) (tVar i) (tC (.int 1)))) (tAnd (tOr (tTest (tOp rIsN (tVar a) (tC .non))) (tTest (tOp (rI0 fun i j => .bl (decide (i ≤ j))) (tVar i) (tVar a)))) (tTest (tOp (rI0 fun i j => .bl (decide (i ≤ j))) (tVar j) (tVar b))))) σ H (m.fits c r) := by
  have a1 : Ans (tTest (tOp (rI0 fun i j => .bl (decide (j ≤ i))) (tVar i) (tC (.int 1)))) σ H (decide (1 ≤ c)) := by
    refine ans_cmp (val_var h1) val_c fun Q q => ⟨_, _, rfl, rfl, ?_⟩
    have e : decide ((1 : Int) ≤ (c : Int)) = decide (1 ≤ c) := decide_eq_decide.mpr ⟨fun z => by omega, fun z => by omega⟩
    show Q (.bl (decide ((1 : Int) ≤ (c : Int)))) H
    rw [e]; exact q
  have a3 : Ans (tTest (tOp (rI0 fun i j => .bl (decide (i ≤ j))) (tVar j) (tVar b))) σ H (decide (r ≤ m.rest)) := by
    refine ans_cmp (val_var h3) (val_var h4) fun Q q => ⟨_, _, rfl, rfl, ?_⟩
    have e : decide ((r : Int) ≤ (m.rest : Int)) = decide (r ≤ m.rest) := decide_eq_decide.mpr ⟨fun z => by omega, fun z => by omega⟩
    show Q (.bl (decide ((r : Int) ≤ (m.rest : Int)))) H
    rw [e]; exact q
  unfold Mul.fits
  refine ans_and2 a1 (ans_and2 ?_ a3)
  cases hc : m.count with
  | none =>
    rw [hc] at h2
    exact ans_or1 (ans_isN (val_var h2) rfl)
  | some k =>
    rw [hc] at h2
    refine ans_or (ans_isN (val_var h2) rfl) ?_
    refine ans_cmp (val_var h1) (val_var h2) fun Q q => ⟨_, _, rfl, rfl, ?_⟩
    have e : decide ((c : Int) ≤ (k : Int)) = decide (c ≤ k) := decide_eq_decide.mpr ⟨fun z => by omega, fun z => by omega⟩
    show Q (.bl (decide ((c : Int) ≤ (k : Int)))) H
    rw [e]; exact q
theorem ok_D_parts (W : Wd K mg) : Has P w K mg base 1 (He.ma K (He.ga K "Derivations") "parts") ["self", "number"] [] (spD_parts K) := by
  refine mkHas (d := d_D_parts) (N := N_D_parts) (ps := ["self", "number"]) (W.says.def_ 2) sc_D_parts (fun _ _ _ _ _ _ us hl => match us, hl with | [_, _], _ => rfl) (fun vs H Q E h => ?_) (fun cdv A outer s0 H vs Q E hr h => ?_)
  · obtain ⟨_, _, _, _, _, _, _, rfl, _⟩ := h
    rfl
  obtain ⟨d, y, k, s, mm, R, n, rfl, ⟨⟨dx, hd⟩, ⟨⟨dy, v, r, hy⟩, _, ⟨xs, hx, rx⟩⟩⟩, ok, q⟩ := h
  refine ⟨_, (pss_cons (ps_set (i := 2) sc_D_parts.nd rfl (Or.inl rfl) (pe_lst pa_nil))
      (pss_cons (ps_for PassesOwn.never rfl (pi_enumT rfl W.f_enumerate (pa_cons (pe_fld (pe_fld (pv 0) rfl) rfl) pa_nil)) (pg_tup rfl (pgs_cons (pg_name (i := 3) sc_D_parts.nd rfl (Or.inl rfl)) (pgs_cons (pg_tup rfl (pgs_cons (pg_name (i := 6) sc_D_parts.nd rfl (Or.inl rfl)) (pgs_cons (pg_name (i := 7) sc_D_parts.nd rfl (Or.inl rfl)) (pgs_cons (pg_name (i := 8) sc_D_parts.nd rfl (Or.inl rfl)) (pgs_cons (pg_name (i := 6) sc_D_parts.nd rfl (Or.inl rfl)) (pgs_cons (pg_name (i := 9) sc_D_parts.nd rfl (Or.inl rfl)) pgs_nil)))))) pgs_nil))) (pss_cons (ps_set (i := 4) sc_D_parts.nd rfl (Or.inl rfl) (pe_op op_ndiv (pv 1) (pv 7)))
      (pss_cons (ps_set (i := 5) sc_D_parts.nd rfl (Or.inl rfl) (pe_op op_nsub (pv 1) (pe_op op_nmul (pv 4) (pv 7))))
      (pss_one (ps_if (PW.pt (pw_and (pt_cmpR op_ge (pv 4) pe_int (nomark _)) (pw_and (PW.pt (pw_or (pt_cmpR op_isN1 (pv 8) pe_non (nomark _)) (pw_or1 (pt_cmpR op_le (pv 4) (pv 8) (nomark _))))) (pw_and1 (pt_cmpR op_le (pv 5) (pv 9) (nomark _)))))) (pss_one (ps_expr (pe_bm PySem.F.plainAttrs_list PySem.F.slot_list_append PySem.F.type_list_append mt_append (pv 2) (pa_cons (pe_tup (pa_cons (pv 3) (pa_cons (pv 4) (pa_cons (pv 5) pa_nil)))) pa_nil)))) pss_nil)))))
      (pss_one (ps_ret (pv 2))))), ?_⟩
  refine ⟨Nat.zero_le _, fun l nl => ?_⟩
  have s1 : Same H (upd H l (.lst [])) := Same.new nl
  refine ⟨_, rfl, _, _, _, _, _, rfl, (s1 _ _ hd), W.k_Derivations, W.n_Derivations_system, lk_D_system, _, _, _, _, _, rfl, (s1 _ _ hy), W.k_System, W.n_System_multipliers, lk_Y_multipliers, mm, xs, rfl, .inr ⟨s1.tup hx, ?_⟩⟩
  refine for_it (walk_enumT (xs := xs)) (fun i σ H' => Same H H' ∧ (∃ zs, H' l = some (.lst zs) ∧ Rel (PartRow H') zs (partsL (R.mults.take i) 0 n)) ∧ ∃ a3 a4 a5 a6 a7 a8 a9, σ = [some (.ref d), some (.int n), some (.ref l), a3, a4, a5, a6, a7, a8, a9])
    ⟨s1, ⟨[], upd_same, Rel.nil⟩, _, _, _, _, _, _, _, rfl⟩ (fun i σ H' _ p => p.1.tup hx) ?_ ?_
  · rintro i x σ H1 H2 hi ⟨sH, ⟨zs, hl, rz⟩, a3, a4, a5, a6, a7, a8, a9, rfl⟩ ⟨T, xi, xm, rfl, nT, rfl, e1, e2⟩
    obtain ⟨m, em, a, rfl, ha⟩ := rx.get e2
    cases e1
    have nTl : l ≠ T := no_in hl nT
    have s2 : Same H (upd H1 T (.tup [.int (i : Nat), .ref a])) := sH.new' nT
    refine ⟨T, _, rfl, SqT.of upd_same, rfl, _, _, rfl, _, _, rfl, ⟨a, _, rfl, s2.tup ha, rfl, _, _, rfl, _, _, rfl, _, _, rfl, _, _, rfl, _, _, rfl, rfl, ?_⟩⟩
    refine ⟨rfl, ?_⟩
    have hmem := List.mem_of_getElem? em
    have hv := ok.mv m hmem
    have hv2 := ok.ml m hmem
    refine ⟨_, rfl, _, rfl, _, _, rfl, rfl, ⟨by omega, by omega⟩, ?_⟩
    refine ⟨_, rfl, _, rfl, _, rfl, _, _, rfl, rfl, .inr (by omega), _, _, rfl, rfl, div_mul_le' _ _, ?_⟩
    rw [sub_div_mul']
    have e := parts_take R n i m em
    refine st_ans (b := m.fits (n / m.value) (n % m.value)) (ans_fits rfl rfl rfl rfl) (fun c => ?_) (fun c => ?_)
    · rw [if_pos c] at e
      have hl2 : upd H1 T (.tup [.int (i : Nat), .ref a]) l = some (.lst zs) := by rw [upd_ne nTl]; exact hl
      refine ⟨_, rfl, .inl ⟨rfl, _, SqL.of hl2⟩, _, rfl, _, rfl, _, rfl, by show 3 ≤ sizeLine; decide, fun p np => ?_⟩
      have nlp : l ≠ p := no_in hl2 np
      have hz : zs.length ≤ R.mults.length := by
        rw [rz.1]
        have h1 := partsL_len (R.mults.take i) 0 n
        have h2 : (R.mults.take i).length ≤ R.mults.length := by rw [List.length_take]; omega
        omega
      refine ⟨l, zs, _, rfl, rfl, by rw [upd_ne nlp]; exact hl2, small_lt (by have := ok.mz; omega), ?_⟩
      refine ⟨(s2.new' np).mut nl, ⟨_, upd_same, ?_⟩, _, _, _, _, _, _, _, rfl⟩
      rw [e]
      refine Rel.snoc (rz.imp fun x p ⟨t, e1, e2⟩ => ⟨t, e1, ?_⟩) ⟨p, rfl, by rw [upd_ne nlp.symm, upd_same]⟩
      have n1 : t ≠ l := ne_of e2 hl (by intro z; cases z)
      rw [upd_ne n1]
      exact ((Same.new nT).new' np) _ _ e2
    · rw [if_neg (by rw [c]; exact Bool.false_ne_true), List.append_nil] at e
      refine ⟨s2, ⟨zs, by rw [upd_ne nTl]; exact hl, ?_⟩, _, _, _, _, _, _, _, rfl⟩
      rw [e]
      exact rz.imp fun x p ⟨t, e1, e2⟩ => ⟨t, e1, Same.new nT _ _ e2⟩
  · rintro σ H' ⟨sH, ⟨zs, hl, rz⟩, a3, a4, a5, a6, a7, a8, a9, rfl⟩
    refine ⟨_, rfl, ?_⟩
    rw [rx.1, List.take_length] at rz
    exact q l H' zs sH nl hl rz
/-! is_unsaid, below -/
def spD_is_unsaid (K : PySem.W.Frag) : Sp := fun vs H Q _ => ∃ (d y k s mm : Addr) (R : Rs) (i c : Nat) (m : M), vs = [.ref d, .int i, .int c] ∧ DerAt K H d y k s mm R ∧ R.mults[i]? = some m ∧ Q (.bl (m.un c)) H
theorem ok_D_is_unsaid (W : Wd K mg) : Has P w K mg base 1 (He.ma K (He.ga K "Derivations") "is_unsaid") ["self", "index", "count"] [] (spD_is_unsaid K) := by
  refine mkHas (d := d_D_is_unsaid) (N := N_D_is_unsaid) (ps := ["self", "index", "count"]) (W.says.def_ 3) sc_D_is_unsaid (fun _ _ _ _ _ _ us hl => match us, hl with | [_, _, _], _ => rfl) (fun vs H Q E h => ?_) (fun cdv A outer s0 H vs Q E hr h => ?_)
  · obtain ⟨_, _, _, _, _, _, _, _, _, rfl, _⟩ := h
    rfl
  obtain ⟨d, y, k, s, mm, R, i, c, m, rfl, ⟨⟨dx, hd⟩, ⟨⟨dy, v, r, hy⟩, _, ⟨xs, hx, rx⟩⟩⟩, hm, q⟩ := h
  obtain ⟨x, ex, a, rfl, ha⟩ := rx.get' hm
  refine ⟨_, (pss_one (ps_ret (pe_and (pe_cmpR op_eq (pv 2) pe_int (nomark _)) (pe_one (pe_ix ix_tup (pe_ix ix_tup (pe_fld (pe_fld (pv 0) rfl) rfl) (pv 1) (fun _ _ => rfl)) pe_int (fun _ _ => rfl)))))), ?_⟩
  refine ⟨_, rfl, rfl, _, rfl, r_dec (fun hc => ?_) (fun hc => ?_)⟩
  · have hc' : c = 1 := by injection hc with hc; omega
    refine ⟨_, rfl, _, _, _, _, _, rfl, hd, W.k_Derivations, W.n_Derivations_system, lk_D_system, _, _, _, _, _, rfl, hy, W.k_System, W.n_System_multipliers, lk_Y_multipliers, _, rfl, mm, xs, _, _, rfl, rfl, hx, atI_nat ex, a, mulL m, _, _, rfl, rfl, ha, rfl, ?_⟩
    have e : m.un c = m.unsaid := by unfold Mul.un; rw [decide_eq_true hc']; rfl
    rw [e] at q
    exact q
  · have hc' : ¬ c = 1 := fun z => hc (by rw [z]; rfl)
    have e : m.un c = false := by unfold Mul.un; rw [decide_eq_false hc']; rfl
    rw [e] at q
    exact q
def belowP (p : Part Str) : List Nat := (if p.m.un p.c = true then [] else [p.c]) ++ (if p.r = 0 then [] else [p.r])
def below (R : Rs) (n : Nat) : List Nat := (R.parts n).flatMap belowP
def spD_below (K : PySem.W.Frag) : Sp := fun vs H Q _ => ∃ (d y k s m : Addr) (R : Rs) (n : Nat), vs = [.ref d, .int n] ∧ DerAt K H d y k s m R ∧ R.Ok ∧
  ∀ l H', Same H H' → H l = none → H' l = some (.lst ((below R n).map fun b => V.int (b : Nat))) → Q (.ref l) H'
theorem take_flat {α β : Type} (f : α → List β) (l : List α) (i : Nat) (x : α) (h : l[i]? = some x) : (l.take (i + 1)).flatMap f = (l.take i).flatMap f ++ f x := by
  have hi := (List.getElem?_eq_some_iff.mp h).1
  rw [List.take_succ_eq_append_getElem hi, (List.getElem?_eq_some_iff.mp h).2, List.flatMap_append]
  simp
theorem belowP_len (p : Part Str) : (belowP p).length ≤ 2 := by
  unfold belowP
  rw [List.length_append]
  split <;> split <;> simp
theorem flat_len {α β : Type} (f : α → List β) (k : Nat) (h : ∀ x, (f x).length ≤ k) : ∀ l : List α, (l.flatMap f).length ≤ k * l.length
  | [] => by simp
  | x :: l => by
    have := flat_len f k h l
    have := h x
    rw [List.flatMap_cons, List.length_append, List.length_cons, Nat.mul_succ]
    omega
theorem ok_D_below (W : Wd K mg) : Has P w K mg base 2 (He.ma K (He.ga K "Derivations") "below") ["self", "number"] [] (spD_below K) := by
  have h_D_parts := ok_D_parts (P := P) (w := w) (base := base) W
  have h_D_is_unsaid := ok_D_is_unsaid (P := P) (w := w) (base := base) W
  refine mkHas (d := d_D_below) (N := N_D_below) (ps := ["self", "number"]) (W.says.def_ 4) sc_D_below (fun _ _ _ _ _ _ us hl => match us, hl with | [_, _], _ => rfl) (fun vs H Q E h => ?_) (fun cdv A outer s0 H vs Q E hr h => ?_)
  · obtain ⟨_, _, _, _, _, _, _, rfl, _⟩ := h
    rfl
  obtain ⟨d, y, k, s, mm, R, n, rfl, hD, ok, q⟩ := h
  refine ⟨_, (pss_cons (ps_set (i := 2) sc_D_below.nd rfl (Or.inl rfl) (pe_lst pa_nil))
      (pss_cons (ps_for PassesOwn.never rfl (pi_list (pe_methH h_D_parts W.k_Derivations W.m_Derivations_parts (hr.mono (by omega)) (pv 0) (pa_cons (pv 1) pa_nil))) (pg_tup rfl (pgs_cons (pg_name (i := 3) sc_D_below.nd rfl (Or.inl rfl)) (pgs_cons (pg_name (i := 4) sc_D_below.nd rfl (Or.inl rfl)) (pgs_cons (pg_name (i := 5) sc_D_below.nd rfl (Or.inl rfl)) pgs_nil)))) (pss_cons (ps_if (pt_not (pt_val (pe_methH h_D_is_unsaid W.k_Derivations W.m_Derivations_is_unsaid (hr.mono (by omega)) (pv 0) (pa_cons (pv 3) (pa_cons (pv 4) pa_nil))))) (pss_one (ps_expr (pe_bm PySem.F.plainAttrs_list PySem.F.slot_list_append PySem.F.type_list_append mt_append (pv 2) (pa_cons (pv 4) pa_nil)))) pss_nil)
      (pss_one (ps_if (pt_cmpR op_gt (pv 5) pe_int (nomark _)) (pss_one (ps_expr (pe_bm PySem.F.plainAttrs_list PySem.F.slot_list_append PySem.F.type_list_append mt_append (pv 2) (pa_cons (pv 5) pa_nil)))) pss_nil))))
      (pss_one (ps_ret (pv 2))))), ?_⟩
  refine ⟨Nat.zero_le _, fun f nf => ?_⟩
  have s1 : Same H (upd H f (.lst [])) := Same.new nf
  obtain ⟨dx, hd⟩ := hD.ins
  refine ⟨_, rfl, d, dx, _, rfl, s1 _ _ hd, no_D _ (by decide +kernel), _, rfl, d, y, k, s, mm, R, n, rfl, hD.same s1, ok, fun l H2 xs s2 nl hl rx => ?_⟩
  have nfl : l ≠ f := by
    rintro rfl
    rw [upd_same] at nl
    cases nl
  refine ⟨l, rfl, ⟨xs, SqL.of hl⟩, ?_⟩
  have hl0 : ((R.parts n).length ≤ 6) := Nat.le_trans (partsL_len _ _ _) ok.mz
  refine for_list (xs := xs) (fun i σ H' => But [f] H2 H' ∧ H' f = some (.lst (((((R.parts n).take i)).flatMap belowP).map fun b => V.int (b : Nat))) ∧ ∃ a3 a4 a5, σ = [some (.ref d), some (.int n), some (.ref f), a3, a4, a5])
    ⟨But.refl _ _, s2 _ _ upd_same, _, _, _, rfl⟩ (fun i σ H' _ p => SqL.of (p.1.at hl (by simpa using nfl))) ?_ ?_
  · rintro i x σ H' hi ⟨b, hf, a3, a4, a5, rfl⟩
    obtain ⟨p, ep, t, rfl, ht⟩ := rx.get hi
    have nt : t ≠ f := ne_of ht (s2 _ _ upd_same) (by intro z; cases z)
    obtain ⟨em, _⟩ := parts_mem (List.mem_of_getElem? ep)
    have sH : Same H H' := b.base (s1.trans s2) (by simpa using nf)
    refine ⟨t, _, rfl, SqT.of (b.at ht (by simpa using nt)), rfl, _, _, rfl, _, _, rfl, _, _, rfl, rfl, ?_⟩
    have e := take_flat belowP (R.parts n) i p ep
    refine ⟨_, rfl, d, dx, _, rfl, sH _ _ hd, no_D _ (by decide +kernel), _, rfl, _, rfl, d, y, k, s, mm, R, p.ix, p.c, p.m, rfl, hD.same sH, em, _, rfl, ?_⟩
    have hb : (((R.parts n).take i).flatMap belowP).length ≤ 12 := by
      have h1 := flat_len belowP 2 belowP_len ((R.parts n).take i)
      have h2 : ((R.parts n).take i).length ≤ (R.parts n).length := by rw [List.length_take]; omega
      omega
    -- what follows the first if, for either list
    have fin : ∀ (zs : List Nat) (H3 : Hp), zs = ((R.parts n).take i).flatMap belowP ++ (if p.m.un p.c = true then [] else [p.c]) → zs.length ≤ 14 → But [f] H2 H3 → H3 f = some (.lst (zs.map fun b => V.int (b : Nat))) → ∀ (D : Ends), D.nx = (fun σ H' => But [f] H2 H' ∧ H' f = some (.lst (((((R.parts n).take (i + 1))).flatMap belowP).map fun b => V.int (b : Nat))) ∧ ∃ a3 a4 a5, σ = [some (.ref d), some (.int n), some (.ref f), a3, a4, a5]) →
        tIfS (tTest (tOp (rI0 fun i j => .bl (decide (j < i))) (tVar 5) (tC (.int 0)))) (tDrop (tBM K "list" rAppend (tVar 2) (tCons (tVar 5) tNil))) tNext D [some (.ref d), some (.int n), some (.ref f), some (.int (p.ix : Nat)), some (.int (p.c : Nat)), some (.int (p.r : Nat))] H3 := by
      intro zs H3 ez hz b3 h3 D eD
      refine ⟨_, rfl, _, _, rfl, rfl, _, rfl, r_dec (fun hc => ?_) (fun hc => ?_)⟩
      · refine ⟨_, rfl, .inl ⟨rfl, _, SqL.of h3⟩, _, rfl, f, _, _, rfl, rfl, h3, small_lt (by rw [List.length_map]; omega), ?_⟩
        rw [eD]
        refine ⟨b3.upd (.inl (by simp)), ?_, _, _, _, rfl⟩
        have e2 : belowP p = (if p.m.un p.c = true then [] else [p.c]) ++ [p.r] := by unfold belowP; rw [if_neg (show ¬ p.r = 0 by omega)]
        rw [upd_same, e, e2, ez]
        simp
      · show D.nx _ _
        rw [eD]
        refine ⟨b3, ?_, _, _, _, rfl⟩
        have e2 : belowP p = (if p.m.un p.c = true then [] else [p.c]) ++ [] := by unfold belowP; rw [if_pos (show p.r = 0 by omega)]
        rw [h3, e, e2, ez]
        simp
    refine r_nb (fun hc => ?_) (fun hc => ?_)
    · refine ⟨_, rfl, .inl ⟨rfl, _, SqL.of hf⟩, _, rfl, f, _, _, rfl, rfl, hf, small_lt (by rw [List.length_map]; omega), ?_⟩
      refine fin (((R.parts n).take i).flatMap belowP ++ [p.c]) _ (by rw [hc]; rfl) (by rw [List.length_append, List.length_singleton]; omega) (b.upd (.inl (by simp))) ?_ _ rfl
      rw [upd_same]
      simp
    · exact fin _ _ (by rw [hc]; simp) (by omega) b hf _ rfl
  · rintro σ H' ⟨b, hf, a3, a4, a5, rfl⟩
    refine ⟨_, rfl, q f H' (b.base (s1.trans s2) (by simpa using nf)) nf ?_⟩
    rw [hf, rx.1, List.take_length]
    rfl

end
end Sy

/-! part: D2 -/
set_option Elab.async false
set_option linter.all false
set_option maxRecDepth 100000
set_option maxHeartbeats 4000000
namespace Sy
open PySem PySem.Spec PyProof.Rows L2
section
variable {P : Program} {w : World} {K : PySem.W.Frag} {mg : Str → Option Value} {base : Heap}
/-! ### what is known of numbers -/
/-- the known dict: each number that stands in it, with its ways -/
structure KnAt (H : Hp) (k : Addr) (R : Rs) (kvs : List (Key × V)) : Prop where
  at_ : H k = some (.dK kvs)
  val : ∀ key v, valV kvs key = some v → ∃ (n : Nat) (t : Addr) (w : V), key = .inl (n : Nat) ∧ v = .ref t ∧ H t = some (.tup [.int (ways R n : Nat), w]) ∧ (w = .non ∨ ∃ i : Nat, w = .int (i : Nat))
def Kn (kvs : List (Key × V)) (n : Nat) : Prop := (valV kvs (.inl (n : Nat))).isSome = true
theorem KnAt.same {H H' : Hp} (e : Same H H') {k : Addr} {R : Rs} {kvs : List (Key × V)} (h : KnAt H k R kvs) : KnAt H' k R kvs := by
  refine ⟨e _ _ h.at_, fun key v hv => ?_⟩
  obtain ⟨n, t, w, e1, e2, e3, e4⟩ := h.val key v hv
  exact ⟨n, t, w, e1, e2, e _ _ e3, e4⟩
theorem KnAt.kn {H : Hp} {k : Addr} {R : Rs} {kvs : List (Key × V)} (h : KnAt H k R kvs) {n : Nat} (q : Kn kvs n) : ∃ (t : Addr) (w : V), valV kvs (.inl (n : Nat)) = some (.ref t) ∧ H t = some (.tup [.int (ways R n : Nat), w]) ∧ (w = .non ∨ ∃ i : Nat, w = .int (i : Nat)) := by
  obtain ⟨v, hv⟩ := Option.isSome_iff_exists.mp q
  obtain ⟨n', t, w, e1, e2, e3, e4⟩ := h.val _ v hv
  injection e1 with e1
  obtain rfl : n = n' := by omega
  subst e2
  exact ⟨t, w, hv, e3, e4⟩
theorem dget_of {H : Hp} {k : Addr} {kvs : List (Key × V)} (h : H k = some (.dK kvs)) {n : Nat} {v : V} (q : valV kvs (.inl (n : Nat)) = some v) : DGet H k (.int (n : Nat)) (some v) := by
  have z := DGet.k (H := H) (a := k) (kvs := kvs) (k := Sum.inl ((n : Nat) : Int)) h
  rw [q] at z
  exact z
theorem dget_none {H : Hp} {k : Addr} {kvs : List (Key × V)} (h : H k = some (.dK kvs)) {n : Nat} (q : valV kvs (.inl (n : Nat)) = none) : DGet H k (.int (n : Nat)) none := by
  have z := DGet.k (H := H) (a := k) (kvs := kvs) (k := Sum.inl ((n : Nat) : Int)) h
  rw [q] at z
  exact z
/-! count of what is known -/
def spD_countK (K : PySem.W.Frag) : Sp := fun vs H Q _ => ∃ (d y k s m : Addr) (R : Rs) (kvs : List (Key × V)) (n : Nat), vs = [.ref d, .int n] ∧ DerAt K H d y k s m R ∧ KnAt H k R kvs ∧ Kn kvs n ∧ Q (.int (ways R n : Nat)) H
theorem ok_D_countK (W : Wd K mg) : Has P w K mg base 1 (He.ma K (He.ga K "Derivations") "count") ["self", "number"] [] (spD_countK K) := by
  have h_D_learn : Has P w K mg base 0 (He.ma K (He.ga K "Derivations") "learn") ["self", "number"] [] (fun _ _ _ _ => False) := Has.no (d := d_D_learn) (W.says.def_ 5) (fun _ _ _ _ _ _ us hl => match us, hl with | [_, _], _ => rfl)
  refine mkHas (d := d_D_count) (N := N_D_count) (ps := ["self", "number"]) (W.says.def_ 10) sc_D_count (fun _ _ _ _ _ _ us hl => match us, hl with | [_, _], _ => rfl) (fun vs H Q E h => ?_) (fun cdv A outer s0 H vs Q E hr h => ?_)
  · obtain ⟨_, _, _, _, _, _, _, _, rfl, _⟩ := h
    rfl
  obtain ⟨d, y, k, s, m, R, kvs, n, rfl, ⟨⟨dx, hd⟩, _⟩, hk, hn, q⟩ := h
  have hu := hu_of hr
  obtain ⟨t, w, e1, e2, _⟩ := hk.kn hn
  refine ⟨_, (pss_cons (ps_if (pt_cmp (pc_dnotin hu (pv 1) (pe_fld (pv 0) rfl))) (pss_one (ps_expr (pe_methH h_D_learn W.k_Derivations W.m_Derivations_learn (hr.mono (by omega)) (pv 0) (pa_cons (pv 1) pa_nil)))) pss_nil)
      (pss_one (ps_ret (pe_ix ix_tup (pe_dget hu (pe_fld (pv 0) rfl) (pv 1) (fun _ _ => rfl)) pe_int (fun _ _ => rfl))))), ?_⟩
  refine ⟨_, rfl, _, rfl, _, _, _, _, _, rfl, hd, W.k_Derivations, W.n_Derivations_known, lk_D_known, k, _, rfl, dget_of hk.at_ e1, _, rfl, ?_⟩
  refine ⟨_, rfl, _, _, _, _, _, rfl, hd, W.k_Derivations, W.n_Derivations_known, lk_D_known, _, rfl, k, _, rfl, dget_of hk.at_ e1, t, _, _, _, rfl, rfl, SqT.of e2, rfl, q⟩
/-! ways, rests -/
def spD_waysK (K : PySem.W.Frag) : Sp := fun vs H Q _ => ∃ (d y k s mm : Addr) (R : Rs) (kvs : List (Key × V)) (i c : Nat) (m : M), vs = [.ref d, .int i, .int c] ∧ DerAt K H d y k s mm R ∧ KnAt H k R kvs ∧ R.mults[i]? = some m ∧ (m.un c = true ∨ Kn kvs c) ∧ Q (.int ((if m.un c = true then 1 else ways R c : Nat) : Int)) H
theorem ok_D_waysK (W : Wd K mg) : Has P w K mg base 2 (He.ma K (He.ga K "Derivations") "ways") ["self", "index", "count"] [] (spD_waysK K) := by
  have h_D_count := ok_D_countK (P := P) (w := w) (base := base) W
  have h_D_is_unsaid := ok_D_is_unsaid (P := P) (w := w) (base := base) W
  refine mkHas (d := d_D_ways) (N := N_D_ways) (ps := ["self", "index", "count"]) (W.says.def_ 8) sc_D_ways (fun _ _ _ _ _ _ us hl => match us, hl with | [_, _, _], _ => rfl) (fun vs H Q E h => ?_) (fun cdv A outer s0 H vs Q E hr h => ?_)
  · obtain ⟨_, _, _, _, _, _, _, _, _, _, rfl, _⟩ := h
    rfl
  obtain ⟨d, y, k, s, mm, R, kvs, i, c, m, rfl, hD, hk, hm, hc, q⟩ := h
  obtain ⟨dx, hd⟩ := hD.ins
  refine ⟨_, (pss_one (ps_ret (pe_ifExp (pt_val (pe_methH h_D_is_unsaid W.k_Derivations W.m_Derivations_is_unsaid (hr.mono (by omega)) (pv 0) (pa_cons (pv 1) (pa_cons (pv 2) pa_nil)))) pe_int (pe_methH h_D_count W.k_Derivations W.m_Derivations_count (hr.mono (by omega)) (pv 0) (pa_cons (pv 2) pa_nil))))), ?_⟩
  refine ⟨_, rfl, d, dx, _, rfl, hd, no_D _ (by decide +kernel), _, rfl, _, rfl, d, y, k, s, mm, R, i, c, m, rfl, hD, hm, _, rfl, r_b (fun e => ?_) (fun e => ?_)⟩
  · rw [if_pos e] at q
    exact q
  · rw [if_neg (by rw [e]; exact Bool.false_ne_true)] at q
    refine ⟨_, rfl, d, dx, _, rfl, hd, no_D _ (by decide +kernel), _, rfl, d, y, k, s, mm, R, kvs, c, rfl, hD, hk, ?_, q⟩
    rcases hc with hc | hc
    · rw [e] at hc; cases hc
    · exact hc
def spD_restsK (K : PySem.W.Frag) : Sp := fun vs H Q _ => ∃ (d y k s mm : Addr) (R : Rs) (kvs : List (Key × V)) (r : Nat), vs = [.ref d, .int r] ∧ DerAt K H d y k s mm R ∧ KnAt H k R kvs ∧ (r = 0 ∨ Kn kvs r) ∧ Q (.int ((if r = 0 then 1 else ways R r : Nat) : Int)) H
theorem ok_D_restsK (W : Wd K mg) : Has P w K mg base 2 (He.ma K (He.ga K "Derivations") "rests") ["self", "left"] [] (spD_restsK K) := by
  have h_D_count := ok_D_countK (P := P) (w := w) (base := base) W
  refine mkHas (d := d_D_rests) (N := N_D_rests) (ps := ["self", "left"]) (W.says.def_ 9) sc_D_rests (fun _ _ _ _ _ _ us hl => match us, hl with | [_, _], _ => rfl) (fun vs H Q E h => ?_) (fun cdv A outer s0 H vs Q E hr h => ?_)
  · obtain ⟨_, _, _, _, _, _, _, _, rfl, _⟩ := h
    rfl
  obtain ⟨d, y, k, s, mm, R, kvs, r, rfl, hD, hk, hc, q⟩ := h
  obtain ⟨dx, hd⟩ := hD.ins
  refine ⟨_, (pss_one (ps_ret (pe_ifExp (pt_cmpR op_eq (pv 1) pe_int (nomark _)) pe_int (pe_methH h_D_count W.k_Derivations W.m_Derivations_count (hr.mono (by omega)) (pv 0) (pa_cons (pv 1) pa_nil))))), ?_⟩
  refine ⟨_, rfl, rfl, _, rfl, r_dec (fun e => ?_) (fun e => ?_)⟩
  · have e' : r = 0 := by injection e with e; omega
    rw [if_pos e'] at q
    exact q
  · have e' : ¬ r = 0 := fun z => e (by rw [z]; rfl)
    rw [if_neg e'] at q
    exact ⟨_, rfl, d, dx, _, rfl, hd, no_D _ (by decide +kernel), _, rfl, d, y, k, s, mm, R, kvs, r, rfl, hD, hk, hc.resolve_left e', q⟩
/-! counted -/
/-- what a number's parts ask of the known ones -/
def Rdy (R : Rs) (kvs : List (Key × V)) (n : Nat) : Prop := ∀ p ∈ R.parts n, (p.m.un p.c = true ∨ Kn kvs p.c) ∧ (p.r = 0 ∨ Kn kvs p.r)
/-- sizes: of the counts' ways, of the rests' -/
def WB (R : Rs) (n : Nat) : Prop := ∀ p ∈ R.parts n, ways R p.c < 2 ^ 700000 ∧ ways R p.r < 2 ^ 8000
def spD_counted (K : PySem.W.Frag) : Sp := fun vs H Q _ => ∃ (d y k s mm : Addr) (R : Rs) (kvs : List (Key × V)) (n : Nat), vs = [.ref d, .int n] ∧ DerAt K H d y k s mm R ∧ R.Ok ∧ KnAt H k R kvs ∧ Rdy R kvs n ∧ WB R n ∧ ∀ H', Same H H' → Q (.int (ways R n : Nat)) H'
theorem two_pow_ne {b : Nat} : 1 < 2 ^ (b + 1) := Nat.one_lt_two_pow (Nat.succ_ne_zero b)
theorem wy_wide {R : Rs} {n : Nat} (hw : WB R n) {p : Part Str} (hp : p ∈ R.parts n) : CMulW (((if p.m.un p.c = true then 1 else ways R p.c : Nat)) : Int) (((if p.r = 0 then 1 else ways R p.r : Nat)) : Int) := by
  obtain ⟨h1, h2⟩ := hw p hp
  refine wide_mul (a := 700000) (b := 8000) ?_ ?_ (by omega) (by omega) (by omega)
  · rw [Int.natAbs_natCast]
    split
    · exact Nat.one_lt_two_pow (by omega)
    · exact h1
  · rw [Int.natAbs_natCast]
    split
    · exact Nat.one_lt_two_pow (by omega)
    · exact h2
theorem ok_D_counted (W : Wd K mg) : Has P w K mg base 3 (He.ma K (He.ga K "Derivations") "_counted") ["self", "number"] [] (spD_counted K) := by
  have h_D_words := ok_D_words (P := P) (w := w) (base := base) W
  have h_D_parts := ok_D_parts (P := P) (w := w) (base := base) W
  have h_D_ways := ok_D_waysK (P := P) (w := w) (base := base) W
  have h_D_rests := ok_D_restsK (P := P) (w := w) (base := base) W
  refine mkHas (d := d_D_counted) (N := N_D_counted) (ps := ["self", "number"]) (W.says.def_ 6) sc_D_counted (fun _ _ _ _ _ _ us hl => match us, hl with | [_, _], _ => rfl) (fun vs H Q E h => ?_) (fun cdv A outer s0 H vs Q E hr h => ?_)
  · obtain ⟨_, _, _, _, _, _, _, _, rfl, _⟩ := h
    rfl
  obtain ⟨d, y, k, s, mm, R, kvs, n, rfl, hD, ok, hk, hrd, hw, q⟩ := h
  obtain ⟨dx, hd⟩ := hD.ins
  refine ⟨_, (pss_cons (ps_set (i := 2) sc_D_counted.nd rfl (Or.inl rfl) (pe_callB call_len rfl W.f_len PySem.boot_len (pa_cons (pe_methH h_D_words W.k_Derivations W.m_Derivations_words (hr.mono (by omega)) (pv 0) (pa_cons (pv 1) pa_nil)) pa_nil)))
      (pss_cons (ps_for PassesOwn.never rfl (pi_list (pe_methH h_D_parts W.k_Derivations W.m_Derivations_parts (hr.mono (by omega)) (pv 0) (pa_cons (pv 1) pa_nil))) (pg_tup rfl (pgs_cons (pg_name (i := 3) sc_D_counted.nd rfl (Or.inl rfl)) (pgs_cons (pg_name (i := 4) sc_D_counted.nd rfl (Or.inl rfl)) (pgs_cons (pg_name (i := 5) sc_D_counted.nd rfl (Or.inl rfl)) pgs_nil)))) (pss_one (ps_aug (i := 2) sc_D_counted.nd rfl (Or.inl rfl) (pe_op op_nmulW (pe_methH h_D_ways W.k_Derivations W.m_Derivations_ways (hr.mono (by omega)) (pv 0) (pa_cons (pv 3) (pa_cons (pv 4) pa_nil))) (pe_methH h_D_rests W.k_Derivations W.m_Derivations_rests (hr.mono (by omega)) (pv 0) (pa_cons (pv 5) pa_nil))) ip_nadd)))
      (pss_one (ps_ret (pv 2))))), ?_⟩
  refine ⟨_, rfl, d, dx, _, rfl, hd, no_D _ (by decide +kernel), _, rfl, d, y, k, s, mm, R, n, rfl, hD, ok, fun l H1 s1 nl hl => ?_⟩
  refine ⟨.ref l, (R.wordsOf n).length, rfl, .inl ⟨_, SqL.of hl, (List.length_map _).symm⟩, ?_⟩
  refine ⟨_, rfl, d, dx, _, rfl, s1 _ _ hd, no_D _ (by decide +kernel), _, rfl, d, y, k, s, mm, R, n, rfl, hD.same s1, ok, fun l2 H2 xs s2 nl2 hl2 rx => ?_⟩
  refine ⟨l2, rfl, ⟨xs, SqL.of hl2⟩, ?_⟩
  have s12 := s1.trans s2
  refine for_list (xs := xs) (fun i σ H' => H' = H2 ∧ ∃ a3 a4 a5, σ = [some (.ref d), some (.int n), some (.int (((R.wordsOf n).length + (((R.parts n).take i).map (wy (ways R))).sum : Nat) : Int)), a3, a4, a5])
    ⟨rfl, _, _, _, by rw [List.take_zero]; rfl⟩ (fun i σ H' _ p => by rw [p.1]; exact SqL.of hl2) ?_ ?_
  · rintro i x σ H' hi ⟨rfl, a3, a4, a5, rfl⟩
    obtain ⟨p, ep, t, rfl, ht⟩ := rx.get hi
    have hp := List.mem_of_getElem? ep
    obtain ⟨em, _⟩ := parts_mem hp
    refine ⟨t, _, rfl, SqT.of ht, rfl, _, _, rfl, _, _, rfl, _, _, rfl, rfl, ?_⟩
    refine ⟨_, rfl, _, rfl, d, dx, _, rfl, s12 _ _ hd, no_D _ (by decide +kernel), _, rfl, _, rfl, d, y, k, s, mm, R, kvs, p.ix, p.c, p.m, rfl, hD.same s12, hk.same s12, em, (hrd p hp).1, ?_⟩
    refine ⟨_, rfl, d, dx, _, rfl, s12 _ _ hd, no_D _ (by decide +kernel), _, rfl, d, y, k, s, mm, R, kvs, p.r, rfl, hD.same s12, hk.same s12, (hrd p hp).2, ?_⟩
    refine ⟨_, _, rfl, rfl, wy_wide hw hp, _, _, rfl, rfl, ?_⟩
    have hi' := (List.getElem?_eq_some_iff.mp ep).1
    have es : (R.wordsOf n).length + (((R.parts n).take (i + 1)).map (wy (ways R))).sum = (R.wordsOf n).length + (((R.parts n).take i).map (wy (ways R))).sum + wy (ways R) p := by
      rw [List.take_succ_eq_append_getElem hi', (List.getElem?_eq_some_iff.mp ep).2, List.map_append, List.sum_append, ← Nat.add_assoc]
      simp
    refine ⟨rfl, some (.int (p.ix : Nat)), some (.int (p.c : Nat)), some (.int (p.r : Nat)), ?_⟩
    rw [es]
    rfl
  · rintro σ H' ⟨rfl, a3, a4, a5, rfl⟩
    refine ⟨_, rfl, ?_⟩
    rw [rx.1, List.take_length]
    have e : (R.wordsOf n).length + ((R.parts n).map (wy (ways R))).sum = ways R n := (ways_eq ok n).symm
    rw [e]
    exact q _ s12
/-! fewest: a number or None, whichever -/
def spD_fewest (K : PySem.W.Frag) : Sp := fun vs H Q _ => ∃ (d y k s mm : Addr) (R : Rs) (kvs : List (Key × V)) (n : Nat), vs = [.ref d, .int n] ∧ DerAt K H d y k s mm R ∧ R.Ok ∧ KnAt H k R kvs ∧ Rdy R kvs n ∧ ∀ w H', Same H H' → (w = .non ∨ ∃ i : Nat, w = .int (i : Nat)) → Q w H'
def NoI (w : V) : Prop := w = .non ∨ ∃ i : Nat, w = .int (i : Nat)
theorem NoI.flat {w : V} (h : NoI w) : flatV w = true := by
  rcases h with rfl | ⟨i, rfl⟩ <;> rfl
theorem two_ints {a b : V} (ha : NoI a) (hb : NoI b) (h : inV .non [a, b] = false) : ∃ i j : Nat, a = .int (i : Nat) ∧ b = .int (j : Nat) := by
  rcases ha with rfl | ⟨i, rfl⟩
  · exact absurd h (by simp [inV, eqV])
  · rcases hb with rfl | ⟨j, rfl⟩
    · exact absurd h (by simp [inV, eqV])
    · exact ⟨i, j, rfl, rfl⟩
theorem ok_D_fewest (W : Wd K mg) : Has P w K mg base 3 (He.ma K (He.ga K "Derivations") "_fewest") ["self", "number"] [] (spD_fewest K) := by
  have h_D_words := ok_D_words (P := P) (w := w) (base := base) W
  have h_D_parts := ok_D_parts (P := P) (w := w) (base := base) W
  have h_D_is_unsaid := ok_D_is_unsaid (P := P) (w := w) (base := base) W
  refine mkHas (d := d_D_fewest) (N := N_D_fewest) (ps := ["self", "number"]) (W.says.def_ 7) sc_D_fewest (fun _ _ _ _ _ _ us hl => match us, hl with | [_, _], _ => rfl) (fun vs H Q E h => ?_) (fun cdv A outer s0 H vs Q E hr h => ?_)
  · obtain ⟨_, _, _, _, _, _, _, _, rfl, _⟩ := h
    rfl
  obtain ⟨d, y, k, s, mm, R, kvs, n, rfl, hD, ok, hk, hrd, q⟩ := h
  obtain ⟨dx, hd⟩ := hD.ins
  have hu := hu_of hr
  refine ⟨_, (pss_mid (ps_set (i := 2) sc_D_fewest.nd rfl (Or.inl rfl) (pe_ifExp (pt_truthK (pe_methH h_D_words W.k_Derivations W.m_Derivations_words (hr.mono (by omega)) (pv 0) (pa_cons (pv 1) pa_nil))) (pe_lst (pa_cons pe_int pa_nil)) (pe_lst pa_nil)))
      (pss_cons (ps_for PassesOwn.never rfl (pi_list (pe_methH h_D_parts W.k_Derivations W.m_Derivations_parts (hr.mono (by omega)) (pv 0) (pa_cons (pv 1) pa_nil))) (pg_tup rfl (pgs_cons (pg_name (i := 3) sc_D_fewest.nd rfl (Or.inl rfl)) (pgs_cons (pg_name (i := 4) sc_D_fewest.nd rfl (Or.inl rfl)) (pgs_cons (pg_name (i := 5) sc_D_fewest.nd rfl (Or.inl rfl)) pgs_nil)))) (pss_mid (ps_set (i := 6) sc_D_fewest.nd rfl (Or.inl rfl) (pe_lst (pa_cons (pe_ifExp (pt_val (pe_methH h_D_is_unsaid W.k_Derivations W.m_Derivations_is_unsaid (hr.mono (by omega)) (pv 0) (pa_cons (pv 3) (pa_cons (pv 4) pa_nil)))) pe_int (pe_ix ix_tup (pe_dget hu (pe_fld (pv 0) rfl) (pv 4) (fun _ _ => rfl)) pe_int (fun _ _ => rfl))) pa_nil)))
      (pss_mid (ps_expr (pe_bm PySem.F.plainAttrs_list PySem.F.slot_list_append PySem.F.type_list_append mt_append (pv 6) (pa_cons (pe_ifExp (pt_cmpR op_eq (pv 5) pe_int (nomark _)) pe_int (pe_ix ix_tup (pe_dget hu (pe_fld (pv 0) rfl) (pv 5) (fun _ _ => rfl)) pe_int (fun _ _ => rfl))) pa_nil)))
      (pss_one (ps_if (pt_cmpR op_notIn_seq pe_non (pv 6) rfl) (pss_one (ps_expr (pe_bm PySem.F.plainAttrs_list PySem.F.slot_list_append PySem.F.type_list_append mt_append (pv 2) (pa_cons (pe_op op_nadd (pe_op op_nadd (pe_ix ix_list (pv 6) pe_int (fun _ _ => rfl)) pe_int) (pe_ix ix_list (pv 6) pe_int (fun _ _ => rfl))) pa_nil)))) pss_nil)))))
      (pss_one (ps_ret (pe_callBK (cr_mind rfl) rfl W.f_min PyProof.Rows.boot_min (pa_cons (pv 2) pa_nil) (pk_cons pe_non pk_nil)))))), ?_⟩
  -- found
  refine ⟨fun σ H' => Same H H' ∧ ∃ f fs, H f = none ∧ H' f = some (.lst ((fs : List Nat).map fun i => V.int (i : Nat))) ∧ fs.length ≤ 1 ∧ σ = [some (.ref d), some (.int n), some (.ref f), none, none, none, none], ?_, ?_⟩
  · refine ⟨_, rfl, d, dx, _, rfl, hd, no_D _ (by decide +kernel), _, rfl, d, y, k, s, mm, R, n, rfl, hD, ok, fun l H1 s1 nl hl => ?_⟩
    refine ⟨_, .inl ⟨_, SqL.of hl, rfl⟩, r_b (fun _ => ⟨by show 1 ≤ sizeLine; decide, fun f nf => ?_⟩) (fun _ => ⟨Nat.zero_le _, fun f nf => ?_⟩)⟩
    · exact ⟨s1.new' nf, f, [1], s1.free nf, upd_same, Nat.le_refl _, rfl⟩
    · exact ⟨s1.new' nf, f, [], s1.free nf, upd_same, Nat.zero_le _, rfl⟩
  rintro σ H1 ⟨s1, f, fs, nf, hf, hz, rfl⟩
  refine ⟨_, rfl, d, dx, _, rfl, s1 _ _ hd, no_D _ (by decide +kernel), _, rfl, d, y, k, s, mm, R, n, rfl, hD.same s1, ok, fun l2 H2 xs s2 nl2 hl2 rx => ?_⟩
  have nfl : l2 ≠ f := by
    rintro rfl
    rw [hf] at nl2
    cases nl2
  have s12 := s1.trans s2
  have hl0 : ((R.parts n).length ≤ 6) := Nat.le_trans (partsL_len _ _ _) ok.mz
  refine ⟨l2, rfl, ⟨xs, SqL.of hl2⟩, ?_⟩
  refine for_list (xs := xs) (fun i σ H' => But [f] H2 H' ∧ (∃ fs : List Nat, H' f = some (.lst (fs.map fun i => V.int (i : Nat))) ∧ fs.length ≤ i + 1) ∧ ∃ a3 a4 a5 a6, σ = [some (.ref d), some (.int n), some (.ref f), a3, a4, a5, a6])
    ⟨But.refl _ _, ⟨fs, s2 _ _ hf, by omega⟩, _, _, _, _, rfl⟩ (fun i σ H' _ p => SqL.of (p.1.at hl2 (by simpa using nfl))) ?_ ?_
  · rintro i x σ H' hi ⟨b, ⟨fs, hf, hz⟩, a3, a4, a5, a6, rfl⟩
    obtain ⟨p, ep, t, rfl, ht⟩ := rx.get hi
    have nt : t ≠ f := ne_of ht (s2 _ _ (by assumption)) (by intro z; cases z)
    have hp := List.mem_of_getElem? ep
    obtain ⟨em, _⟩ := parts_mem hp
    have sH : Same H H' := b.base s12 (by simpa using nf)
    have hi6 := (List.getElem?_eq_some_iff.mp ep).1
    refine ⟨t, _, rfl, SqT.of (b.at ht (by simpa using nt)), rfl, _, _, rfl, _, _, rfl, _, _, rfl, rfl, ?_⟩
    -- sizes = [..]
    refine ⟨fun σ H3 => Same H' H3 ∧ ∃ z a, H' z = none ∧ H3 z = some (.lst [a]) ∧ NoI a ∧ σ = [some (.ref d), some (.int n), some (.ref f), some (.int (p.ix : Nat)), some (.int (p.c : Nat)), some (.int (p.r : Nat)), some (.ref z)], ?_, ?_⟩
    · refine ⟨_, rfl, d, dx, _, rfl, sH _ _ hd, no_D _ (by decide +kernel), _, rfl, _, rfl, d, y, k, s, mm, R, p.ix, p.c, p.m, rfl, hD.same sH, em, _, rfl, r_b (fun e => ?_) (fun e => ?_)⟩
      · exact ⟨by show 1 ≤ sizeLine; decide, fun z nz => ⟨Same.new nz, z, .int (0 : Nat), nz, upd_same, .inr ⟨0, rfl⟩, rfl⟩⟩
      · have hc : Kn kvs p.c := (hrd p hp).1.resolve_left (by rw [e]; exact Bool.false_ne_true)
        obtain ⟨t2, w2, e1, e2, e3⟩ := (hk.same sH).kn hc
        refine ⟨_, rfl, _, _, _, _, _, rfl, (sH _ _ hd), W.k_Derivations, W.n_Derivations_known, lk_D_known, _, rfl, k, _, rfl, dget_of (hk.same sH).at_ e1, t2, _, _, _, rfl, rfl, SqT.of e2, rfl, by show 1 ≤ sizeLine; decide, fun z nz => ?_⟩
        exact ⟨Same.new nz, z, w2, nz, upd_same, e3, rfl⟩
    rintro σ H3 ⟨s3, z, a, nz, hz3, na, rfl⟩
    have sH3 := sH.trans s3
    have nzf : f ≠ z := no_in hf nz
    -- sizes.append(..)
    refine ⟨fun σ H4 => But [z] H3 H4 ∧ ∃ c, H4 z = some (.lst [a, c]) ∧ NoI c ∧ σ = [some (.ref d), some (.int n), some (.ref f), some (.int (p.ix : Nat)), some (.int (p.c : Nat)), some (.int (p.r : Nat)), some (.ref z)], ?_, ?_⟩
    · refine ⟨_, rfl, .inl ⟨rfl, _, SqL.of hz3⟩, _, rfl, rfl, _, rfl, r_dec (fun e => ?_) (fun e => ?_)⟩
      · exact ⟨z, _, _, rfl, rfl, hz3, by show 1 < sizeLine; decide, (But.refl _ _).upd (.inl (by simp)), .int (0 : Nat), upd_same, .inr ⟨0, rfl⟩, rfl⟩
      · have e' : ¬ p.r = 0 := fun z => e (by rw [z]; rfl)
        obtain ⟨t2, w2, e1, e2, e3⟩ := (hk.same sH3).kn ((hrd p hp).2.resolve_left e')
        refine ⟨_, rfl, _, _, _, _, _, rfl, (sH3 _ _ hd), W.k_Derivations, W.n_Derivations_known, lk_D_known, _, rfl, k, _, rfl, dget_of (hk.same sH3).at_ e1, t2, _, _, _, rfl, rfl, SqT.of e2, rfl, ?_⟩
        exact ⟨z, _, _, rfl, rfl, hz3, by show 1 < sizeLine; decide, (But.refl _ _).upd (.inl (by simp)), w2, upd_same, e3, rfl⟩
    rintro σ H4 ⟨b4, c, hz4, nc, rfl⟩
    have hf4 : H4 f = some (.lst (fs.map fun i => V.int (i : Nat))) := b4.at (s3 _ _ hf) (by simpa using nzf)
    -- But [f] H2 H4: z is new
    have b24 : But [f] H2 H4 := fun a o h nn => b4.at (s3 _ _ (b.at h nn)) (by
      have : a ≠ z := no_in (b.at h nn) nz
      simpa using this)
    refine ⟨_, rfl, z, _, rfl, .inl (SqL.of hz4), rfl, by simp [na.flat, nc.flat], _, rfl, ?_⟩
    show if (!inV .non [a, c]) = true then _ else _
    refine r_nb (fun e => ?_) (fun e => ?_)
    · obtain ⟨i1, i2, rfl, rfl⟩ := two_ints na nc e
      refine ⟨_, rfl, .inl ⟨rfl, _, SqL.of hf4⟩, _, rfl, z, _, _, _, rfl, rfl, SqL.of hz4, rfl, _, _, rfl, rfl, _, rfl, z, _, _, _, rfl, rfl, SqL.of hz4, rfl, _, _, rfl, rfl, ?_⟩
      refine ⟨f, _, _, rfl, rfl, hf4, small_lt (by rw [List.length_map]; omega), b24.upd (.inl (by simp)), ⟨fs ++ [i1 + 1 + i2], ?_, by simp; omega⟩, _, _, _, _, rfl⟩
      rw [upd_same]
      simp
    · exact ⟨b24, ⟨fs, hf4, by omega⟩, _, _, _, _, rfl⟩
  · rintro σ H' ⟨b, ⟨fs, hf, hz⟩, a3, a4, a5, a6, rfl⟩
    have sH : Same H H' := b.base s12 (by simpa using nf)
    refine ⟨_, rfl, f, fs.map fun i : Nat => (i : Int), _, rfl, rfl, SqL.of (by rw [hf, List.map_map]; rfl), fun _ => q _ _ sH (.inl rfl), fun m hm _ => ?_⟩
    obtain ⟨j, _, rfl⟩ := List.mem_map.mp hm
    exact q _ _ sH (.inr ⟨j, rfl⟩)

end
end Sy

/-! part: D3 -/
set_option Elab.async false
set_option linter.all false
set_option maxRecDepth 100000
set_option maxHeartbeats 4000000
namespace Sy
open PySem PySem.Spec PyProof.Rows L2
section
variable {P : Program} {w : World} {K : PySem.W.Frag} {mg : Str → Option Value} {base : Heap}
/-! ### learn -/
theorem below_lt {R : Rs} (ok : R.Ok) {n b : Nat} (h : b ∈ below R n) : b < n := by
  obtain ⟨p, hp, hb⟩ := List.mem_flatMap.mp h
  obtain ⟨_, h1, h2, _⟩ := parts_lt ok hp
  unfold belowP at hb
  rcases List.mem_append.mp hb with hb | hb
  · split at hb
    · simp at hb
    · obtain rfl := List.mem_singleton.mp hb; exact h1
  · split at hb
    · simp at hb
    · obtain rfl := List.mem_singleton.mp hb; exact h2
theorem below_c {R : Rs} {n : Nat} {p : Part Str} (hp : p ∈ R.parts n) (h : ¬ p.m.un p.c = true) : p.c ∈ below R n :=
  List.mem_flatMap.mpr ⟨p, hp, List.mem_append.mpr (.inl (by rw [if_neg h]; exact List.mem_singleton.mpr rfl))⟩
theorem below_r {R : Rs} {n : Nat} {p : Part Str} (hp : p ∈ R.parts n) (h : ¬ p.r = 0) : p.r ∈ below R n :=
  List.mem_flatMap.mpr ⟨p, hp, List.mem_append.mpr (.inr (by rw [if_neg h]; exact List.mem_singleton.mpr rfl))⟩
theorem rdy_of {R : Rs} {kvs : List (Key × V)} {n : Nat} (h : ∀ b ∈ below R n, Kn kvs b) : Rdy R kvs n := fun p hp => by
  refine ⟨?_, ?_⟩
  · by_cases e : p.m.un p.c = true
    · exact .inl e
    · exact .inr (h _ (below_c hp e))
  · by_cases e : p.r = 0
    · exact .inl e
    · exact .inr (h _ (below_r hp e))
theorem below_len {R : Rs} (ok : R.Ok) (n : Nat) : (below R n).length ≤ 12 := by
  have h1 := flat_len belowP 2 belowP_len (R.parts n)
  have h2 : (R.parts n).length ≤ 6 := Nat.le_trans (partsL_len _ _ _) ok.mz
  unfold below
  omega
/-- how much work a number is -/
def cost (R : Rs) (n : Nat) : Nat := 1 + ((below R n).map fun b => if b < n then cost R b else 0).sum
termination_by n
theorem cost_eq {R : Rs} (ok : R.Ok) (n : Nat) : cost R n = 1 + ((below R n).map (cost R)).sum := by
  rw [cost]
  congr 2
  exact List.map_congr_left fun b hb => if_pos (below_lt ok hb)
theorem cost_pos (R : Rs) (n : Nat) : 1 ≤ cost R n := by
  rw [cost]; omega
theorem put_len {kvs : List (Key × V)} {k : Key} {v : V} : (putK kvs k v).length ≤ kvs.length + 1 := by
  unfold putK
  split
  · rw [List.length_map]; omega
  · simp
theorem kn_put {kvs : List (Key × V)} {n j : Nat} {v : V} : Kn (putK kvs (.inl (n : Nat)) v) j ↔ j = n ∨ Kn kvs j := by
  unfold Kn
  rw [valV_put]
  by_cases e : j = n
  · subst e; simp
  · have : ¬ ((Sum.inl ((j : Nat) : Int) : Key) = Sum.inl ((n : Nat) : Int)) := fun z => e (by injection z with z; omega)
    rw [if_neg this]
    simp [e]
theorem sub_length {α : Type} [DecidableEq α] : ∀ {l L : List α}, l.Nodup → (∀ x ∈ l, x ∈ L) → l.length ≤ L.length
  | [], _, _, _ => Nat.zero_le _
  | a :: l, L, hn, hs => by
    obtain ⟨h1, h2⟩ := List.nodup_cons.mp hn
    have ha := hs a (List.mem_cons_self ..)
    have q := sub_length (L := L.erase a) h2 fun x hx => (List.mem_erase_of_ne (fun e => h1 (by rw [← e]; exact hx))).mpr (hs x (List.mem_cons_of_mem _ hx))
    rw [List.length_erase_of_mem ha] at q
    have : 0 < L.length := List.length_pos_of_mem ha
    simp only [List.length_cons]
    omega
/-- the stack, what was seen -/
structure Seen (R : Rs) (L : List Nat) (n : Nat) (ws ks : List Nat) : Prop where
  nd : ks.Nodup
  kl : ∀ x ∈ ks, x ∈ L
  wl : ∀ x ∈ ws, x ∈ L
  cl : ∀ x ∈ ks, ∀ b ∈ below R x, b ∈ ks ∨ b ∈ ws
  me : n ∈ ks ∨ n ∈ ws
  sz : ws.length ≤ 1 + 12 * ks.length
theorem Seen.pop {R : Rs} {L : List Nat} {n x : Nat} {ws ks : List Nat} (h : Seen R L n (ws ++ [x]) ks) (hx : x ∈ ks) : Seen R L n ws ks := by
  have out : ∀ b, b ∈ ws ++ [x] → b ∈ ks ∨ b ∈ ws := fun b hb => by
    rcases List.mem_append.mp hb with q | q
    · exact .inr q
    · obtain rfl := List.mem_singleton.mp q; exact .inl hx
  refine ⟨h.nd, h.kl, fun y hy => h.wl y (List.mem_append.mpr (.inl hy)), fun y hy b hb => ?_, ?_, ?_⟩
  · rcases h.cl y hy b hb with q | q
    · exact .inl q
    · exact out b q
  · rcases h.me with q | q
    · exact .inl q
    · exact out n q
  · have := h.sz
    rw [List.length_append, List.length_singleton] at this
    omega
theorem Seen.push {R : Rs} {L : List Nat} {n x : Nat} {ws ks : List Nat} (ok : R.Ok) (cl : ∀ a ∈ L, ∀ b ∈ below R a, b ∈ L) (h : Seen R L n (ws ++ [x]) ks) (hx : ¬ x ∈ ks) : Seen R L n (ws ++ below R x) (ks ++ [x]) := by
  have xl : x ∈ L := h.wl x (List.mem_append.mpr (.inr (List.mem_singleton.mpr rfl)))
  have out : ∀ b, b ∈ ws ++ [x] → b ∈ ks ++ [x] ∨ b ∈ ws ++ below R x := fun b hb => by
    rcases List.mem_append.mp hb with q | q
    · exact .inr (List.mem_append.mpr (.inl q))
    · exact .inl (List.mem_append.mpr (.inr q))
  refine ⟨nd_snoc h.nd hx, fun y hy => ?_, fun y hy => ?_, fun y hy b hb => ?_, ?_, ?_⟩
  · rcases List.mem_append.mp hy with q | q
    · exact h.kl y q
    · obtain rfl := List.mem_singleton.mp q; exact xl
  · rcases List.mem_append.mp hy with q | q
    · exact h.wl y (List.mem_append.mpr (.inl q))
    · exact cl x xl y q
  · rcases List.mem_append.mp hy with q | q
    · rcases h.cl y q b hb with z | z
      · exact .inl (List.mem_append.mpr (.inl z))
      · exact out b z
    · obtain rfl := List.mem_singleton.mp q
      exact .inr (List.mem_append.mpr (.inr hb))
  · rcases h.me with q | q
    · exact .inl (List.mem_append.mpr (.inl q))
    · exact out n q
  · have h1 := h.sz
    have h2 := below_len ok x
    simp only [List.length_append, List.length_singleton] at h1 ⊢
    omega
def spD_learn (K : PySem.W.Frag) : Sp := fun vs H Q _ => ∃ (F : Hp) (d y k s mm : Addr) (R : Rs) (n : Nat) (L : List Nat), vs = [.ref d, .int n] ∧ Same F H ∧ F k = none ∧ DerAt K F d y k s mm R ∧ R.Ok ∧ H k = some (.dK []) ∧
  n ∈ L ∧ (∀ a ∈ L, ∀ b ∈ below R a, b ∈ L) ∧ L.length ≤ 5000 ∧ (∀ a ∈ L, WB R a) ∧
  ∀ H' kvs, But [k] H H' → KnAt H' k R kvs → Kn kvs n → (∀ a, Kn kvs a → a ∈ L ∧ Rdy R kvs a) → Q .non H'
theorem int_map {ys : List Int} {ks : List Nat} (h : ys.Perm (ks.map fun k => ((k : Nat) : Int))) : ∃ zs : List Nat, ys = zs.map (fun k => ((k : Nat) : Int)) ∧ zs.Perm ks := by
  refine ⟨ys.map Int.toNat, ?_, ?_⟩
  · rw [List.map_map]
    conv => lhs; rw [← List.map_id ys]
    refine List.map_congr_left fun y hy => ?_
    obtain ⟨k, _, rfl⟩ := List.mem_map.mp (h.mem_iff.mp hy)
    simp
  · have q := h.map Int.toNat
    rw [List.map_map] at q
    have e : ks.map (Int.toNat ∘ fun k => ((k : Nat) : Int)) = ks := by
      conv => rhs; rw [← List.map_id ks]
      exact List.map_congr_left fun k _ => by simp
    rw [e] at q
    exact q
theorem keys_val {kvs : List (Key × V)} {ks : List Nat} (h : kvs.map (·.1) = ks.map fun k => Sum.inl ((k : Nat) : Int)) (x : Nat) : (valV kvs (.inl (x : Nat))).isSome = decide (x ∈ ks) := by
  rw [← valV_any]
  have e : (kvs.any fun kv => decide (kv.1 = (Sum.inl ((x : Nat) : Int) : Key))) = ((kvs.map (·.1)).any fun z => decide (z = (Sum.inl ((x : Nat) : Int) : Key))) := by rw [List.any_map]; rfl
  rw [e, h, List.any_map]
  apply Bool.eq_iff_iff.mpr
  simp only [List.any_eq_true, Function.comp, decide_eq_true_eq]
  constructor
  · rintro ⟨k, hk, z⟩
    injection z with z
    have : k = x := by omega
    rw [← this]; exact hk
  · intro hx
    exact ⟨x, hx, rfl⟩
theorem ok_D_learn (W : Wd K mg) : Has P w K mg base 4 (He.ma K (He.ga K "Derivations") "learn") ["self", "number"] [] (spD_learn K) := by
  have h_D_below := ok_D_below (P := P) (w := w) (base := base) W
  have h_D_counted := ok_D_counted (P := P) (w := w) (base := base) W
  have h_D_fewest := ok_D_fewest (P := P) (w := w) (base := base) W
  refine mkHas (d := d_D_learn) (N := N_D_learn) (ps := ["self", "number"]) (W.says.def_ 5) sc_D_learn (fun _ _ _ _ _ _ us hl => match us, hl with | [_, _], _ => rfl) (fun vs H Q E h => ?_) (fun cdv A outer s0 H vs Q E hr h => ?_)
  · obtain ⟨_, _, _, _, _, _, _, _, _, rfl, _⟩ := h
    rfl
  obtain ⟨F, d, y, k, s, mm, R, n, L, rfl, sF, nFk, hD, ok, hk, hn, hcl, hL, hWB, q⟩ := h
  obtain ⟨dx, hd⟩ := hD.ins
  have hu := hu_of hr
  refine ⟨_, (pss_cons (ps_set (i := 2) sc_D_learn.nd rfl (Or.inl rfl) (pe_lst (pa_cons (pv 1) pa_nil)))
      (pss_cons (ps_set (i := 3) sc_D_learn.nd rfl (Or.inl rfl) pe_dnewK)
      (pss_mid (ps_while PassesOwn.never (pt_truthK (pv 2)) (pss_cons (ps_set (i := 4) sc_D_learn.nd rfl (Or.inl rfl) (pe_bm0 PySem.F.plainAttrs_list PySem.F.slot_list_pop PySem.F.type_list_pop mt_pop (pv 2)))
      (pss_one (ps_if (PW.pt (pw_and (pt_cmp (pc_dnotin hu (pv 4) (pv 3))) (pw_and1 (pt_cmp (pc_dnotin hu (pv 4) (pe_fld (pv 0) rfl)))))) (pss_cons (ps_dput hu (pv 3) (pv 4) pe_bl rfl)
      (pss_one (ps_expr (pe_bm PySem.F.plainAttrs_list PySem.F.slot_list_extend PySem.F.type_list_extend mt_extend (pv 2) (pa_cons (pe_methH h_D_below W.k_Derivations W.m_Derivations_below (hr.mono (by omega)) (pv 0) (pa_cons (pv 4) pa_nil)) pa_nil))))) pss_nil))))
      (pss_one (ps_for PassesOwn.never rfl (pi_list (pe_callB (cr_sortedDI rfl) rfl W.f_sorted PyProof.Rows.boot_sorted (pa_cons (pv 3) pa_nil))) (pg_name (i := 4) sc_D_learn.nd rfl (Or.inl rfl)) (pss_one (ps_dput hu (pe_fld (pv 0) rfl) (pv 4) (pe_tup (pa_cons (pe_methH h_D_counted W.k_Derivations W.m_Derivations_counted (hr.mono (by omega)) (pv 0) (pa_cons (pv 4) pa_nil)) (pa_cons (pe_methH h_D_fewest W.k_Derivations W.m_Derivations_fewest (hr.mono (by omega)) (pv 0) (pa_cons (pv 4) pa_nil)) pa_nil))) rfl))))))), ?_⟩
  refine ⟨_, rfl, (by show 1 ≤ sizeLine; decide), fun a na => ?_⟩
  refine fun b nb => ?_
  have nab : a ≠ b := by
    rintro rfl
    rw [upd_same] at nb
    cases nb
  have nHb : H b = none := (Same.new na).free nb
  have sH0 : Same H (upd (upd H a (.lst [.int n])) b (.dK [])) := (Same.new na).new' nb
  -- while waiting
  refine ⟨fun σ H' => Same H H' ∧ ∃ (ks : List Nat) (skv : List (Key × V)) (a4 : Option V), Seen R L n [] ks ∧ H' b = some (.dK skv) ∧ skv.map (·.1) = (ks.map fun k => Sum.inl ((k : Nat) : Int)) ∧ σ = [some (.ref d), some (.int n), some (.ref a), some (.ref b), a4], ?_, ?_⟩
  · refine ⟨fun m σ H' => Same H H' ∧ ∃ (ws ks : List Nat) (skv : List (Key × V)) (a4 : Option V), Seen R L n ws ks ∧ H' a = some (.lst (ws.map fun x => V.int (x : Nat))) ∧ H' b = some (.dK skv) ∧ skv.map (·.1) = (ks.map fun k => Sum.inl ((k : Nat) : Int)) ∧ m = (ws.map (cost R)).sum ∧ σ = [some (.ref d), some (.int n), some (.ref a), some (.ref b), a4],
      ⟨_, sH0, [n], [], [], none, ⟨List.nodup_nil, by simp, by simpa using hn, by simp, by simp, by simp⟩, by rw [upd_ne nab, upd_same]; rfl, upd_same, rfl, rfl, rfl⟩, ?_⟩
    rintro m σ H1 ⟨sH, ws, ks, skv, a4, hS, ha, hb, hkv, hm, rfl⟩
    refine ⟨_, rfl, _, .inl ⟨_, SqL.of ha, rfl⟩, r_nb (fun hw => ?_) (fun hw => ?_)⟩
    · rcases List.eq_nil_or_concat ws with rfl | ⟨ws', x, rfl⟩
      · simp at hw
      rw [List.concat_eq_append] at hS ha hm
      have ha' : H1 a = some (.lst (ws'.map (fun x => V.int (x : Nat)) ++ [.int (x : Nat)])) := by rw [ha, List.map_append]; rfl
      have nFkH := hk
      refine ⟨_, fun σ' H' h => h, ?_⟩
      refine ⟨_, rfl, .inl ⟨rfl, _, SqL.of ha'⟩, a, _, .int (x : Nat), rfl, rfl, ha', by simp, ?_⟩
      rw [List.dropLast_concat]
      have sH2 : Same H (upd H1 a (.lst (ws'.map fun x => V.int (x : Nat)))) := sH.mut na
      have hb2 : upd H1 a (.lst (ws'.map fun x => V.int (x : Nat))) b = some (.dK skv) := by rw [upd_ne nab.symm]; exact hb
      have hks := keys_val hkv x
      have hksz : ks.length ≤ 5000 := Nat.le_trans (sub_length hS.nd hS.kl) hL
      have hmm : ((ws' ++ [x]).map (cost R)).sum = (ws'.map (cost R)).sum + cost R x := by simp
      refine ⟨_, rfl, _, rfl, b, _, rfl, DGet.k (k := Sum.inl ((x : Nat) : Int)) hb2, _, rfl, r_nb (fun hx => ?_) (fun hx => iteF ?_)⟩
      · have hx' : ¬ x ∈ ks := by rw [hks] at hx; exact of_decide_eq_false hx
        refine ⟨_, rfl, _, rfl, _, _, _, _, _, rfl, (sH2 _ _ (sF _ _ hd)), W.k_Derivations, W.n_Derivations_known, lk_D_known, k, none, rfl, dget_none (sH2 _ _ hk) rfl, _, rfl, iteT ?_⟩
        refine ⟨_, rfl, _, rfl, b, _, rfl, DPut.k (k := Sum.inl ((x : Nat) : Int)) hb2 (small_lt (by have := congrArg List.length hkv; simp only [List.length_map] at this; omega)), ?_⟩
        have sH3 : Same H (upd (upd H1 a (.lst (ws'.map fun x => V.int (x : Nat)))) b (.dK (putK skv (.inl (x : Nat)) (.bl true)))) := sH2.mut nHb
        have ha3 : upd (upd H1 a (.lst (ws'.map fun x => V.int (x : Nat)))) b (.dK (putK skv (.inl (x : Nat)) (.bl true))) a = some (.lst (ws'.map fun x => V.int (x : Nat))) := by rw [upd_ne nab, upd_same]
        refine ⟨_, rfl, .inl ⟨rfl, _, SqL.of ha3⟩, _, rfl, d, dx, _, rfl, sH3 _ _ (sF _ _ hd), no_D _ (by decide +kernel), _, rfl, d, y, k, s, mm, R, x, rfl, hD.same (sF.trans sH3), ok, fun l H4 s4 nl hl => ?_⟩
        have hsz := hS.sz
        have hbl := below_len ok x
        rw [List.length_append, List.length_singleton] at hsz
        refine ⟨a, l, _, _, rfl, rfl, s4 _ _ ha3, hl, small_le (by simp only [List.length_map]; omega), ?_⟩
        have nba : b ≠ a := nab.symm
        have nv : valV skv (.inl (x : Nat)) = none := by
          cases e : valV skv (.inl (x : Nat)) with
          | none => rfl
          | some v => rw [e] at hx; cases hx
        refine ⟨((ws' ++ below R x).map (cost R)).sum, ?_, (sH3.trans s4).mut na, ws' ++ below R x, ks ++ [x], putK skv (.inl (x : Nat)) (.bl true), some (.int (x : Nat)), hS.push ok hcl hx', ?_, ?_, ?_, rfl, rfl⟩
        · rw [hm, hmm, cost_eq ok x, List.map_append, List.sum_append]
          omega
        · rw [upd_same, List.map_append]
        · rw [upd_ne nba]; exact s4 _ _ upd_same
        · rw [putK_new _ nv, List.map_append, hkv, List.map_append]
          rfl
      · have hx' : x ∈ ks := by rw [hks] at hx; exact of_decide_eq_true hx
        refine ⟨(ws'.map (cost R)).sum, ?_, sH2, ws', ks, skv, some (.int (x : Nat)), hS.pop hx', upd_same, hb2, hkv, rfl, rfl⟩
        rw [hm, hmm]
        have := cost_pos R x
        omega
    · obtain rfl : ws = [] := by
        cases ws with
        | nil => rfl
        | cons => simp at hw
      exact ⟨sH, ks, skv, a4, hS, hb, hkv, rfl⟩
  rintro σ H1 ⟨sH, ks, skv, a4, hS, hb, hkv, rfl⟩
  have hall : ∀ x ∈ ks, ∀ z ∈ below R x, z ∈ ks := fun x hx z hz => (hS.cl x hx z hz).resolve_right (by simp)
  have hnk : n ∈ ks := hS.me.resolve_right (by simp)
  refine ⟨_, rfl, b, skv, ks.map fun k => ((k : Nat) : Int), rfl, Rd.of hb, by rw [hkv, List.map_map]; rfl, fun ys p hp hs np => ?_⟩
  obtain ⟨zs, rfl, hz⟩ := int_map hp
  have nHk : H1 k = some (.dK []) := sH _ _ hk
  refine ⟨p, rfl, ⟨_, SqL.of upd_same⟩, ?_⟩
  have npk : p ≠ k := (no_in nHk np).symm
  have hzl : zs.length ≤ 5000 := by rw [hz.length_eq]; exact Nat.le_trans (sub_length hS.nd hS.kl) hL
  have s2 : Same H (upd H1 p (.lst ((zs.map fun k => ((k : Nat) : Int)).map V.int))) := sH.new' np
  refine for_list (xs := (zs.map fun k => ((k : Nat) : Int)).map V.int) (fun i σ H' => But [k] (upd H1 p (.lst ((zs.map fun k => ((k : Nat) : Int)).map V.int))) H' ∧ (∃ kvs, KnAt H' k R kvs ∧ (∀ x, Kn kvs x ↔ x ∈ zs.take i) ∧ kvs.length ≤ i) ∧ ∃ a4, σ = [some (.ref d), some (.int n), some (.ref a), some (.ref b), a4])
    ⟨But.refl _ _, ⟨[], ⟨by rw [upd_ne npk.symm]; exact nHk, fun _ _ h => by cases h⟩, by simp [Kn, valV], Nat.zero_le _⟩, _, rfl⟩ (fun i σ H' _ pv => SqL.of (pv.1.at upd_same (by simpa using npk))) ?_ ?_
  · rintro i x σ H' hi ⟨bt, ⟨kvs, hK, hkn, hlen⟩, a4, rfl⟩
    obtain ⟨z, ez, rfl⟩ : ∃ z, zs[i]? = some z ∧ x = .int (z : Nat) := by
      rw [List.map_map, List.getElem?_map] at hi
      obtain ⟨z, h1, h2⟩ := Option.map_eq_some_iff.mp hi
      exact ⟨z, h1, h2.symm⟩
    have hi5 := (List.getElem?_eq_some_iff.mp ez).1
    have hzk : z ∈ ks := hz.mem_iff.mp (List.mem_of_getElem? ez)
    have sF' : Same F H' := bt.base (sF.trans s2) (by simpa using nFk)
    have hrd : Rdy R kvs z := rdy_of fun c hc => by
      rw [hkn]
      have hck : c ∈ zs := hz.mem_iff.mpr (hall z hzk c hc)
      have hlt := below_lt ok hc
      obtain ⟨j, hj, ej⟩ := List.getElem_of_mem hck
      have hji : j < i := by
        apply Classical.byContradiction
        intro hni
        have hs' : (zs.map fun k => ((k : Nat) : Int)).Pairwise (· ≤ ·) := hs
        have hij : i ≤ j := by omega
        rcases Nat.lt_or_eq_of_le hij with h1 | h1
        · have := (List.pairwise_iff_getElem.mp hs') i j (by simpa using hi5) (by simpa using hj) h1
          simp only [List.getElem_map] at this
          rw [ej, (List.getElem?_eq_some_iff.mp ez).2] at this
          omega
        · subst h1
          rw [(List.getElem?_eq_some_iff.mp ez).2] at ej
          omega
      exact List.mem_take_iff_getElem.mpr ⟨j, by omega, ej⟩
    refine ⟨_, rfl, d, dx, _, rfl, sF' _ _ hd, no_D _ (by decide +kernel), _, rfl, d, y, k, s, mm, R, kvs, z, rfl, hD.same sF', ok, hK, hrd, hWB z (hS.kl z hzk), fun H3 s3 => ?_⟩
    refine ⟨_, rfl, d, dx, _, rfl, s3 _ _ (sF' _ _ hd), no_D _ (by decide +kernel), _, rfl, d, y, k, s, mm, R, kvs, z, rfl, hD.same (sF'.trans s3), ok, hK.same s3, hrd, fun w2 H4 s4 hw2 => ?_⟩
    refine ⟨by show 2 ≤ sizeLine; decide, fun t nt => ?_⟩
    have s45 : Same H' (upd H4 t (.tup [.int (ways R z : Nat), w2])) := (s3.trans s4).new' nt
    have hK5 := hK.same s45
    refine ⟨_, rfl, _, _, _, _, _, rfl, (s45 _ _ (sF' _ _ hd)), W.k_Derivations, W.n_Derivations_known, lk_D_known, _, rfl, k, _, rfl, DPut.k (k := Sum.inl ((z : Nat) : Int)) hK5.at_ (small_lt (by omega)), ?_⟩
    have ntk : t ≠ k := (no_in (s4 _ _ (s3 _ _ hK.at_)) nt).symm
    refine ⟨(bt.trans (But.of s45)).upd (.inl (by simp)), ⟨_, ⟨upd_same, fun key v hv => ?_⟩, fun x => ?_, Nat.le_trans put_len (by omega)⟩, _, rfl⟩
    · rw [valV_put] at hv
      split at hv
      · rename_i e
        injection hv with hv
        exact ⟨z, t, w2, e, hv.symm, by rw [upd_ne ntk, upd_same], hw2⟩
      · obtain ⟨n', t', w', e1, e2, e3, e4⟩ := hK5.val key v hv
        have : t' ≠ k := ne_of e3 hK5.at_ (by intro z; cases z)
        exact ⟨n', t', w', e1, e2, by rw [upd_ne this]; exact e3, e4⟩
    · rw [kn_put, hkn, List.take_succ_eq_append_getElem hi5, (List.getElem?_eq_some_iff.mp ez).2, List.mem_append, List.mem_singleton]
      exact Or.comm
  · rintro σ H' ⟨bt, ⟨kvs, hK, hkn, hlen⟩, a4, rfl⟩
    have e : zs.take ((zs.map fun k => ((k : Nat) : Int)).map V.int).length = zs := by simp
    rw [e] at hkn
    refine q H' kvs (fun x o h hn' => bt x o (s2 _ _ h) hn') hK ((hkn n).mpr (hz.mem_iff.mpr hnk)) fun x hx => ?_
    have hxk := hz.mem_iff.mp ((hkn x).mp hx)
    exact ⟨hS.kl x hxk, rdy_of fun c hc => (hkn c).mpr (hz.mem_iff.mpr (hall x hxk c hc))⟩

end
end Sy

/-! part: D4 -/
set_option Elab.async false
set_option linter.all false
set_option maxRecDepth 100000
set_option maxHeartbeats 4000000
namespace Sy
open PySem PySem.Spec PyProof.Rows L2
section
variable {P : Program} {w : World} {K : PySem.W.Frag} {mg : Str → Option Value} {base : Heap}
/-! ### the first derivation: of what it is made -/
def exs {α : Type} (f : Nat → Option (List α)) : List (α ⊕ Nat) → List α
  | [] => []
  | .inl w :: l => w :: exs f l
  | .inr k :: l => (f k).getD [] ++ exs f l
theorem exs_append {α : Type} (f : Nat → Option (List α)) : ∀ a b : List (α ⊕ Nat), exs f (a ++ b) = exs f a ++ exs f b
  | [], _ => rfl
  | .inl w :: l, b => by show w :: exs f (l ++ b) = _; rw [exs_append f l b]; rfl
  | .inr k :: l, b => by show _ ++ exs f (l ++ b) = _; rw [exs_append f l b]; simp [exs]
def chsP {α : Type} (p : Part α) : List (α ⊕ Nat) := (if p.m.un p.c = true then [] else [.inr p.c]) ++ (.inl p.m.word :: (if p.r = 0 then [] else [.inr p.r]))
def chs {α : Type} (R : Rows α) (n : Nat) : List (α ⊕ Nat) := match R.wordsOf n with
  | w :: _ => [.inl w]
  | [] => match (R.parts n).find? fun p => decide (0 < wy (ways R) p) with
    | none => []
    | some p => chsP p
theorem findSome_find {β γ : Type} (f : β → Option γ) (g : β → Bool) : ∀ l : List β, (∀ x ∈ l, g x = (f x).isSome) → l.findSome? f = (l.find? g).bind f
  | [], _ => rfl
  | x :: l, h => by
    have hx := h x (List.mem_cons_self ..)
    rw [List.findSome?_cons, List.find?_cons]
    cases e : f x with
    | none =>
      rw [e] at hx
      rw [hx]
      exact findSome_find f g l fun y hy => h y (List.mem_cons_of_mem _ hy)
    | some y =>
      rw [e] at hx
      rw [hx]
      exact e.symm
theorem wy_cmb {α : Type} {R : Rows α} (ok : R.Ok) (p : Part α) : decide (0 < wy (ways R) p) = (cmb (phr R) p).isSome := by
  apply Bool.eq_iff_iff.mpr
  rw [decide_eq_true_eq, wy_pos, cmb_isSome, ways_pos ok, ways_pos ok]
theorem chs_find {α : Type} {R : Rows α} (ok : R.Ok) {n : Nat} (h : 0 < ways R n) (hw : R.wordsOf n = []) : ∃ p ∈ R.parts n, (R.parts n).find? (fun p => decide (0 < wy (ways R) p)) = some p ∧ 0 < wy (ways R) p ∧ chs R n = chsP p ∧ phr R n = cmb (phr R) p := by
  have hp := (ways_pos ok n).mp h
  have e1 : phr R n = (R.parts n).findSome? (cmb (phr R)) := by
    rw [phr_eq ok]; unfold step; rw [hw]
  rw [e1, findSome_find _ (fun p => decide (0 < wy (ways R) p)) _ fun p _ => wy_cmb ok p] at hp
  cases e : (R.parts n).find? fun p => decide (0 < wy (ways R) p) with
  | none => rw [e] at hp; cases hp
  | some p =>
    refine ⟨p, List.mem_of_find?_eq_some e, rfl, by have := List.find?_some e; exact of_decide_eq_true this, ?_, ?_⟩
    · unfold chs
      rw [hw]
      show (match (R.parts n).find? (fun p => decide (0 < wy (ways R) p)) with | none => [] | some p => chsP p) = chsP p
      rw [e]
    · rw [e1, findSome_find _ (fun p => decide (0 < wy (ways R) p)) _ fun p _ => wy_cmb ok p, e]
      rfl
theorem chs_exs {α : Type} {R : Rows α} (ok : R.Ok) {n : Nat} (h : 0 < ways R n) : (phr R n).getD [] = exs (phr R) (chs R n) := by
  cases hw : R.wordsOf n with
  | cons w ws =>
    rw [phr_eq ok]
    unfold step chs
    rw [hw]
    rfl
  | nil =>
    obtain ⟨p, hp, _, hy, e1, e2⟩ := chs_find ok h hw
    rw [e1, e2]
    obtain ⟨q1, q2⟩ := wy_pos.mp hy
    rw [ways_pos ok] at q1 q2
    unfold cmb chsP
    rw [exs_append]
    by_cases h1 : p.m.un p.c = true <;> by_cases h2 : p.r = 0 <;> simp only [h1, h2, if_true, if_false]
    · rfl
    · obtain ⟨b, hb⟩ := Option.isSome_iff_exists.mp (q2.resolve_left h2)
      rw [hb]
      simp [exs, hb]
    · obtain ⟨b, hb⟩ := Option.isSome_iff_exists.mp (q1.resolve_left h1)
      rw [hb]
      simp [exs, hb]
    · obtain ⟨a, ha⟩ := Option.isSome_iff_exists.mp (q1.resolve_left h1)
      obtain ⟨b, hb⟩ := Option.isSome_iff_exists.mp (q2.resolve_left h2)
      rw [ha, hb]
      simp [exs, ha, hb]
theorem chs_mem {α : Type} {R : Rows α} (ok : R.Ok) {n k : Nat} (h : 0 < ways R n) (hk : Sum.inr k ∈ chs R n) : 0 < ways R k ∧ ∃ p ∈ R.parts n, (k = p.c ∧ ¬ p.m.un p.c = true) ∨ (k = p.r ∧ ¬ p.r = 0) := by
  cases hw : R.wordsOf n with
  | cons w ws =>
    unfold chs at hk
    rw [hw] at hk
    simp at hk
  | nil =>
    obtain ⟨p, hp, _, hy, e1, e2⟩ := chs_find ok h hw
    obtain ⟨q1, q2⟩ := wy_pos.mp hy
    rw [e1] at hk
    unfold chsP at hk
    rcases List.mem_append.mp hk with z | z
    · split at z
      · simp at z
      · rename_i hu
        obtain rfl : k = p.c := by simpa using z
        exact ⟨q1.resolve_left hu, p, hp, .inl ⟨rfl, hu⟩⟩
    · rcases List.mem_cons.mp z with z | z
      · cases z
      · split at z
        · simp at z
        · rename_i hu
          obtain rfl : k = p.r := by simpa using z
          exact ⟨q2.resolve_left hu, p, hp, .inr ⟨rfl, hu⟩⟩
def msr {α : Type} : α ⊕ Nat → Nat
  | .inl _ => 1
  | .inr k => 3 * k + 1
theorem ways_one {α : Type} {R : Rows α} (ok : R.Ok) {n : Nat} (h : 0 < ways R n) : 1 ≤ n := by
  rcases Nat.eq_zero_or_pos n with e | e
  · subst e
    have := (ways_pos ok 0).mp h
    rw [phr_zero ok] at this
    cases this
  · exact e
theorem chs_msr {α : Type} {R : Rows α} (ok : R.Ok) {n : Nat} (h : 0 < ways R n) : ((chs R n).map msr).sum < 3 * n + 1 := by
  have hn := ways_one ok h
  cases hw : R.wordsOf n with
  | cons w ws =>
    unfold chs
    rw [hw]
    simp [msr]
    omega
  | nil =>
    obtain ⟨p, hp, _, _, e1, _⟩ := chs_find ok h hw
    obtain ⟨_, _, _, hs⟩ := parts_lt ok hp
    rw [e1]
    unfold chsP
    rw [List.map_append, List.sum_append, List.map_cons, List.sum_cons]
    have h1 : ((if p.m.un p.c = true then ([] : List (α ⊕ Nat)) else [.inr p.c]).map msr).sum ≤ 3 * p.c + 1 := by split <;> simp [msr]
    have h2 : ((if p.r = 0 then ([] : List (α ⊕ Nat)) else [.inr p.r]).map msr).sum ≤ 3 * p.r + 1 := by split <;> simp [msr]
    have h3 : msr (Sum.inl p.m.word : α ⊕ Nat) = 1 := rfl
    omega
theorem phr_ne {α : Type} {R : Rows α} (ok : R.Ok) {n : Nat} (h : 0 < ways R n) : 1 ≤ ((phr R n).getD []).length := by
  rw [chs_exs ok h]
  cases hw : R.wordsOf n with
  | cons w ws =>
    unfold chs
    rw [hw]
    exact Nat.le_refl _
  | nil =>
    obtain ⟨p, _, _, _, e1, _⟩ := chs_find ok h hw
    rw [e1]
    unfold chsP
    rw [exs_append, List.length_append]
    simp [exs]
    omega
theorem exs_len {α : Type} {R : Rows α} (ok : R.Ok) : ∀ {l : List (α ⊕ Nat)}, (∀ k, Sum.inr k ∈ l → 0 < ways R k) → l.length ≤ (exs (phr R) l).length
  | [], _ => Nat.le_refl _
  | .inl w :: l, h => by
    have := exs_len ok (l := l) fun k hk => h k (List.mem_cons_of_mem _ hk)
    simp only [exs, List.length_cons]
    omega
  | .inr k :: l, h => by
    have := exs_len ok (l := l) fun k hk => h k (List.mem_cons_of_mem _ hk)
    have := phr_ne ok (h k (List.mem_cons_self ..))
    simp only [exs, List.length_cons, List.length_append]
    omega
/-- an item of the stack -/
def Itm (H : Hp) (x : V) : Str ⊕ Nat → Prop
  | .inl w => x = .str w
  | .inr k => ∃ t, x = .ref t ∧ H t = some (.tup [.int (k : Nat), .int (0 : Nat)])
theorem Itm.at_ {H H' : Hp} {x : V} {o : Str ⊕ Nat} (e : ∀ t xs, H t = some (.tup xs) → H' t = some (.tup xs)) (h : Itm H x o) : Itm H' x o := by
  cases o with
  | inl w => exact h
  | inr k => obtain ⟨t, e1, e2⟩ := h; exact ⟨t, e1, e _ _ e2⟩
theorem Rel.append {α : Type} {f : V → α → Prop} {xs zs : List V} {ys ws : List α} (h : Rel f xs ys) (q : Rel f zs ws) : Rel f (xs ++ zs) (ys ++ ws) := by
  refine ⟨by simp [h.1, q.1], fun i x y e1 e2 => ?_⟩
  by_cases hi : i < xs.length
  · rw [List.getElem?_append_left hi] at e1
    rw [List.getElem?_append_left (by rw [← h.1]; exact hi)] at e2
    exact h.2 i x y e1 e2
  · rw [List.getElem?_append_right (by omega)] at e1
    rw [List.getElem?_append_right (by rw [← h.1]; omega), ← h.1] at e2
    exact q.2 _ x y e1 e2
theorem Rel.rev {α : Type} {f : V → α → Prop} {xs : List V} {ys : List α} (h : Rel f xs ys) : Rel f xs.reverse ys.reverse := by
  refine ⟨by simp [h.1], fun i x y e1 e2 => ?_⟩
  have hi := (List.getElem?_eq_some_iff.mp e1).1
  rw [List.length_reverse] at hi
  rw [List.getElem?_reverse hi] at e1
  rw [List.getElem?_reverse (by rw [← h.1]; exact hi), ← h.1] at e2
  exact h.2 _ x y e1 e2
theorem Rel.unsnoc {α : Type} {f : V → α → Prop} {xs : List V} {ys : List α} {y : α} (h : Rel f xs (ys ++ [y])) : ∃ xs' x, xs = xs' ++ [x] ∧ Rel f xs' ys ∧ f x y := by
  rcases List.eq_nil_or_concat xs with rfl | ⟨xs', x, rfl⟩
  · have := h.1; simp at this
  rw [List.concat_eq_append] at h ⊢
  have hl : xs'.length = ys.length := by have := h.1; simpa using this
  refine ⟨xs', x, rfl, ⟨hl, fun i a b e1 e2 => ?_⟩, ?_⟩
  · exact h.2 i a b (by rw [List.getElem?_append_left (List.getElem?_eq_some_iff.mp e1).1]; exact e1) (by rw [List.getElem?_append_left (List.getElem?_eq_some_iff.mp e2).1]; exact e2)
  · exact h.2 xs'.length x y (by simp) (by rw [hl]; simp)
theorem iteT' {b : Bool} {A B : Prop} (e : b = true) (h : A) : if b = true then A else B := by rw [if_pos e]; exact h
theorem iteF' {b : Bool} {A B : Prop} (e : b = false) (h : B) : if b = true then A else B := by rw [e, if_neg Bool.false_ne_true]; exact h
def spD_choice (K : PySem.W.Frag) : Sp := fun vs H Q _ => ∃ (d y k s mm : Addr) (R : Rs) (kvs : List (Key × V)) (n : Nat), vs = [.ref d, .int n, .int (0 : Nat)] ∧ DerAt K H d y k s mm R ∧ R.Ok ∧ KnAt H k R kvs ∧ Rdy R kvs n ∧ WB R n ∧ 0 < ways R n ∧
  ∀ l H' xs, Same H H' → H l = none → H' l = some (.lst xs) → Rel (Itm H') xs (chs R n) → xs.length ≤ 24 → Q (.ref l) H'
theorem find_at {β : Type} {g : β → Bool} {l : List β} {i : Nat} {x p : β} (hx : l[i]? = some x) (hg : g x = true) (hn : ∀ j y, j < i → l[j]? = some y → g y = false) (hf : l.find? g = some p) : p = x := by
  have hi := (List.getElem?_eq_some_iff.mp hx).1
  have e : l = l.take i ++ x :: l.drop (i + 1) := by
    conv => lhs; rw [← List.take_append_drop i l, List.drop_eq_getElem_cons hi, (List.getElem?_eq_some_iff.mp hx).2]
  have h0 : (l.take i).find? g = none := by
    rw [List.find?_eq_none]
    intro y hy
    obtain ⟨j, hj, rfl⟩ := List.mem_take_iff_getElem.mp hy
    rw [hn j _ (by omega) (List.getElem?_eq_getElem (by omega))]
    exact Bool.false_ne_true
  rw [e, List.find?_append, h0, List.find?_cons, hg] at hf
  exact (Option.some.inj hf).symm
theorem rest_wide {R : Rs} {n : Nat} (hw : WB R n) {p : Part Str} (hp : p ∈ R.parts n) (h0 : 0 < wy (ways R) p) {i : Int} : CDivW i (((if p.r = 0 then 1 else ways R p.r : Nat)) : Int) := by
  obtain ⟨h1, h2⟩ := hw p hp
  have h3 := (wy_pos.mp h0).2
  refine wide_div (b := 8000) ?_ ?_ (by omega) (by omega)
  · split
    · exact Int.one_pos
    · rename_i e
      have := h3.resolve_left e
      omega
  · rw [Int.natAbs_natCast]
    split
    · exact Nat.one_lt_two_pow (by omega)
    · exact h2
theorem ok_D_choice (W : Wd K mg) : Has P w K mg base 3 (He.ma K (He.ga K "Derivations") "choice") ["self", "number", "index"] [] (spD_choice K) := by
  have h_D_words := ok_D_words (P := P) (w := w) (base := base) W
  have h_D_parts := ok_D_parts (P := P) (w := w) (base := base) W
  have h_D_is_unsaid := ok_D_is_unsaid (P := P) (w := w) (base := base) W
  have h_D_ways := ok_D_waysK (P := P) (w := w) (base := base) W
  have h_D_rests := ok_D_restsK (P := P) (w := w) (base := base) W
  refine mkHas (d := d_D_choice) (N := N_D_choice) (ps := ["self", "number", "index"]) (W.says.def_ 12) sc_D_choice (fun _ _ _ _ _ _ us hl => match us, hl with | [_, _, _], _ => rfl) (fun vs H Q E h => ?_) (fun cdv A outer s0 H vs Q E hr h => ?_)
  · obtain ⟨_, _, _, _, _, _, _, _, rfl, _⟩ := h
    rfl
  obtain ⟨d, y, k, s, mm, R, kvs, n, rfl, hD, ok, hk, hrd, hw, hpos, q⟩ := h
  obtain ⟨dx, hd⟩ := hD.ins
  refine ⟨_, (pss_cons (ps_set (i := 3) sc_D_choice.nd rfl (Or.inl rfl) (pe_methH h_D_words W.k_Derivations W.m_Derivations_words (hr.mono (by omega)) (pv 0) (pa_cons (pv 1) pa_nil)))
      (pss_cons (ps_if (pt_cmpR op_lt (pv 2) (pe_callB call_len rfl W.f_len PySem.boot_len (pa_cons (pv 3) pa_nil)) (nomark _)) (pss_one (ps_ret (pe_lst (pa_cons (pe_ix ix_list (pv 3) (pv 2) (fun _ _ => rfl)) pa_nil)))) pss_nil)
      (pss_cons (ps_aug (i := 2) sc_D_choice.nd rfl (Or.inl rfl) (pe_callB call_len rfl W.f_len PySem.boot_len (pa_cons (pv 3) pa_nil)) ip_nsub)
      (pss_cons (ps_for PassesOwn.never rfl (pi_list (pe_methH h_D_parts W.k_Derivations W.m_Derivations_parts (hr.mono (by omega)) (pv 0) (pa_cons (pv 1) pa_nil))) (pg_tup rfl (pgs_cons (pg_name (i := 4) sc_D_choice.nd rfl (Or.inl rfl)) (pgs_cons (pg_name (i := 5) sc_D_choice.nd rfl (Or.inl rfl)) (pgs_cons (pg_name (i := 6) sc_D_choice.nd rfl (Or.inl rfl)) pgs_nil)))) (pss_cons (ps_set (i := 7) sc_D_choice.nd rfl (Or.inl rfl) (pe_methH h_D_rests W.k_Derivations W.m_Derivations_rests (hr.mono (by omega)) (pv 0) (pa_cons (pv 6) pa_nil)))
      (pss_cons (ps_set (i := 8) sc_D_choice.nd rfl (Or.inl rfl) (pe_op op_nmulW (pe_methH h_D_ways W.k_Derivations W.m_Derivations_ways (hr.mono (by omega)) (pv 0) (pa_cons (pv 4) (pa_cons (pv 5) pa_nil))) (pv 7)))
      (pss_cons (ps_if (pt_cmpR op_lt (pv 2) (pv 8) (nomark _)) (pss_mid (ps_set (i := 9) sc_D_choice.nd rfl (Or.inl rfl) (pe_ifExp (pt_val (pe_methH h_D_is_unsaid W.k_Derivations W.m_Derivations_is_unsaid (hr.mono (by omega)) (pv 0) (pa_cons (pv 4) (pa_cons (pv 5) pa_nil)))) (pe_lst pa_nil) (pe_lst (pa_cons (pe_tup (pa_cons (pv 5) (pa_cons (pe_op op_ndivW (pv 2) (pv 7)) pa_nil))) pa_nil))))
      (pss_cons (ps_expr (pe_bm PySem.F.plainAttrs_list PySem.F.slot_list_append PySem.F.type_list_append mt_append (pv 9) (pa_cons (pe_ix ix_tup (pe_ix ix_tup (pe_fld (pe_fld (pv 0) rfl) rfl) (pv 4) (fun _ _ => rfl)) pe_int (fun _ _ => rfl)) pa_nil)))
      (pss_one (ps_ret (pe_op op_cat (pv 9) (pe_ifExp (pt_cmpR op_eq (pv 6) pe_int (nomark _)) (pe_lst pa_nil) (pe_lst (pa_cons (pe_tup (pa_cons (pv 6) (pa_cons (pe_op op_nsub (pv 2) (pe_op op_nmulW (pe_op op_ndivW (pv 2) (pv 7)) (pv 7))) pa_nil))) pa_nil)))))))) pss_nil)
      (pss_one (ps_aug (i := 2) sc_D_choice.nd rfl (Or.inl rfl) (pv 8) ip_nsub))))))
      (pss_one (ps_ret pe_non)))))), ?_⟩
  refine ⟨_, rfl, d, dx, _, rfl, hd, no_D _ (by decide +kernel), _, rfl, d, y, k, s, mm, R, n, rfl, hD, ok, fun l H1 s1 nl hl => ?_⟩
  refine ⟨_, rfl, _, rfl, .ref l, _, rfl, .inl ⟨_, SqL.of hl, rfl⟩, _, _, rfl, rfl, _, rfl, ?_⟩
  cases hwd : R.wordsOf n with
  | cons w0 ws =>
    refine iteT' (decide_eq_true (by rw [List.length_map, List.length_cons]; omega)) ?_
    have hl' := hl
    rw [hwd] at hl'
    refine ⟨_, rfl, _, rfl, l, _, _, _, rfl, rfl, SqL.of hl', atI_nat (j := 0) (xs := List.map V.str (w0 :: ws)) rfl, by show 1 ≤ sizeLine; decide, fun a na => ?_⟩
    refine q a _ [.str w0] (s1.new' na) (s1.free na) upd_same ?_ (by simp)
    have e : chs R n = [.inl w0] := by unfold chs; rw [hwd]
    rw [e]
    exact Rel.cons rfl Rel.nil
  | nil =>
    refine iteF' (decide_eq_false (by simp)) ?_
    rw [hwd] at hl
    refine ⟨_, rfl, _, rfl, .ref l, _, rfl, .inl ⟨_, SqL.of hl, rfl⟩, _, _, rfl, rfl, Nat.le_refl _, ?_⟩
    refine ⟨_, rfl, d, dx, _, rfl, s1 _ _ hd, no_D _ (by decide +kernel), _, rfl, d, y, k, s, mm, R, n, rfl, hD.same s1, ok, fun l2 H2 xs s2 nl2 hl2 rx => ?_⟩
    have s12 := s1.trans s2
    obtain ⟨p0, hp0, hf0, hy0, ec, _⟩ := chs_find ok hpos hwd
    refine ⟨l2, rfl, ⟨xs, SqL.of hl2⟩, ?_⟩
    refine for_list (xs := xs) (fun i σ H' => H' = H2 ∧ (∀ j p, j < i → (R.parts n)[j]? = some p → decide (0 < wy (ways R) p) = false) ∧ ∃ a4 a5 a6 a7 a8 a9, σ = [some (.ref d), some (.int n), some (.int (0 : Nat)), some (.ref l), a4, a5, a6, a7, a8, a9])
      ⟨rfl, fun j p hj => absurd hj (Nat.not_lt_zero _), _, _, _, _, _, _, rfl⟩ (fun i σ H' _ pv => by rw [pv.1]; exact SqL.of hl2) ?_ ?_
    · rintro i x σ H' hi ⟨rfl, hno, a4, a5, a6, a7, a8, a9, rfl⟩
      obtain ⟨p, ep, t, rfl, ht⟩ := rx.get hi
      have hp := List.mem_of_getElem? ep
      obtain ⟨em, _⟩ := parts_mem hp
      obtain ⟨dy, v, r, hy⟩ := (hD.same s12).sys.ins
      obtain ⟨xm, hxm, rm⟩ := (hD.same s12).sys.mul
      obtain ⟨xr, exr, ar, rfl, har⟩ := rm.get' em
      refine ⟨t, _, rfl, SqT.of ht, rfl, _, _, rfl, _, _, rfl, _, _, rfl, rfl, ?_⟩
      refine ⟨_, rfl, d, dx, _, rfl, s12 _ _ hd, no_D _ (by decide +kernel), _, rfl, d, y, k, s, mm, R, kvs, p.r, rfl, hD.same s12, hk.same s12, (hrd p hp).2, ?_⟩
      refine ⟨_, rfl, d, dx, _, rfl, s12 _ _ hd, no_D _ (by decide +kernel), _, rfl, _, rfl, d, y, k, s, mm, R, kvs, p.ix, p.c, p.m, rfl, hD.same s12, hk.same s12, em, (hrd p hp).1, ?_⟩
      refine ⟨_, rfl, _, _, rfl, rfl, wy_wide hw hp, ?_⟩
      refine ⟨_, rfl, _, rfl, _, _, rfl, rfl, _, rfl, ?_⟩
      by_cases hy1 : 0 < wy (ways R) p
      · refine iteT' (decide_eq_true (by have : 0 < wy (ways R) p := hy1; unfold wy at this; omega)) ?_
        obtain rfl : p0 = p := find_at ep (decide_eq_true hy1) hno hf0
        refine ⟨fun σ H3 => Same H' H3 ∧ ∃ z zs, H z = none ∧ H3 z = some (.lst zs) ∧ Rel (Itm H3) zs (if p0.m.un p0.c = true then [] else [.inr p0.c]) ∧ zs.length ≤ 1 ∧ σ = [some (.ref d), some (.int n), some (.int (0 : Nat)), some (.ref l), some (.int (p0.ix : Nat)), some (.int (p0.c : Nat)), some (.int (p0.r : Nat)), some (.int ((if p0.r = 0 then 1 else ways R p0.r : Nat) : Int)), some (.int (((if p0.m.un p0.c = true then 1 else ways R p0.c) * (if p0.r = 0 then 1 else ways R p0.r) : Nat) : Int)), some (.ref z)], ?_, ?_⟩
        · refine ⟨_, rfl, d, dx, _, rfl, s12 _ _ hd, no_D _ (by decide +kernel), _, rfl, _, rfl, d, y, k, s, mm, R, p0.ix, p0.c, p0.m, rfl, hD.same s12, em, _, rfl, r_b (fun hu => ?_) (fun hu => ?_)⟩
          · refine ⟨Nat.zero_le _, fun z nz => ⟨Same.new nz, z, [], s12.free nz, upd_same, ?_, Nat.zero_le _, rfl⟩⟩
            rw [if_pos hu]
            exact Rel.nil
          · refine ⟨_, rfl, _, rfl, _, rfl, _, _, rfl, rfl, rest_wide hw hp hy1, by show 2 ≤ sizeLine; decide, fun b nb => ?_⟩
            refine ⟨by show 1 ≤ sizeLine; decide, fun z nz => ⟨(Same.new nb).new' nz, z, [.ref b], s12.free ((Same.new nb).free nz), upd_same, ?_, Nat.le_refl _, rfl⟩⟩
            rw [show (if p0.m.un p0.c = true then ([] : List (Str ⊕ Nat)) else [.inr p0.c]) = [.inr p0.c] from if_neg (by rw [hu]; exact Bool.false_ne_true)]
            refine Rel.cons ⟨b, rfl, ?_⟩ Rel.nil
            have nbz : b ≠ z := no_in upd_same nz
            rw [upd_ne nbz, upd_same, Nat.zero_div]
        · rintro σ H3 ⟨s3, z, zs, nz, hz, rz, lz, rfl⟩
          have s13 := s12.trans s3
          refine ⟨_, rfl, .inl ⟨rfl, _, SqL.of hz⟩, _, rfl, _, _, _, _, _, rfl, (s13 _ _ hd), W.k_Derivations, W.n_Derivations_system, lk_D_system, _, _, _, _, _, rfl, (s3 _ _ hy), W.k_System, W.n_System_multipliers, lk_Y_multipliers, _, rfl, mm, xm, _, _, rfl, rfl, s3.tup hxm, atI_nat exr, ar, mulL p0.m, _, _, rfl, rfl, s3.tup har, rfl, z, _, _, rfl, rfl, hz, small_lt (by omega), ?_⟩
          have rz' : Rel (Itm (upd H3 z (.lst (zs ++ [.str p0.m.word])))) zs (if p0.m.un p0.c = true then [] else [.inr p0.c]) := rz.imp fun x y h => h.at_ fun t xs' e => by
            have : t ≠ z := ne_of e hz (by intro z; cases z)
            rw [upd_ne this]; exact e
          have s14 := s13.mut nz (o := .lst (zs ++ [.str p0.m.word]))
          refine ⟨_, rfl, _, rfl, rfl, _, rfl, r_dec (fun e => ?_) (fun e => ?_)⟩
          · have e' : p0.r = 0 := by injection e with e; omega
            refine ⟨Nat.zero_le _, fun b nb => ?_⟩
            have nzb : z ≠ b := no_in upd_same nb
            refine ⟨z, b, _, _, rfl, rfl, by rw [upd_ne nzb, upd_same], upd_same, small_le (by simp; omega), fun c nc => ?_⟩
            have s5 := s14.new' nb (o := .lst [])
            refine q c _ _ (s5.new' nc) (s5.free nc) upd_same ?_ (by simp; omega)
            rw [ec]
            unfold chsP
            rw [if_pos e', List.append_nil]
            refine Rel.append (rz'.imp fun x y h => h.at_ fun t xs' e => ?_) (Rel.cons rfl Rel.nil)
            exact Same.new nc _ _ (Same.new nb _ _ e)
          · have e' : ¬ p0.r = 0 := fun z => e (by rw [z]; rfl)
            refine ⟨_, rfl, _, rfl, _, rfl, _, rfl, _, _, rfl, rfl, rest_wide hw hp hy1, _, rfl, _, _, rfl, rfl, ?_, _, _, rfl, rfl, ?_, by show 2 ≤ sizeLine; decide, fun b nb => ?_⟩
            · rw [Nat.zero_div]
              exact wide_mul (a := 1) (b := 8000) (by simp) (by
                rw [Int.natAbs_natCast, if_neg e']
                exact (hw p0 hp).2) (by omega) (by omega) (by omega)
            · rw [Nat.zero_div, Nat.zero_mul]; exact Nat.le_refl _
            refine ⟨by show 1 ≤ sizeLine; decide, fun b2 nb2 => ?_⟩
            have nzb : z ≠ b := no_in upd_same nb
            have nbb : b ≠ b2 := no_in upd_same nb2
            have nzb2 : z ≠ b2 := no_in (show upd _ b _ z = some _ by rw [upd_ne nzb, upd_same]) nb2
            refine ⟨z, b2, _, _, rfl, rfl, by rw [upd_ne nzb2, upd_ne nzb, upd_same], upd_same, small_le (by simp; omega), fun c nc => ?_⟩
            have nbc : b ≠ c := no_in (show upd _ b2 _ b = some _ by rw [upd_ne nbb, upd_same]) nc
            have s5 := (s14.new' nb).new' nb2 (o := .lst [.ref b])
            refine q c _ _ (s5.new' nc) (s5.free nc) upd_same ?_ (by simp; omega)
            have e9 : chsP p0 = ((if p0.m.un p0.c = true then [] else [.inr p0.c]) ++ [Sum.inl p0.m.word]) ++ [Sum.inr p0.r] := by
              unfold chsP
              rw [if_neg e', List.append_assoc]
              rfl
            rw [ec, e9]
            refine Rel.append (Rel.append (rz'.imp fun x y h => h.at_ fun t xs' e => ?_) (Rel.cons rfl Rel.nil)) (Rel.cons ⟨b, rfl, ?_⟩ Rel.nil)
            · exact Same.new nc _ _ (Same.new nb2 _ _ (Same.new nb _ _ e))
            · rw [upd_ne nbc, upd_ne nbb, upd_same, Nat.zero_div, Nat.zero_mul]
      · refine iteF' (decide_eq_false (by have : ¬ 0 < wy (ways R) p := hy1; unfold wy at this; omega)) ?_
        have h0 : (if p.m.un p.c = true then 1 else ways R p.c) * (if p.r = 0 then 1 else ways R p.r) = 0 := by
          have : ¬ 0 < wy (ways R) p := hy1
          unfold wy at this
          omega
        refine ⟨_, rfl, _, rfl, _, _, rfl, rfl, by rw [h0]; exact Nat.le_refl _, rfl, fun j p' hj ej => ?_, _, _, _, _, _, _, by rw [h0]; rfl⟩
        rcases Nat.lt_or_eq_of_le (Nat.le_of_lt_succ hj) with z | z
        · exact hno j p' z ej
        · subst z
          rw [ep] at ej
          injection ej with ej
          subst ej
          exact decide_eq_false hy1
    · rintro σ H' ⟨rfl, hno, a4, a5, a6, a7, a8, a9, rfl⟩
      exfalso
      obtain ⟨j, ej⟩ := List.mem_iff_getElem?.mp hp0
      have hj := (List.getElem?_eq_some_iff.mp ej).1
      have := hno j p0 (by rw [rx.1]; exact hj) ej
      rw [decide_eq_true hy0] at this
      cases this

end
end Sy

/-! part: D5 -/
set_option Elab.async false
set_option linter.all false
set_option maxRecDepth 100000
set_option maxHeartbeats 4000000
namespace Sy
open PySem PySem.Spec PyProof.Rows L2
section
variable {P : Program} {w : World} {K : PySem.W.Frag} {mg : Str → Option Value} {base : Heap}
theorem big_le {n : Nat} (h : n ≤ 2000000) : n ≤ sizeLine := Nat.le_trans h (by decide)
theorem big_lt {n : Nat} (h : n ≤ 2000000) : n < sizeLine := Nat.lt_of_le_of_lt h (by decide)
def PB (R : Rs) (n : Nat) : Prop := ((phr R n).getD []).length ≤ 1000000
def spD_phrase (K : PySem.W.Frag) : Sp := fun vs H Q _ => ∃ (d y k s mm : Addr) (R : Rs) (kvs : List (Key × V)) (n : Nat), vs = [.ref d, .int n, .int (0 : Nat)] ∧ DerAt K H d y k s mm R ∧ R.Ok ∧ KnAt H k R kvs ∧ (∀ a, Kn kvs a → Rdy R kvs a ∧ WB R a) ∧ Kn kvs n ∧ 0 < ways R n ∧ PB R n ∧
  ∀ t H', Same H H' → H t = none → H' t = some (.tup (((phr R n).getD []).map V.str)) → Q (.ref t) H'
theorem ok_D_phrase (W : Wd K mg) : Has P w K mg base 4 (He.ma K (He.ga K "Derivations") "phrase") ["self", "number", "index"] [] (spD_phrase K) := by
  have h_D_choice := ok_D_choice (P := P) (w := w) (base := base) W
  have h_D_shortest_choice : Has P w K mg base 0 (He.ma K (He.ga K "Derivations") "shortest_choice") ["self", "number"] [] (fun _ _ _ _ => False) := Has.no (d := d_D_shortest_choice) (W.says.def_ 13) (fun _ _ _ _ _ _ us hl => match us, hl with | [_, _], _ => rfl)
  refine mkHas (d := d_D_phrase) (N := N_D_phrase) (ps := ["self", "number", "index"]) (W.says.def_ 14) sc_D_phrase (fun _ _ _ _ _ _ us hl => match us, hl with | [_, _, _], _ => rfl) (fun vs H Q E h => ?_) (fun cdv A outer s0 H vs Q E hr h => ?_)
  · obtain ⟨_, _, _, _, _, _, _, _, rfl, _⟩ := h
    rfl
  obtain ⟨d, y, k, s, mm, R, kvs, n, rfl, hD, ok, hk, hall, hn, hpos, hpb, q⟩ := h
  obtain ⟨dx, hd⟩ := hD.ins
  refine ⟨_, (pss_cons (ps_set (i := 3) sc_D_phrase.nd rfl (Or.inl rfl) (pe_lst pa_nil))
      (pss_cons (ps_set (i := 4) sc_D_phrase.nd rfl (Or.inl rfl) (pe_lst (pa_cons (pe_tup (pa_cons (pv 1) (pa_cons (pv 2) pa_nil))) pa_nil)))
      (pss_mid (ps_while PassesOwn.never (pt_truthK (pv 4)) (pss_cons (ps_set (i := 5) sc_D_phrase.nd rfl (Or.inl rfl) (pe_bm0 PySem.F.plainAttrs_list PySem.F.slot_list_pop PySem.F.type_list_pop mt_pop (pv 4)))
      (pss_one (ps_if (pt_val (pe_callB call_isi rfl W.f_isinstance PyProof.Rows.boot_isinstance (pa_cons (pv 5) (pa_cons (pe_bltn (v := .ty "str") rfl W.f_str PyProof.Rows.boot_str rfl) pa_nil)))) (pss_one (ps_expr (pe_bm PySem.F.plainAttrs_list PySem.F.slot_list_append PySem.F.type_list_append mt_append (pv 3) (pa_cons (pv 5) pa_nil)))) (pss_cons (ps_set (i := 6) sc_D_phrase.nd rfl (Or.inl rfl) (pe_ifExp (pt_cmpR op_isN1 (pe_ix ix_tup (pv 5) pe_int (fun _ _ => rfl)) pe_non (nomark _)) (pe_methH h_D_shortest_choice W.k_Derivations W.m_Derivations_shortest_choice (hr.mono (by omega)) (pv 0) (pa_cons (pe_ix ix_tup (pv 5) pe_int (fun _ _ => rfl)) pa_nil)) (pe_methH h_D_choice W.k_Derivations W.m_Derivations_choice (hr.mono (by omega)) (pv 0) (pa_cons (pe_ix ix_tup (pv 5) pe_int (fun _ _ => rfl)) (pa_cons (pe_ix ix_tup (pv 5) pe_int (fun _ _ => rfl)) pa_nil)))))
      (pss_one (ps_expr (pe_bm PySem.F.plainAttrs_list PySem.F.slot_list_extend PySem.F.type_list_extend mt_extend (pv 4) (pa_cons (pe_revL (pv 6)) pa_nil)))))))))
      (pss_one (ps_ret (pe_callTy call_tuple_of rfl W.f_tuple PyProof.Rows.boot_tuple (pa_cons (pv 3) pa_nil))))))), ?_⟩
  refine ⟨Nat.zero_le _, fun f nf => ?_⟩
  refine ⟨_, rfl, _, rfl, (by show 2 ≤ sizeLine; decide), fun t0 nt0 => ?_⟩
  refine ⟨(by show 1 ≤ sizeLine; decide), fun wt nwt => ?_⟩
  have s1 : Same H (upd H f (.lst [])) := Same.new nf
  have s2 := s1.new' nt0 (o := .tup [.int n, .int (0 : Nat)])
  have nw : H wt = none := s2.free nwt
  have s3 := s2.new' nwt (o := .lst [.ref t0])
  have nft0 : f ≠ t0 := no_in upd_same nt0
  have nfw : f ≠ wt := no_in (show upd _ t0 _ f = some (.lst []) by rw [upd_ne nft0, upd_same]) nwt
  have ntw : t0 ≠ wt := no_in upd_same nwt
  refine ⟨fun σ H' => Same H H' ∧ H' f = some (.lst (((phr R n).getD []).map V.str)) ∧ ∃ a4 a5 a6, σ = [some (.ref d), some (.int n), some (.int (0 : Nat)), some (.ref f), a4, a5, a6], ?_, ?_⟩
  · refine ⟨fun m σ H' => Same H H' ∧ ∃ (ws : List (Str ⊕ Nat)) (fs : List Str) (xs : List V) (a5 a6 : Option V), H' f = some (.lst (fs.map V.str)) ∧ H' wt = some (.lst xs) ∧ Rel (Itm H') xs ws ∧ (∀ j, Sum.inr j ∈ ws → Kn kvs j ∧ 0 < ways R j) ∧ fs ++ exs (phr R) ws.reverse = (phr R n).getD [] ∧ m = (ws.map msr).sum ∧ σ = [some (.ref d), some (.int n), some (.int (0 : Nat)), some (.ref f), some (.ref wt), a5, a6],
      ⟨_, s3, [.inr n], [], [.ref t0], none, none, ?_, upd_same, ?_, ?_, ?_, rfl, rfl⟩, ?_⟩
    · rw [upd_ne nfw, upd_ne nft0, upd_same]; rfl
    · exact Rel.cons ⟨t0, rfl, by rw [upd_ne ntw, upd_same]⟩ Rel.nil
    · intro j hj
      obtain rfl : j = n := by simpa using hj
      exact ⟨hn, hpos⟩
    · simp [exs]
    rintro m σ H1 ⟨sH, ws, fs, xs, a5, a6, hf, hw, rw_, hws, hsum, hm, rfl⟩
    have hlen : fs.length + ws.length ≤ 1000000 := by
      have h1 := exs_len ok (l := ws.reverse) fun j hj => (hws j (List.mem_reverse.mp hj)).2
      have h2 := congrArg List.length hsum
      unfold PB at hpb
      rw [List.length_append] at h2
      rw [List.length_reverse] at h1
      omega
    refine ⟨_, rfl, _, .inl ⟨_, SqL.of hw, rfl⟩, r_nb (fun he => ?_) (fun he => ?_)⟩
    · rcases List.eq_nil_or_concat ws with rfl | ⟨ws', o, rfl⟩
      · have : xs = [] := List.length_eq_zero_iff.mp rw_.1
        subst this
        cases he
      rw [List.concat_eq_append] at rw_ hws hsum hm hlen
      obtain ⟨xs', x, rfl, r1, r2⟩ := rw_.unsnoc
      have r0 := r1.1
      refine ⟨_, fun σ' H' h => h, ?_⟩
      refine ⟨_, rfl, .inl ⟨rfl, _, SqL.of hw⟩, wt, _, x, rfl, rfl, hw, by simp, ?_⟩
      rw [List.dropLast_concat]
      have sH2 : Same H (upd H1 wt (.lst xs')) := sH.mut nw
      have tw : ∀ t zs, H1 t = some (.tup zs) → upd H1 wt (.lst xs') t = some (.tup zs) := fun t zs e => by
        rw [upd_ne (ne_of e hw (by intro z; cases z))]; exact e
      have hf2 : upd H1 wt (.lst xs') f = some (.lst (fs.map V.str)) := by rw [upd_ne nfw]; exact hf
      rw [List.length_append, List.length_singleton] at hlen
      cases o with
      | inl z =>
        obtain rfl : x = .str z := r2
        refine ⟨_, rfl, _, _, _, _, _, rfl, .ty _, .base (.str _), kit_ty (a := "str") (b := "str") (r := true) (by decide +kernel), _, rfl, iteT ?_⟩
        refine ⟨_, rfl, .inl ⟨rfl, _, SqL.of hf2⟩, _, rfl, f, _, _, rfl, rfl, hf2, big_lt (by rw [List.length_map]; omega), ?_⟩
        refine ⟨(ws'.map msr).sum, ?_, sH2.mut nf, ws', fs ++ [z], xs', _, _, ?_, ?_, ?_, ?_, ?_, rfl, rfl⟩
        · rw [hm, List.map_append, List.sum_append]
          simp [msr]
        · rw [upd_same, List.map_append]; rfl
        · rw [upd_ne nfw.symm, upd_same]
        · refine r1.imp fun a b h => h.at_ fun t zs e => ?_
          have := tw t zs e
          rw [upd_ne (ne_of this hf2 (by intro z; cases z))]; exact this
        · exact fun j hj => hws j (List.mem_append.mpr (.inl hj))
        · rw [← hsum, List.reverse_append]
          simp [exs]
      | inr j =>
        obtain ⟨t, rfl, ht⟩ := r2
        have ht2 := tw t _ ht
        obtain ⟨hj, hjp⟩ := hws j (List.mem_append.mpr (.inr (List.mem_singleton.mpr rfl)))
        refine ⟨_, rfl, _, _, _, _, _, rfl, .ty _, .base (.tup ht2), kit_ty (a := "tuple") (b := "str") (r := false) (by decide +kernel), _, rfl, iteF ?_⟩
        refine ⟨_, rfl, t, _, _, _, rfl, rfl, SqT.of ht2, rfl, rfl, _, rfl, iteF' (decide_eq_false (by intro z; cases z)) ?_⟩
        refine ⟨_, rfl, d, dx, _, rfl, sH2 _ _ hd, no_D _ (by decide +kernel), _, rfl, t, _, _, _, rfl, rfl, SqT.of ht2, rfl, _, rfl, t, _, _, _, rfl, rfl, SqT.of ht2, rfl, d, y, k, s, mm, R, kvs, j, rfl, hD.same sH2, ok, hk.same sH2, (hall j hj).1, (hall j hj).2, hjp, fun l H4 xs4 s4 nl hl rl zl => ?_⟩
        have hw4 : H4 wt = some (.lst xs') := s4 _ _ upd_same
        refine ⟨_, rfl, .inl ⟨rfl, _, SqL.of hw4⟩, _, rfl, l, xs4, rfl, SqL.of hl, fun p np => ?_⟩
        have nwp : wt ≠ p := no_in hw4 np
        refine ⟨wt, p, _, _, rfl, rfl, by rw [upd_ne nwp]; exact hw4, upd_same, big_le (by rw [List.length_reverse]; omega), ?_⟩
        have s5 : Same H (upd H4 p (.lst xs4.reverse)) := (sH2.trans s4).new' np
        have tt : ∀ t zs, H4 t = some (.tup zs) → upd (upd H4 p (.lst xs4.reverse)) wt (.lst (xs' ++ xs4.reverse)) t = some (.tup zs) := fun t zs e => by
          rw [upd_ne (ne_of e hw4 (by intro z; cases z)), upd_ne (no_in e np)]; exact e
        have hfp : f ≠ p := no_in (s4 _ _ hf2) np
        refine ⟨((ws' ++ (chs R j).reverse).map msr).sum, ?_, s5.mut nw, ws' ++ (chs R j).reverse, fs, xs' ++ xs4.reverse, _, _, ?_, upd_same, ?_, ?_, ?_, rfl, rfl⟩
        · rw [hm]
          have h1 := chs_msr ok hjp
          simp only [List.map_append, List.sum_append, List.map_reverse, List.sum_reverse, List.map_cons, List.map_nil, List.sum_cons, List.sum_nil]
          show _ < _ + (3 * j + 1 + 0)
          omega
        · rw [upd_ne nfw, upd_ne hfp]; exact s4 _ _ hf2
        · refine Rel.append (r1.imp fun a b h => h.at_ fun t zs e => tt t zs (s4 _ _ (tw t zs e))) (rl.rev.imp fun a b h => h.at_ fun t zs e => tt t zs e)
        · intro i hi
          rcases List.mem_append.mp hi with h | h
          · exact hws i (List.mem_append.mpr (.inl h))
          · obtain ⟨h1, p, hp, h2⟩ := chs_mem ok hjp (List.mem_reverse.mp h)
            obtain ⟨q1, q2⟩ := (hall j hj).1 p hp
            rcases h2 with ⟨rfl, h2⟩ | ⟨rfl, h2⟩
            · exact ⟨q1.resolve_left h2, h1⟩
            · exact ⟨q2.resolve_left h2, h1⟩
        · rw [← hsum, List.reverse_append, List.reverse_append, List.reverse_reverse, exs_append, ← chs_exs ok hjp]
          rfl
    · obtain rfl : ws = [] := by
        cases xs with
        | nil => exact List.length_eq_zero_iff.mp rw_.1.symm
        | cons => cases he
      have : fs = (phr R n).getD [] := by rw [← hsum]; simp [exs]
      exact ⟨sH, by rw [← this]; exact hf, _, _, _, rfl⟩
  rintro σ H1 ⟨sH, hf, a4, a5, a6, rfl⟩
  exact ⟨_, rfl, f, _, rfl, .inl ⟨SqL.of hf, fun t nt => q t _ (sH.new' nt) (sH.free nt) upd_same⟩⟩
/-! count, where nothing is known yet -/
def spD_countE (K : PySem.W.Frag) : Sp := fun vs H Q _ => ∃ (F : Hp) (d y k s mm : Addr) (R : Rs) (n : Nat) (L : List Nat), vs = [.ref d, .int n] ∧ Same F H ∧ F k = none ∧ DerAt K F d y k s mm R ∧ R.Ok ∧ H k = some (.dK []) ∧
  n ∈ L ∧ (∀ a ∈ L, ∀ b ∈ below R a, b ∈ L) ∧ L.length ≤ 5000 ∧ (∀ a ∈ L, WB R a) ∧
  ∀ H' kvs, But [k] H H' → KnAt H' k R kvs → Kn kvs n → (∀ a, Kn kvs a → a ∈ L ∧ Rdy R kvs a) → Q (.int (ways R n : Nat)) H'
theorem ok_D_countE (W : Wd K mg) : Has P w K mg base 5 (He.ma K (He.ga K "Derivations") "count") ["self", "number"] [] (spD_countE K) := by
  have h_D_learn := ok_D_learn (P := P) (w := w) (base := base) W
  refine mkHas (d := d_D_count) (N := N_D_count) (ps := ["self", "number"]) (W.says.def_ 10) sc_D_count (fun _ _ _ _ _ _ us hl => match us, hl with | [_, _], _ => rfl) (fun vs H Q E h => ?_) (fun cdv A outer s0 H vs Q E hr h => ?_)
  · obtain ⟨_, _, _, _, _, _, _, _, _, rfl, _⟩ := h
    rfl
  obtain ⟨F, d, y, k, s, mm, R, n, L, rfl, sF, nFk, hD, ok, hk, hn, hcl, hL, hWB, q⟩ := h
  obtain ⟨dx, hd⟩ := hD.ins
  have hu := hu_of hr
  refine ⟨_, (pss_cons (ps_if (pt_cmp (pc_dnotin hu (pv 1) (pe_fld (pv 0) rfl))) (pss_one (ps_expr (pe_methH h_D_learn W.k_Derivations W.m_Derivations_learn (hr.mono (by omega)) (pv 0) (pa_cons (pv 1) pa_nil)))) pss_nil)
      (pss_one (ps_ret (pe_ix ix_tup (pe_dget hu (pe_fld (pv 0) rfl) (pv 1) (fun _ _ => rfl)) pe_int (fun _ _ => rfl))))), ?_⟩
  refine ⟨_, rfl, _, rfl, _, _, _, _, _, rfl, (sF _ _ hd), W.k_Derivations, W.n_Derivations_known, lk_D_known, k, _, rfl, dget_none hk rfl, _, rfl, ?_⟩
  refine iteT ?_
  refine ⟨_, rfl, d, dx, _, rfl, sF _ _ hd, no_D _ (by decide +kernel), _, rfl, F, d, y, k, s, mm, R, n, L, rfl, sF, nFk, hD, ok, hk, hn, hcl, hL, hWB, fun H' kvs b hK hkn hall => ?_⟩
  have sF' : Same F H' := b.base sF (by simpa using nFk)
  obtain ⟨t, w2, e1, e2, _⟩ := hK.kn hkn
  exact ⟨_, rfl, _, _, _, _, _, rfl, (sF' _ _ hd), W.k_Derivations, W.n_Derivations_known, lk_D_known, _, rfl, k, _, rfl, dget_of hK.at_ e1, t, _, _, _, rfl, rfl, SqT.of e2, rfl, q H' kvs b hK hkn hall⟩
def spD_first (K : PySem.W.Frag) : Sp := fun vs H Q _ => ∃ (F : Hp) (d y k s mm : Addr) (R : Rs) (n : Nat) (L : List Nat), vs = [.ref d, .int n] ∧ Same F H ∧ F k = none ∧ DerAt K F d y k s mm R ∧ R.Ok ∧ H k = some (.dK []) ∧
  n ∈ L ∧ (∀ a ∈ L, ∀ b ∈ below R a, b ∈ L) ∧ L.length ≤ 5000 ∧ (∀ a ∈ L, WB R a) ∧ 0 < ways R n ∧ PB R n ∧
  ∀ t H', But [k] H H' → H t = none → H' t = some (.tup (((phr R n).getD []).map V.str)) → Q (.ref t) H'
theorem ok_D_first (W : Wd K mg) : Has P w K mg base 6 (He.ma K (He.ga K "Derivations") "first") ["self", "number"] [] (spD_first K) := by
  have h_D_count := ok_D_countE (P := P) (w := w) (base := base) W
  have h_D_phrase := ok_D_phrase (P := P) (w := w) (base := base) W
  refine mkHas (d := d_D_first) (N := N_D_first) (ps := ["self", "number"]) (W.says.def_ 15) sc_D_first (fun _ _ _ _ _ _ us hl => match us, hl with | [_, _], _ => rfl) (fun vs H Q E h => ?_) (fun cdv A outer s0 H vs Q E hr h => ?_)
  · obtain ⟨_, _, _, _, _, _, _, _, _, rfl, _⟩ := h
    rfl
  obtain ⟨F, d, y, k, s, mm, R, n, L, rfl, sF, nFk, hD, ok, hk, hn, hcl, hL, hWB, hpos, hpb, q⟩ := h
  obtain ⟨dx, hd⟩ := hD.ins
  refine ⟨_, (pss_one (ps_ret (pe_ifExp (pt_cmpR op_gt (pe_methH h_D_count W.k_Derivations W.m_Derivations_count (hr.mono (by omega)) (pv 0) (pa_cons (pv 1) pa_nil)) pe_int (nomark _)) (pe_methH h_D_phrase W.k_Derivations W.m_Derivations_phrase (hr.mono (by omega)) (pv 0) (pa_cons (pv 1) (pa_cons pe_int pa_nil))) pe_non))), ?_⟩
  refine ⟨_, rfl, d, dx, _, rfl, sF _ _ hd, no_D _ (by decide +kernel), _, rfl, F, d, y, k, s, mm, R, n, L, rfl, sF, nFk, hD, ok, hk, hn, hcl, hL, hWB, fun H' kvs b hK hkn hall => ?_⟩
  refine ⟨_, _, rfl, rfl, _, rfl, iteT' (decide_eq_true (by omega)) ?_⟩
  have sF' : Same F H' := b.base sF (by simpa using nFk)
  refine ⟨_, rfl, d, dx, _, rfl, sF' _ _ hd, no_D _ (by decide +kernel), _, rfl, d, y, k, s, mm, R, kvs, n, rfl, hD.same sF', ok, hK, fun a ha => ⟨(hall a ha).2, hWB a (hall a ha).1⟩, hkn, hpos, hpb, fun t H2 s2 nt ht => ?_⟩
  refine q t H2 (b.trans (But.of s2)) ?_ ht
  cases e : H t with
  | none => rfl
  | some o =>
    rcases Classical.em (t = k) with z | z
    · subst z
      rw [hK.at_] at nt
      cases nt
    · rw [b _ _ e (by simpa using z)] at nt
      cases nt
def spD_init (K : PySem.W.Frag) : Sp := fun vs H Q _ => ∃ (x y dx : Addr), vs = [.ref x, .ref y] ∧ H x = some (.ins (cD K) dx []) ∧ ∀ k H', H k = none → But [x] H H' → H' x = some (.ins (cD K) dx (derF y k)) → H' k = some (.dK []) → Q .non H'
theorem ok_D_init (W : Wd K mg) : Has P w K mg base 1 (He.ma K (He.ga K "Derivations") "__init__") ["self", "system"] [] (spD_init K) := by
  refine mkHas (d := d_D_init) (N := N_D_init) (ps := ["self", "system"]) (W.says.def_ 0) sc_D_init (fun _ _ _ _ _ _ us hl => match us, hl with | [_, _], _ => rfl) (fun vs H Q E h => ?_) (fun cdv A outer s0 H vs Q E hr h => ?_)
  · obtain ⟨_, _, _, rfl, _⟩ := h
    rfl
  obtain ⟨x, y, dx, rfl, hx, q⟩ := h
  refine ⟨_, (pss_cons (ps_fld (pv 0) (pv 1) rfl)
      (pss_one (ps_fld (pv 0) pe_dnewK rfl))), ?_⟩
  refine ⟨_, rfl, _, rfl, x, _, dx, _, rfl, hx, W.k_Derivations, W.n_Derivations_system, by decide, ?_⟩
  intro k nk
  have nxk : x ≠ k := no_in upd_same nk
  refine ⟨_, rfl, x, _, dx, _, rfl, by rw [upd_ne nxk, upd_same], W.k_Derivations, W.n_Derivations_known, ?_, ?_⟩
  · have e0 : putF ("system" : Str) (.ref y) [] = [(("system" : Str), V.ref y)] := by with_unfolding_all rfl
    rw [e0]
    show 1 < 1000
    decide
  · have e : putF ("_known" : Str) (.ref k) (putF ("system" : Str) (.ref y) []) = derF y k := by with_unfolding_all rfl
    rw [e]
    have nHk : H k = none := by rw [upd_ne nxk.symm] at nk; exact nk
    refine q k _ nHk ?_ upd_same ?_
    · exact (((But.refl _ _).upd (.inl (by simp))).upd (.inr nHk)).upd (.inl (by simp))
    · rw [upd_ne nxk.symm, upd_same]

end
end Sy

/-! part: S1 -/
set_option Elab.async false
set_option linter.all false
set_option maxRecDepth 100000
set_option maxHeartbeats 4000000
namespace Sy
open PySem PySem.Spec PyProof.Rows L2
section
variable {P : Program} {w : World} {K : PySem.W.Frag} {mg : Str → Option Value} {base : Heap}
/-! ### Spoken: how it stands -/
def optS : Option Str → V
  | none => .non
  | some w => .str w
def topOf (B : Nat) (out : M) : Nat := (B / out.value + 1) * out.value - 1
def SumRow (H : Hp) (x : V) (p : Nat × Nat) : Prop := ∃ t, x = .ref t ∧ H t = some (.tup [.int (p.1 : Nat), .int (p.2 : Nat)])
/-- what stays -/
structure SpF (K : PySem.W.Frag) (F : Hp) (x y h k sd sm s mm o : Addr) (wd : Option Str) (R : Rs) (out : M) (B : Nat) : Prop where
  ins : ∃ dx, F x = some (.ins (cS K) dx (spoF y (optS wd) o (topOf B out : Nat) h sd sm))
  der : DerAt K F h y k s mm R
  row : SqT K F o (mulL out)
  ok : R.Ok
  isB : IsB R B
  isO : IsOut R out
  lt : topOf B out ≤ 4000
  fsd : F sd = none
  fsm : F sm = none
  fk : F k = none
/-- what grows -/
structure SpD (H F : Hp) (k sd sm : Addr) (t : Nat → Option Nat) (N : Nat) : Prop where
  same : Same F H
  kn : H k = some (.dK [])
  said : H sd = some (.lst ((List.range (N + 1)).map fun i => cntV (t i)))
  sums : ∃ zs, H sm = some (.lst zs) ∧ Rel (SumRow H) zs ((List.range (N + 1)).map (sums t))
  ne : sd ≠ sm
theorem SumRow.same {H H' : Hp} (e : Same H H') {x : V} {p : Nat × Nat} (h : SumRow H x p) : SumRow H' x p := by
  obtain ⟨t, h1, h2⟩ := h; exact ⟨t, h1, e _ _ h2⟩
theorem SpD.same' {H H' F : Hp} {k sd sm : Addr} {t : Nat → Option Nat} {N : Nat} (e : Same H H') (h : SpD H F k sd sm t N) : SpD H' F k sd sm t N := by
  obtain ⟨h1, h2, h3, ⟨zs, h4, h5⟩, h6⟩ := h
  exact ⟨h1.trans e, e _ _ h2, e _ _ h3, ⟨zs, e _ _ h4, h5.imp fun _ _ => SumRow.same e⟩, h6⟩
theorem range_at {β : Type} (f : Nat → β) {N i : Nat} (h : i ≤ N) : ((List.range (N + 1)).map f)[i]? = some (f i) := by
  rw [List.getElem?_map, List.getElem?_range (by omega)]
  rfl
theorem SpD.push {H F : Hp} {k sd sm p : Addr} {t : Nat → Option Nat} {N : Nat} {zs : List V} (h : SpD H F k sd sm t N) (hz : H sm = some (.lst zs)) (rz : Rel (SumRow H) zs ((List.range (N + 1)).map (Sy.sums t))) (f1 : F sd = none) (f2 : F sm = none)
    (np : upd H sd (.lst ((List.range (N + 1)).map (fun i => cntV (t i)) ++ [cntV (t (N + 1))])) p = none) :
    SpD (upd (upd (upd H sd (.lst ((List.range (N + 1)).map (fun i => cntV (t i)) ++ [cntV (t (N + 1))]))) p (.tup [.int ((Sy.sums t (N + 1)).1 : Nat), .int ((Sy.sums t (N + 1)).2 : Nat)])) sm (.lst (zs ++ [.ref p]))) F k sd sm t (N + 1) := by
  obtain ⟨h1, h2, h3, _, h6⟩ := h
  have nsp : sd ≠ p := no_in upd_same np
  have e0 : ∀ a o, H a = some o → a ≠ sd → upd H sd (.lst ((List.range (N + 1)).map (fun i => cntV (t i)) ++ [cntV (t (N + 1))])) a = some o := fun a o e n => by rw [upd_ne n]; exact e
  have nmp : sm ≠ p := no_in (e0 _ _ hz h6.symm) np
  have nks : k ≠ sd := ne_of h2 h3 (by intro z; cases z)
  have nkm : k ≠ sm := ne_of h2 hz (by intro z; cases z)
  have nkp : k ≠ p := no_in (e0 _ _ h2 nks) np
  refine ⟨?_, ?_, ?_, ⟨zs ++ [.ref p], upd_same, ?_⟩, h6⟩
  · intro a o e
    have n1 : a ≠ sd := no_in e f1
    have n2 : a ≠ sm := no_in e f2
    have e2 := e0 _ _ (h1 _ _ e) n1
    rw [upd_ne n2, upd_ne (no_in e2 np)]
    exact e2
  · rw [upd_ne nkm, upd_ne nkp, upd_ne nks]; exact h2
  · rw [upd_ne h6, upd_ne nsp, upd_same, List.range_succ (n := N + 1), List.map_append]; rfl
  · rw [List.range_succ (n := N + 1), List.map_append]
    refine Rel.append (rz.imp fun a b hh => ?_) (Rel.cons ⟨p, rfl, ?_⟩ Rel.nil)
    · obtain ⟨q, e1, e2⟩ := hh
      refine ⟨q, e1, ?_⟩
      have n1 : q ≠ sd := ne_of e2 h3 (by intro z; cases z)
      have n2 : q ≠ sm := ne_of e2 hz (by intro z; cases z)
      have e3 := e0 _ _ e2 n1
      rw [upd_ne n2, upd_ne (no_in e3 np)]
      exact e3
    · rw [upd_ne nmp.symm, upd_same]
def spS_weight (K : PySem.W.Frag) : Sp := fun vs H Q _ => ∃ (x dx y o h sd sm : Addr) (top : Int) (wd : Option Str) (z : Str), vs = [.ref x, .str z] ∧ H x = some (.ins (cS K) dx (spoF y (optS wd) o top h sd sm)) ∧ Q (.int (wt1 wd z : Nat)) H
theorem ok_S_weight (W : Wd K mg) : Has P w K mg base 1 (He.ma K (He.ga K "Spoken") "weight") ["self", "word"] [] (spS_weight K) := by
  refine mkHas (d := d_S_weight) (N := N_S_weight) (ps := ["self", "word"]) (W.says.def_ 18) sc_S_weight (fun _ _ _ _ _ _ us hl => match us, hl with | [_, _], _ => rfl) (fun vs H Q E h => ?_) (fun cdv A outer s0 H vs Q E hr h => ?_)
  · obtain ⟨_, _, _, _, _, _, _, _, _, _, rfl, _⟩ := h
    rfl
  obtain ⟨x, dx, y, o, h, sd, sm, top, wd, z, rfl, hx, q⟩ := h
  refine ⟨_, (pss_one (ps_ret (pe_ifExp (PW.pt (pw_or (pt_cmpR op_isN1 (pe_fld (pv 0) rfl) pe_non (nomark _)) (pw_or1 (pt_cmpR op_eq (pe_fld (pv 0) rfl) (pv 1) (nomark _))))) pe_int pe_int))), ?_⟩
  cases wd with
  | none =>
    have e : wt1 none z = 1 := if_pos (.inl rfl)
    rw [e] at q
    exact ⟨_, rfl, _, _, _, _, _, rfl, hx, W.k_Spoken, W.n_Spoken_word, lk_S_word, rfl, _, rfl, iteT' rfl (iteT q)⟩
  | some w2 =>
    refine ⟨_, rfl, _, _, _, _, _, rfl, hx, W.k_Spoken, W.n_Spoken_word, lk_S_word, rfl, _, rfl, iteF' rfl ⟨_, rfl, _, _, _, _, _, rfl, hx, W.k_Spoken, W.n_Spoken_word, lk_S_word, _, rfl, rfl, _, rfl, ?_⟩⟩
    refine r_dec (fun e => ?_) (fun e => ?_)
    · injection e with e
      have e1 : wt1 (some w2) z = 1 := if_pos (.inr (by rw [e]))
      rw [e1] at q
      exact q
    · have e1 : wt1 (some w2) z = 0 := if_neg (by
        rintro (h | h)
        · cases h
        · injection h with h
          exact e (by rw [h]; rfl))
      rw [e1] at q
      exact q
theorem findSome_at {β γ : Type} {f : β → Option γ} {l : List β} {i : Nat} {x : β} {v : γ} (hx : l[i]? = some x) (hv : f x = some v) (hn : ∀ j y, j < i → l[j]? = some y → f y = none) : l.findSome? f = some v := by
  have hi := (List.getElem?_eq_some_iff.mp hx).1
  have e : l = l.take i ++ x :: l.drop (i + 1) := by
    conv => lhs; rw [← List.take_append_drop i l, List.drop_eq_getElem_cons hi, (List.getElem?_eq_some_iff.mp hx).2]
  have h0 : (l.take i).findSome? f = none := by
    rw [List.findSome?_eq_none_iff]
    intro y hy
    obtain ⟨j, hj, rfl⟩ := List.mem_take_iff_getElem.mp hy
    exact hn j _ (by omega) (List.getElem?_eq_getElem (by omega))
  rw [e, List.findSome?_append, h0, List.findSome?_cons, hv]
  rfl
def spS_first (K : PySem.W.Frag) : Sp := fun vs H Q _ => ∃ (F : Hp) (x y h k sd sm s mm o : Addr) (wd : Option Str) (R : Rs) (out : M) (B N : Nat), vs = [.ref x, .int (N + 1 : Nat)] ∧ SpF K F x y h k sd sm s mm o wd R out B ∧ SpD H F k sd sm (told R wd) N ∧
  ∀ H', Same H H' → Q (cntV (told R wd (N + 1))) H'
theorem cntV_some (o : Option Nat) : (!decide (cntV o = .non)) = o.isSome := by
  cases o <;> rfl
theorem ok_S_first (W : Wd K mg) : Has P w K mg base 2 (He.ma K (He.ga K "Spoken") "_first") ["self", "number"] [] (spS_first K) := by
  have h_D_words := ok_D_words (P := P) (w := w) (base := base) W
  have h_D_parts := ok_D_parts (P := P) (w := w) (base := base) W
  have h_D_is_unsaid := ok_D_is_unsaid (P := P) (w := w) (base := base) W
  have h_S_weight := ok_S_weight (P := P) (w := w) (base := base) W
  refine mkHas (d := d_S_first) (N := N_S_first) (ps := ["self", "number"]) (W.says.def_ 20) sc_S_first (fun _ _ _ _ _ _ us hl => match us, hl with | [_, _], _ => rfl) (fun vs H Q E h => ?_) (fun cdv A outer s0 H vs Q E hr h => ?_)
  · obtain ⟨_, _, _, _, _, _, _, _, _, _, _, _, _, _, _, rfl, _⟩ := h
    rfl
  obtain ⟨F, x, y, h, k, sd, sm, s, mm, o, wd, R, out, B, N, rfl, hF, hS, q⟩ := h
  obtain ⟨dx, fx⟩ := hF.ins
  obtain ⟨dh, fh⟩ := hF.der.ins
  have hx := hS.same _ _ fx
  have hh := hS.same _ _ fh
  have hD := hF.der.same hS.same
  refine ⟨_, (pss_cons (ps_set (i := 2) sc_S_first.nd rfl (Or.inl rfl) (pe_methH h_D_words W.k_Derivations W.m_Derivations_words (hr.mono (by omega)) (pe_fld (pv 0) rfl) (pa_cons (pv 1) pa_nil)))
      (pss_cons (ps_if (pt_truthK (pv 2)) (pss_one (ps_ret (pe_methH h_S_weight W.k_Spoken W.m_Spoken_weight (hr.mono (by omega)) (pv 0) (pa_cons (pe_ix ix_list (pv 2) pe_int (fun _ _ => rfl)) pa_nil)))) pss_nil)
      (pss_cons (ps_for PassesOwn.never rfl (pi_list (pe_methH h_D_parts W.k_Derivations W.m_Derivations_parts (hr.mono (by omega)) (pe_fld (pv 0) rfl) (pa_cons (pv 1) pa_nil))) (pg_tup rfl (pgs_cons (pg_name (i := 3) sc_S_first.nd rfl (Or.inl rfl)) (pgs_cons (pg_name (i := 4) sc_S_first.nd rfl (Or.inl rfl)) (pgs_cons (pg_name (i := 5) sc_S_first.nd rfl (Or.inl rfl)) pgs_nil)))) (pss_mid (ps_set (i := 6) sc_S_first.nd rfl (Or.inl rfl) (pe_ifExp (pt_val (pe_methH h_D_is_unsaid W.k_Derivations W.m_Derivations_is_unsaid (hr.mono (by omega)) (pe_fld (pv 0) rfl) (pa_cons (pv 3) (pa_cons (pv 4) pa_nil)))) pe_int (pe_ix ix_list (pe_fld (pv 0) rfl) (pv 4) (fun _ _ => rfl))))
      (pss_mid (ps_set (i := 7) sc_S_first.nd rfl (Or.inl rfl) (pe_ifExp (pt_cmpR op_eq (pv 5) pe_int (nomark _)) pe_int (pe_ix ix_list (pe_fld (pv 0) rfl) (pv 5) (fun _ _ => rfl))))
      (pss_one (ps_if (PW.pt (pw_and (pt_cmpR op_notN1 (pv 6) pe_non (nomark _)) (pw_and1 (pt_cmpR op_notN1 (pv 7) pe_non (nomark _))))) (pss_one (ps_ret (pe_op op_nadd (pe_op op_nadd (pv 6) (pe_methH h_S_weight W.k_Spoken W.m_Spoken_weight (hr.mono (by omega)) (pv 0) (pa_cons (pe_ix ix_tup (pe_ix ix_tup (pe_fld (pe_fld (pv 0) rfl) rfl) (pv 3) (fun _ _ => rfl)) pe_int (fun _ _ => rfl)) pa_nil))) (pv 7)))) pss_nil)))))
      (pss_one (ps_ret pe_non))))), ?_⟩
  refine ⟨_, rfl, _, _, _, _, _, rfl, hx, W.k_Spoken, W.n_Spoken_held, lk_S_held, h, dh, _, rfl, hh, no_D _ (by decide +kernel), _, rfl, h, y, k, s, mm, R, N + 1, rfl, hD, hF.ok, fun l H1 s1 nl hl => ?_⟩
  refine ⟨_, rfl, _, .inl ⟨_, SqL.of hl, rfl⟩, ?_⟩
  have et := told_eq hF.ok wd (N + 1)
  cases hwd : R.wordsOf (N + 1) with
  | cons w0 ws =>
    rw [hwd] at et hl
    refine iteT' rfl ?_
    refine ⟨_, rfl, x, dx, _, rfl, s1 _ _ hx, no_S _ (by decide +kernel), _, rfl, l, _, _, _, rfl, rfl, SqL.of hl, atI_nat (j := 0) (xs := List.map V.str (w0 :: ws)) rfl, x, dx, y, o, h, sd, sm, _, wd, w0, rfl, s1 _ _ hx, ?_⟩
    have q' := q H1 s1
    rw [et] at q'
    exact q'
  | nil =>
    rw [hwd] at et
    have et2 : told R wd (N + 1) = (R.parts (N + 1)).findSome? (cmbT wd (told R wd)) := et
    refine iteF' rfl ?_
    refine ⟨_, rfl, _, _, _, _, _, rfl, (s1 _ _ hx), W.k_Spoken, W.n_Spoken_held, lk_S_held, h, dh, _, rfl, s1 _ _ hh, no_D _ (by decide +kernel), _, rfl, h, y, k, s, mm, R, N + 1, rfl, hD.same s1, hF.ok, fun l2 H2 xs s2 nl2 hl2 rx => ?_⟩
    have s12 := s1.trans s2
    have hS2 := hS.same' s12
    have hx2 := s12 _ _ hx
    have hh2 := s12 _ _ hh
    have hD2 := hD.same s12
    refine ⟨l2, rfl, ⟨xs, SqL.of hl2⟩, ?_⟩
    refine for_list (xs := xs) (fun i σ H' => H' = H2 ∧ (∀ j p, j < i → (R.parts (N + 1))[j]? = some p → cmbT wd (told R wd) p = none) ∧ ∃ a3 a4 a5 a6 a7, σ = [some (.ref x), some (.int (N + 1 : Nat)), some (.ref l), a3, a4, a5, a6, a7])
      ⟨rfl, fun j p hj => absurd hj (Nat.not_lt_zero _), _, _, _, _, _, rfl⟩ (fun i σ H' _ pv => by rw [pv.1]; exact SqL.of hl2) ?_ ?_
    · rintro i v σ H' hi ⟨rfl, hno, a3, a4, a5, a6, a7, rfl⟩
      obtain ⟨p, ep, t, rfl, ht⟩ := rx.get hi
      have hp := List.mem_of_getElem? ep
      obtain ⟨em, _⟩ := parts_mem hp
      obtain ⟨_, lt1, lt2, _⟩ := parts_lt hF.ok hp
      obtain ⟨dy, v1, r1, hy⟩ := hD2.sys.ins
      obtain ⟨xm, hxm, rm⟩ := hD2.sys.mul
      obtain ⟨xr, exr, ar, rfl, har⟩ := rm.get' em
      refine ⟨t, _, rfl, SqT.of ht, rfl, _, _, rfl, _, _, rfl, _, _, rfl, rfl, ?_⟩
      refine ⟨fun σ H3 => H3 = H' ∧ σ = [some (.ref x), some (.int (N + 1 : Nat)), some (.ref l), some (.int (p.ix : Nat)), some (.int (p.c : Nat)), some (.int (p.r : Nat)), some (cntV (aheadT (told R wd) p.m p.c)), a7], ?_, ?_⟩
      · refine ⟨_, rfl, _, _, _, _, _, rfl, hx2, W.k_Spoken, W.n_Spoken_held, lk_S_held, h, dh, _, rfl, hh2, no_D _ (by decide +kernel), _, rfl, _, rfl, h, y, k, s, mm, R, p.ix, p.c, p.m, rfl, hD2, em, _, rfl, r_b (fun hu => ?_) (fun hu => ?_)⟩
        · refine ⟨rfl, ?_⟩
          rw [show aheadT (told R wd) p.m p.c = some 0 from if_pos hu]
          rfl
        · refine ⟨_, rfl, _, _, _, _, _, rfl, hx2, W.k_Spoken, W.n_Spoken_said, lk_S_said, _, rfl, sd, _, _, _, rfl, rfl, SqL.of hS2.said, atI_nat (range_at _ (by omega)), rfl, ?_⟩
          rw [show aheadT (told R wd) p.m p.c = told R wd p.c from if_neg (by rw [hu]; exact Bool.false_ne_true)]
          rfl
      rintro σ H3 ⟨rfl, rfl⟩
      refine ⟨fun σ H4 => H4 = H3 ∧ σ = [some (.ref x), some (.int (N + 1 : Nat)), some (.ref l), some (.int (p.ix : Nat)), some (.int (p.c : Nat)), some (.int (p.r : Nat)), some (cntV (aheadT (told R wd) p.m p.c)), some (cntV (behindT (told R wd) p.r))], ?_, ?_⟩
      · refine ⟨_, rfl, rfl, _, rfl, r_dec (fun e => ?_) (fun e => ?_)⟩
        · have e' : p.r = 0 := by injection e with e; omega
          refine ⟨rfl, ?_⟩
          rw [show behindT (told R wd) p.r = some 0 from if_pos e']
          rfl
        · have e' : ¬ p.r = 0 := fun z => e (by rw [z]; rfl)
          refine ⟨_, rfl, _, _, _, _, _, rfl, hx2, W.k_Spoken, W.n_Spoken_said, lk_S_said, _, rfl, sd, _, _, _, rfl, rfl, SqL.of hS2.said, atI_nat (range_at _ (by omega)), rfl, ?_⟩
          rw [show behindT (told R wd) p.r = told R wd p.r from if_neg e']
          rfl
      rintro σ H4 ⟨rfl, rfl⟩
      have ec : cmbT wd (told R wd) p = oadd (aheadT (told R wd) p.m p.c) (wt1 wd p.m.word) (behindT (told R wd) p.r) := rfl
      revert ec
      generalize aheadT (told R wd) p.m p.c = a
      generalize behindT (told R wd) p.r = b
      intro ec
      refine st_ans (b := a.isSome && b.isSome) (ans_and2 (ans_notN (val_var rfl) (cntV_some _)) (ans_notN (val_var rfl) (cntV_some _))) (fun e => ?_) (fun e => ?_)
      · cases a with
        | none => cases e
        | some a =>
          cases b with
          | none => cases e
          | some b =>
            refine ⟨_, rfl, _, rfl, x, dx, _, rfl, hx2, no_S _ (by decide +kernel), _, rfl, _, _, _, _, _, rfl, hx2, W.k_Spoken, W.n_Spoken_system, lk_S_system, _, _, _, _, _, rfl, hy, W.k_System, W.n_System_multipliers, lk_Y_multipliers, _, rfl, mm, xm, _, _, rfl, rfl, hxm, atI_nat exr, ar, mulL p.m, _, _, rfl, rfl, har, rfl, x, dx, y, o, h, sd, sm, _, wd, p.m.word, rfl, hx2, ?_⟩
            refine ⟨_, _, rfl, rfl, _, rfl, _, _, rfl, rfl, ?_⟩
            have q' := q H4 s12
            rw [et2, findSome_at ep ec hno] at q'
            exact q'
      · refine ⟨rfl, fun j p' hj ej => ?_, _, _, _, _, _, rfl⟩
        rcases Nat.lt_or_eq_of_le (Nat.le_of_lt_succ hj) with z | z
        · exact hno j p' z ej
        · subst z
          rw [ep] at ej
          injection ej with ej
          subst ej
          rw [ec]
          cases a with
          | none => rfl
          | some a =>
            cases b with
            | none => rfl
            | some b => cases e
    · rintro σ H' ⟨rfl, hno, a3, a4, a5, a6, a7, rfl⟩
      have q' := q H' s12
      rw [et2, show (R.parts (N + 1)).findSome? (cmbT wd (told R wd)) = none from List.findSome?_eq_none_iff.mpr fun p hp => by
        obtain ⟨j, ej⟩ := List.mem_iff_getElem?.mp hp
        exact hno j p (by rw [rx.1]; exact (List.getElem?_eq_some_iff.mp ej).1) ej] at q'
      exact q'

end
end Sy

/-! part: S2 -/
set_option Elab.async false
set_option linter.all false
set_option maxRecDepth 100000
set_option maxHeartbeats 4000000
namespace Sy
open PySem PySem.Spec PyProof.Rows L2
section
variable {P : Program} {w : World} {K : PySem.W.Frag} {mg : Str → Option Value} {base : Heap}
/-! ### low -/
def spS_low (K : PySem.W.Frag) : Sp := fun vs H Q _ => ∃ (F : Hp) (x y h k sd sm s mm o : Addr) (wd : Option Str) (R : Rs) (out : M) (B N n : Nat), vs = [.ref x, .int (n : Nat)] ∧ SpF K F x y h k sd sm s mm o wd R out B ∧ SpD H F k sd sm (told R wd) N ∧ N ≤ 4000 ∧ n ≤ 4000 ∧
  ∀ H' N', SpD H' F k sd sm (told R wd) N' → N' ≤ 4000 → N ≤ N' → n ≤ N' → But [sd, sm] H H' → Q (cntV (told R wd n)) H'
theorem ok_S_low (W : Wd K mg) : Has P w K mg base 3 (He.ma K (He.ga K "Spoken") "low") ["self", "number"] [] (spS_low K) := by
  have h_S_first := ok_S_first (P := P) (w := w) (base := base) W
  refine mkHas (d := d_S_low) (N := N_S_low) (ps := ["self", "number"]) (W.says.def_ 19) sc_S_low (fun _ _ _ _ _ _ us hl => match us, hl with | [_, _], _ => rfl) (fun vs H Q E h => ?_) (fun cdv A outer s0 H vs Q E hr h => ?_)
  · obtain ⟨_, _, _, _, _, _, _, _, _, _, _, _, _, _, _, _, rfl, _⟩ := h
    rfl
  obtain ⟨F, x, y, h, k, sd, sm, s, mm, o, wd, R, out, B, N, n, rfl, hF, hS, hN, hn, q⟩ := h
  obtain ⟨dx, fx⟩ := hF.ins
  have hx := hS.same _ _ fx
  refine ⟨_, (pss_cons (ps_for PassesOwn.never rfl (pi_range2 rfl W.f_range (pa_cons (pe_callB call_len rfl W.f_len PySem.boot_len (pa_cons (pe_fld (pv 0) rfl) pa_nil)) (pa_cons (pe_op op_nadd (pv 1) pe_int) pa_nil))) (pg_name (i := 2) sc_S_low.nd rfl (Or.inl rfl)) (pss_cons (ps_set (i := 3) sc_S_low.nd rfl (Or.inl rfl) (pe_methH h_S_first W.k_Spoken W.m_Spoken_first (hr.mono (by omega)) (pv 0) (pa_cons (pv 2) pa_nil)))
      (pss_cons (ps_asg (pe_ix ix_list (pe_fld (pv 0) rfl) (pe_un un_neg pe_int) (fun _ _ => rfl)) (pg_tup rfl (pgs_cons (pg_name (i := 4) sc_S_low.nd rfl (Or.inl rfl)) (pgs_cons (pg_name (i := 5) sc_S_low.nd rfl (Or.inl rfl)) pgs_nil))))
      (pss_cons (ps_expr (pe_bm PySem.F.plainAttrs_list PySem.F.slot_list_append PySem.F.type_list_append mt_append (pe_fld (pv 0) rfl) (pa_cons (pv 3) pa_nil)))
      (pss_one (ps_expr (pe_bm PySem.F.plainAttrs_list PySem.F.slot_list_append PySem.F.type_list_append mt_append (pe_fld (pv 0) rfl) (pa_cons (pe_ifExp (pt_cmpR op_isN1 (pv 3) pe_non (nomark _)) (pe_tup (pa_cons (pv 4) (pa_cons (pv 5) pa_nil))) (pe_tup (pa_cons (pe_op op_nadd (pv 4) pe_int) (pa_cons (pe_op op_nadd (pv 5) (pv 3)) pa_nil)))) pa_nil))))))))
      (pss_one (ps_ret (pe_ix ix_list (pe_fld (pv 0) rfl) (pv 1) (fun _ _ => rfl))))), ?_⟩
  refine ⟨_, rfl, _, _, _, _, _, rfl, hx, W.k_Spoken, W.n_Spoken_said, lk_S_said, .ref sd, _, rfl, .inl ⟨_, SqL.of hS.said, rfl⟩, _, rfl, n, 1, rfl, rfl, _, _, rfl, ?_, ?_⟩
  · rw [List.length_map, List.length_range]
    omega
  rw [List.length_map, List.length_range, show (((n + 1 : Nat) : Int) - ((N + 1 : Nat) : Int)).toNat = n - N by omega]
  refine for_range (fun i σ H' => SpD H' F k sd sm (told R wd) (N + i) ∧ But [sd, sm] H H' ∧ ∃ a2 a3 a4 a5, σ = [some (.ref x), some (.int n), a2, a3, a4, a5])
    ⟨hS, But.refl _ _, _, _, _, _, rfl⟩ ?_ ?_
  · rintro i σ H1 hi ⟨hS1, b1, a2, a3, a4, a5, rfl⟩
    rw [show (((N + 1 : Nat) : Int) + (i : Int)) = ((N + i + 1 : Nat) : Int) by omega]
    have hx1 := hS1.same _ _ fx
    refine ⟨_, rfl, x, dx, _, rfl, hx1, no_S _ (by decide +kernel), _, rfl, F, x, y, h, k, sd, sm, s, mm, o, wd, R, out, B, N + i, rfl, hF, hS1, fun H2 s2 => ?_⟩
    have hS2 := hS1.same' s2
    have hx2 := hS2.same _ _ fx
    obtain ⟨zs, hz, rz⟩ := hS2.sums
    have rz' := rz
    rw [List.range_succ, List.map_append] at rz'
    obtain ⟨zs', v, ez, _, r2⟩ := Rel.unsnoc (y := sums (told R wd) (N + i)) rz'
    obtain ⟨t, rfl, ht⟩ := r2
    have ez2 : atI zs (-1) = some (.ref t) := by rw [ez]; exact atI_last zs' (.ref t)
    refine ⟨_, rfl, _, _, _, _, _, rfl, hx2, W.k_Spoken, W.n_Spoken_sums, lk_S_sums, _, rfl, sm, zs, _, _, rfl, rfl, SqL.of hz, ez2, t, _, rfl, SqT.of ht, rfl, _, _, rfl, _, _, rfl, rfl, ?_⟩
    have hlz : zs.length = N + i + 1 := by rw [rz.1, List.length_map, List.length_range]
    refine ⟨_, rfl, _, _, _, _, _, rfl, hx2, W.k_Spoken, W.n_Spoken_said, lk_S_said, .inl ⟨rfl, _, SqL.of hS2.said⟩, _, rfl, sd, _, _, rfl, rfl, hS2.said, small_lt (by rw [List.length_map, List.length_range]; omega), ?_⟩
    have nxs : x ≠ sd := no_in fx hF.fsd
    have hx3 : upd H2 sd (.lst ((List.range (N + i + 1)).map (fun i => cntV (told R wd i)) ++ [cntV (told R wd (N + i + 1))])) x = some (.ins (cS K) dx (spoF y (optS wd) o (topOf B out : Nat) h sd sm)) := by rw [upd_ne nxs]; exact hx2
    have hz3 : upd H2 sd (.lst ((List.range (N + i + 1)).map (fun i => cntV (told R wd i)) ++ [cntV (told R wd (N + i + 1))])) sm = some (.lst zs) := by rw [upd_ne hS2.ne.symm]; exact hz
    have fin : ∀ p, upd H2 sd (.lst ((List.range (N + i + 1)).map (fun i => cntV (told R wd i)) ++ [cntV (told R wd (N + i + 1))])) p = none →
        ∀ a b : Nat, sums (told R wd) (N + i + 1) = (a, b) → SpD (upd (upd (upd H2 sd (.lst ((List.range (N + i + 1)).map (fun i => cntV (told R wd i)) ++ [cntV (told R wd (N + i + 1))]))) p (.tup [.int (a : Nat), .int (b : Nat)])) sm (.lst (zs ++ [.ref p]))) F k sd sm (told R wd) (N + (i + 1)) ∧
          But [sd, sm] H (upd (upd (upd H2 sd (.lst ((List.range (N + i + 1)).map (fun i => cntV (told R wd i)) ++ [cntV (told R wd (N + i + 1))]))) p (.tup [.int (a : Nat), .int (b : Nat)])) sm (.lst (zs ++ [.ref p]))) := fun p np a b e => by
      have z := hS2.push hz rz hF.fsd hF.fsm np
      rw [e] at z
      refine ⟨z, b1.trans ?_⟩
      have b2 : But [sd, sm] H1 (upd H2 sd (.lst ((List.range (N + i + 1)).map (fun i => cntV (told R wd i)) ++ [cntV (told R wd (N + i + 1))]))) := (But.of s2).upd (.inl (by simp))
      intro c o hc nc
      have hc2 := b2 c o hc nc
      have : c ≠ sm := fun z => nc (by simp [z])
      rw [upd_ne this, upd_ne (no_in hc2 np)]
      exact hc2
    refine ⟨_, rfl, _, _, _, _, _, rfl, hx3, W.k_Spoken, W.n_Spoken_sums, lk_S_sums, .inl ⟨rfl, _, SqL.of hz3⟩, ?_⟩
    cases ht1 : told R wd (N + i + 1) with
    | none =>
      rw [ht1] at fin hz3
      refine ⟨_, rfl, rfl, _, rfl, iteT' rfl ?_⟩
      refine ⟨_, rfl, _, rfl, (by show 2 ≤ sizeLine; decide), fun p np => ?_⟩
      have nmp : sm ≠ p := no_in hz3 np
      refine ⟨sm, _, _, rfl, rfl, by rw [upd_ne nmp]; exact hz3, small_lt (by omega), ?_⟩
      obtain ⟨f1, f2⟩ := fin p np _ _ (sums_none ht1)
      exact ⟨f1, f2, _, _, _, _, rfl⟩
    | some v =>
      rw [ht1] at fin hz3
      refine ⟨_, rfl, rfl, _, rfl, iteF' rfl ?_⟩
      refine ⟨_, rfl, _, _, rfl, rfl, _, rfl, _, rfl, _, _, rfl, rfl, (by show 2 ≤ sizeLine; decide), fun p np => ?_⟩
      have nmp : sm ≠ p := no_in hz3 np
      refine ⟨sm, _, _, rfl, rfl, by rw [upd_ne nmp]; exact hz3, small_lt (by omega), ?_⟩
      obtain ⟨f1, f2⟩ := fin p np _ _ (sums_some ht1)
      exact ⟨f1, f2, _, _, _, _, rfl⟩
  · rintro σ H1 ⟨hS1, b1, a2, a3, a4, a5, rfl⟩
    exact ⟨_, rfl, _, _, _, _, _, rfl, (hS1.same _ _ fx), W.k_Spoken, W.n_Spoken_said, lk_S_said, _, rfl, sd, _, _, _, rfl, rfl, SqL.of hS1.said, atI_nat (range_at _ (by omega)), q H1 _ hS1 (by omega) (by omega) (by omega) b1⟩

end
end Sy

/-! part: S3 -/
set_option Elab.async false
set_option linter.all false
set_option maxRecDepth 100000
set_option maxHeartbeats 4000000
namespace Sy
open PySem PySem.Spec PyProof.Rows L2
section
variable {P : Program} {w : World} {K : PySem.W.Frag} {mg : Str → Option Value} {base : Heap}
theorem top_lt {B : Nat} {out : M} (hv : 2 ≤ out.value) : topOf B out + 1 = (B / out.value + 1) * out.value := by
  unfold topOf
  have : 1 * out.value ≤ (B / out.value + 1) * out.value := Nat.mul_le_mul_right _ (Nat.le_add_left 1 _)
  omega
theorem top_B {B : Nat} {out : M} (hv : 2 ≤ out.value) : B ≤ topOf B out := by
  have h1 := top_lt (B := B) hv
  have h2 := Nat.lt_div_mul_add (a := B) (b := out.value) (by omega)
  rw [Nat.add_mul] at h1
  omega
theorem top_div {B n : Nat} {out : M} (hv : 2 ≤ out.value) (h : topOf B out < n) : B / out.value + 1 ≤ n / out.value := by
  have h1 := top_lt (B := B) hv
  rw [Nat.le_div_iff_mul_le (by omega)]
  omega
theorem top_val {B : Nat} {out : M} (hv : 2 ≤ out.value) : out.value ≤ topOf B out + 1 := by
  rw [top_lt hv]
  exact Nat.le_mul_of_pos_left _ (Nat.succ_pos _)
def spS_of (K : PySem.W.Frag) : Sp := fun vs H Q _ => ∃ (F : Hp) (x y h k sd sm s mm o : Addr) (wd : Option Str) (R : Rs) (out : M) (B N n : Nat), vs = [.ref x, .int (n : Nat)] ∧ SpF K F x y h k sd sm s mm o wd R out B ∧ SpD H F k sd sm (told R wd) N ∧ N ≤ 4000 ∧
  ∀ H' N', SpD H' F k sd sm (told R wd) N' → N' ≤ 4000 → N ≤ N' → But [sd, sm] H H' → Q (cntV (told R wd n)) H'
theorem ok_S_of (W : Wd K mg) : Has P w K mg base 4 (He.ma K (He.ga K "Spoken") "of") ["self", "number"] [] (spS_of K) := by
  have h_S_low := ok_S_low (P := P) (w := w) (base := base) W
  have h_S_weight := ok_S_weight (P := P) (w := w) (base := base) W
  refine mkHas (d := d_S_of) (N := N_S_of) (ps := ["self", "number"]) (W.says.def_ 21) sc_S_of (fun _ _ _ _ _ _ us hl => match us, hl with | [_, _], _ => rfl) (fun vs H Q E h => ?_) (fun cdv A outer s0 H vs Q E hr h => ?_)
  · obtain ⟨_, _, _, _, _, _, _, _, _, _, _, _, _, _, _, _, rfl, _⟩ := h
    rfl
  obtain ⟨F, x, y, h, k, sd, sm, s, mm, o, wd, R, out, B, N, n, rfl, hF, hS, hN, q⟩ := h
  obtain ⟨dx, fx⟩ := hF.ins
  have hv := hF.ok.mv _ hF.isO.mem
  have hv2 := hF.ok.ml _ hF.isO.mem
  have hmr := hF.ok.mr _ hF.isO.mem
  refine ⟨_, (pss_cons (ps_set (i := 2) sc_S_of.nd rfl (Or.inl rfl) pe_int)
      (pss_cons (ps_while PassesOwn.never (pt_cmpR op_gt (pv 1) (pe_fld (pv 0) rfl) (nomark _)) (pss_cons (ps_if (pt_cmpR op_isN1 (pe_fld (pv 0) rfl) pe_non (nomark _)) (pss_one (ps_ret pe_non)) pss_nil)
      (pss_cons (ps_asg (pe_fld (pv 0) rfl) (pg_tup rfl (pgs_cons (pg_name (i := 7) sc_S_of.nd rfl (Or.inl rfl)) (pgs_cons (pg_name (i := 8) sc_S_of.nd rfl (Or.inl rfl)) (pgs_cons (pg_name (i := 9) sc_S_of.nd rfl (Or.inl rfl)) (pgs_cons (pg_name (i := 10) sc_S_of.nd rfl (Or.inl rfl)) (pgs_cons (pg_name (i := 11) sc_S_of.nd rfl (Or.inl rfl)) pgs_nil)))))))
      (pss_cons (ps_set (i := 4) sc_S_of.nd rfl (Or.inl rfl) (pe_op op_ndiv (pv 1) (pv 8)))
      (pss_cons (ps_set (i := 5) sc_S_of.nd rfl (Or.inl rfl) (pe_op op_nsub (pv 1) (pe_op op_nmul (pv 4) (pv 8))))
      (pss_mid (ps_set (i := 6) sc_S_of.nd rfl (Or.inl rfl) (pe_ifExp (pt_cmpR op_eq (pv 5) pe_int (nomark _)) pe_int (pe_ifExp (pt_cmpR op_le (pv 5) (pv 11) (nomark _)) (pe_methH h_S_low W.k_Spoken W.m_Spoken_low (hr.mono (by omega)) (pv 0) (pa_cons (pv 5) pa_nil)) pe_non)))
      (pss_cons (ps_if (pt_cmpR op_isN1 (pv 6) pe_non (nomark _)) (pss_one (ps_ret pe_non)) pss_nil)
      (pss_cons (ps_aug (i := 2) sc_S_of.nd rfl (Or.inl rfl) (pe_op op_nadd (pe_methH h_S_weight W.k_Spoken W.m_Spoken_weight (hr.mono (by omega)) (pv 0) (pa_cons (pv 7) pa_nil)) (pv 6)) ip_nadd)
      (pss_cons (ps_if (PW.pt (pw_and (pt_cmpR op_eq (pv 4) pe_int (nomark _)) (pw_and1 (pt_val (pv 10))))) (pss_one (ps_ret (pv 2))) pss_nil)
      (pss_one (ps_set (i := 1) sc_S_of.nd rfl (Or.inl rfl) (pv 4))))))))))))
      (pss_cons (ps_set (i := 3) sc_S_of.nd rfl (Or.inl rfl) (pe_methH h_S_low W.k_Spoken W.m_Spoken_low (hr.mono (by omega)) (pv 0) (pa_cons (pv 1) pa_nil)))
      (pss_one (ps_ret (pe_ifExp (pt_cmpR op_isN1 (pv 3) pe_non (nomark _)) pe_non (pe_op op_nadd (pv 2) (pv 3)))))))), ?_⟩
  refine ⟨fun m σ H' => ∃ N' acc a3 a4 a5 a6 a7 a8 a9 a10 a11, SpD H' F k sd sm (told R wd) N' ∧ N' ≤ 4000 ∧ N ≤ N' ∧ But [sd, sm] H H' ∧ told R wd n = (told R wd m).map (fun z => acc + z) ∧ σ = [some (.ref x), some (.int (m : Nat)), some (.int (acc : Nat)), a3, a4, a5, a6, a7, a8, a9, a10, a11],
    ⟨n, N, 0, _, _, _, _, _, _, _, _, _, hS, hN, Nat.le_refl _, But.refl _ _, by cases told R wd n <;> simp, rfl⟩, ?_⟩
  rintro c σ H1 ⟨N1, acc, a3, a4, a5, a6, a7, a8, a9, a10, a11, hS1, hN1, hle, b1, et, rfl⟩
  have hx1 := hS1.same _ _ fx
  refine ⟨_, rfl, _, rfl, _, _, _, _, _, rfl, hx1, W.k_Spoken, W.n_Spoken_top, lk_S_top, _, _, rfl, rfl, _, rfl, r_dec (fun hc => ?_) (fun hc => ?_)⟩
  · have hc' : topOf B out < c := by omega
    have hB : B < c := Nat.lt_of_le_of_lt (top_B hv) hc'
    have hd1 : 1 ≤ c / out.value := Nat.le_trans (Nat.le_add_left 1 _) (top_div hv hc')
    have hbig := big_told hF.ok wd hF.isB hF.isO hB
    have hmod : c % out.value < out.value := Nat.mod_lt _ (by omega)
    refine ⟨_, fun σ' H' h => h, ?_⟩
    refine ⟨_, rfl, _, _, _, _, _, rfl, hx1, W.k_Spoken, W.n_Spoken_outer, lk_S_outer, rfl, _, rfl, iteF' (decide_eq_false (by intro z; cases z)) ?_⟩
    refine ⟨_, rfl, _, _, _, _, _, rfl, hx1, W.k_Spoken, W.n_Spoken_outer, lk_S_outer, o, mulL out, rfl, hS1.same.tup hF.row, rfl, _, _, rfl, _, _, rfl, _, _, rfl, _, _, rfl, _, _, rfl, rfl, ?_⟩
    refine ⟨_, rfl, _, rfl, _, _, rfl, rfl, ⟨by omega, by omega⟩, ?_⟩
    refine ⟨_, rfl, _, rfl, _, rfl, _, _, rfl, rfl, .inr (by omega), _, _, rfl, rfl, div_mul_le' _ _, ?_⟩
    rw [sub_div_mul']
    refine ⟨fun σ H' => ∃ N', SpD H' F k sd sm (told R wd) N' ∧ N' ≤ 4000 ∧ N ≤ N' ∧ But [sd, sm] H H' ∧ σ = [some (.ref x), some (.int (c : Nat)), some (.int (acc : Nat)), a3, some (.int (c / out.value : Nat)), some (.int (c % out.value : Nat)), some (cntV (if c % out.value ≤ out.rest then behindT (told R wd) (c % out.value) else none)), some (.str out.word), some (.int (out.value : Nat)), some (cntV out.count), some (.bl out.unsaid), some (.int (out.rest : Nat))], ?_, ?_⟩
    · refine ⟨_, rfl, rfl, _, rfl, r_dec (fun e => ?_) (fun e => ?_)⟩
      · have e' : c % out.value = 0 := by injection e with e; omega
        refine ⟨N1, hS1, hN1, hle, b1, ?_⟩
        rw [if_pos (show c % out.value ≤ out.rest by omega), show behindT (told R wd) (c % out.value) = some 0 from if_pos e']
        rfl
      · have e' : ¬ c % out.value = 0 := fun z => e (by rw [z]; rfl)
        refine ⟨_, rfl, _, rfl, _, _, rfl, rfl, _, rfl, r_dec (fun e2 => ?_) (fun e2 => ?_)⟩
        · have e2' : c % out.value ≤ out.rest := by omega
          refine ⟨_, rfl, x, dx, _, rfl, hx1, no_S _ (by decide +kernel), _, rfl, F, x, y, h, k, sd, sm, s, mm, o, wd, R, out, B, N1, c % out.value, rfl, hF, hS1, hN1, by omega, fun H2 N2 hS2 hN2 l1 l2 b2 => ?_⟩
          refine ⟨N2, hS2, hN2, by omega, b1.trans b2, ?_⟩
          rw [if_pos e2', show behindT (told R wd) (c % out.value) = told R wd (c % out.value) from if_neg e']
          rfl
        · refine ⟨N1, hS1, hN1, hle, b1, ?_⟩
          rw [if_neg (by omega)]
          rfl
    rintro σ H2 ⟨N2, hS2, hN2, hle2, b2, rfl⟩
    have hx2 := hS2.same _ _ fx
    have hb3 : told R wd c = oadd (aheadT (told R wd) out (c / out.value)) (wt1 wd out.word) (if c % out.value ≤ out.rest then behindT (told R wd) (c % out.value) else none) := by
      rw [hbig]
      by_cases h : c % out.value ≤ out.rest
      · rw [if_pos ⟨hd1, h⟩, if_pos h]
      · rw [if_neg fun z => h z.2, if_neg h]
        cases aheadT (told R wd) out (c / out.value) <;> rfl
    revert hb3
    generalize (if c % out.value ≤ out.rest then behindT (told R wd) (c % out.value) else none) = bh
    intro hb3
    cases bh with
    | none =>
      refine ⟨_, rfl, rfl, _, rfl, iteT' rfl ?_⟩
      have e0 : told R wd n = none := by
        rw [et, hb3]
        cases aheadT (told R wd) out (c / out.value) <;> rfl
      have q' := q H2 N2 hS2 hN2 hle2 b2
      rw [e0] at q'
      exact q'
    | some bh =>
      refine ⟨_, rfl, rfl, _, rfl, iteF' rfl ?_⟩
      refine ⟨_, rfl, _, rfl, x, dx, _, rfl, hx2, no_S _ (by decide +kernel), _, rfl, x, dx, y, o, h, sd, sm, _, wd, out.word, rfl, hx2, _, rfl, _, _, rfl, rfl, _, _, rfl, rfl, ?_⟩
      refine ⟨_, rfl, rfl, _, rfl, r_dec (fun e => ?_) (fun e => iteF ?_)⟩
      · have e' : c / out.value = 1 := by injection e with e; omega
        refine ⟨_, rfl, _, rfl, r_b (fun hu => ?_) (fun hu => ?_)⟩
        · have ea : aheadT (told R wd) out (c / out.value) = some 0 := if_pos (by unfold Mul.un; rw [e', hu]; rfl)
          rw [ea] at hb3
          have e0 : told R wd n = some (acc + (wt1 wd out.word + bh)) := by
            rw [et, hb3]
            show some (acc + (0 + wt1 wd out.word + bh)) = _
            rw [Nat.zero_add]
          have q' := q H2 N2 hS2 hN2 hle2 b2
          rw [e0] at q'
          exact ⟨_, rfl, q'⟩
        · have ea : aheadT (told R wd) out (c / out.value) = told R wd (c / out.value) := if_neg (by unfold Mul.un; rw [hu]; simp)
          rw [ea] at hb3
          refine ⟨_, rfl, c / out.value, Nat.div_lt_self (by omega) (by omega), N2, acc + (wt1 wd out.word + bh), _, _, _, _, _, _, _, _, _, hS2, hN2, hle2, b2, ?_, rfl⟩
          rw [et, hb3]
          cases told R wd (c / out.value) with
          | none => rfl
          | some z => show some (acc + (z + wt1 wd out.word + bh)) = some (acc + (wt1 wd out.word + bh) + z); congr 1; omega
      · have e' : ¬ c / out.value = 1 := fun z => e (by rw [z]; rfl)
        have ea : aheadT (told R wd) out (c / out.value) = told R wd (c / out.value) := if_neg (by unfold Mul.un; simp [e'])
        rw [ea] at hb3
        refine ⟨_, rfl, c / out.value, Nat.div_lt_self (by omega) (by omega), N2, acc + (wt1 wd out.word + bh), _, _, _, _, _, _, _, _, _, hS2, hN2, hle2, b2, ?_, rfl⟩
        rw [et, hb3]
        cases told R wd (c / out.value) with
        | none => rfl
        | some z => show some (acc + (z + wt1 wd out.word + bh)) = some (acc + (wt1 wd out.word + bh) + z); congr 1; omega
  · have hc' : c ≤ topOf B out := by omega
    have hlt := hF.lt
    refine ⟨_, rfl, x, dx, _, rfl, hx1, no_S _ (by decide +kernel), _, rfl, F, x, y, h, k, sd, sm, s, mm, o, wd, R, out, B, N1, c, rfl, hF, hS1, hN1, by omega, fun H2 N2 hS2 hN2 l1 l2 b2 => ?_⟩
    have q' := q H2 N2 hS2 hN2 (by omega) (b1.trans b2)
    rw [et] at q'
    cases e : told R wd c with
    | none =>
      rw [e] at q'
      exact ⟨_, rfl, rfl, _, rfl, iteT' rfl q'⟩
    | some z =>
      rw [e] at q'
      exact ⟨_, rfl, rfl, _, rfl, iteF' rfl ⟨_, rfl, _, rfl, _, _, rfl, rfl, q'⟩⟩

end
end Sy

/-! part: S4 -/
set_option Elab.async false
set_option linter.all false
set_option maxRecDepth 100000
set_option maxHeartbeats 4000000
namespace Sy
open PySem PySem.Spec PyProof.Rows L2
section
variable {P : Program} {w : World} {K : PySem.W.Frag} {mg : Str → Option Value} {base : Heap}
/-! ### sums: bounds -/
theorem sums1_le (t : Nat → Option Nat) : ∀ n, (sums t n).1 ≤ n
  | 0 => Nat.le_refl _
  | n + 1 => by
    have ih := sums1_le t n
    cases e : t (n + 1) with
    | none => rw [sums_none e]; omega
    | some k => rw [sums_some e]; show (sums t n).1 + 1 ≤ n + 1; omega
theorem sums_mono (t : Nat → Option Nat) (n : Nat) : ∀ d, (sums t n).1 ≤ (sums t (n + d)).1 ∧ (sums t n).2 ≤ (sums t (n + d)).2
  | 0 => ⟨Nat.le_refl _, Nat.le_refl _⟩
  | d + 1 => by
    obtain ⟨h1, h2⟩ := sums_mono t n d
    rw [show n + (d + 1) = n + d + 1 from rfl]
    cases e : t (n + d + 1) with
    | none => rw [sums_none e]; exact ⟨h1, h2⟩
    | some k => rw [sums_some e]; exact ⟨by show _ ≤ (sums t (n + d)).1 + 1; omega, by show _ ≤ (sums t (n + d)).2 + k; omega⟩
theorem sums_le (t : Nat → Option Nat) {n m : Nat} (h : n ≤ m) : (sums t n).1 ≤ (sums t m).1 ∧ (sums t n).2 ≤ (sums t m).2 := by
  obtain ⟨d, rfl⟩ := Nat.le.dest h
  exact sums_mono t n d
theorem phr_len {α : Type} {R : Rows α} (ok : R.Ok) (n : Nat) : ∀ l, phr R n = some l → l.length ≤ n := by
  induction n using Nat.strongRecOn with
  | ind n ih =>
    intro l h
    have hn : 1 ≤ n := by
      rcases Nat.eq_zero_or_pos n with e | e
      · subst e; rw [phr_zero ok] at h; cases h
      · exact e
    rw [phr_eq ok] at h
    unfold step at h
    cases hw : R.wordsOf n with
    | cons w ws =>
      rw [hw] at h
      injection h with h
      subst h
      exact hn
    | nil =>
      rw [hw] at h
      obtain ⟨p, hp, e⟩ := List.exists_of_findSome?_eq_some h
      obtain ⟨_, h1, h2, h3⟩ := parts_lt ok hp
      unfold cmb at e
      by_cases c1 : p.m.un p.c = true <;> by_cases c2 : p.r = 0 <;> simp only [c1, c2, if_true, if_false] at e
      · injection e with e; subst e; simp; omega
      · cases e2 : phr R p.r with
        | none => rw [e2] at e; cases e
        | some b =>
          rw [e2] at e; injection e with e; subst e
          have := ih _ h2 _ e2
          simp; omega
      · cases e1 : phr R p.c with
        | none => rw [e1] at e; cases e
        | some a =>
          rw [e1] at e; injection e with e; subst e
          have := ih _ h1 _ e1
          simp; omega
      · cases e1 : phr R p.c with
        | none => rw [e1] at e; cases e
        | some a =>
          cases e2 : phr R p.r with
          | none => rw [e1, e2] at e; cases e
          | some b =>
            rw [e1, e2] at e; injection e with e; subst e
            have := ih _ h1 _ e1
            have := ih _ h2 _ e2
            simp; omega
theorem wt_len {α : Type} [DecidableEq α] (wd : Option α) : ∀ l : List α, wt wd l ≤ l.length
  | [] => Nat.le_refl _
  | w :: l => by
    have := wt_len wd l
    have h1 : wt1 wd w ≤ 1 := by unfold wt1; split <;> omega
    show wt1 wd w + wt wd l ≤ l.length + 1
    omega
theorem told_le {R : Rs} (ok : R.Ok) {wd : Option Str} {n z : Nat} (h : told R wd n = some z) : z ≤ n := by
  unfold told at h
  obtain ⟨l, h1, h2⟩ := Option.map_eq_some_iff.mp h
  have := phr_len ok n l h1
  have := wt_len wd l
  omega
theorem sums2_le {R : Rs} (ok : R.Ok) (wd : Option Str) : ∀ n, (sums (told R wd) n).2 ≤ n * n
  | 0 => Nat.le_refl _
  | n + 1 => by
    have ih := sums2_le ok wd n
    have e1 : (n + 1) * (n + 1) = n * n + n + n + 1 := by rw [Nat.add_mul, Nat.mul_add]; omega
    cases e : told R wd (n + 1) with
    | none => rw [sums_none e]; omega
    | some k =>
      have := told_le ok e
      rw [sums_some e]
      show (sums (told R wd) n).2 + k ≤ _
      omega
def perV (R : Rs) (wd : Option Str) (out : M) (C m : Nat) : Nat × Nat := match aheadT (told R wd) out C with
  | none => (0, 0)
  | some a => ((sums (told R wd) (min m out.rest)).1 + 1, (a + wt1 wd out.word) * ((sums (told R wd) (min m out.rest)).1 + 1) + (sums (told R wd) (min m out.rest)).2)
def cntsV (R : Rs) (wd : Option Str) (out : M) (B n : Nat) : Nat × Nat :=
  if n / out.value - 1 < B / out.value + 1 then (0, 0) else
    if B / out.value + 1 = 1 ∧ out.unsaid = true then
      match told R wd 1 with
      | none => ((sums (told R wd) (n / out.value - 1)).1 - (sums (told R wd) (B / out.value + 1 - 1)).1 + 1, (sums (told R wd) (n / out.value - 1)).2 - (sums (told R wd) (B / out.value + 1 - 1)).2)
      | some k => ((sums (told R wd) (n / out.value - 1)).1 - (sums (told R wd) (B / out.value + 1 - 1)).1, (sums (told R wd) (n / out.value - 1)).2 - (sums (told R wd) (B / out.value + 1 - 1)).2 - k)
    else ((sums (told R wd) (n / out.value - 1)).1 - (sums (told R wd) (B / out.value + 1 - 1)).1, (sums (told R wd) (n / out.value - 1)).2 - (sums (told R wd) (B / out.value + 1 - 1)).2)
theorem one_le {t : Nat → Option Nat} {n k : Nat} (h : 1 ≤ n) (e : t 1 = some k) : k ≤ (sums t n).2 := by
  have h1 := (sums_le t h).2
  rw [show (1 : Nat) = 0 + 1 from rfl, sums_some (show t (0 + 1) = some k from e)] at h1
  have : (sums t 0).2 + k = k := by simp [sums]
  have h2 : ((sums t 0).1 + 1, (sums t 0).2 + k).2 = (sums t 0).2 + k := rfl
  omega
theorem cnts_eq {R : Rs} (wd : Option Str) {B n c s d : Nat} {out : M} (hd : n / out.value = B / out.value + 1 + d)
    (h : sums (aheadT (told R wd) out) (B / out.value + 1 + d - 1) = ((sums (aheadT (told R wd) out) (B / out.value + 1 - 1)).1 + c, (sums (aheadT (told R wd) out) (B / out.value + 1 - 1)).2 + s)) :
    cntsV R wd out B n = (c, s) := by
  unfold cntsV
  rw [← hd] at h
  generalize told R wd = t at h ⊢
  generalize n / out.value = l at h hd ⊢
  have hf1 : 1 ≤ B / out.value + 1 := Nat.le_add_left 1 _
  generalize B / out.value + 1 = f at h hd hf1 ⊢
  by_cases h0 : l - 1 < f
  · rw [if_pos h0]
    rcases Nat.eq_zero_or_pos d with e | e
    · subst e
      obtain rfl : l = f := by omega
      have h1 := congrArg Prod.fst h
      have h2 := congrArg Prod.snd h
      simp only at h1 h2
      exact Prod.ext (by show 0 = c; omega) (by show 0 = s; omega)
    · rcases Nat.eq_zero_or_pos f with e2 | e2
      · omega
      · exact absurd h0 (by omega)
  · rw [if_neg h0]
    have hd1 : 1 ≤ d := by omega
    rw [ahead_sums, ahead_sums] at h
    by_cases hu : out.unsaid = true
    · by_cases hf : f = 1
      · subst hf
        rw [if_pos ⟨rfl, hu⟩]
        rw [if_pos ⟨hu, by omega⟩, if_neg (by omega)] at h
        have z0 : sums t (1 - 1) = (0, 0) := rfl
        rw [z0] at h ⊢
        cases e : t 1 with
        | none =>
          rw [e] at h
          have h1 := congrArg Prod.fst h
          have h2 := congrArg Prod.snd h
          simp only at h1 h2
          exact Prod.ext (by show (sums t (l - 1)).1 - 0 + 1 = c; omega) (by show (sums t (l - 1)).2 - 0 = s; omega)
        | some k =>
          rw [e] at h
          have h1 := congrArg Prod.fst h
          have h2 := congrArg Prod.snd h
          simp only at h1 h2
          exact Prod.ext (by show (sums t (l - 1)).1 - 0 = c; omega) (by show (sums t (l - 1)).2 - 0 - k = s; omega)
      · rw [if_neg fun z => hf z.1]
        rw [if_pos ⟨hu, by omega⟩, if_pos ⟨hu, by omega⟩] at h
        cases e : t 1 with
        | none =>
          rw [e] at h
          have h1 := congrArg Prod.fst h
          have h2 := congrArg Prod.snd h
          simp only at h1 h2
          exact Prod.ext (by show (sums t (l - 1)).1 - (sums t (f - 1)).1 = c; omega) (by show (sums t (l - 1)).2 - (sums t (f - 1)).2 = s; omega)
        | some k =>
          rw [e] at h
          have h1 := congrArg Prod.fst h
          have h2 := congrArg Prod.snd h
          simp only at h1 h2
          have k1 := one_le (t := t) (n := f - 1) (by omega) e
          have k2 := one_le (t := t) (n := l - 1) (by omega) e
          exact Prod.ext (by show (sums t (l - 1)).1 - (sums t (f - 1)).1 = c; omega) (by show (sums t (l - 1)).2 - (sums t (f - 1)).2 = s; omega)
    · rw [if_neg fun z => hu z.2]
      rw [if_neg fun z => hu z.1, if_neg fun z => hu z.1] at h
      have h1 := congrArg Prod.fst h
      have h2 := congrArg Prod.snd h
      simp only at h1 h2
      exact Prod.ext (by show (sums t (l - 1)).1 - (sums t (f - 1)).1 = c; omega) (by show (sums t (l - 1)).2 - (sums t (f - 1)).2 = s; omega)
theorem further_eq {R : Rs} (ok : R.Ok) (wd : Option Str) {B n : Nat} {out : M} (hb : IsB R B) (ho : IsOut R out) (hn : topOf B out < n) :
    sums (told R wd) n = ((sums (told R wd) (topOf B out)).1 + (cntsV R wd out B n).1 * ((sums (told R wd) out.rest).1 + 1) + (perV R wd out (n / out.value) (n % out.value)).1,
      (sums (told R wd) (topOf B out)).2 + ((cntsV R wd out B n).2 * ((sums (told R wd) out.rest).1 + 1) + (cntsV R wd out B n).1 * (wt1 wd out.word * ((sums (told R wd) out.rest).1 + 1) + (sums (told R wd) out.rest).2)) + (perV R wd out (n / out.value) (n % out.value)).2) := by
  have hv := ok.mv _ ho.mem
  have e1 := top_lt (B := B) hv
  have hF : B < (B / out.value + 1) * out.value := by have := top_B (B := B) hv; omega
  have hd1 := top_div hv hn
  obtain ⟨d, hd⟩ := Nat.le.dest hd1
  obtain ⟨c, s, h1, h2⟩ := block ok wd hb ho hF d
  rw [cnts_eq wd hd.symm h1]
  rw [hd, show (B / out.value + 1) * out.value - 1 = topOf B out by omega] at h2
  have hC : B < n / out.value * out.value := Nat.lt_of_lt_of_le hF (Nat.mul_le_mul_right _ hd1)
  have p := per ok wd hb ho hC (n % out.value) (Nat.mod_lt _ (by omega))
  have en : n / out.value * out.value + n % out.value = n := by rw [Nat.mul_comm]; exact Nat.div_add_mod n _
  rw [en] at p
  unfold perV
  cases e : aheadT (told R wd) out (n / out.value) with
  | none =>
    rw [e] at p
    rw [p, h2]
    rfl
  | some a =>
    rw [e] at p
    rw [p, h2]

end
end Sy

/-! part: S5 -/
set_option Elab.async false
set_option linter.all false
set_option maxRecDepth 100000
set_option maxHeartbeats 4000000
namespace Sy
open PySem PySem.Spec PyProof.Rows L2
section
variable {P : Program} {w : World} {K : PySem.W.Frag} {mg : Str → Option Value} {base : Heap}
theorem minN (i j : Nat) : (if (j : Int) < (i : Int) then (j : Int) else (i : Int)) = ((min i j : Nat) : Int) := by
  split <;> omega
theorem maxN (i : Nat) : (if (0 : Int) > (i : Int) then (0 : Int) else (i : Int)) = (i : Int) := by
  split <;> omega
theorem SpD.tup {H H' F : Hp} {k sd sm p : Addr} {t : Nat → Option Nat} {N : Nat} {xs : List V} (hS : SpD H F k sd sm t N) (b : But [sd, sm] H H') (h : H p = some (.tup xs)) : H' p = some (.tup xs) := by
  obtain ⟨zs, hz, _⟩ := hS.sums
  have n1 : p ≠ sd := ne_of h hS.said (by intro z; cases z)
  have n2 : p ≠ sm := ne_of h hz (by intro z; cases z)
  exact b.at h (by simp [n1, n2])
theorem SpD.row {H F : Hp} {k sd sm : Addr} {t : Nat → Option Nat} {N n : Nat} (hS : SpD H F k sd sm t N) (hn : n ≤ N) : ∃ zs p, H sm = some (.lst zs) ∧ atI zs (n : Int) = some (.ref p) ∧ H p = some (.tup [.int ((Sy.sums t n).1 : Nat), .int ((Sy.sums t n).2 : Nat)]) := by
  obtain ⟨zs, hz, rz⟩ := hS.sums
  obtain ⟨v, ev, p, rfl, hp⟩ := rz.get' (range_at (Sy.sums t) hn)
  exact ⟨zs, p, hz, atI_nat ev, hp⟩
def spS_period (K : PySem.W.Frag) : Sp := fun vs H Q _ => ∃ (F : Hp) (x y h k sd sm s mm o : Addr) (wd : Option Str) (R : Rs) (out : M) (B N C m : Nat), vs = [.ref x, .int (C : Nat), .int (m : Nat)] ∧ SpF K F x y h k sd sm s mm o wd R out B ∧ SpD H F k sd sm (told R wd) N ∧ N ≤ 4000 ∧
  ∀ t H' N', SpD H' F k sd sm (told R wd) N' → N' ≤ 4000 → N ≤ N' → But [sd, sm] H H' → H' t = some (.tup [.int ((perV R wd out C m).1 : Nat), .int ((perV R wd out C m).2 : Nat)]) → Q (.ref t) H'
theorem ok_S_period (W : Wd K mg) : Has P w K mg base 5 (He.ma K (He.ga K "Spoken") "period") ["self", "count", "most"] [] (spS_period K) := by
  have h_S_low := ok_S_low (P := P) (w := w) (base := base) W
  have h_S_weight := ok_S_weight (P := P) (w := w) (base := base) W
  have h_S_of := ok_S_of (P := P) (w := w) (base := base) W
  refine mkHas (d := d_S_period) (N := N_S_period) (ps := ["self", "count", "most"]) (W.says.def_ 22) sc_S_period (fun _ _ _ _ _ _ us hl => match us, hl with | [_, _, _], _ => rfl) (fun vs H Q E h => ?_) (fun cdv A outer s0 H vs Q E hr h => ?_)
  · obtain ⟨_, _, _, _, _, _, _, _, _, _, _, _, _, _, _, _, _, rfl, _⟩ := h
    rfl
  obtain ⟨F, x, y, h, k, sd, sm, s, mm, o, wd, R, out, B, N, C, m, rfl, hF, hS, hN, q⟩ := h
  obtain ⟨dx, fx⟩ := hF.ins
  have hv := hF.ok.mv _ hF.isO.mem
  have hv2 := hF.ok.ml _ hF.isO.mem
  have hmr := hF.ok.mr _ hF.isO.mem
  have hx := hS.same _ _ fx
  refine ⟨_, (pss_cons (ps_asg (pe_fld (pv 0) rfl) (pg_tup rfl (pgs_cons (pg_name (i := 5) sc_S_period.nd rfl (Or.inl rfl)) (pgs_cons (pg_name (i := 6) sc_S_period.nd rfl (Or.inl rfl)) (pgs_cons (pg_name (i := 6) sc_S_period.nd rfl (Or.inl rfl)) (pgs_cons (pg_name (i := 7) sc_S_period.nd rfl (Or.inl rfl)) (pgs_cons (pg_name (i := 8) sc_S_period.nd rfl (Or.inl rfl)) pgs_nil)))))))
      (pss_mid (ps_set (i := 3) sc_S_period.nd rfl (Or.inl rfl) (pe_ifExp (PW.pt (pw_and (pt_cmpR op_eq (pv 1) pe_int (nomark _)) (pw_and1 (pt_val (pv 7))))) pe_int (pe_methH h_S_of W.k_Spoken W.m_Spoken_of (hr.mono (by omega)) (pv 0) (pa_cons (pv 1) pa_nil))))
      (pss_cons (ps_if (pt_cmpR op_isN1 (pv 3) pe_non (nomark _)) (pss_one (ps_ret (pe_tup (pa_cons pe_int (pa_cons pe_int pa_nil))))) pss_nil)
      (pss_cons (ps_set (i := 4) sc_S_period.nd rfl (Or.inl rfl) (pe_callB (call_min2 rfl) rfl W.f_min PyProof.Rows.boot_min (pa_cons (pv 2) (pa_cons (pv 8) pa_nil))))
      (pss_cons (ps_expr (pe_methH h_S_low W.k_Spoken W.m_Spoken_low (hr.mono (by omega)) (pv 0) (pa_cons (pv 4) pa_nil)))
      (pss_cons (ps_asg (pe_ix ix_list (pe_fld (pv 0) rfl) (pv 4) (fun _ _ => rfl)) (pg_tup rfl (pgs_cons (pg_name (i := 9) sc_S_period.nd rfl (Or.inl rfl)) (pgs_cons (pg_name (i := 10) sc_S_period.nd rfl (Or.inl rfl)) pgs_nil))))
      (pss_one (ps_ret (pe_tup (pa_cons (pe_op op_nadd (pv 9) pe_int) (pa_cons (pe_op op_nadd (pe_op op_nmul (pe_op op_nadd (pv 3) (pe_methH h_S_weight W.k_Spoken W.m_Spoken_weight (hr.mono (by omega)) (pv 0) (pa_cons (pv 5) pa_nil))) (pe_op op_nadd (pv 9) pe_int)) (pv 10)) pa_nil))))))))))), ?_⟩
  refine ⟨_, rfl, _, _, _, _, _, rfl, hx, W.k_Spoken, W.n_Spoken_outer, lk_S_outer, o, mulL out, rfl, hS.same.tup hF.row, rfl, _, _, rfl, _, _, rfl, _, _, rfl, _, _, rfl, _, _, rfl, rfl, ?_⟩
  refine ⟨fun σ H' => ∃ N', SpD H' F k sd sm (told R wd) N' ∧ N' ≤ 4000 ∧ N ≤ N' ∧ But [sd, sm] H H' ∧ σ = [some (.ref x), some (.int (C : Nat)), some (.int (m : Nat)), some (cntV (aheadT (told R wd) out C)), none, some (.str out.word), some (cntV out.count), some (.bl out.unsaid), some (.int (out.rest : Nat)), none, none], ?_, ?_⟩
  · have rest : aheadT (told R wd) out C = told R wd C → spS_of K ([.ref x] ++ ([.int (C : Nat)] ++ [])) H (fun v H' => ∃ N', SpD H' F k sd sm (told R wd) N' ∧ N' ≤ 4000 ∧ N ≤ N' ∧ But [sd, sm] H H' ∧ ([some (.ref x), some (.int (C : Nat)), some (.int (m : Nat)), none, none, some (.str out.word), some (cntV out.count), some (.bl out.unsaid), some (.int (out.rest : Nat)), none, none] : L2.St).set 3 (some v) = [some (.ref x), some (.int (C : Nat)), some (.int (m : Nat)), some (cntV (aheadT (told R wd) out C)), none, some (.str out.word), some (cntV out.count), some (.bl out.unsaid), some (.int (out.rest : Nat)), none, none]) E0 := fun e =>
      ⟨F, x, y, h, k, sd, sm, s, mm, o, wd, R, out, B, N, C, rfl, hF, hS, hN, fun H' N' h1 h2 h3 h4 => ⟨N', h1, h2, h3, h4, by rw [e]; rfl⟩⟩
    refine ⟨_, rfl, rfl, _, rfl, r_dec (fun e => ?_) (fun e => ?_)⟩
    · have e' : C = 1 := by injection e with e; omega
      refine ⟨_, rfl, _, rfl, r_b (fun hu => ?_) (fun hu => ?_)⟩
      · have ea : aheadT (told R wd) out C = some 0 := if_pos (by unfold Mul.un; rw [e', hu]; rfl)
        refine ⟨N, hS, hN, Nat.le_refl _, But.refl _ _, ?_⟩
        rw [ea]
        rfl
      · have ea : aheadT (told R wd) out C = told R wd C := if_neg (by unfold Mul.un; rw [hu]; simp)
        exact ⟨_, rfl, x, dx, _, rfl, hx, no_S _ (by decide +kernel), _, rfl, rest ea⟩
    · have e' : ¬ C = 1 := fun z => e (by rw [z]; rfl)
      have ea : aheadT (told R wd) out C = told R wd C := if_neg (by unfold Mul.un; simp [e'])
      exact iteF ⟨_, rfl, x, dx, _, rfl, hx, no_S _ (by decide +kernel), _, rfl, rest ea⟩
  rintro σ H2 ⟨N2, hS2, hN2, hle2, b2, rfl⟩
  have hx2 := hS2.same _ _ fx
  cases ea : aheadT (told R wd) out C with
  | none =>
    refine ⟨_, rfl, rfl, _, rfl, iteT' rfl ?_⟩
    refine ⟨(by show 2 ≤ sizeLine; decide), fun t nt => ?_⟩
    refine q t _ N2 (hS2.same' (Same.new nt)) hN2 hle2 (b2.trans (But.of (Same.new nt))) ?_
    rw [upd_same]
    unfold perV
    rw [ea]
    rfl
  | some a =>
    refine ⟨_, rfl, rfl, _, rfl, iteF' rfl ?_⟩
    refine ⟨_, rfl, _, rfl, _, _, rfl, ?_⟩
    rw [minN]
    refine ⟨_, rfl, x, dx, _, rfl, hx2, no_S _ (by decide +kernel), _, rfl, F, x, y, h, k, sd, sm, s, mm, o, wd, R, out, B, N2, min m out.rest, rfl, hF, hS2, hN2, by omega, fun H3 N3 hS3 hN3 l1 l2 b3 => ?_⟩
    have hx3 := hS3.same _ _ fx
    obtain ⟨zs, p, hz, ez, hp⟩ := hS3.row l2
    have h1 := sums1_le (told R wd) (min m out.rest)
    refine ⟨_, rfl, _, _, _, _, _, rfl, hx3, W.k_Spoken, W.n_Spoken_sums, lk_S_sums, _, rfl, sm, zs, _, _, rfl, rfl, SqL.of hz, ez, p, _, rfl, SqT.of hp, rfl, _, _, rfl, _, _, rfl, rfl, ?_⟩
    refine ⟨_, rfl, _, _, rfl, rfl, _, rfl, _, rfl, x, dx, _, rfl, hx3, no_S _ (by decide +kernel), _, rfl, x, dx, y, o, h, sd, sm, _, wd, out.word, rfl, hx3, _, _, rfl, rfl, _, rfl, _, 1, rfl, rfl, _, _, rfl, rfl, .inr (by omega), _, rfl, _, _, rfl, rfl, (by show 2 ≤ sizeLine; decide), fun t nt => ?_⟩
    refine q t _ N3 (hS3.same' (Same.new nt)) hN3 (by omega) ((b2.trans b3).trans (But.of (Same.new nt))) ?_
    rw [upd_same]
    unfold perV
    rw [ea]
def spS_further (K : PySem.W.Frag) : Sp := fun vs H Q _ => ∃ (F : Hp) (x y h k sd sm s mm o t0 : Addr) (wd : Option Str) (R : Rs) (out : M) (B N n : Nat), vs = [.ref x, .int (n : Nat), .ref t0] ∧ SpF K F x y h k sd sm s mm o wd R out B ∧ SpD H F k sd sm (told R wd) N ∧ N ≤ 4000 ∧ topOf B out < n ∧
  H t0 = some (.tup [.int ((sums (told R wd) (n / out.value - 1)).1 : Nat), .int ((sums (told R wd) (n / out.value - 1)).2 : Nat)]) ∧
  ∀ t H' N', SpD H' F k sd sm (told R wd) N' → N' ≤ 4000 → N ≤ N' → But [sd, sm] H H' → H' t = some (.tup [.int ((sums (told R wd) n).1 : Nat), .int ((sums (told R wd) n).2 : Nat)]) → Q (.ref t) H'
theorem ok_S_further (W : Wd K mg) : Has P w K mg base 6 (He.ma K (He.ga K "Spoken") "_further") ["self", "number", "inner"] [] (spS_further K) := by
  have h_S_low := ok_S_low (P := P) (w := w) (base := base) W
  have h_S_weight := ok_S_weight (P := P) (w := w) (base := base) W
  have h_S_of := ok_S_of (P := P) (w := w) (base := base) W
  have h_S_period := ok_S_period (P := P) (w := w) (base := base) W
  refine mkHas (d := d_S_further) (N := N_S_further) (ps := ["self", "number", "inner"]) (W.says.def_ 24) sc_S_further (fun _ _ _ _ _ _ us hl => match us, hl with | [_, _, _], _ => rfl) (fun vs H Q E h => ?_) (fun cdv A outer s0 H vs Q E hr h => ?_)
  · obtain ⟨_, _, _, _, _, _, _, _, _, _, _, _, _, _, _, _, _, rfl, _⟩ := h
    rfl
  obtain ⟨F, x, y, h, k, sd, sm, s, mm, o, t0, wd, R, out, B, N, n, rfl, hF, hS, hN, hn, ht0, q⟩ := h
  obtain ⟨dx, fx⟩ := hF.ins
  have hv := hF.ok.mv _ hF.isO.mem
  have hv2 := hF.ok.ml _ hF.isO.mem
  have hmr := hF.ok.mr _ hF.isO.mem
  have hx := hS.same _ _ fx
  have hlt := hF.lt
  have et := top_lt (B := B) hv
  have hd1 := top_div hv hn
  have hFt : B / out.value + 1 ≤ topOf B out + 1 := by rw [et]; exact Nat.le_mul_of_pos_right _ (by omega)
  have hF1 : 1 ≤ B / out.value + 1 := Nat.le_add_left 1 _
  have eF : (topOf B out + 1) / out.value = B / out.value + 1 := by rw [et]; exact Nat.mul_div_cancel _ (by omega)
  have mono := sums_le (told R wd) (show B / out.value + 1 - 1 ≤ n / out.value - 1 by omega)
  refine ⟨_, (pss_mid (ps_asg (pe_fld (pv 0) rfl) (pg_tup rfl (pgs_cons (pg_name (i := 9) sc_S_further.nd rfl (Or.inl rfl)) (pgs_cons (pg_name (i := 10) sc_S_further.nd rfl (Or.inl rfl)) (pgs_cons (pg_name (i := 11) sc_S_further.nd rfl (Or.inl rfl)) (pgs_cons (pg_name (i := 12) sc_S_further.nd rfl (Or.inl rfl)) (pgs_cons (pg_name (i := 13) sc_S_further.nd rfl (Or.inl rfl)) pgs_nil)))))))
      (pss_cons (ps_set (i := 3) sc_S_further.nd rfl (Or.inl rfl) (pe_op op_ndiv (pe_op op_nadd (pe_fld (pv 0) rfl) pe_int) (pv 10)))
      (pss_cons (ps_set (i := 4) sc_S_further.nd rfl (Or.inl rfl) (pe_op op_ndiv (pv 1) (pv 10)))
      (pss_cons (ps_expr (pe_methH h_S_low W.k_Spoken W.m_Spoken_low (hr.mono (by omega)) (pv 0) (pa_cons (pe_fld (pv 0) rfl) pa_nil)))
      (pss_mid (ps_asg (pe_ix ix_list (pe_fld (pv 0) rfl) (pe_fld (pv 0) rfl) (fun _ _ => rfl)) (pg_tup rfl (pgs_cons (pg_name (i := 6) sc_S_further.nd rfl (Or.inl rfl)) (pgs_cons (pg_name (i := 7) sc_S_further.nd rfl (Or.inl rfl)) pgs_nil))))
      (pss_cons (ps_expr (pe_methH h_S_low W.k_Spoken W.m_Spoken_low (hr.mono (by omega)) (pv 0) (pa_cons (pe_op op_nsub (pv 3) pe_int) pa_nil)))
      (pss_cons (ps_set (i := 5) sc_S_further.nd rfl (Or.inl rfl) (pe_ix ix_list (pe_fld (pv 0) rfl) (pe_op op_nsub (pv 3) pe_int) (fun _ _ => rfl)))
      (pss_mid (ps_par (i := 14) (j := 15) rfl sc_S_further.nd rfl rfl (by decide) rfl rfl (pa_cons (pe_op op_nsub (pe_ix ix_tup (pv 2) pe_int (fun _ _ => rfl)) (pe_ix ix_tup (pv 5) pe_int (fun _ _ => rfl))) (pa_cons (pe_op op_nsub (pe_ix ix_tup (pv 2) pe_int (fun _ _ => rfl)) (pe_ix ix_tup (pv 5) pe_int (fun _ _ => rfl))) pa_nil)) rfl)
      (pss_mid (ps_if (pt_cmpR op_lt (pe_op op_nsub (pv 4) pe_int) (pv 3) (nomark _)) (pss_one (ps_asg (pe_tup (pa_cons pe_int (pa_cons pe_int pa_nil))) (pg_tup rfl (pgs_cons (pg_name (i := 14) sc_S_further.nd rfl (Or.inl rfl)) (pgs_cons (pg_name (i := 15) sc_S_further.nd rfl (Or.inl rfl)) pgs_nil))))) (pss_one (ps_if (PW.pt (pw_and (pt_cmpR op_eq (pv 3) pe_int (nomark _)) (pw_and1 (pt_val (pv 12))))) (pss_cons (ps_set (i := 18) sc_S_further.nd rfl (Or.inl rfl) (pe_methH h_S_of W.k_Spoken W.m_Spoken_of (hr.mono (by omega)) (pv 0) (pa_cons pe_int pa_nil)))
      (pss_one (ps_asg (pe_ifExp (pt_cmpR op_isN1 (pv 18) pe_non (nomark _)) (pe_tup (pa_cons (pe_op op_nadd (pv 14) pe_int) (pa_cons (pv 15) pa_nil))) (pe_tup (pa_cons (pv 14) (pa_cons (pe_op op_nsub (pv 15) (pv 18)) pa_nil)))) (pg_tup rfl (pgs_cons (pg_name (i := 14) sc_S_further.nd rfl (Or.inl rfl)) (pgs_cons (pg_name (i := 15) sc_S_further.nd rfl (Or.inl rfl)) pgs_nil)))))) pss_nil)))
      (pss_cons (ps_expr (pe_methH h_S_low W.k_Spoken W.m_Spoken_low (hr.mono (by omega)) (pv 0) (pa_cons (pv 13) pa_nil)))
      (pss_mid (ps_asg (pe_ix ix_list (pe_fld (pv 0) rfl) (pv 13) (fun _ _ => rfl)) (pg_tup rfl (pgs_cons (pg_name (i := 16) sc_S_further.nd rfl (Or.inl rfl)) (pgs_cons (pg_name (i := 17) sc_S_further.nd rfl (Or.inl rfl)) pgs_nil))))
      (pss_cons (ps_aug (i := 6) sc_S_further.nd rfl (Or.inl rfl) (pe_op op_nmul (pv 14) (pe_op op_nadd (pv 16) pe_int)) ip_nadd)
      (pss_cons (ps_aug (i := 7) sc_S_further.nd rfl (Or.inl rfl) (pe_op op_nadd (pe_op op_nmul (pv 15) (pe_op op_nadd (pv 16) pe_int)) (pe_op op_nmul (pv 14) (pe_op op_nadd (pe_op op_nmul (pe_methH h_S_weight W.k_Spoken W.m_Spoken_weight (hr.mono (by omega)) (pv 0) (pa_cons (pv 9) pa_nil)) (pe_op op_nadd (pv 16) pe_int)) (pv 17)))) ip_nadd)
      (pss_cons (ps_set (i := 8) sc_S_further.nd rfl (Or.inl rfl) (pe_methH h_S_period W.k_Spoken W.m_Spoken_period (hr.mono (by omega)) (pv 0) (pa_cons (pv 4) (pa_cons (pe_op op_nsub (pv 1) (pe_op op_nmul (pv 4) (pv 10))) pa_nil))))
      (pss_one (ps_ret (pe_tup (pa_cons (pe_op op_nadd (pv 6) (pe_ix ix_tup (pv 8) pe_int (fun _ _ => rfl))) (pa_cons (pe_op op_nadd (pv 7) (pe_ix ix_tup (pv 8) pe_int (fun _ _ => rfl))) pa_nil))))))))))))))))))), ?_⟩
  refine ⟨fun σ H' => H = H' ∧ σ = [some (.ref x), some (.int (n : Nat)), some (.ref t0), none, none, none, none, none, none, some (.str out.word), some (.int (out.value : Nat)), some (cntV out.count), some (.bl out.unsaid), some (.int (out.rest : Nat)), none, none, none, none, none], ?_, ?_⟩
  · exact ⟨_, rfl, _, _, _, _, _, rfl, hx, W.k_Spoken, W.n_Spoken_outer, lk_S_outer, o, mulL out, rfl, hS.same.tup hF.row, rfl, _, _, rfl, _, _, rfl, _, _, rfl, _, _, rfl, _, _, rfl, rfl, rfl, rfl⟩
  rintro σ _ ⟨rfl, rfl⟩
  refine ⟨_, rfl, _, _, _, _, _, rfl, hx, W.k_Spoken, W.n_Spoken_top, lk_S_top, _, 1, rfl, rfl, _, rfl, _, _, rfl, rfl, ⟨by omega, by omega⟩, ?_⟩
  rw [eF]
  refine ⟨_, rfl, _, rfl, _, _, rfl, rfl, ⟨by omega, by omega⟩, ?_⟩
  refine ⟨_, rfl, x, dx, _, rfl, hx, no_S _ (by decide +kernel), _, rfl, _, _, _, _, _, rfl, hx, W.k_Spoken, W.n_Spoken_top, lk_S_top, F, x, y, h, k, sd, sm, s, mm, o, wd, R, out, B, N, topOf B out, rfl, hF, hS, hN, hlt, fun H1 N1 hS1 hN1 l1 t1 b1 => ?_⟩
  have hx1 := hS1.same _ _ fx
  obtain ⟨zs, p, hz, ez, hp⟩ := hS1.row t1
  refine ⟨fun σ H' => H1 = H' ∧ σ = [some (.ref x), some (.int (n : Nat)), some (.ref t0), some (.int (B / out.value + 1 : Nat)), some (.int (n / out.value : Nat)), none, some (.int ((sums (told R wd) (topOf B out)).1 : Nat)), some (.int ((sums (told R wd) (topOf B out)).2 : Nat)), none, some (.str out.word), some (.int (out.value : Nat)), some (cntV out.count), some (.bl out.unsaid), some (.int (out.rest : Nat)), none, none, none, none, none], ?_, ?_⟩
  · exact ⟨_, rfl, _, _, _, _, _, rfl, hx1, W.k_Spoken, W.n_Spoken_sums, lk_S_sums, _, rfl, _, _, _, _, _, rfl, hx1, W.k_Spoken, W.n_Spoken_top, lk_S_top, sm, zs, _, _, rfl, rfl, SqL.of hz, ez, p, _, rfl, SqT.of hp, rfl, _, _, rfl, _, _, rfl, rfl, rfl, rfl⟩
  rintro σ _ ⟨rfl, rfl⟩
  refine ⟨_, rfl, x, dx, _, rfl, hx1, no_S _ (by decide +kernel), _, rfl, _, 1, rfl, rfl, hF1, F, x, y, h, k, sd, sm, s, mm, o, wd, R, out, B, N1, B / out.value + 1 - 1, rfl, hF, hS1, hN1, by omega, fun H2 N2 hS2 hN2 l2 t2 b2 => ?_⟩
  have hx2 := hS2.same _ _ fx
  obtain ⟨zs2, p2, hz2, ez2, hp2⟩ := hS2.row t2
  refine ⟨_, rfl, _, _, _, _, _, rfl, hx2, W.k_Spoken, W.n_Spoken_sums, lk_S_sums, _, rfl, _, 1, rfl, rfl, hF1, sm, zs2, _, _, rfl, rfl, SqL.of hz2, ez2, ?_⟩
  have ht2 := hS1.tup b2 (hS.tup b1 ht0)
  refine ⟨fun σ H' => H2 = H' ∧ σ = [some (.ref x), some (.int (n : Nat)), some (.ref t0), some (.int (B / out.value + 1 : Nat)), some (.int (n / out.value : Nat)), some (.ref p2), some (.int ((sums (told R wd) (topOf B out)).1 : Nat)), some (.int ((sums (told R wd) (topOf B out)).2 : Nat)), none, some (.str out.word), some (.int (out.value : Nat)), some (cntV out.count), some (.bl out.unsaid), some (.int (out.rest : Nat)), some (.int ((sums (told R wd) (n / out.value - 1)).1 - (sums (told R wd) (B / out.value + 1 - 1)).1 : Nat)), some (.int ((sums (told R wd) (n / out.value - 1)).2 - (sums (told R wd) (B / out.value + 1 - 1)).2 : Nat)), none, none, none], ?_, ?_⟩
  · exact ⟨_, rfl, t0, _, _, _, rfl, rfl, SqT.of ht2, rfl, _, rfl, p2, _, _, _, rfl, rfl, SqT.of hp2, rfl, _, _, rfl, rfl, mono.1, _, rfl, t0, _, _, _, rfl, rfl, SqT.of ht2, rfl, _, rfl, p2, _, _, _, rfl, rfl, SqT.of hp2, rfl, _, _, rfl, rfl, mono.2, _, _, rfl, rfl, rfl⟩
  rintro σ _ ⟨rfl, rfl⟩
  -- counts, said
  refine ⟨fun σ H' => ∃ N' a18, SpD H' F k sd sm (told R wd) N' ∧ N' ≤ 4000 ∧ N ≤ N' ∧ But [sd, sm] H H' ∧ σ = [some (.ref x), some (.int (n : Nat)), some (.ref t0), some (.int (B / out.value + 1 : Nat)), some (.int (n / out.value : Nat)), some (.ref p2), some (.int ((sums (told R wd) (topOf B out)).1 : Nat)), some (.int ((sums (told R wd) (topOf B out)).2 : Nat)), none, some (.str out.word), some (.int (out.value : Nat)), some (cntV out.count), some (.bl out.unsaid), some (.int (out.rest : Nat)), some (.int ((cntsV R wd out B n).1 : Nat)), some (.int ((cntsV R wd out B n).2 : Nat)), none, none, a18], ?_, ?_⟩
  · refine ⟨_, rfl, _, 1, rfl, rfl, by omega, _, rfl, _, _, rfl, rfl, _, rfl, r_dec (fun e => ?_) (fun e => ?_)⟩
    · have e' : n / out.value - 1 < B / out.value + 1 := by omega
      have ec : cntsV R wd out B n = (0, 0) := if_pos e'
      refine ⟨(by show 2 ≤ sizeLine; decide), fun t nt => ?_⟩
      refine ⟨t, _, rfl, SqT.of upd_same, rfl, _, _, rfl, _, _, rfl, rfl, ?_⟩
      rw [ec]
      exact ⟨N2, none, hS2.same' (Same.new nt), hN2, by omega, (b1.trans b2).trans (But.of (Same.new nt)), rfl⟩
    · have e' : ¬ n / out.value - 1 < B / out.value + 1 := by omega
      have done : (¬ (B / out.value + 1 = 1 ∧ out.unsaid = true)) → cntsV R wd out B n = ((sums (told R wd) (n / out.value - 1)).1 - (sums (told R wd) (B / out.value + 1 - 1)).1, (sums (told R wd) (n / out.value - 1)).2 - (sums (told R wd) (B / out.value + 1 - 1)).2) := fun h => by
        unfold cntsV
        rw [if_neg e', if_neg h]
      refine ⟨_, rfl, rfl, _, rfl, r_dec (fun e2 => ?_) (fun e2 => iteF ?_)⟩
      · have e2' : B / out.value + 1 = 1 := by injection e2 with e2; omega
        refine ⟨_, rfl, _, rfl, r_b (fun hu => ?_) (fun hu => ?_)⟩
        · refine ⟨_, rfl, x, dx, _, rfl, hx2, no_S _ (by decide +kernel), F, x, y, h, k, sd, sm, s, mm, o, wd, R, out, B, N2, 1, rfl, hF, hS2, hN2, fun H3 N3 hS3 hN3 l3 b3 => ?_⟩
          have eu : cntsV R wd out B n = (match told R wd 1 with
              | none => ((sums (told R wd) (n / out.value - 1)).1 - (sums (told R wd) (B / out.value + 1 - 1)).1 + 1, (sums (told R wd) (n / out.value - 1)).2 - (sums (told R wd) (B / out.value + 1 - 1)).2)
              | some k => ((sums (told R wd) (n / out.value - 1)).1 - (sums (told R wd) (B / out.value + 1 - 1)).1, (sums (told R wd) (n / out.value - 1)).2 - (sums (told R wd) (B / out.value + 1 - 1)).2 - k)) := by
            unfold cntsV
            rw [if_neg e', if_pos ⟨e2', hu⟩]
            all_goals (cases told R wd 1 <;> rfl)
          cases e1 : told R wd 1 with
          | none =>
            rw [e1] at eu
            refine ⟨_, rfl, rfl, _, rfl, iteT' rfl ?_⟩
            refine ⟨_, rfl, _, 1, rfl, rfl, _, rfl, (by show 2 ≤ sizeLine; decide), fun t nt => ?_⟩
            refine ⟨t, _, rfl, SqT.of upd_same, rfl, _, _, rfl, _, _, rfl, rfl, ?_⟩
            rw [eu]
            exact ⟨N3, _, hS3.same' (Same.new nt), hN3, by omega, ((b1.trans b2).trans b3).trans (But.of (Same.new nt)), rfl⟩
          | some z =>
            rw [e1] at eu
            have hz1 := one_le (t := told R wd) (n := n / out.value - 1) (by omega) e1
            have z0 : (sums (told R wd) (B / out.value + 1 - 1)).2 = 0 := by rw [e2']; simp [sums]
            refine ⟨_, rfl, rfl, _, rfl, iteF' rfl ?_⟩
            refine ⟨_, rfl, _, rfl, _, rfl, _, _, rfl, rfl, by omega, (by show 2 ≤ sizeLine; decide), fun t nt => ?_⟩
            refine ⟨t, _, rfl, SqT.of upd_same, rfl, _, _, rfl, _, _, rfl, rfl, ?_⟩
            rw [eu]
            exact ⟨N3, _, hS3.same' (Same.new nt), hN3, by omega, ((b1.trans b2).trans b3).trans (But.of (Same.new nt)), rfl⟩
        · rw [done (fun z => by rw [hu] at z; exact absurd z.2 Bool.false_ne_true)]
          exact ⟨N2, none, hS2, hN2, by omega, b1.trans b2, rfl⟩
      · have e2' : ¬ B / out.value + 1 = 1 := fun z => e2 (by rw [z]; rfl)
        rw [done (fun z => e2' z.1)]
        exact ⟨N2, none, hS2, hN2, by omega, b1.trans b2, rfl⟩
  rintro σ H3 ⟨N3, a18, hS3, hN3, hle3, b3, rfl⟩
  have hx3 := hS3.same _ _ fx
  refine ⟨_, rfl, x, dx, _, rfl, hx3, no_S _ (by decide +kernel), _, rfl, F, x, y, h, k, sd, sm, s, mm, o, wd, R, out, B, N3, out.rest, rfl, hF, hS3, hN3, by omega, fun H4 N4 hS4 hN4 l4 t4 b4 => ?_⟩
  have hx4 := hS4.same _ _ fx
  obtain ⟨zs4, p4, hz4, ez4, hp4⟩ := hS4.row t4
  have r1 := sums1_le (told R wd) out.rest
  have r2 := sums2_le hF.ok wd out.rest
  have r3 : out.rest * out.rest ≤ 1000 * 1000 := Nat.mul_le_mul (by omega) (by omega)
  refine ⟨fun σ H' => H4 = H' ∧ σ = [some (.ref x), some (.int (n : Nat)), some (.ref t0), some (.int (B / out.value + 1 : Nat)), some (.int (n / out.value : Nat)), some (.ref p2), some (.int ((sums (told R wd) (topOf B out)).1 : Nat)), some (.int ((sums (told R wd) (topOf B out)).2 : Nat)), none, some (.str out.word), some (.int (out.value : Nat)), some (cntV out.count), some (.bl out.unsaid), some (.int (out.rest : Nat)), some (.int ((cntsV R wd out B n).1 : Nat)), some (.int ((cntsV R wd out B n).2 : Nat)), some (.int ((sums (told R wd) out.rest).1 : Nat)), some (.int ((sums (told R wd) out.rest).2 : Nat)), a18], ?_, ?_⟩
  · exact ⟨_, rfl, _, _, _, _, _, rfl, hx4, W.k_Spoken, W.n_Spoken_sums, lk_S_sums, _, rfl, sm, zs4, _, _, rfl, rfl, SqL.of hz4, ez4, p4, _, rfl, SqT.of hp4, rfl, _, _, rfl, _, _, rfl, rfl, rfl, rfl⟩
  rintro σ _ ⟨rfl, rfl⟩
  refine ⟨_, rfl, _, rfl, _, rfl, _, 1, rfl, rfl, _, _, rfl, rfl, .inr (by omega), _, _, rfl, rfl, ?_⟩
  have w1 : wt1 wd out.word ≤ 1 := by unfold wt1; split <;> omega
  have w2 : wt1 wd out.word * ((sums (told R wd) out.rest).1 + 1) ≤ 1 * 1001 := Nat.mul_le_mul w1 (by omega)
  refine ⟨_, rfl, _, rfl, _, rfl, _, 1, rfl, rfl, _, _, rfl, rfl, .inr (by omega), _, rfl, _, rfl, x, dx, _, rfl, hx4, no_S _ (by decide +kernel), _, rfl, x, dx, y, o, h, sd, sm, _, wd, out.word, rfl, hx4, _, rfl, _, 1, rfl, rfl, _, _, rfl, rfl, .inr (by omega), _, rfl, _, _, rfl, rfl, _, _, rfl, rfl, .inr (by omega), _, _, rfl, rfl, _, _, rfl, rfl, ?_⟩
  refine ⟨_, rfl, x, dx, _, rfl, hx4, no_S _ (by decide +kernel), _, rfl, _, rfl, _, rfl, _, rfl, _, _, rfl, rfl, .inr (by omega), _, _, rfl, rfl, div_mul_le' _ _, ?_⟩
  rw [sub_div_mul']
  refine ⟨F, x, y, h, k, sd, sm, s, mm, o, wd, R, out, B, N4, n / out.value, n % out.value, rfl, hF, hS4, hN4, fun t5 H5 N5 hS5 hN5 l5 b5 ht5 => ?_⟩
  refine ⟨_, rfl, _, rfl, t5, _, _, _, rfl, rfl, SqT.of ht5, rfl, _, _, rfl, rfl, _, rfl, _, rfl, t5, _, _, _, rfl, rfl, SqT.of ht5, rfl, _, _, rfl, rfl, (by show 2 ≤ sizeLine; decide), fun t nt => ?_⟩
  refine q t _ N5 (hS5.same' (Same.new nt)) hN5 (by omega) (((b3.trans b4).trans b5).trans (But.of (Same.new nt))) ?_
  rw [upd_same, further_eq hF.ok wd hF.isB hF.isO hn]

end
end Sy

/-! part: S6 -/
set_option Elab.async false
set_option linter.all false
set_option maxRecDepth 100000
set_option maxHeartbeats 4000000
namespace Sy
open PySem PySem.Spec PyProof.Rows L2
section
variable {P : Program} {w : World} {K : PySem.W.Frag} {mg : Str → Option Value} {base : Heap}
def Lk (v n : Nat) : List Nat → Nat → Prop
  | [], c => c = n
  | z :: rs, c => c = z / v - 1 ∧ Lk v n rs z
theorem Lk.at_ {v n : Nat} : ∀ {rs : List Nat} {c : Nat}, Lk v n rs c → ∀ (i z : Nat), rs[i]? = some z → (c :: rs)[i]? = some (z / v - 1)
  | [], _, _, i, z, e => by simp at e
  | y :: rs, c, h, 0, z, e => by
    obtain ⟨h1, h2⟩ := h
    have : y = z := by simpa using e
    subst this
    show some c = _
    rw [h1]
  | y :: rs, c, h, i + 1, z, e => h.2.at_ i z (by simpa using e)
theorem Lk.last {v n : Nat} : ∀ {rs : List Nat} {c : Nat}, Lk v n rs c → (c :: rs)[rs.length]? = some n
  | [], _, h => by rw [show _ = n from h]; rfl
  | y :: rs, c, h => by
    have := h.2.last
    simpa using this
def spS_up_to (K : PySem.W.Frag) : Sp := fun vs H Q _ => ∃ (F : Hp) (x y h k sd sm s mm o : Addr) (wd : Option Str) (R : Rs) (out : M) (B N n : Nat), vs = [.ref x, .int (n : Nat)] ∧ SpF K F x y h k sd sm s mm o wd R out B ∧ SpD H F k sd sm (told R wd) N ∧ N ≤ 4000 ∧ n < 2 ^ 1000 ∧
  ∀ t H' N', SpD H' F k sd sm (told R wd) N' → N' ≤ 4000 → N ≤ N' → But [sd, sm] H H' → H' t = some (.tup [.int ((sums (told R wd) n).1 : Nat), .int ((sums (told R wd) n).2 : Nat)]) → Q (.ref t) H'
theorem ok_S_up_to (W : Wd K mg) : Has P w K mg base 7 (He.ma K (He.ga K "Spoken") "up_to") ["self", "number"] [] (spS_up_to K) := by
  have h_S_low := ok_S_low (P := P) (w := w) (base := base) W
  have h_S_further := ok_S_further (P := P) (w := w) (base := base) W
  refine mkHas (d := d_S_up_to) (N := N_S_up_to) (ps := ["self", "number"]) (W.says.def_ 23) sc_S_up_to (fun _ _ _ _ _ _ us hl => match us, hl with | [_, _], _ => rfl) (fun vs H Q E h => ?_) (fun cdv A outer s0 H vs Q E hr h => ?_)
  · obtain ⟨_, _, _, _, _, _, _, _, _, _, _, _, _, _, _, _, rfl, _⟩ := h
    rfl
  obtain ⟨F, x, y, h, k, sd, sm, s, mm, o, wd, R, out, B, N, n, rfl, hF, hS, hN, hn, q⟩ := h
  obtain ⟨dx, fx⟩ := hF.ins
  have hv := hF.ok.mv _ hF.isO.mem
  have hv2 := hF.ok.ml _ hF.isO.mem
  have hlt := hF.lt
  refine ⟨_, (pss_cons (ps_set (i := 2) sc_S_up_to.nd rfl (Or.inl rfl) (pe_lst pa_nil))
      (pss_mid (ps_while PassesOwn.never (PW.pt (pw_and (pt_cmpR op_gt (pv 1) (pe_fld (pv 0) rfl) (nomark _)) (pw_and1 (pt_cmpR op_notN1 (pe_fld (pv 0) rfl) pe_non (nomark _))))) (pss_cons (ps_expr (pe_bm PySem.F.plainAttrs_list PySem.F.slot_list_append PySem.F.type_list_append mt_append (pv 2) (pa_cons (pv 1) pa_nil)))
      (pss_one (ps_set (i := 1) sc_S_up_to.nd rfl (Or.inl rfl) (pe_op op_nsub (pe_op op_ndiv (pv 1) (pe_ix ix_tup (pe_fld (pv 0) rfl) pe_int (fun _ _ => rfl))) pe_int)))))
      (pss_cons (ps_set (i := 1) sc_S_up_to.nd rfl (Or.inl rfl) (pe_callB (call_min2 rfl) rfl W.f_min PyProof.Rows.boot_min (pa_cons (pv 1) (pa_cons (pe_fld (pv 0) rfl) pa_nil))))
      (pss_cons (ps_expr (pe_methH h_S_low W.k_Spoken W.m_Spoken_low (hr.mono (by omega)) (pv 0) (pa_cons (pe_callB (call_max2 rfl) rfl W.f_max PyProof.Rows.boot_max (pa_cons (pv 1) (pa_cons pe_int pa_nil))) pa_nil)))
      (pss_cons (ps_set (i := 3) sc_S_up_to.nd rfl (Or.inl rfl) (pe_ix ix_list (pe_fld (pv 0) rfl) (pe_callB (call_max2 rfl) rfl W.f_max PyProof.Rows.boot_max (pa_cons (pv 1) (pa_cons pe_int pa_nil))) (fun _ _ => rfl)))
      (pss_cons (ps_for PassesOwn.never rfl (pi_list (pe_revL (pv 2))) (pg_name (i := 4) sc_S_up_to.nd rfl (Or.inl rfl)) (pss_one (ps_set (i := 3) sc_S_up_to.nd rfl (Or.inl rfl) (pe_methH h_S_further W.k_Spoken W.m_Spoken_further (hr.mono (by omega)) (pv 0) (pa_cons (pv 4) (pa_cons (pv 3) pa_nil))))))
      (pss_one (ps_ret (pv 3))))))))), ?_⟩
  refine ⟨Nat.zero_le _, fun st nst => ?_⟩
  refine ⟨fun σ H' => Same H H' ∧ ∃ (rs : List Nat) (c : Nat), H' st = some (.lst (rs.reverse.map fun z => V.int (z : Nat))) ∧ Lk out.value n rs c ∧ (∀ z ∈ rs, topOf B out < z) ∧ c ≤ topOf B out ∧ σ = [some (.ref x), some (.int (c : Nat)), some (.ref st), none, none], ?_, ?_⟩
  · refine ⟨fun c σ H' => Same H H' ∧ ∃ (rs : List Nat), H' st = some (.lst (rs.reverse.map fun z => V.int (z : Nat))) ∧ Lk out.value n rs c ∧ (∀ z ∈ rs, topOf B out < z) ∧ (c + 1) * 2 ^ rs.length ≤ n + 1 ∧ σ = [some (.ref x), some (.int (c : Nat)), some (.ref st), none, none],
      ⟨n, Same.new nst, [], upd_same, rfl, by simp, by simp, rfl⟩, ?_⟩
    rintro c σ H1 ⟨s1, rs, hst, hlk, hrs, hpow, rfl⟩
    have hx1 := s1 _ _ (hS.same _ _ fx)
    refine ⟨_, rfl, _, rfl, _, _, _, _, _, rfl, hx1, W.k_Spoken, W.n_Spoken_top, lk_S_top, _, _, rfl, rfl, _, rfl, r_dec (fun hc => ?_) (fun hc => iteF ?_)⟩
    · have hc' : topOf B out < c := by omega
      have hd1 : 1 ≤ c / out.value := Nat.le_trans (Nat.le_add_left 1 _) (top_div hv hc')
      have hlen : rs.length < 1001 := by
        apply Classical.byContradiction
        intro hh
        have h1 : 2 ^ 1001 ≤ 2 ^ rs.length := Nat.pow_le_pow_right (by omega) (by omega)
        have h2 : 1 * 2 ^ rs.length ≤ (c + 1) * 2 ^ rs.length := Nat.mul_le_mul_right _ (by omega)
        have h3 : (2 : Nat) ^ 1001 = 2 * 2 ^ 1000 := by rw [Nat.pow_succ]; omega
        omega
      refine ⟨_, rfl, _, _, _, _, _, rfl, hx1, W.k_Spoken, W.n_Spoken_outer, lk_S_outer, rfl, _, rfl, iteT' (by rfl) ?_⟩
      refine ⟨_, fun σ' H' h => h, ?_⟩
      refine ⟨_, rfl, .inl ⟨rfl, _, SqL.of hst⟩, _, rfl, st, _, _, rfl, rfl, hst, small_lt (by rw [List.length_map, List.length_reverse]; omega), ?_⟩
      have s2 : Same H (upd H1 st (.lst ((rs.reverse.map fun z => V.int (z : Nat)) ++ [.int (c : Nat)]))) := s1.mut nst
      have hx2 := s2 _ _ (hS.same _ _ fx)
      refine ⟨_, rfl, _, rfl, _, _, _, _, _, rfl, hx2, W.k_Spoken, W.n_Spoken_outer, lk_S_outer, o, mulL out, _, _, rfl, rfl, s2.tup (hS.same.tup hF.row), rfl, _, _, rfl, rfl, ⟨by omega, by omega⟩, _, 1, rfl, rfl, hd1, ?_⟩
      have hle : (c / out.value - 1 + 1) * 2 ≤ c := by
        have h1 := Nat.div_mul_le_self c out.value
        have h2 : c / out.value * 2 ≤ c / out.value * out.value := Nat.mul_le_mul_left _ hv
        omega
      refine ⟨c / out.value - 1, by omega, s2, c :: rs, ?_, ⟨rfl, hlk⟩, ?_, ?_, rfl⟩
      · rw [upd_same, List.reverse_cons, List.map_append]; rfl
      · intro z hz
        rcases List.mem_cons.mp hz with rfl | hz
        · exact hc'
        · exact hrs z hz
      · rw [List.length_cons, Nat.pow_succ, Nat.mul_comm (2 ^ rs.length) 2, ← Nat.mul_assoc]
        exact Nat.le_trans (Nat.mul_le_mul_right _ (by omega)) hpow
    · exact ⟨s1, rs, c, hst, hlk, hrs, by omega, rfl⟩
  rintro σ H1 ⟨s1, rs, c, hst, hlk, hrs, hc, rfl⟩
  have hS1 := hS.same' s1
  have hx1 := hS1.same _ _ fx
  refine ⟨_, rfl, _, rfl, _, _, _, _, _, rfl, hx1, W.k_Spoken, W.n_Spoken_top, lk_S_top, _, _, rfl, ?_⟩
  rw [minN, Nat.min_eq_left hc]
  refine ⟨_, rfl, x, dx, _, rfl, hx1, no_S _ (by decide +kernel), _, rfl, _, _, rfl, ?_⟩
  rw [maxN]
  refine ⟨F, x, y, h, k, sd, sm, s, mm, o, wd, R, out, B, N, c, rfl, hF, hS1, hN, by omega, fun H2 N2 hS2 hN2 l2 t2 b2 => ?_⟩
  have hx2 := hS2.same _ _ fx
  obtain ⟨zs, p, hz, ez, hp⟩ := hS2.row t2
  refine ⟨_, rfl, _, _, _, _, _, rfl, hx2, W.k_Spoken, W.n_Spoken_sums, lk_S_sums, _, rfl, _, _, rfl, ?_⟩
  rw [maxN]
  refine ⟨sm, zs, _, _, rfl, rfl, SqL.of hz, ez, ?_⟩
  have nst2 : st ∉ [sd, sm] := by
    have n1 : sd ≠ st := no_in hS.said nst
    obtain ⟨_, hz0, _⟩ := hS.sums
    have n2 : sm ≠ st := no_in hz0 nst
    simp [n1.symm, n2.symm]
  have hst2 := b2.at hst nst2
  refine ⟨_, rfl, st, _, rfl, SqL.of hst2, fun r nr => ?_⟩
  have er : (rs.reverse.map fun z => V.int (z : Nat)).reverse = rs.map fun z => V.int (z : Nat) := by rw [← List.map_reverse, List.reverse_reverse]
  rw [er]
  refine ⟨r, rfl, ⟨_, SqL.of upd_same⟩, ?_⟩
  have s3 : Same H2 (upd H2 r (.lst (rs.map fun z => V.int (z : Nat)))) := Same.new nr
  have hS3 := hS2.same' s3
  have nr2 : r ∉ [sd, sm] := by
    have n1 : sd ≠ r := no_in hS2.said nr
    have n2 : sm ≠ r := no_in hz nr
    simp [n1.symm, n2.symm]
  refine for_list (xs := rs.map fun z => V.int (z : Nat)) (fun i σ H' => ∃ N' t u a4, SpD H' F k sd sm (told R wd) N' ∧ N' ≤ 4000 ∧ N ≤ N' ∧ But [sd, sm] (upd H2 r (.lst (rs.map fun z => V.int (z : Nat)))) H' ∧ (c :: rs)[i]? = some u ∧ H' t = some (.tup [.int ((sums (told R wd) u).1 : Nat), .int ((sums (told R wd) u).2 : Nat)]) ∧ σ = [some (.ref x), some (.int (c : Nat)), some (.ref st), some (.ref t), a4])
    ⟨N2, p, c, none, hS3, hN2, l2, But.refl _ _, rfl, s3 _ _ hp, rfl⟩ (fun i σ H' _ pv => by obtain ⟨_, _, _, _, _, _, _, b, _⟩ := pv; exact SqL.of (b.at upd_same nr2)) ?_ ?_
  · rintro i v σ H' hi ⟨N4, t, u, a4, hS4, hN4, l4, b4, eu, ht, rfl⟩
    rw [List.getElem?_map] at hi
    obtain ⟨z, ez, rfl⟩ := Option.map_eq_some_iff.mp hi
    have eu2 := hlk.at_ i z ez
    rw [eu] at eu2
    injection eu2 with eu2
    subst eu2
    have hx4 := hS4.same _ _ fx
    refine ⟨_, rfl, x, dx, _, rfl, hx4, no_S _ (by decide +kernel), _, rfl, _, rfl, F, x, y, h, k, sd, sm, s, mm, o, t, wd, R, out, B, N4, z, rfl, hF, hS4, hN4, hrs z (List.mem_of_getElem? ez), ht, fun t5 H5 N5 hS5 hN5 l5 b5 ht5 => ?_⟩
    exact ⟨N5, t5, z, _, hS5, hN5, by omega, b4.trans b5, by simpa using ez, ht5, rfl⟩
  · rintro σ H' ⟨N4, t, u, a4, hS4, hN4, l4, b4, eu, ht, rfl⟩
    rw [List.length_map, hlk.last] at eu
    injection eu with eu
    subst eu
    exact ⟨_, rfl, q t H' N4 hS4 hN4 l4 (((But.of s1).trans b2).trans ((But.of s3).trans b4)) ht⟩

end
end Sy

/-! part: Y0 -/
set_option Elab.async false
set_option linter.all false
set_option maxRecDepth 100000
set_option maxHeartbeats 4000000
namespace Sy
open PySem PySem.Spec PyProof.Rows L2
section
variable {P : Program} {w : World} {K : PySem.W.Frag} {mg : Str → Option Value} {base : Heap}
def spY_endless (K : PySem.W.Frag) : Sp := fun vs H Q _ => ∃ (G : Hp) (y s m : Addr) (R : Rs) (out : M), vs = [.ref y] ∧ Same G H ∧ SysAt K G y R s m ∧ IsOut R out ∧ ∀ o, SqT K G o (mulL out) → Q (.ref o) H
theorem ok_Y_endless (W : Wd K mg) : Has P w K mg base 1 (He.ma K (He.ga K "System") "endless") ["self"] [] (spY_endless K) := by
  refine mkHas (d := d_Y_endless) (N := N_Y_endless) (ps := ["self"]) (W.says.def_ 37) sc_Y_endless (fun _ _ _ _ _ _ us hl => match us, hl with | [_], _ => rfl) (fun vs H Q E h => ?_) (fun cdv A outer s0 H vs Q E hr h => ?_)
  · obtain ⟨_, _, _, _, _, _, rfl, _⟩ := h
    rfl
  obtain ⟨G, y, s, m, R, out, rfl, sG, ⟨⟨dy, v, r, hy⟩, _, ⟨xs, hx, rx⟩⟩, ho, q⟩ := h
  obtain ⟨j, ej, uj⟩ := ho.at_
  refine ⟨_, (pss_cons (ps_for PassesOwn.never rfl (pi_tup (pe_fld (pv 0) rfl)) (pg_name (i := 1) sc_Y_endless.nd rfl (Or.inl rfl)) (pss_one (ps_if (pt_cmpR op_isN1 (pe_ix ix_tup (pv 1) pe_int (fun _ _ => rfl)) pe_non (nomark _)) (pss_one (ps_ret (pv 1))) pss_nil)))
      (pss_one (ps_ret pe_non))), ?_⟩
  refine ⟨_, rfl, _, _, _, _, _, rfl, (sG _ _ hy), W.k_System, W.n_System_multipliers, lk_Y_multipliers, m, rfl, ⟨xs, sG.tup hx⟩, ?_⟩
  refine for_tup (xs := xs) (fun i σ H' => H' = H ∧ (∀ (i' : Nat) m', i' < i → R.mults[i']? = some m' → m'.count ≠ none) ∧ ∃ a1, σ = [some (.ref y), a1])
    ⟨rfl, fun _ _ hj => absurd hj (Nat.not_lt_zero _), _, rfl⟩ (fun i σ H' _ p => by rw [p.1]; exact sG.tup hx) ?_ ?_
  · rintro i x σ H' hi ⟨rfl, hno, a1, rfl⟩
    obtain ⟨mi, em, a, rfl, ha⟩ := rx.get hi
    refine ⟨_, rfl, a, mulL mi, _, _, rfl, rfl, sG.tup ha, rfl, rfl, _, rfl, ?_⟩
    cases hc : mi.count with
    | none =>
      refine iteT' rfl ?_
      obtain rfl := uj i mi em hc
      rw [ej] at em
      injection em with em
      subst em
      exact ⟨_, rfl, q a ha⟩
    | some k =>
      refine iteF' rfl ?_
      refine ⟨rfl, fun i' m' hj e => ?_, _, rfl⟩
      rcases Nat.lt_or_eq_of_le (Nat.le_of_lt_succ hj) with z | z
      · exact hno i' m' z e
      · subst z
        rw [em] at e
        injection e with e
        subst e
        rw [hc]
        exact Option.some_ne_none _
  · rintro σ H' ⟨rfl, hno, a1, rfl⟩
    have hj := (List.getElem?_eq_some_iff.mp ej).1
    exact absurd ho.no (hno j out (by rw [rx.1]; exact hj) ej)
theorem yes_of {σ : L2.St} {H : Hp} {A B : Hp → Prop} (h : A H) : tYes σ H fun b H3 => if b = true then A H3 else B H3 := by
  show if true = true then A H else B H
  rw [if_pos rfl]
  exact h
def wordsL (R : Rs) : List Str := R.simple.map (·.1) ++ R.mults.map (·.word)
def spY_words (K : PySem.W.Frag) : Sp := fun vs H Q _ => ∃ (y s m : Addr) (R : Rs), vs = [.ref y] ∧ SysAt K H y R s m ∧ R.Ok ∧ ∀ t H', Same H H' → H' t = some (.tup ((wordsL R).map V.str)) → Q (.ref t) H'
def RowV (K : PySem.W.Frag) (H : Hp) (x : V) (w : Str) : Prop := ∃ a xs, x = .ref a ∧ SqT K H a xs ∧ xs[0]? = some (.str w)
theorem Rel.map {α β : Type} {f : V → α → Prop} {g : V → β → Prop} {k : α → β} {xs : List V} {ys : List α} (h : Rel f xs ys) (q : ∀ x y, f x y → g x (k y)) : Rel g xs (ys.map k) := by
  refine ⟨by simp [h.1], fun i x b e1 e2 => ?_⟩
  rw [List.getElem?_map] at e2
  obtain ⟨y, e3, rfl⟩ := Option.map_eq_some_iff.mp e2
  exact q _ _ (h.2 i x y e1 e3)
theorem RowV.same {H H' : Hp} (e : Same H H') {x : V} {w : Str} (h : RowV K H x w) : RowV K H' x w := by
  obtain ⟨a, xs, h1, h2, h3⟩ := h
  exact ⟨a, xs, h1, e.tup h2, h3⟩
theorem map_take {α β : Type} (f : α → β) {l : List α} {i : Nat} {x : α} (h : l[i]? = some x) : (l.take (i + 1)).map f = (l.take i).map f ++ [f x] := by
  have hi := (List.getElem?_eq_some_iff.mp h).1
  rw [List.take_succ_eq_append_getElem hi, (List.getElem?_eq_some_iff.mp h).2, List.map_append]
  rfl
theorem rCatA_of {K : PySem.W.Frag} {H : Hp} {a b : Addr} {xs ys : List V} {Q : VK} (ha : SqT K H a xs) (hb : SqT K H b ys) (hl : xs.length + ys.length ≤ sizeLine) (h : ∀ p H1, Same H H1 → SqT K H1 p (xs ++ ys) → Q (.ref p) H1) : rCatA K (.ref a) (.ref b) H Q := by
  refine ⟨a, b, xs, ys, rfl, rfl, ha, hb, hl, fun e => ?_, fun _ e => ?_, fun _ _ p np => ?_⟩
  · subst e; exact h b H (fun _ _ z => z) hb
  · subst e; exact h a H (fun _ _ z => z) (by rw [List.append_nil]; exact ha)
  · exact h p _ (Same.new np) (SqT.of upd_same)
theorem ok_Y_words (W : Wd K mg) : Has P w K mg base 1 (He.ma K (He.ga K "System") "words") ["self"] [] (spY_words K) := by
  refine mkHas (d := d_Y_words) (N := N_Y_words) (ps := ["self"]) (W.says.def_ 36) sc_Y_words (fun _ _ _ _ _ _ us hl => match us, hl with | [_], _ => rfl) (fun vs H Q E h => ?_) (fun cdv A outer s0 H vs Q E hr h => ?_)
  · obtain ⟨_, _, _, _, rfl, _⟩ := h
    rfl
  obtain ⟨y, s, m, R, rfl, ⟨⟨dy, v, r, hy⟩, ⟨xs, hx, rx⟩, ⟨zs, hz, rz⟩⟩, ok, q⟩ := h
  refine ⟨_, (pss_one (ps_ret (pe_callTy call_tuple_of rfl W.f_tuple PyProof.Rows.boot_tuple (pa_cons (pe_lc (own := [("row", 1)]) (g := gName 1) rfl sc_Y_words.nd (pi_tup (pe_op op_catA (pe_fld (pv 0) rfl) (pe_fld (pv 0) rfl))) (blkOk_by (own := [("row", 1)]) (N := N_Y_words) (sc := defScope s_Y_words) (by decide +kernel)) (fun _ _ _ _ _ => (pg_name (i := 1) sc_Y_words.nd rfl (Or.inl rfl))) (fun _ _ _ _ _ => pts_nil) (fun _ _ _ _ _ => (pe_ix (ix_tupK (K := K) rfl) (pv 1) pe_int (fun _ _ => rfl)))) pa_nil)))), ?_⟩
  have h1 := ok.sz
  have h2 := ok.mz
  have rr : Rel (RowV K H) (xs ++ zs) (wordsL R) := Rel.append (rx.map fun x p h => by obtain ⟨a, e1, e2⟩ := h; exact ⟨a, _, e1, e2, rfl⟩) (rz.map fun x p h => by obtain ⟨a, e1, e2⟩ := h; exact ⟨a, _, e1, e2, rfl⟩)
  have hl : (wordsL R).length ≤ 30 := by
    unfold wordsL
    rw [List.length_append, List.length_map, List.length_map]
    omega
  refine ⟨_, rfl, _, _, _, _, _, rfl, hy, W.k_System, W.n_System_simple, lk_Y_simple, _, rfl, _, _, _, _, _, rfl, hy, W.k_System, W.n_System_multipliers, lk_Y_multipliers, rCatA_of hx hz (by rw [rx.1, rz.1]; exact small_le (by omega)) fun p H1 s1 hp => ?_⟩
  refine ⟨p, rfl, ⟨_, hp⟩, fun D nD => ?_⟩
  refine lc_tup (xs := xs ++ zs) (fun i H' => Same H1 H' ∧ H' D = some (.lst (((wordsL R).take i).map V.str))) ⟨Same.new nD, by rw [upd_same]; rfl⟩ (fun i H' _ pv => pv.1.tup hp) ?_ ?_
  · rintro i x H' hi ⟨sH, hD⟩
    obtain ⟨z, ez, a, ws, rfl, ha, ha0⟩ := rr.get hi
    refine ⟨rfl, yes_of ?_⟩
    refine ⟨_, rfl, a, ws, _, _, rfl, rfl, (s1.trans sH).tup ha, atI_nat (j := 0) ha0, _, hD, small_lt (by rw [List.length_map, List.length_take]; omega), sH.mut nD, ?_⟩
    rw [upd_same, map_take V.str ez]
  · rintro H' ⟨sH, hD⟩
    rw [rr.1, List.take_length] at hD
    exact ⟨D, _, rfl, .inl ⟨SqL.of hD, fun t nt => q t _ ((s1.trans sH).new' nt) upd_same⟩⟩
def rowMax (m : M) : Option Nat := m.count.map fun k => k * m.value + m.rest
def spY_bmax (K : PySem.W.Frag) : Sp := fun vs H Q _ => ∃ (y s m : Addr) (R : Rs) (M0 : Nat), vs = [.ref y] ∧ SysAt K H y R s m ∧ R.Ok ∧ IsB R M0 ∧ ∀ H' B, Same H H' → IsB R B → B ≤ M0 → Q (.int (B : Nat)) H'
theorem filterMap_take {α β : Type} (f : α → Option β) {l : List α} {i : Nat} {x : α} (h : l[i]? = some x) : (l.take (i + 1)).filterMap f = (l.take i).filterMap f ++ (f x).toList := by
  have hi := (List.getElem?_eq_some_iff.mp h).1
  rw [List.take_succ_eq_append_getElem hi, (List.getElem?_eq_some_iff.mp h).2, List.filterMap_append]
  cases e : f x <;> simp [e]
theorem ok_Y_bounded_maximum (W : Wd K mg) : Has P w K mg base 1 (He.ma K (He.ga K "System") "bounded_maximum") ["self"] [] (spY_bmax K) := by
  refine mkHas (d := d_Y_bounded_maximum) (N := N_Y_bounded_maximum) (ps := ["self"]) (W.says.def_ 38) sc_Y_bounded_maximum (fun _ _ _ _ _ _ us hl => match us, hl with | [_], _ => rfl) (fun vs H Q E h => ?_) (fun cdv A outer s0 H vs Q E hr h => ?_)
  · obtain ⟨_, _, _, _, _, rfl, _⟩ := h
    rfl
  obtain ⟨y, s, m, R, M0, rfl, ⟨⟨dy, v, r, hy⟩, ⟨xs, hx, rx⟩, ⟨zs, hz, rz⟩⟩, ok, hB, q⟩ := h
  have h1 := ok.sz
  have h2 := ok.mz
  refine ⟨_, (pss_mid (ps_setLc (i := 1) (own := [("row", 2)]) (g := gName 2) rfl sc_Y_bounded_maximum.nd rfl rfl (sw_true rfl rfl rfl (by decide +kernel)) (pi_tup (pe_fld (pv 0) rfl)) (blkOk_by (own := [("row", 2)]) (N := N_Y_bounded_maximum) (sc := defScope s_Y_bounded_maximum) (by decide +kernel)) (fun _ _ _ _ _ => (pg_name (i := 2) sc_Y_bounded_maximum.nd rfl (Or.inl rfl))) (fun _ _ _ _ _ => pts_nil) (fun _ _ _ _ _ => (pe_ix (ix_tupK (K := K) rfl) (pv 2) pe_int (fun _ _ => rfl))))
      (pss_cons (ps_expr (pe_bm PySem.F.plainAttrs_list PySem.F.slot_list_extend PySem.F.type_list_extend mt_extend (pv 1) (pa_cons (pe_lc (own := [("row", 2)]) (g := gName 2) rfl sc_Y_bounded_maximum.nd (pi_tup (pe_fld (pv 0) rfl)) (blkOk_by (own := [("row", 2)]) (N := N_Y_bounded_maximum) (sc := defScope s_Y_bounded_maximum) (by decide +kernel)) (fun _ _ _ _ _ => (pg_name (i := 2) sc_Y_bounded_maximum.nd rfl (Or.inl rfl))) (fun _ _ _ _ _ => (pts_one (pt_cmpR op_notN1 (pe_ix (ix_tupK (K := K) rfl) (pv 2) pe_int (fun _ _ => rfl)) pe_non (nomark _)))) (fun _ _ _ _ _ => (pe_op op_nadd (pe_op op_nmul (pe_ix (ix_tupK (K := K) rfl) (pv 2) pe_int (fun _ _ => rfl)) (pe_ix (ix_tupK (K := K) rfl) (pv 2) pe_int (fun _ _ => rfl))) (pe_ix (ix_tupK (K := K) rfl) (pv 2) pe_int (fun _ _ => rfl))))) pa_nil)))
      (pss_one (ps_ret (pe_callBK (cr_maxd rfl) rfl W.f_max PyProof.Rows.boot_max (pa_cons (pv 1) pa_nil) (pk_cons pe_int pk_nil)))))), ?_⟩
  refine ⟨fun σ H' => Same H H' ∧ ∃ f, H f = none ∧ H' f = some (.lst (R.simple.map fun p => V.int (p.2 : Nat))) ∧ σ = [some (.ref y), some (.ref f), none], ?_, ?_⟩
  · refine ⟨_, rfl, _, _, _, _, _, rfl, hy, W.k_System, W.n_System_simple, lk_Y_simple, s, rfl, ⟨_, hx⟩, fun D nD => ?_⟩
    refine lc_tup (xs := xs) (fun i H' => Same H H' ∧ H' D = some (.lst ((R.simple.take i).map fun p => V.int (p.2 : Nat)))) ⟨Same.new nD, by rw [upd_same]; rfl⟩ (fun i H' _ pv => pv.1.tup hx) ?_ ?_
    · rintro i x H' hi ⟨sH, hD⟩
      obtain ⟨⟨w0, v0⟩, ep, a, rfl, ha⟩ := rx.get hi
      refine ⟨rfl, yes_of ?_⟩
      refine ⟨_, rfl, a, _, _, _, rfl, rfl, sH.tup ha, rfl, _, hD, small_lt (by rw [List.length_map, List.length_take]; omega), sH.mut nD, ?_⟩
      rw [upd_same, map_take (fun p : Str × Nat => V.int (p.2 : Nat)) ep]
    · rintro H' ⟨sH, hD⟩
      rw [rx.1, List.take_length] at hD
      exact ⟨sH, D, nD, hD, rfl⟩
  rintro σ H1 ⟨s1, f, nf, hf, rfl⟩
  refine ⟨_, rfl, .inl ⟨rfl, _, SqL.of hf⟩, _, rfl, _, _, _, _, _, rfl, (s1 _ _ hy), W.k_System, W.n_System_multipliers, lk_Y_multipliers, m, rfl, ⟨_, s1.tup hz⟩, fun D nD => ?_⟩
  refine lc_tup (xs := zs) (fun i H' => Same H1 H' ∧ H' D = some (.lst (((R.mults.take i).filterMap rowMax).map fun z => V.int (z : Nat)))) ⟨Same.new nD, by rw [upd_same]; rfl⟩ (fun i H' _ pv => (s1.trans pv.1).tup hz) ?_ ?_
  · rintro i x H' hi ⟨sH, hD⟩
    obtain ⟨mi, em, a, rfl, ha⟩ := rz.get hi
    have ha' := (s1.trans sH).tup ha
    have hv := ok.ml _ (List.mem_of_getElem? em)
    have e := filterMap_take rowMax em
    refine ⟨rfl, _, rfl, a, mulL mi, _, _, rfl, rfl, ha', rfl, rfl, _, rfl, ?_⟩
    cases hc : mi.count with
    | none =>
      refine iteF' rfl ⟨sH, ?_⟩
      rw [show rowMax mi = none by unfold rowMax; rw [hc]; rfl] at e
      rw [e]
      simpa using hD
    | some k =>
      refine iteT' rfl ?_
      rw [show rowMax mi = some (k * mi.value + mi.rest) by unfold rowMax; rw [hc]; rfl] at e
      have ha2 : SqT K H' a [.str mi.word, .int (mi.value : Nat), .int (k : Nat), .bl mi.unsaid, .int (mi.rest : Nat)] := by
        have := ha'
        unfold mulL at this
        rw [hc] at this
        exact this
      refine ⟨_, rfl, a, _, _, _, rfl, rfl, ha2, rfl, _, rfl, a, _, _, _, rfl, rfl, ha2, rfl, _, _, rfl, rfl, .inr (by omega), _, rfl, a, _, _, _, rfl, rfl, ha2, rfl, _, _, rfl, rfl, _, hD, ?_, sH.mut nD, ?_⟩
      · have := List.length_filterMap_le rowMax (R.mults.take i)
        rw [List.length_take] at this
        exact small_lt (by rw [List.length_map]; omega)
      · rw [upd_same, e, List.map_append]
        rfl
  · rintro H2 ⟨s2, hD⟩
    rw [rz.1, List.take_length] at hD
    have hf2 := s2 _ _ hf
    have nfD : f ≠ D := no_in hf nD
    have hlen := List.length_filterMap_le rowMax R.mults
    refine ⟨f, D, _, _, rfl, rfl, hf2, hD, small_le (by rw [List.length_map, List.length_map]; omega), ?_⟩
    have s3 : Same H (upd H2 f (.lst ((R.simple.map fun p => V.int (p.2 : Nat)) ++ ((R.mults.filterMap rowMax).map fun z => V.int (z : Nat))))) := (s1.trans s2).mut nf
    refine ⟨_, rfl, f, (R.simple.map fun p => ((p.2 : Nat) : Int)) ++ ((R.mults.filterMap rowMax).map fun z => ((z : Nat) : Int)), _, rfl, rfl, SqL.of (by rw [upd_same, List.map_append, List.map_map, List.map_map]; rfl), fun e => ?_, fun b hb hmax => ?_⟩
    · have e1 : R.simple = [] := by
        have := (List.append_eq_nil_iff.mp e).1
        simpa using this
      have e2 : R.mults.filterMap rowMax = [] := by
        have := (List.append_eq_nil_iff.mp e).2
        simpa using this
      refine q _ 0 s3 ⟨fun p hp => by rw [e1] at hp; simp at hp, fun mi hmi k hk => ?_⟩ (Nat.zero_le _)
      have : (k * mi.value + mi.rest) ∈ R.mults.filterMap rowMax := List.mem_filterMap.mpr ⟨mi, hmi, by unfold rowMax; rw [hk]; rfl⟩
      rw [e2] at this
      simp at this
    · obtain ⟨bn, rfl, hle⟩ : ∃ bn : Nat, b = (bn : Nat) ∧ bn ≤ M0 := by
        rcases List.mem_append.mp hb with h | h
        · obtain ⟨p, hp, rfl⟩ := List.mem_map.mp h
          exact ⟨p.2, rfl, hB.s p hp⟩
        · obtain ⟨z, hz, rfl⟩ := List.mem_map.mp h
          obtain ⟨mi, hmi, e⟩ := List.mem_filterMap.mp hz
          unfold rowMax at e
          obtain ⟨k, hk, rfl⟩ := Option.map_eq_some_iff.mp e
          exact ⟨_, rfl, hB.m mi hmi k hk⟩
      refine q _ bn s3 ⟨fun p hp => ?_, fun mi hmi k hk => ?_⟩ hle
      · have := hmax _ (List.mem_append.mpr (.inl (List.mem_map.mpr ⟨p, hp, rfl⟩)))
        omega
      · have := hmax _ (List.mem_append.mpr (.inr (List.mem_map.mpr ⟨k * mi.value + mi.rest, List.mem_filterMap.mpr ⟨mi, hmi, by unfold rowMax; rw [hk]; rfl⟩, rfl⟩)))
        omega

end
end Sy

/-! part: S7 -/
set_option Elab.async false
set_option linter.all false
set_option maxRecDepth 100000
set_option maxHeartbeats 4000000
namespace Sy
open PySem PySem.Spec PyProof.Rows L2
section
variable {P : Program} {w : World} {K : PySem.W.Frag} {mg : Str → Option Value} {base : Heap}
/-- a def with defaults -/
theorem mkHasD {k : Nat} {ps : List Str} {sp : Sp} {d : He.DefD} {N : List Str} {dv dvs : List V} {kw : List (Str × V)} (hd : ∃ fd, FunD K d.name d.qual d.params d.body d.scope dv kw (He.fAd K d.at_) fd) (S : FnScope N ps d.scope)
    (hb : ∀ fd, FunD K d.name d.qual d.params d.body d.scope dv kw (He.fAd K d.at_) fd → ∃ ds, Vals dvs ds ∧ Binds K fd ps ds)
    (len : ∀ vs H Q E, sp vs H Q E → vs.length = ps.length)
    (hbody : ∀ (cdv : Value) (A : Around) (outer : List Env) (s : Shared) (H : Hp) (vs : List V) (Q : VK) (E : XK), Room k (A.deeper (envOfC d.qual d.scope s.heap.objs.size (He.fAd K d.at_) cdv)) → sp vs H Q E →
      ∃ t, PSs (cxOf CX0 P w K mg base N d.qual d.scope (He.fAd K d.at_) cdv A outer s H E).nox d.body t ∧ t { nx := fun _ H' => Q .non H', rt := Q } (L2.start N vs) H) :
    Has P w K mg base (k + 1) (He.fAd K d.at_) ps dvs sp := by
  obtain ⟨fd, F⟩ := hd
  obtain ⟨ds, hv, hB⟩ := hb fd F
  refine ⟨⟨fd, ds, F.ok S len fun cdv A outer s H vs Q E hr hsp => ?_, hB, hv⟩, F.kp⟩
  obtain ⟨t, h, q⟩ := hbody cdv A outer s H vs Q E hr hsp
  exact ⟨t, h.nox, q⟩
def spS_init (K : PySem.W.Frag) : Sp := fun vs H Q _ => ∃ (G : Hp) (x y s m dx : Addr) (wd : Option Str) (R : Rs) (out : M) (M0 : Nat), vs = [.ref x, .ref y, optS wd] ∧ H x = some (.ins (cS K) dx []) ∧ Same G H ∧ G x = none ∧ SysAt K G y R s m ∧ R.Ok ∧ IsOut R out ∧ IsB R M0 ∧ M0 ≤ 3000 ∧
  ∀ H' F h k sd sm o B, SpF K F x y h k sd sm s m o wd R out B → SpD H' F k sd sm (told R wd) 0 → Same G F → But [x] H H' → Q .non H'
theorem fld_step {G H H1 : Hp} {x C dx : Addr} {fs : List (Str × V)} (sG : Same G H1) (gx : G x = none) (hb : But [x] H H1) : Same G (upd H1 x (.ins C dx fs)) ∧ upd H1 x (.ins C dx fs) x = some (.ins C dx fs) ∧ But [x] H (upd H1 x (.ins C dx fs)) := ⟨sG.mut gx, upd_same, hb.upd (.inl (by simp))⟩
abbrev sf1 (y : Addr) : List (Str × V) := [("system", .ref y)]
abbrev sf2 (y : Addr) (w : V) : List (Str × V) := [("system", .ref y), ("word", w)]
abbrev sf3 (y : Addr) (w : V) (o : Addr) : List (Str × V) := [("system", .ref y), ("word", w), ("outer", .ref o)]
abbrev sf4 (y : Addr) (w : V) (o : Addr) (t : Int) : List (Str × V) := [("system", .ref y), ("word", w), ("outer", .ref o), ("top", .int t)]
abbrev sf5 (y : Addr) (w : V) (o : Addr) (t : Int) (h : Addr) : List (Str × V) := [("system", .ref y), ("word", w), ("outer", .ref o), ("top", .int t), ("held", .ref h)]
abbrev sf6 (y : Addr) (w : V) (o : Addr) (t : Int) (h sd : Addr) : List (Str × V) := [("system", .ref y), ("word", w), ("outer", .ref o), ("top", .int t), ("held", .ref h), ("said", .ref sd)]
theorem pf1 {y : Addr} : putF ("system" : Str) (.ref y) [] = sf1 y := by with_unfolding_all rfl
theorem pf2 {y : Addr} {w : V} : putF ("word" : Str) w (sf1 y) = sf2 y w := by with_unfolding_all rfl
theorem pf3 {y o : Addr} {w : V} : putF ("outer" : Str) (.ref o) (sf2 y w) = sf3 y w o := by with_unfolding_all rfl
theorem pf4 {y o : Addr} {w : V} {t : Int} : putF ("top" : Str) (.int t) (sf3 y w o) = sf4 y w o t := by with_unfolding_all rfl
theorem pf4' {y o : Addr} {w : V} {t u : Int} : putF ("top" : Str) (.int t) (sf4 y w o u) = sf4 y w o t := by with_unfolding_all rfl
theorem pf5 {y o h : Addr} {w : V} {t : Int} : putF ("held" : Str) (.ref h) (sf4 y w o t) = sf5 y w o t h := by with_unfolding_all rfl
theorem pf6 {y o h sd : Addr} {w : V} {t : Int} : putF ("said" : Str) (.ref sd) (sf5 y w o t h) = sf6 y w o t h sd := by with_unfolding_all rfl
theorem pf7 {y o h sd sm : Addr} {w : V} {t : Int} : putF ("sums" : Str) (.ref sm) (sf6 y w o t h sd) = spoF y w o t h sd sm := by with_unfolding_all rfl
theorem lk3 {y o : Addr} {w : V} : (sf3 y w o).lookup ("outer" : Str) = some (.ref o) := by with_unfolding_all rfl
theorem lk4 {y o : Addr} {w : V} {t : Int} : (sf4 y w o t).lookup ("outer" : Str) = some (.ref o) := by with_unfolding_all rfl
theorem lk4t {y o : Addr} {w : V} {t : Int} : (sf4 y w o t).lookup ("top" : Str) = some (.int t) := by with_unfolding_all rfl
theorem S_init_body (W : Wd K mg) {A : Around} {outer : List Env} {s0 : Shared} {H : Hp} {vs : List V} {Q : VK} {E : XK} {cdv : Value} (hr : Room 2 (A.deeper (envOfC d_S_init.qual d_S_init.scope s0.heap.objs.size (He.fAd K d_S_init.at_) cdv))) (h : spS_init K vs H Q E) :
    ∃ t, PSs (cxOf CX0 P w K mg base N_S_init d_S_init.qual d_S_init.scope (He.fAd K d_S_init.at_) cdv A outer s0 H E).nox d_S_init.body t ∧ t { nx := fun _ H' => Q .non H', rt := Q } (L2.start N_S_init vs) H := by
  have h_Y_endless := ok_Y_endless (P := P) (w := w) (base := base) W
  have h_Y_bounded_maximum := ok_Y_bounded_maximum (P := P) (w := w) (base := base) W
  have h_D_init := ok_D_init (P := P) (w := w) (base := base) W
  obtain ⟨G, x, y, s, m, dx, wd, R, out, M0, rfl, hx, sG, gx, hY, ok, hO, hM, hM0, q⟩ := h
  have hv := ok.mv _ hO.mem
  have hv2 := ok.ml _ hO.mem
  obtain ⟨dy, vv, rr, gy⟩ := hY.ins
  refine ⟨_, (pss_mid (ps_fld (pv 0) (pv 1) rfl)
      (pss_mid (ps_fld (pv 0) (pv 2) rfl)
      (pss_mid (ps_fld (pv 0) (pe_methH0 h_Y_endless W.k_System W.m_System_endless (hr.mono (by omega)) (pv 1)) rfl)
      (pss_mid (ps_fld (pv 0) (pe_methH0 h_Y_bounded_maximum W.k_System W.m_System_bounded_maximum (hr.mono (by omega)) (pv 1)) rfl)
      (pss_mid (ps_if (pt_cmpR op_notN1 (pe_fld (pv 0) rfl) pe_non (nomark _)) (pss_one (ps_fld (pv 0) (pe_op op_nsub (pe_op op_nmul (pe_op op_nadd (pe_op op_ndiv (pe_fld (pv 0) rfl) (pe_ix ix_tup (pe_fld (pv 0) rfl) pe_int (fun _ _ => rfl))) pe_int) (pe_ix ix_tup (pe_fld (pv 0) rfl) pe_int (fun _ _ => rfl))) pe_int) rfl)) pss_nil)
      (pss_mid (ps_fld (pv 0) (pe_makeH h_D_init W.i_Derivations W.g_Derivations (hr.mono (by decide)) rfl (pa_cons (pv 1) pa_nil)) rfl)
      (pss_mid (ps_fld (pv 0) (pe_lst (pa_cons pe_non pa_nil)) rfl)
      (pss_one (ps_fld (pv 0) (pe_lst (pa_cons (pe_tup (pa_cons pe_int (pa_cons pe_int pa_nil))) pa_nil)) rfl))))))))), ?_⟩
  have nxy : y ≠ x := no_in gy gx
  -- system
  refine ⟨fun σ H' => Same G H' ∧ H' x = some (.ins (cS K) dx (sf1 y)) ∧ But [x] H H' ∧ σ = [some (.ref x), some (.ref y), some (optS wd)], ?_, ?_⟩
  · refine ⟨_, rfl, _, rfl, x, _, dx, _, rfl, hx, W.k_Spoken, W.n_Spoken_system, by decide, ?_⟩
    rw [pf1]
    obtain ⟨a, b, c⟩ := fld_step (H := H) (C := cS K) (dx := dx) (fs := sf1 y) sG gx (But.refl _ _)
    exact ⟨a, b, c, rfl⟩
  rintro σ H1 ⟨s1, x1, b1, rfl⟩
  refine ⟨fun σ H' => Same G H' ∧ H' x = some (.ins (cS K) dx (sf2 y (optS wd))) ∧ But [x] H H' ∧ σ = [some (.ref x), some (.ref y), some (optS wd)], ?_, ?_⟩
  · refine ⟨_, rfl, _, rfl, x, _, dx, _, rfl, x1, W.k_Spoken, W.n_Spoken_word, (by show 1 < 1000; decide), ?_⟩
    rw [pf2]
    obtain ⟨a, b, c⟩ := fld_step (C := cS K) (dx := dx) (fs := sf2 y (optS wd)) s1 gx b1
    exact ⟨a, b, c, rfl⟩
  rintro σ H2 ⟨s2, x2, b2, rfl⟩
  refine ⟨fun σ H' => ∃ o, SqT K G o (mulL out) ∧ Same G H' ∧ H' x = some (.ins (cS K) dx (sf3 y (optS wd) o)) ∧ But [x] H H' ∧ σ = [some (.ref x), some (.ref y), some (optS wd)], ?_, ?_⟩
  · refine ⟨_, rfl, y, dy, _, rfl, s2 _ _ gy, no_Y.2.1, G, y, s, m, R, out, rfl, s2, hY, hO, fun o ho => ?_⟩
    refine ⟨_, rfl, x, _, dx, _, rfl, x2, W.k_Spoken, W.n_Spoken_outer, (by show 2 < 1000; decide), ?_⟩
    rw [pf3]
    obtain ⟨a, b, c⟩ := fld_step (C := cS K) (dx := dx) (fs := sf3 y (optS wd) o) s2 gx b2
    exact ⟨o, ho, a, b, c, rfl⟩
  rintro σ H3 ⟨o, ho, s3, x3, b3, rfl⟩
  refine ⟨fun σ H' => ∃ B, IsB R B ∧ B ≤ M0 ∧ Same G H' ∧ H' x = some (.ins (cS K) dx (sf4 y (optS wd) o (B : Nat))) ∧ But [x] H H' ∧ σ = [some (.ref x), some (.ref y), some (optS wd)], ?_, ?_⟩
  · refine ⟨_, rfl, y, dy, _, rfl, s3 _ _ gy, no_Y.2.2, y, s, m, R, M0, rfl, hY.same s3, ok, hM, fun H4 B s34 hB hBM => ?_⟩
    refine ⟨_, rfl, x, _, dx, _, rfl, s34 _ _ x3, W.k_Spoken, W.n_Spoken_top, (by show 3 < 1000; decide), ?_⟩
    rw [pf4]
    obtain ⟨a, b, c⟩ := fld_step (C := cS K) (dx := dx) (fs := sf4 y (optS wd) o (B : Nat)) (s3.trans s34) gx (b3.trans (But.of s34))
    exact ⟨B, hB, hBM, a, b, c, rfl⟩
  rintro σ H4 ⟨B, hB, hBM, s4, x4, b4, rfl⟩
  have hto := top_lt (B := B) hv
  have hle := top_val (B := B) hv
  have hdm := Nat.div_mul_le_self B out.value
  have htop : topOf B out ≤ 4000 := by rw [Nat.add_mul] at hto; omega
  refine ⟨fun σ H' => Same G H' ∧ H' x = some (.ins (cS K) dx (sf4 y (optS wd) o (topOf B out : Nat))) ∧ But [x] H H' ∧ σ = [some (.ref x), some (.ref y), some (optS wd)], ?_, ?_⟩
  · refine ⟨_, rfl, _, _, _, _, _, rfl, x4, W.k_Spoken, W.n_Spoken_outer, lk4, rfl, _, rfl, iteT' rfl ?_⟩
    have ho4 := s4.tup ho
    refine ⟨_, rfl, _, _, _, _, _, rfl, x4, W.k_Spoken, W.n_Spoken_top, lk4t, _, rfl, _, _, _, _, _, rfl, x4, W.k_Spoken, W.n_Spoken_outer, lk4, o, mulL out, _, _, rfl, rfl, ho4, rfl, _, _, rfl, rfl, ⟨by omega, by omega⟩, _, 1, rfl, rfl, _, rfl, _, _, _, _, _, rfl, x4, W.k_Spoken, W.n_Spoken_outer, lk4, o, mulL out, _, _, rfl, rfl, ho4, rfl, _, _, rfl, rfl, .inr (by omega), _, 1, rfl, rfl, by omega, _, rfl, x, _, dx, _, rfl, x4, W.k_Spoken, W.n_Spoken_top, (by show 4 < 1000; decide), ?_⟩
    rw [pf4']
    obtain ⟨a, b, c⟩ := fld_step (C := cS K) (dx := dx) (fs := sf4 y (optS wd) o (topOf B out : Nat)) s4 gx b4
    exact ⟨a, b, c, rfl⟩
  rintro σ H5 ⟨s5, x5, b5, rfl⟩
  refine ⟨fun σ H' => ∃ h dh k, Same G H' ∧ H' x = some (.ins (cS K) dx (sf5 y (optS wd) o (topOf B out : Nat) h)) ∧ But [x] H H' ∧ G h = none ∧ h ≠ x ∧ H' h = some (.ins (cD K) dh (derF y k)) ∧ H' k = some (.dK []) ∧ G k = none ∧ σ = [some (.ref x), some (.ref y), some (optS wd)], ?_, ?_⟩
  · refine ⟨_, rfl, fun h dh nh ndh hne => ⟨h, y, dh, rfl, upd_same, fun k H6 nk b6 hh hk => ⟨rfl, ?_⟩⟩⟩
    have hxh : x ≠ h := no_in x5 nh
    have hxd : x ≠ dh := no_in x5 ndh
    have sa : Same H5 (upd (upd H5 dh (.own h)) h (.ins (cD K) dh [])) := (Same.new ndh).new' (by rw [upd_ne hne.symm]; exact nh)
    have s56 : Same H5 H6 := b6.base sa (by simpa using nh)
    have gk : G k = none := s5.free (sa.free nk)
    have nkx : k ≠ x := (no_in (sa _ _ x5) nk).symm
    refine ⟨_, rfl, x, _, dx, _, rfl, s56 _ _ x5, W.k_Spoken, W.n_Spoken_held, (by show 4 < 1000; decide), ?_⟩
    rw [pf5]
    obtain ⟨a, b, c⟩ := fld_step (C := cS K) (dx := dx) (fs := sf5 y (optS wd) o (topOf B out : Nat) h) (s5.trans s56) gx (b5.trans (But.of s56))
    exact ⟨h, dh, k, a, b, c, s5.free nh, hxh.symm, by rw [upd_ne hxh.symm]; exact hh, by rw [upd_ne nkx]; exact hk, gk, rfl⟩
  rintro σ H6 ⟨h, dh, k, s6, x6, b6, gh, hhx, h6, k6, gk, rfl⟩
  have nkx : k ≠ x := ne_of k6 x6 (by intro z; cases z)
  refine ⟨fun σ H' => ∃ sd, Same G H' ∧ H' x = some (.ins (cS K) dx (sf6 y (optS wd) o (topOf B out : Nat) h sd)) ∧ But [x] H H' ∧ H' h = some (.ins (cD K) dh (derF y k)) ∧ H' k = some (.dK []) ∧ H' sd = some (.lst [.non]) ∧ G sd = none ∧ σ = [some (.ref x), some (.ref y), some (optS wd)], ?_, ?_⟩
  · refine ⟨(by show 1 ≤ sizeLine; decide), fun sd nsd => ?_⟩
    have sn : Same H6 (upd H6 sd (.lst [.non])) := Same.new nsd
    have nxs : x ≠ sd := no_in x6 nsd
    refine ⟨_, rfl, x, _, dx, _, rfl, sn _ _ x6, W.k_Spoken, W.n_Spoken_said, (by show 5 < 1000; decide), ?_⟩
    rw [pf6]
    obtain ⟨a, b, c⟩ := fld_step (C := cS K) (dx := dx) (fs := sf6 y (optS wd) o (topOf B out : Nat) h sd) (s6.trans sn) gx (b6.trans (But.of sn))
    exact ⟨sd, a, b, c, by rw [upd_ne hhx]; exact sn _ _ h6, by rw [upd_ne nkx]; exact sn _ _ k6, by rw [upd_ne nxs.symm, upd_same], s6.free nsd, rfl⟩
  rintro σ H7 ⟨sd, s7, x7, b7, h7, k7, d7, gsd, rfl⟩
  refine ⟨(by show 2 ≤ sizeLine; decide), fun t nt => ?_⟩
  refine ⟨(by show 1 ≤ sizeLine; decide), fun sm nsm => ?_⟩
  have sn : Same H7 (upd (upd H7 t (.tup [.int 0, .int 0])) sm (.lst [.ref t])) := (Same.new nt).new' nsm
  have nxs : x ≠ sm := no_in ((Same.new nt) _ _ x7) nsm
  refine ⟨_, rfl, x, _, dx, _, rfl, sn _ _ x7, W.k_Spoken, W.n_Spoken_sums, (by show 6 < 1000; decide), ?_⟩
  rw [pf7]
  obtain ⟨a, b, c⟩ := fld_step (C := cS K) (dx := dx) (fs := spoF y (optS wd) o (topOf B out : Nat) h sd sm) (s7.trans sn) gx (b7.trans (But.of sn))
  have nsx : sd ≠ x := ne_of d7 x7 (by intro z; cases z)
  have nkh : k ≠ h := ne_of k7 h7 (by intro z; cases z)
  have nsh : sd ≠ h := ne_of d7 h7 (by intro z; cases z)
  have nks : k ≠ sd := ne_of k7 d7 (by intro z; cases z)
  have nhm : h ≠ sm := no_in ((Same.new nt) _ _ h7) nsm
  have nsm2 : sd ≠ sm := no_in ((Same.new nt) _ _ d7) nsm
  have ntm : t ≠ sm := no_in upd_same nsm
  have ntx : t ≠ x := (no_in x7 nt).symm
  have gsm : G sm = none := s7.free ((Same.new nt).free nsm)
  have sGF : Same G (upd (upd G h (.ins (cD K) dh (derF y k))) x (.ins (cS K) dx (spoF y (optS wd) o (topOf B out : Nat) h sd sm))) := (Same.new gh).new' (by rw [upd_ne hhx.symm]; exact gx)
  refine q _ (upd (upd G h (.ins (cD K) dh (derF y k))) x (.ins (cS K) dx (spoF y (optS wd) o (topOf B out : Nat) h sd sm))) h k sd sm o B ?_ ?_ sGF c
  · refine ⟨⟨dx, upd_same⟩, ⟨⟨dh, by rw [upd_ne hhx, upd_same]⟩, hY.same sGF⟩, sGF.tup ho, ok, hB, hO, htop, ?_, ?_, ?_⟩
    · rw [upd_ne nsx, upd_ne nsh]; exact gsd
    · rw [upd_ne nxs.symm, upd_ne nhm.symm]; exact gsm
    · rw [upd_ne nkx, upd_ne nkh]; exact gk
  · refine ⟨?_, ?_, ?_, ⟨[.ref t], ?_, ?_⟩, nsm2⟩
    · intro e oo he
      by_cases h1 : e = x
      · subst h1
        rw [upd_same] at he
        rw [b]
        exact he
      · rw [upd_ne h1] at he
        by_cases h2 : e = h
        · subst h2
          rw [upd_same] at he
          rw [upd_ne hhx, sn _ _ h7]
          exact he
        · rw [upd_ne h2] at he
          exact a _ _ he
    · rw [upd_ne nkx]; exact sn _ _ k7
    · rw [upd_ne nsx, sn _ _ d7, show (List.range (0 + 1)).map (fun i => cntV (told R wd i)) = [cntV (told R wd 0)] from rfl, told_zero ok]
      rfl
    · rw [upd_ne nxs.symm, upd_same]
    · refine Rel.cons ⟨t, rfl, ?_⟩ Rel.nil
      rw [upd_ne ntx, upd_ne ntm, upd_same]
      rfl
theorem ok_S_init1 (W : Wd K mg) : Has P w K mg base 3 (He.ma K (He.ga K "Spoken") "__init__") ["self", "system", "word"] [.non] (spS_init K) :=
  mkHasD (d := d_S_init) (N := N_S_init) (ps := ["self", "system", "word"]) (dv := [.non]) (W.says.def_ 17) sc_S_init
    (fun fd F => F.binds1 2 0 (by simp) rfl fun T kV doc pm an cdv ct us its h1 h2 => match us, its, h1, h2 with | [_, _], [_], _, _ => ⟨_, rfl, rfl⟩)
    (fun vs H Q E h => by obtain ⟨_, _, _, _, _, _, _, _, _, _, rfl, _⟩ := h; rfl) (fun cdv A outer s0 H vs Q E hr h => S_init_body W hr h)
theorem ok_S_init2 (W : Wd K mg) : Has P w K mg base 3 (He.ma K (He.ga K "Spoken") "__init__") ["self", "system", "word"] [] (spS_init K) :=
  mkHasD (d := d_S_init) (N := N_S_init) (ps := ["self", "system", "word"]) (dv := [.non]) (W.says.def_ 17) sc_S_init
    (fun fd F => F.binds1 3 1 (by simp) rfl fun T kV doc pm an cdv ct us its h1 h2 => match us, its, h1, h2 with | [_, _, _], [_], _, _ => ⟨_, rfl, rfl⟩)
    (fun vs H Q E h => by obtain ⟨_, _, _, _, _, _, _, _, _, _, rfl, _⟩ := h; rfl) (fun cdv A outer s0 H vs Q E hr h => S_init_body W hr h)

end
end Sy

/-! part: S8 -/
set_option Elab.async false
set_option linter.all false
set_option maxRecDepth 100000
set_option maxHeartbeats 4000000
namespace Sy
open PySem PySem.Spec PyProof.Rows L2
section
variable {P : Program} {w : World} {K : PySem.W.Frag} {mg : Str → Option Value} {base : Heap}
def sp_check_range : Sp := fun vs H Q _ => ∃ a b : Nat, vs = [.int (a : Nat), .int (b : Nat)] ∧ 1 ≤ a ∧ a ≤ b ∧ Q .non H
theorem ok_check_range (W : Wd K mg) : Has P w K mg base 1 (He.ga K "check_range") ["start", "stop"] [] sp_check_range := by
  refine mkHas (d := d_check_range) (N := N_check_range) (ps := ["start", "stop"]) (W.says.def_ 16) sc_check_range (fun _ _ _ _ _ _ us hl => match us, hl with | [_, _], _ => rfl) (fun vs H Q E h => ?_) (fun cdv A outer s0 H vs Q E hr h => ?_)
  · obtain ⟨_, _, rfl, _⟩ := h
    rfl
  obtain ⟨a, b, rfl, h1, h2, q⟩ := h
  refine ⟨_, (pss_one (ps_if (PW.pt (pw_or (pt_cmpR op_lt (pv 0) pe_int (nomark _)) (pw_or1 (pt_cmpR op_lt (pv 1) (pv 0) (nomark _))))) (pss_one ps_never) pss_nil)), ?_⟩
  refine ⟨_, rfl, _, _, rfl, rfl, _, rfl, iteF' (decide_eq_false (by omega)) ?_⟩
  refine ⟨_, rfl, _, rfl, _, _, rfl, rfl, _, rfl, iteF' (decide_eq_false (by omega)) ?_⟩
  exact q
def sp_between (K : PySem.W.Frag) : Sp := fun vs H Q _ => ∃ (y s m : Addr) (R : Rs) (out : M) (M0 : Nat) (wd : Option Str) (a b : Nat), vs = [.ref y, optS wd, .int (a : Nat), .int (b : Nat)] ∧ SysAt K H y R s m ∧ R.Ok ∧ IsOut R out ∧ IsB R M0 ∧ M0 ≤ 3000 ∧ 1 ≤ a ∧ a ≤ b ∧ b < 2 ^ 1000 ∧
  ∀ H', Same H H' → Q (.int ((sums (told R wd) b).2 - (sums (told R wd) (a - 1)).2 : Nat)) H'
theorem ok_said_between (W : Wd K mg) : Has P w K mg base 8 (He.ga K "said_between") ["system", "word", "start", "stop"] [] (sp_between K) := by
  have h_S_init2 := ok_S_init2 (P := P) (w := w) (base := base) W
  have h_S_up_to := ok_S_up_to (P := P) (w := w) (base := base) W
  refine mkHas (d := d_said_between) (N := N_said_between) (ps := ["system", "word", "start", "stop"]) (W.says.def_ 25) sc_said_between (fun _ _ _ _ _ _ us hl => match us, hl with | [_, _, _, _], _ => rfl) (fun vs H Q E h => ?_) (fun cdv A outer s0 H vs Q E hr h => ?_)
  · obtain ⟨_, _, _, _, _, _, _, _, _, rfl, _⟩ := h
    rfl
  obtain ⟨y, s, m, R, out, M0, wd, a, b, rfl, hY, ok, hO, hM, hM0, h1, h2, h3, q⟩ := h
  refine ⟨_, (pss_cons (ps_set (i := 4) sc_said_between.nd rfl (Or.inl rfl) (pe_makeH h_S_init2 W.i_Spoken W.g_Spoken (hr.mono (by decide)) rfl (pa_cons (pv 0) (pa_cons (pv 1) pa_nil))))
      (pss_one (ps_ret (pe_op op_nsub (pe_ix ix_tup (pe_methH h_S_up_to W.k_Spoken W.m_Spoken_up_to (hr.mono (by omega)) (pv 4) (pa_cons (pv 3) pa_nil)) pe_int (fun _ _ => rfl)) (pe_ix ix_tup (pe_methH h_S_up_to W.k_Spoken W.m_Spoken_up_to (hr.mono (by omega)) (pv 4) (pa_cons (pe_op op_nsub (pv 2) pe_int) pa_nil)) pe_int (fun _ _ => rfl)))))), ?_⟩
  refine ⟨_, rfl, _, rfl, fun x dx nx ndx hne => ?_⟩
  have s1 : Same H (upd (upd H dx (.own x)) x (.ins (cS K) dx [])) := (Same.new ndx).new' (by rw [upd_ne hne.symm]; exact nx)
  refine ⟨H, x, y, s, m, dx, wd, R, out, M0, rfl, upd_same, s1, nx, hY, ok, hO, hM, hM0, fun H1 F h k sd sm o B hF hS sHF b1 => ⟨rfl, ?_⟩⟩
  obtain ⟨dx', fx⟩ := hF.ins
  have hx := hS.same _ _ fx
  refine ⟨_, rfl, x, dx', _, rfl, hx, no_S _ (by decide +kernel), _, rfl, F, x, y, h, k, sd, sm, s, m, o, wd, R, out, B, 0, b, rfl, hF, hS, by omega, h3, fun t H2 N2 hS2 hN2 l2 b2 ht => ?_⟩
  have hx2 := hS2.same _ _ fx
  refine ⟨t, _, _, _, rfl, rfl, SqT.of ht, rfl, _, rfl, x, dx', _, rfl, hx2, no_S _ (by decide +kernel), _, rfl, _, 1, rfl, rfl, h1, F, x, y, h, k, sd, sm, s, m, o, wd, R, out, B, N2, a - 1, rfl, hF, hS2, hN2, Nat.lt_of_le_of_lt (by omega) h3, fun t3 H3 N3 hS3 hN3 l3 b3 ht3 => ?_⟩
  refine ⟨t3, _, _, _, rfl, rfl, SqT.of ht3, rfl, _, _, rfl, rfl, (sums_le (told R wd) (show a - 1 ≤ b by omega)).2, ?_⟩
  exact q H3 (sHF.trans hS3.same)
def sp_words_said (K : PySem.W.Frag) : Sp := fun vs H Q _ => ∃ (y s m : Addr) (R : Rs) (out : M) (M0 : Nat) (a b : Nat), vs = [.ref y, .int (a : Nat), .int (b : Nat)] ∧ SysAt K H y R s m ∧ R.Ok ∧ IsOut R out ∧ IsB R M0 ∧ M0 ≤ 3000 ∧ 1 ≤ a ∧ a ≤ b ∧ b < 2 ^ 1000 ∧
  ∀ H', Same H H' → Q (.int ((sums (told R none) b).2 - (sums (told R none) (a - 1)).2 : Nat)) H'
theorem ok_words_said (W : Wd K mg) : Has P w K mg base 9 (He.ga K "words_said") ["system", "start", "stop"] [] (sp_words_said K) := by
  have h_check_range := ok_check_range (P := P) (w := w) (base := base) W
  have h_said_between := ok_said_between (P := P) (w := w) (base := base) W
  refine mkHas (d := d_words_said) (N := N_words_said) (ps := ["system", "start", "stop"]) (W.says.def_ 26) sc_words_said (fun _ _ _ _ _ _ us hl => match us, hl with | [_, _, _], _ => rfl) (fun vs H Q E h => ?_) (fun cdv A outer s0 H vs Q E hr h => ?_)
  · obtain ⟨_, _, _, _, _, _, _, _, rfl, _⟩ := h
    rfl
  obtain ⟨y, s, m, R, out, M0, a, b, rfl, hY, ok, hO, hM, hM0, h1, h2, h3, q⟩ := h
  refine ⟨_, (pss_cons (ps_expr (pe_callH h_check_range W.g_check_range (hr.mono (by omega)) rfl (pa_cons (pv 1) (pa_cons (pv 2) pa_nil))))
      (pss_one (ps_ret (pe_callH h_said_between W.g_said_between (hr.mono (by omega)) rfl (pa_cons (pv 0) (pa_cons pe_non (pa_cons (pv 1) (pa_cons (pv 2) pa_nil)))))))), ?_⟩
  refine ⟨_, rfl, _, rfl, a, b, rfl, h1, h2, ?_⟩
  exact ⟨_, rfl, _, rfl, _, rfl, y, s, m, R, out, M0, none, a, b, rfl, hY, ok, hO, hM, hM0, h1, h2, h3, q⟩
def sp_times_said (K : PySem.W.Frag) : Sp := fun vs H Q _ => ∃ (y s m : Addr) (R : Rs) (out : M) (M0 : Nat) (a b : Nat) (z : Str), vs = [.ref y, .int (a : Nat), .int (b : Nat), .str z] ∧ SysAt K H y R s m ∧ R.Ok ∧ IsOut R out ∧ IsB R M0 ∧ M0 ≤ 3000 ∧ 1 ≤ a ∧ a ≤ b ∧ b < 2 ^ 1000 ∧ z ∈ wordsL R ∧
  ∀ H', Same H H' → Q (.int ((sums (told R (some z)) b).2 - (sums (told R (some z)) (a - 1)).2 : Nat)) H'
theorem all_flat : ∀ l : List Str, (l.map V.str).all flatV = true
  | [] => rfl
  | _ :: l => all_flat l
theorem in_words {z : Str} : ∀ {l : List Str}, z ∈ l → inV (.str z) (l.map V.str) = true
  | y :: l, h => by
    rcases List.mem_cons.mp h with e | e
    · subst e; simp [inV, eqV]
    · have := in_words e
      simp only [inV, List.map_cons, List.any_cons] at this ⊢
      rw [this]
      simp
theorem ok_times_said (W : Wd K mg) : Has P w K mg base 9 (He.ga K "times_said") ["system", "start", "stop", "word"] [] (sp_times_said K) := by
  have h_check_range := ok_check_range (P := P) (w := w) (base := base) W
  have h_said_between := ok_said_between (P := P) (w := w) (base := base) W
  have h_Y_words := ok_Y_words (P := P) (w := w) (base := base) W
  refine mkHas (d := d_times_said) (N := N_times_said) (ps := ["system", "start", "stop", "word"]) (W.says.def_ 27) sc_times_said (fun _ _ _ _ _ _ us hl => match us, hl with | [_, _, _, _], _ => rfl) (fun vs H Q E h => ?_) (fun cdv A outer s0 H vs Q E hr h => ?_)
  · obtain ⟨_, _, _, _, _, _, _, _, _, rfl, _⟩ := h
    rfl
  obtain ⟨y, s, m, R, out, M0, a, b, z, rfl, hY, ok, hO, hM, hM0, h1, h2, h3, hz, q⟩ := h
  obtain ⟨dy, v, r, hy⟩ := hY.ins
  refine ⟨_, (pss_cons (ps_expr (pe_callH h_check_range W.g_check_range (hr.mono (by omega)) rfl (pa_cons (pv 1) (pa_cons (pv 2) pa_nil))))
      (pss_cons (ps_if (pt_cmpR op_notIn_seq (pv 3) (pe_methH0 h_Y_words W.k_System W.m_System_words (hr.mono (by omega)) (pv 0)) rfl) (pss_one ps_never) pss_nil)
      (pss_one (ps_ret (pe_callH h_said_between W.g_said_between (hr.mono (by omega)) rfl (pa_cons (pv 0) (pa_cons (pv 3) (pa_cons (pv 1) (pa_cons (pv 2) pa_nil))))))))), ?_⟩
  refine ⟨_, rfl, _, rfl, a, b, rfl, h1, h2, ?_⟩
  refine ⟨_, rfl, _, rfl, y, dy, _, rfl, hy, no_Y.1, y, s, m, R, rfl, hY, ok, fun t H1 s1 ht => ?_⟩
  refine ⟨t, _, rfl, .inr (SqT.of ht), rfl, all_flat _, _, rfl, ?_⟩
  rw [if_pos rfl, in_words hz]
  refine iteF' rfl ?_
  exact ⟨_, rfl, _, rfl, _, rfl, _, rfl, y, s, m, R, out, M0, some z, a, b, rfl, hY.same s1, ok, hO, hM, hM0, h1, h2, h3, fun H' s2 => q H' (s1.trans s2)⟩
/-! longest -/
def bestOf (t : Nat → Option Nat) (a : Nat) : Nat → Nat × Nat
  | 0 => (a, 0)
  | j + 1 => match t (a + j) with
    | none => bestOf t a j
    | some z => if (bestOf t a j).2 < z then (a + j, z) else bestOf t a j
theorem bestOf_none {t : Nat → Option Nat} {a j : Nat} (e : t (a + j) = none) : bestOf t a (j + 1) = bestOf t a j := by rw [bestOf, e]
theorem bestOf_some {t : Nat → Option Nat} {a j z : Nat} (e : t (a + j) = some z) : bestOf t a (j + 1) = if (bestOf t a j).2 < z then (a + j, z) else bestOf t a j := by rw [bestOf, e]
theorem bestOf_in (t : Nat → Option Nat) (a : Nat) : ∀ j, (bestOf t a j).2 = 0 ∨ (t (bestOf t a j).1 = some (bestOf t a j).2 ∧ a ≤ (bestOf t a j).1 ∧ (bestOf t a j).1 < a + j)
  | 0 => .inl rfl
  | j + 1 => by
    have ih := bestOf_in t a j
    cases e : t (a + j) with
    | none =>
      rw [bestOf_none e]
      rcases ih with h | ⟨h1, h2, h3⟩
      · exact .inl h
      · exact .inr ⟨h1, h2, by omega⟩
    | some z =>
      rw [bestOf_some e]
      by_cases hz : (bestOf t a j).2 < z
      · rw [if_pos hz]
        exact .inr ⟨e, by show a ≤ a + j; omega, by show a + j < a + (j + 1); omega⟩
      · rw [if_neg hz]
        rcases ih with h | ⟨h1, h2, h3⟩
        · exact .inl h
        · exact .inr ⟨h1, h2, by omega⟩
/-- what the derivations of a number need -/
structure Lst (R : Rs) (L : List Nat) : Prop where
  cl : ∀ a ∈ L, ∀ b ∈ below R a, b ∈ L
  len : L.length ≤ 5000
  wb : ∀ a ∈ L, WB R a
def resL (R : Rs) (p : Nat × Nat) : List Str := if p.2 = 0 then [] else (phr R p.1).getD []
def sp_longest_said (K : PySem.W.Frag) : Sp := fun vs H Q _ => ∃ (y s m : Addr) (R : Rs) (out : M) (M0 : Nat) (a b : Nat), vs = [.ref y, .int (a : Nat), .int (b : Nat)] ∧ SysAt K H y R s m ∧ R.Ok ∧ IsOut R out ∧ IsB R M0 ∧ M0 ≤ 3000 ∧ 1 ≤ a ∧ a ≤ b ∧ b - a ≤ 1000 ∧
  (∀ n, a ≤ n → n ≤ b → (∃ L, n ∈ L ∧ Lst R L) ∧ PB R n) ∧
  ∀ H' t u, Same H H' → H' t = some (.tup [.int ((bestOf (told R none) a (b + 1 - a)).1 : Nat), .ref u]) → H' u = some (.tup ((resL R (bestOf (told R none) a (b + 1 - a))).map V.str)) → Q (.ref t) H'
theorem told_ways {R : Rs} (ok : R.Ok) {wd : Option Str} {n z : Nat} (h : told R wd n = some z) : 0 < ways R n := by
  rw [ways_pos ok]
  unfold told at h
  obtain ⟨l, h1, _⟩ := Option.map_eq_some_iff.mp h
  rw [h1]
  rfl
theorem ok_longest_said (W : Wd K mg) : Has P w K mg base 7 (He.ga K "longest_said") ["system", "start", "stop"] [] (sp_longest_said K) := by
  have h_check_range := ok_check_range (P := P) (w := w) (base := base) W
  have h_S_init1 := ok_S_init1 (P := P) (w := w) (base := base) W
  have h_S_of := ok_S_of (P := P) (w := w) (base := base) W
  have h_D_first := ok_D_first (P := P) (w := w) (base := base) W
  refine mkHas (d := d_longest_said) (N := N_longest_said) (ps := ["system", "start", "stop"]) (W.says.def_ 28) sc_longest_said (fun _ _ _ _ _ _ us hl => match us, hl with | [_, _, _], _ => rfl) (fun vs H Q E h => ?_) (fun cdv A outer s0 H vs Q E hr h => ?_)
  · obtain ⟨_, _, _, _, _, _, _, _, rfl, _⟩ := h
    rfl
  obtain ⟨y, s, m, R, out, M0, a, b, rfl, hY, ok, hO, hM, hM0, h1, h2, h3, hL, q⟩ := h
  refine ⟨_, (pss_cons (ps_expr (pe_callH h_check_range W.g_check_range (hr.mono (by omega)) rfl (pa_cons (pv 1) (pa_cons (pv 2) pa_nil))))
      (pss_cons (ps_if (pt_cmpR op_gt (pe_op op_nsub (pv 2) (pv 1)) (pe_globI W.c_MOST_APART rfl) (nomark _)) (pss_one ps_never) pss_nil)
      (pss_cons (ps_set (i := 3) sc_longest_said.nd rfl (Or.inl rfl) (pe_makeH h_S_init1 W.i_Spoken W.g_Spoken (hr.mono (by decide)) rfl (pa_cons (pv 0) pa_nil)))
      (pss_cons (ps_set (i := 4) sc_longest_said.nd rfl (Or.inl rfl) (pv 1))
      (pss_cons (ps_set (i := 5) sc_longest_said.nd rfl (Or.inl rfl) pe_int)
      (pss_cons (ps_for PassesOwn.never rfl (pi_rangeB rfl W.f_range (pa_cons (pv 1) (pa_cons (pe_op op_nadd (pv 2) pe_int) pa_nil))) (pg_name (i := 6) sc_longest_said.nd rfl (Or.inl rfl)) (pss_cons (ps_set (i := 7) sc_longest_said.nd rfl (Or.inl rfl) (pe_methH h_S_of W.k_Spoken W.m_Spoken_of (hr.mono (by omega)) (pv 3) (pa_cons (pv 6) pa_nil)))
      (pss_one (ps_if (PW.pt (pw_and (pt_cmpR op_notN1 (pv 7) pe_non (nomark _)) (pw_and1 (pt_cmpR op_gt (pv 7) (pv 5) (nomark _))))) (pss_cons (ps_set (i := 4) sc_longest_said.nd rfl (Or.inl rfl) (pv 6))
      (pss_one (ps_set (i := 5) sc_longest_said.nd rfl (Or.inl rfl) (pv 7)))) pss_nil))))
      (pss_one (ps_ret (pe_tup (pa_cons (pv 4) (pa_cons (pe_ifExp (pt_cmpR op_eq (pv 5) pe_int (nomark _)) (pe_tup pa_nil) (pe_methH h_D_first W.k_Derivations W.m_Derivations_first (hr.mono (by omega)) (pe_fld (pv 3) rfl) (pa_cons (pv 4) pa_nil))) pa_nil))))))))))), ?_⟩
  refine ⟨_, rfl, _, rfl, a, b, rfl, h1, h2, ?_⟩
  refine ⟨_, rfl, _, rfl, _, _, rfl, rfl, h2, _, _, rfl, rfl, _, rfl, iteF' (decide_eq_false (by omega)) ?_⟩
  refine ⟨_, rfl, fun x dx nx ndx hne => ?_⟩
  have s1 : Same H (upd (upd H dx (.own x)) x (.ins (cS K) dx [])) := (Same.new ndx).new' (by rw [upd_ne hne.symm]; exact nx)
  refine ⟨H, x, y, s, m, dx, none, R, out, M0, rfl, upd_same, s1, nx, hY, ok, hO, hM, hM0, fun H1 F h k sd sm o B hF hS sHF b1 => ⟨rfl, ?_⟩⟩
  obtain ⟨dx', fx⟩ := hF.ins
  refine ⟨_, rfl, ?_⟩
  refine ⟨_, rfl, _, rfl, _, 1, rfl, rfl, _, _, rfl, ?_⟩
  rw [show (((b + 1 : Nat) : Int) - (a : Nat)).toNat = b + 1 - a by omega]
  refine for_range (fun i σ H' => ∃ N a6 a7, SpD H' F k sd sm (told R none) N ∧ N ≤ 4000 ∧ σ = [some (.ref y), some (.int (a : Nat)), some (.int (b : Nat)), some (.ref x), some (.int ((bestOf (told R none) a i).1 : Nat)), some (.int ((bestOf (told R none) a i).2 : Nat)), a6, a7])
    ⟨0, _, _, hS, by omega, rfl⟩ ?_ ?_
  · rintro i σ H2 hi ⟨N, a6, a7, hS2, hN2, rfl⟩
    rw [show ((a : Nat) : Int) + (i : Nat) = ((a + i : Nat) : Int) by omega]
    have hx2 := hS2.same _ _ fx
    refine ⟨_, rfl, x, dx', _, rfl, hx2, no_S _ (by decide +kernel), _, rfl, F, x, y, h, k, sd, sm, s, m, o, none, R, out, B, N, a + i, rfl, hF, hS2, hN2, fun H3 N3 hS3 hN3 l3 b3 => ?_⟩
    cases e : told R none (a + i) with
    | none =>
      refine ⟨_, rfl, rfl, _, rfl, iteF' rfl (iteF ?_)⟩
      exact ⟨N3, _, _, hS3, hN3, by rw [bestOf_none e]; rfl⟩
    | some z =>
      refine ⟨_, rfl, rfl, _, rfl, iteT' rfl ⟨_, rfl, _, rfl, _, _, rfl, rfl, _, rfl, ?_⟩⟩
      have eb : bestOf (told R none) a (i + 1) = if (bestOf (told R none) a i).2 < z then (a + i, z) else bestOf (told R none) a i := bestOf_some e
      refine r_dec (fun hz => ?_) (fun hz => ?_)
      · rw [if_pos (show (bestOf (told R none) a i).2 < z by omega)] at eb
        exact ⟨_, rfl, _, rfl, N3, _, _, hS3, hN3, by rw [eb]; rfl⟩
      · rw [if_neg (show ¬ (bestOf (told R none) a i).2 < z by omega)] at eb
        exact ⟨N3, _, _, hS3, hN3, by rw [eb]; rfl⟩
  · rintro σ H2 ⟨N, a6, a7, hS2, hN2, rfl⟩
    have hx2 := hS2.same _ _ fx
    have hin := bestOf_in (told R none) a (b + 1 - a)
    refine ⟨_, rfl, _, rfl, rfl, _, rfl, r_dec (fun e => ?_) (fun e => ?_)⟩
    · have e' : (bestOf (told R none) a (b + 1 - a)).2 = 0 := by injection e with e; omega
      refine ⟨Nat.zero_le _, fun u nu => ⟨(by show 2 ≤ sizeLine; decide), fun t nt => ?_⟩⟩
      have nut : u ≠ t := no_in upd_same nt
      refine q _ t u (sHF.trans ((hS2.same.new' nu).new' nt)) upd_same ?_
      rw [upd_ne nut, upd_same]
      unfold resL
      rw [if_pos e']
      rfl
    · have e' : ¬ (bestOf (told R none) a (b + 1 - a)).2 = 0 := fun z => e (by rw [z]; rfl)
      obtain ⟨ht, ha, hb⟩ := hin.resolve_left e'
      obtain ⟨⟨L, hnL, hLst⟩, hpb⟩ := hL _ ha (by omega)
      obtain ⟨dh, fh⟩ := hF.der.ins
      refine ⟨_, rfl, _, _, _, _, _, rfl, hx2, W.k_Spoken, W.n_Spoken_held, lk_S_held, h, dh, _, rfl, hS2.same _ _ fh, no_D _ (by decide +kernel), _, rfl, F, h, y, k, s, m, R, (bestOf (told R none) a (b + 1 - a)).1, L, rfl, hS2.same, hF.fk, hF.der, ok, hS2.kn, hnL, hLst.cl, hLst.len, hLst.wb, told_ways ok ht, hpb, fun u H3 b3 nu hu => ?_⟩
      have s3 : Same F H3 := b3.base hS2.same (by simpa using hF.fk)
      refine ⟨(by show 2 ≤ sizeLine; decide), fun t nt => ?_⟩
      have nut : u ≠ t := no_in hu nt
      refine q _ t u (sHF.trans (s3.new' nt)) upd_same ?_
      rw [upd_ne nut, hu]
      unfold resL
      rw [if_neg e']

end
end Sy

/-! part: Y1 -/
set_option Elab.async false
set_option linter.all false
set_option maxRecDepth 100000
set_option maxHeartbeats 4000000
namespace Sy
open PySem PySem.Spec PyProof.Rows L2
section
variable {P : Program} {w : World} {K : PySem.W.Frag} {mg : Str → Option Value} {base : Heap}
/-! ### systems: the checks -/
def SqA (K : PySem.W.Frag) (H : Hp) (a : Addr) (xs : List V) : Prop := SqL K H a xs ∨ SqT K H a xs
theorem SqL.same' {K : PySem.W.Frag} {H H' : Hp} (e : Same H H') {a : Addr} {xs : List V} (h : SqL K H a xs) : SqL K H' a xs := e.seq h
theorem SqA.same {K : PySem.W.Frag} {H H' : Hp} (e : Same H H') {a : Addr} {xs : List V} (h : SqA K H a xs) : SqA K H' a xs := h.imp (SqL.same' e) e.tup
theorem rIx_of {K : PySem.W.Frag} {H : Hp} {a : Addr} {xs : List V} {i : Int} {v : V} {Q : VK} (h : SqA K H a xs) (e : atI xs i = some v) (q : Q v H) : rIx K (.ref a) (.int i) H Q := by
  rcases h with h | h
  · exact .inl ⟨a, xs, i, v, rfl, rfl, h, e, q⟩
  · exact .inr (.inl ⟨a, xs, i, v, rfl, rfl, h, e, q⟩)
theorem LenV_of {K : PySem.W.Frag} {H : Hp} {a : Addr} {xs : List V} (h : SqA K H a xs) : LenV K (.ref a) H xs.length := by
  rcases h with h | h
  · exact .inl ⟨xs, h, rfl⟩
  · exact .inr ⟨xs, h, rfl⟩
def KeepA (K : PySem.W.Frag) (H H' : Hp) (a : Addr) (xs : List V) : Prop := (SqL K H a xs → SqL K H' a xs) ∧ (SqT K H a xs → SqT K H' a xs)
theorem KeepA.same {K : PySem.W.Frag} {H H' : Hp} {a : Addr} {xs : List V} (s : Same H H') : KeepA K H H' a xs := ⟨SqL.same' s, s.tup⟩
theorem KeepA.but {K : PySem.W.Frag} {H H' : Hp} {a p : Addr} {xs : List V} {kvs : List (Key × V)} (b : But [p] H H') (hp : H p = some (.dK kvs)) : KeepA K H H' a xs := by
  refine ⟨fun h => ?_, fun h => ?_⟩
  · rcases h with (h | ⟨o, h⟩) | h
    · exact .inl (.inl (b _ _ h (by simpa using (ne_of h hp (by intro z; cases z)))))
    · exact .inl (.inr ⟨o, b _ _ h (by simpa using (ne_of h hp (by intro z; cases z)))⟩)
    · exact .inr h
  · rcases h with (h | ⟨o, h⟩) | h
    · exact .inl (.inl (b _ _ h (by simpa using (ne_of h hp (by intro z; cases z)))))
    · exact .inl (.inr ⟨o, b _ _ h (by simpa using (ne_of h hp (by intro z; cases z)))⟩)
    · exact .inr h
theorem KeepA.sq {K : PySem.W.Frag} {H H' : Hp} {a : Addr} {xs : List V} (k : KeepA K H H' a xs) (h : SqA K H a xs) : SqA K H' a xs := h.imp k.1 k.2
theorem iSeq_var {K : PySem.W.Frag} {H : Hp} {σ : L2.St} {i : Nat} {a : Addr} {xs : List V} {R : It → Hp → Prop} (hv : σ[i]? = some (some (.ref a))) (hq : SqA K H a xs)
    (h : ∀ J G, Walk J xs.length G (YAt xs) → (∀ H', KeepA K H H' a xs → G H') → R J H) : iSeq K (tVar i) σ H R := by
  refine ⟨.ref a, hv, a, xs, rfl, ?_⟩
  rcases hq with q | q
  · exact .inl ⟨q, h _ _ walk_list fun H' s => s.1 q⟩
  · exact .inr ⟨q, h _ _ walk_tup fun H' s => s.2 q⟩
theorem iEnumT_var {K : PySem.W.Frag} {H : Hp} {σ : L2.St} {i : Nat} {a : Addr} {xs : List V} {R : It → Hp → Prop} (hv : σ[i]? = some (some (.ref a))) (hq : SqA K H a xs)
    (h : ∀ J G, Walk J xs.length G (YPair (fun i => some (.int (i : Nat))) (fun i => xs[i]?)) → (∀ H', KeepA K H H' a xs → G H') → R J H) : iEnumT K (tCons (tVar i) tNil) σ H R := by
  refine ⟨.ref a, hv, a, xs, rfl, ?_⟩
  rcases hq with q | q
  · exact .inl ⟨q, h _ _ walk_enum fun H' s => s.1 q⟩
  · exact .inr ⟨q, h _ _ walk_enumT fun H' s => s.2 q⟩
theorem next_of {D : Ends} {σ : L2.St} {H : Hp} (h : D.nx σ H) : tNext D σ H := h
theorem asg_of {te : TE} {g : TG} {D : Ends} {σ : L2.St} {H : Hp} (h : te σ H fun x H1 => g x σ H1 D.nx) : tAsg te g D σ H := h
theorem for_enumA {K : PySem.W.Frag} {H : Hp} {σ : L2.St} {i : Nat} {a : Addr} {xs : List V} {g : TG} {tb : TS} {D : Ends} (hv : σ[i]? = some (some (.ref a))) (hq : SqA K H a xs) (Pv : Nat → L2.St → Hp → Prop) (h0 : Pv 0 σ H)
    (hG : ∀ i σ H', Pv i σ H' → KeepA K H H' a xs) (hs : ∀ i x σ H1 H2, i < xs.length → Pv i σ H1 → YPair (fun i => some (.int (i : Nat))) (fun i => xs[i]?) i H1 x H2 → g x σ H2 fun σ2 H2 => tb { D with nx := Pv (i + 1), ct := Pv (i + 1), bk := D.nx } σ2 H2)
    (hd : ∀ σ H', Pv xs.length σ H' → D.nx σ H') : tFor (iEnumT K (tCons (tVar i) tNil)) g tb D σ H :=
  iEnumT_var (R := fun J H1 => ∃ W : Nat → Nat → L2.St → Hp → Prop, (∃ m, W 0 m σ H1) ∧ ∀ i m σ H, W i m σ H →
    (J.stop i H ∧ D.nx σ H) ∨ (J.go i H ∧ ∃ N : L2.St → Hp → Prop, (∀ σ' H', N σ' H' → ∃ m', m' < m ∧ W (i + 1) m' σ' H') ∧ ∀ x H', J.yld i H x H' → g x σ H' fun σ2 H2 => tb { D with nx := N, ct := N, bk := D.nx } σ2 H2)) hv hq
    fun J G wk hg => for_it wk Pv h0 (fun i σ H' _ p => hg _ (hG i σ H' p)) hs hd
theorem lc_enumA {K : PySem.W.Frag} {H : Hp} {σ : L2.St} {i : Nat} {a : Addr} {xs : List V} {g : TG} {tt : TT} {te : TE} {vs : List Nat} {Q : VK} (hv : σ[i]? = some (some (.ref a))) (hq : SqA K H a xs)
    (h : ∀ J G, Walk J xs.length G (YPair (fun i => some (.int (i : Nat))) (fun i => xs[i]?)) → (∀ H', KeepA K H H' a xs → G H') → ∀ D, H D = none → ∃ W : Nat → Nat → Hp → Prop, (∃ m, W 0 m (upd H D (.lst []))) ∧ ∀ i m H, W i m H →
      (J.stop i H ∧ Q (.ref D) H) ∨ (J.go i H ∧ ∃ Nx : Hp → Prop, (∀ H', Nx H' → ∃ m', m' < m ∧ W (i + 1) m' H') ∧ ∀ x H', J.yld i H x H' → g x (wipe σ vs) H' fun σ2 H2 => wipe σ2 vs = wipe σ vs ∧ tt σ2 H2 fun b H3 =>
        if b = true then te σ2 H3 fun y H4 => ∃ acc, H4 D = some (.lst acc) ∧ acc.length < sizeLine ∧ Nx (upd H4 D (.lst (acc ++ [y]))) else Nx H3)) : tLc (iEnumT K (tCons (tVar i) tNil)) g tt te vs σ H Q := iEnumT_var hv hq h
theorem lc_seqA {K : PySem.W.Frag} {H : Hp} {σ : L2.St} {i : Nat} {a : Addr} {xs : List V} {g : TG} {tt : TT} {te : TE} {vs : List Nat} {Q : VK} (hv : σ[i]? = some (some (.ref a))) (hq : SqA K H a xs)
    (h : ∀ J G, Walk J xs.length G (YAt xs) → (∀ H', KeepA K H H' a xs → G H') → ∀ D, H D = none → ∃ W : Nat → Nat → Hp → Prop, (∃ m, W 0 m (upd H D (.lst []))) ∧ ∀ i m H, W i m H →
      (J.stop i H ∧ Q (.ref D) H) ∨ (J.go i H ∧ ∃ Nx : Hp → Prop, (∀ H', Nx H' → ∃ m', m' < m ∧ W (i + 1) m' H') ∧ ∀ x H', J.yld i H x H' → g x (wipe σ vs) H' fun σ2 H2 => wipe σ2 vs = wipe σ vs ∧ tt σ2 H2 fun b H3 =>
        if b = true then te σ2 H3 fun y H4 => ∃ acc, H4 D = some (.lst acc) ∧ acc.length < sizeLine ∧ Nx (upd H4 D (.lst (acc ++ [y]))) else Nx H3)) : tLc (iSeq K (tVar i)) g tt te vs σ H Q := iSeq_var hv hq h
/-- (a, b, ..) = a tuple or a list of that length -/
def gSq (K : PySem.W.Frag) (n : Nat) (t : TGs) : TG := fun v σ H Q => ∃ a xs, v = .ref a ∧ SqA K H a xs ∧ xs.length = n ∧ t xs σ H Q
theorem pg_sq {X : Cx} {pos : Pos} {es : List Expr} {k : Nat} {t : TGs} {n : Nat} (hc : X.calm = true) (h : PGs X es t)
    (hn : (assignEach es X.env).length = n := by rfl) (hst : (assignEach es X.env).findIdx? (·.1) = none := by rfl) : PG X (.Tuple es k pos) (gSq X.K n t) := by
  refine ⟨fun pins s σ H v u Q I r hw => ?_⟩
  obtain ⟨a, xs, e1, hq, hl, hw⟩ := hw
  rcases hq with hq | hq
  · exact (pg_unl hc h hn hst).run pins s σ H v u Q I r ⟨a, xs, e1, hq, hl, hw⟩
  · exact (pg_tup hc h hn hst).run pins s σ H v u Q I r ⟨a, xs, e1, hq, hl, hw⟩
abbrev letters : Str := "abcdefghijklmnopqrstuvwxyz"
structure WordOk (z : Str) : Prop where
  lo : 1 ≤ z.length
  hi : z.length ≤ 8
  all : ∀ c ∈ z.cps.toList, c ∈ letters.cps.toList
def sp_is_word : Sp := fun vs H Q _ => ∃ z : Str, vs = [.str z] ∧ WordOk z ∧ ∀ H', Same H H' → Q (.bl true) H'
theorem all_true (n : Nat) : (List.replicate n true).all id = true := by
  induction n with
  | zero => rfl
  | succ n ih => rw [List.replicate_succ, List.all_cons, ih]; rfl
theorem ok_is_word (W : Wd K mg) : Has P w K mg base 1 (He.ga K "is_word") ["text"] [] sp_is_word := by
  refine mkHas (d := d_is_word) (N := N_is_word) (ps := ["text"]) (W.says.def_ 29) sc_is_word (fun _ _ _ _ _ _ us hl => match us, hl with | [_], _ => rfl) (fun vs H Q E h => ?_) (fun cdv A outer s0 H vs Q E hr h => ?_)
  · obtain ⟨_, rfl, _⟩ := h
    rfl
  obtain ⟨z, rfl, hw, q⟩ := h
  have h1 := hw.lo
  have h2 := hw.hi
  refine ⟨_, (pss_one (ps_ret (pe_and (pe_chain op_le op_le pe_int (pe_callB call_len rfl W.f_len PySem.boot_len (pa_cons (pv 0) pa_nil)) (pe_globI W.c_MOST_LETTERS rfl)) (pe_one (pe_callB (cr_all rfl) rfl W.f_all PyProof.Rows.boot_all (pa_cons (pe_lc (own := [("letter", 1)]) (g := gName 1) rfl sc_is_word.nd (pi_str (pv 0)) (blkOk_by (own := [("letter", 1)]) (N := N_is_word) (sc := defScope s_is_word) (by decide +kernel)) (fun _ _ _ _ _ => (pg_name (i := 1) sc_is_word.nd rfl (Or.inl rfl))) (fun _ _ _ _ _ => pts_nil) (fun _ _ _ _ _ => (pe_cmpR op_inS (pv 1) (pe_globS W.c_LETTERS rfl) rfl))) pa_nil)))))), ?_⟩
  refine ⟨_, rfl, _, _, rfl, ⟨small_le (by omega), rfl⟩, _, _, rfl, rfl, _, rfl, iteT' (decide_eq_true (by omega)) ⟨_, _, rfl, rfl, _, rfl, iteT' (decide_eq_true (by omega)) ?_⟩⟩
  refine ⟨_, rfl, z, rfl, fun D nD => ?_⟩
  have hsz : z.cps.size ≤ 8 := h2
  refine lc_it walk_str (fun i H' => Same H H' ∧ i ≤ z.cps.size ∧ H' D = some (.lst ((List.replicate i true).map V.bl))) ⟨Same.new nD, Nat.zero_le _, upd_same⟩ (fun i H' _ _ => trivial) ?_ ?_
  · rintro i x H1 H2 hi ⟨sH, _, hD⟩ ⟨rfl, c, ec, rfl⟩
    refine ⟨rfl, yes_of ?_⟩
    refine ⟨_, rfl, c, _, rfl, rfl, _, hD, small_lt (by rw [List.length_map, List.length_replicate]; omega), sH.mut nD, hi, ?_⟩
    have hc : c ∈ z.cps.toList := Array.mem_toList_iff.mpr (Array.mem_of_getElem? ec)
    rw [upd_same, decide_eq_true (hw.all c hc), List.replicate_succ', List.map_append]
    rfl
  · rintro H1 ⟨sH, _, hD⟩
    refine ⟨D, _, rfl, SqL.of hD, ?_⟩
    rw [all_true]
    exact q H1 sH

end
end Sy

/-! part: Y2 -/
set_option Elab.async false
set_option linter.all false
set_option maxRecDepth 100000
set_option maxHeartbeats 4000000
namespace Sy
open PySem PySem.Spec PyProof.Rows L2
section
variable {P : Program} {w : World} {K : PySem.W.Frag} {mg : Str → Option Value} {base : Heap}
def sp_simple_fault (K : PySem.W.Frag) : Sp := fun vs H Q _ => ∃ (a : Addr) (p : Str × Nat), vs = [.ref a] ∧ SqA K H a [.str p.1, .int (p.2 : Nat)] ∧ WordOk p.1 ∧ 1 ≤ p.2 ∧ p.2 ≤ 100000 ∧ ∀ H', Same H H' → Q .non H'
theorem ok_simple_fault (W : Wd K mg) : Has P w K mg base 2 (He.ga K "simple_fault") ["row"] [] (sp_simple_fault K) := by
  have h_is_word := ok_is_word (P := P) (w := w) (base := base) W
  refine mkHas (d := d_simple_fault) (N := N_simple_fault) (ps := ["row"]) (W.says.def_ 30) sc_simple_fault (fun _ _ _ _ _ _ us hl => match us, hl with | [_], _ => rfl) (fun vs H Q E h => ?_) (fun cdv A outer s0 H vs Q E hr h => ?_)
  · obtain ⟨_, _, rfl, _⟩ := h
    rfl
  obtain ⟨a, p, rfl, ha, hw, h1, h2, q⟩ := h
  refine ⟨_, (pss_cons (ps_if (pt_cmpR op_ne (pe_callB call_len rfl W.f_len PySem.boot_len (pa_cons (pv 0) pa_nil)) pe_int (nomark _)) (pss_one (ps_ret pe_str)) pss_nil)
      (pss_cons (ps_if (pt_not (pt_val (pe_callH h_is_word W.g_is_word (hr.mono (by omega)) rfl (pa_cons (pe_ix ix_seq (pv 0) pe_int (fun _ _ => rfl)) pa_nil)))) (pss_one (ps_ret pe_str)) pss_nil)
      (pss_one (ps_ret (pe_ifExp (pt_chain op_le op_le pe_int (pe_ix ix_seq (pv 0) pe_int (fun _ _ => rfl)) (pe_globI W.c_MOST_VALUE rfl)) pe_non pe_str))))), ?_⟩
  refine ⟨_, rfl, .ref a, _, rfl, LenV_of ha, rfl, _, rfl, iteF' (by rfl) ?_⟩
  refine ⟨_, rfl, rIx_of (v := .str p.1) ha rfl ⟨p.1, rfl, hw, fun H1 s1 => ⟨_, rfl, iteF' rfl ?_⟩⟩⟩
  have ha1 := ha.same s1
  refine ⟨_, rfl, rIx_of (v := .int (p.2 : Nat)) ha1 rfl ⟨_, _, rfl, rfl, _, rfl, iteT' (decide_eq_true (by omega)) ⟨_, _, rfl, rfl, _, rfl, iteT' (decide_eq_true (by omega)) ?_⟩⟩⟩
  exact q H1 s1
def sp_multiplier_fault (K : PySem.W.Frag) : Sp := fun vs H Q _ => ∃ (a : Addr) (m : M), vs = [.ref a] ∧ SqA K H a (mulL m) ∧ WordOk m.word ∧ 2 ≤ m.value ∧ m.value ≤ 100000 ∧ m.rest < m.value ∧ (∀ k, m.count = some k → 1 ≤ k ∧ k ≤ 100000 ∧ k * m.value + m.rest ≤ 100000) ∧ ∀ H', Same H H' → Q .non H'
theorem ok_multiplier_fault (W : Wd K mg) : Has P w K mg base 2 (He.ga K "multiplier_fault") ["row"] [] (sp_multiplier_fault K) := by
  have h_is_word := ok_is_word (P := P) (w := w) (base := base) W
  refine mkHas (d := d_multiplier_fault) (N := N_multiplier_fault) (ps := ["row"]) (W.says.def_ 31) sc_multiplier_fault (fun _ _ _ _ _ _ us hl => match us, hl with | [_], _ => rfl) (fun vs H Q E h => ?_) (fun cdv A outer s0 H vs Q E hr h => ?_)
  · obtain ⟨_, _, rfl, _⟩ := h
    rfl
  obtain ⟨a, m, rfl, ha, hw, h1, h2, h3, h4, q⟩ := h
  refine ⟨_, (pss_cons (ps_if (pt_cmpR op_ne (pe_callB call_len rfl W.f_len PySem.boot_len (pa_cons (pv 0) pa_nil)) pe_int (nomark _)) (pss_one (ps_ret pe_str)) pss_nil)
      (pss_cons (ps_asg (pv 0) (pg_sq rfl (pgs_cons (pg_name (i := 1) sc_multiplier_fault.nd rfl (Or.inl rfl)) (pgs_cons (pg_name (i := 2) sc_multiplier_fault.nd rfl (Or.inl rfl)) (pgs_cons (pg_name (i := 3) sc_multiplier_fault.nd rfl (Or.inl rfl)) (pgs_cons (pg_name (i := 4) sc_multiplier_fault.nd rfl (Or.inl rfl)) (pgs_cons (pg_name (i := 5) sc_multiplier_fault.nd rfl (Or.inl rfl)) pgs_nil)))))))
      (pss_cons (ps_if (pt_not (pt_val (pe_callH h_is_word W.g_is_word (hr.mono (by omega)) rfl (pa_cons (pv 1) pa_nil)))) (pss_one (ps_ret pe_str)) pss_nil)
      (pss_cons (ps_if (pt_not (pt_chain op_le op_le pe_int (pv 2) (pe_globI W.c_MOST_VALUE rfl))) (pss_one (ps_ret pe_str)) pss_nil)
      (pss_cons (ps_if (PW.pt (pw_and (pt_cmpR op_notN1 (pv 3) pe_non (nomark _)) (pw_and1 (pt_not (pt_chain op_le op_le pe_int (pv 3) (pe_globI W.c_MOST_VALUE rfl)))))) (pss_one (ps_ret pe_str)) pss_nil)
      (pss_cons (ps_if (pt_not (pt_chain op_le op_lt pe_int (pv 5) (pv 2))) (pss_one (ps_ret pe_str)) pss_nil)
      (pss_cons (ps_if (PW.pt (pw_and (pt_cmpR op_notN1 (pv 3) pe_non (nomark _)) (pw_and1 (pt_cmpR op_gt (pe_op op_nadd (pe_op op_nmul (pv 3) (pv 2)) (pv 5)) (pe_globI W.c_MOST_VALUE rfl) (nomark _))))) (pss_one (ps_ret pe_str)) pss_nil)
      (pss_one (ps_ret pe_non))))))))), ?_⟩
  refine ⟨_, rfl, .ref a, _, rfl, LenV_of ha, rfl, _, rfl, iteF' (by rfl) ?_⟩
  refine ⟨_, rfl, a, _, rfl, ha, rfl, _, _, rfl, _, _, rfl, _, _, rfl, _, _, rfl, _, _, rfl, rfl, ?_⟩
  refine ⟨_, rfl, m.word, rfl, hw, fun H1 s1 => ⟨_, rfl, iteF' rfl ?_⟩⟩
  refine ⟨_, rfl, _, _, rfl, rfl, _, rfl, iteT' (decide_eq_true (by omega)) ⟨_, _, rfl, rfl, _, rfl, ?_⟩⟩
  rw [decide_eq_true (show ((m.value : Nat) : Int) ≤ 100000 by omega)]
  refine iteF' rfl ?_
  cases hc : m.count with
  | none =>
    refine ⟨_, rfl, rfl, _, rfl, iteF' rfl (iteF ?_)⟩
    refine ⟨_, rfl, _, _, rfl, rfl, _, rfl, iteT' (decide_eq_true (by omega)) ⟨_, rfl, _, _, rfl, rfl, _, rfl, ?_⟩⟩
    rw [decide_eq_true (show ((m.rest : Nat) : Int) < (m.value : Nat) by omega)]
    refine iteF' rfl ?_
    refine ⟨_, rfl, rfl, _, rfl, iteF' rfl (iteF ?_)⟩
    exact q H1 s1
  | some k =>
    obtain ⟨k1, k2, k3⟩ := h4 k hc
    refine ⟨_, rfl, rfl, _, rfl, iteT' rfl ?_⟩
    refine ⟨_, rfl, _, _, rfl, rfl, _, rfl, iteT' (decide_eq_true (by omega)) ⟨_, _, rfl, rfl, _, rfl, ?_⟩⟩
    rw [decide_eq_true (show ((k : Nat) : Int) ≤ 100000 by omega)]
    refine iteF' rfl ?_
    refine ⟨_, rfl, _, _, rfl, rfl, _, rfl, iteT' (decide_eq_true (by omega)) ⟨_, rfl, _, _, rfl, rfl, _, rfl, ?_⟩⟩
    rw [decide_eq_true (show ((m.rest : Nat) : Int) < (m.value : Nat) by omega)]
    refine iteF' rfl ?_
    refine ⟨_, rfl, rfl, _, rfl, iteT' rfl ?_⟩
    refine ⟨_, rfl, _, rfl, _, _, rfl, rfl, .inr (by omega), _, rfl, _, _, rfl, rfl, _, _, rfl, rfl, _, rfl, iteF' (decide_eq_false (by omega)) ?_⟩
    exact q H1 s1
/-! rows as they are given -/
def RawS (K : PySem.W.Frag) (H : Hp) (x : V) (p : Str × Nat) : Prop := ∃ a, x = .ref a ∧ SqA K H a [.str p.1, .int (p.2 : Nat)]
def RawM (K : PySem.W.Frag) (H : Hp) (x : V) (m : M) : Prop := ∃ a, x = .ref a ∧ SqA K H a (mulL m)
theorem RawS.same {K : PySem.W.Frag} {H H' : Hp} (e : Same H H') {x : V} {p : Str × Nat} (h : RawS K H x p) : RawS K H' x p := by
  obtain ⟨a, q, h⟩ := h; exact ⟨a, q, h.same e⟩
theorem RawM.same {K : PySem.W.Frag} {H H' : Hp} (e : Same H H') {x : V} {m : M} (h : RawM K H x m) : RawM K H' x m := by
  obtain ⟨a, q, h⟩ := h; exact ⟨a, q, h.same e⟩
def SimOk (p : Str × Nat) : Prop := WordOk p.1 ∧ 1 ≤ p.2 ∧ p.2 ≤ 100000
def MulOk (m : M) : Prop := WordOk m.word ∧ 2 ≤ m.value ∧ m.value ≤ 100000 ∧ m.rest < m.value ∧ (∀ k, m.count = some k → 1 ≤ k ∧ k ≤ 100000 ∧ k * m.value + m.rest ≤ 100000)
def sp_check_rows (K : PySem.W.Frag) : Sp := fun vs H Q _ => ∃ (part : Str) (a : Addr) (most : Nat) (xs : List V), vs = [.str part, .ref a, .int (most : Nat)] ∧ xs.length ≤ most ∧ SqA K H a xs ∧
  ((part = "simple" ∧ ∃ sim, Rel (RawS K H) xs sim ∧ ∀ p ∈ sim, SimOk p) ∨ (part ≠ "simple" ∧ ∃ ms, Rel (RawM K H) xs ms ∧ ∀ p ∈ ms, MulOk p)) ∧ ∀ H', Same H H' → Q .non H'
theorem ok_check_rows (W : Wd K mg) : Has P w K mg base 3 (He.ga K "check_rows") ["part", "rows", "most"] [] (sp_check_rows K) := by
  have h_simple_fault := ok_simple_fault (P := P) (w := w) (base := base) W
  have h_multiplier_fault := ok_multiplier_fault (P := P) (w := w) (base := base) W
  refine mkHas (d := d_check_rows) (N := N_check_rows) (ps := ["part", "rows", "most"]) (W.says.def_ 32) sc_check_rows (fun _ _ _ _ _ _ us hl => match us, hl with | [_, _, _], _ => rfl) (fun vs H Q E h => ?_) (fun cdv A outer s0 H vs Q E hr h => ?_)
  · obtain ⟨_, _, _, _, rfl, _⟩ := h
    rfl
  obtain ⟨part, a, most, xs, rfl, hl, ha, hp, q⟩ := h
  refine ⟨_, (pss_cons (ps_if (pt_cmpR op_gt (pe_callB call_len rfl W.f_len PySem.boot_len (pa_cons (pv 1) pa_nil)) (pv 2) (nomark _)) (pss_one ps_never) pss_nil)
      (pss_one (ps_for PassesOwn.never rfl (pi_enumT rfl W.f_enumerate (pa_cons (pv 1) pa_nil)) (pg_tup rfl (pgs_cons (pg_name (i := 3) sc_check_rows.nd rfl (Or.inl rfl)) (pgs_cons (pg_name (i := 4) sc_check_rows.nd rfl (Or.inl rfl)) pgs_nil))) (pss_cons (ps_set (i := 5) sc_check_rows.nd rfl (Or.inl rfl) (pe_ifExp (pt_cmpR op_eq (pv 0) pe_str (nomark _)) (pe_callH h_simple_fault W.g_simple_fault (hr.mono (by omega)) rfl (pa_cons (pv 4) pa_nil)) (pe_callH h_multiplier_fault W.g_multiplier_fault (hr.mono (by omega)) rfl (pa_cons (pv 4) pa_nil))))
      (pss_one (ps_if (pt_cmpR op_notN1 (pv 5) pe_non (nomark _)) (pss_one ps_never) pss_nil)))))), ?_⟩
  refine ⟨_, rfl, .ref a, _, rfl, LenV_of ha, _, rfl, _, _, rfl, rfl, _, rfl, iteF' (decide_eq_false (by omega)) ?_⟩
  refine next_of (for_enumA (i := 1) (a := a) rfl ha (fun i σ H' => Same H H' ∧ ∃ a3 a4 a5, σ = [some (.str part), some (.ref a), some (.int (most : Nat)), a3, a4, a5]) ⟨Same.refl _, _, _, _, rfl⟩ (fun i σ H' pv => KeepA.same pv.1) ?_ ?_)
  · rintro i x σ H1 H2 hi ⟨sH, a3, a4, a5, rfl⟩ ⟨T, xi, xr, rfl, nT, rfl, e1, e2⟩
    cases e1
    have s2 : Same H (upd H1 T (.tup [.int (i : Nat), xr])) := sH.new' nT
    refine ⟨T, _, rfl, SqT.of upd_same, rfl, _, _, rfl, _, _, rfl, rfl, ?_⟩
    rcases hp with ⟨ep, sim, rs, hs⟩ | ⟨ep, ms, rm, hm⟩
    · obtain ⟨p, epp, b, rfl, hb⟩ := rs.get e2
      obtain ⟨o1, o2, o3⟩ := hs p (List.mem_of_getElem? epp)
      refine ⟨_, rfl, rfl, _, rfl, iteT' (decide_eq_true (by rw [ep])) ?_⟩
      refine ⟨_, rfl, b, p, rfl, hb.same s2, o1, o2, o3, fun H3 s3 => ?_⟩
      exact ⟨_, rfl, rfl, _, rfl, iteF' rfl ⟨s2.trans s3, _, _, _, rfl⟩⟩
    · obtain ⟨m, epp, b, rfl, hb⟩ := rm.get e2
      obtain ⟨o1, o2, o3, o4, o5⟩ := hm m (List.mem_of_getElem? epp)
      refine ⟨_, rfl, rfl, _, rfl, iteF' (decide_eq_false (by intro z; injection z with z; exact ep z)) ?_⟩
      refine ⟨_, rfl, b, m, rfl, hb.same s2, o1, o2, o3, o4, o5, fun H3 s3 => ?_⟩
      exact ⟨_, rfl, rfl, _, rfl, iteF' rfl ⟨s2.trans s3, _, _, _, rfl⟩⟩
  · rintro σ H1 ⟨sH, a3, a4, a5, rfl⟩
    exact q H1 sH
def sp_check_endless (K : PySem.W.Frag) : Sp := fun vs H Q _ => ∃ (a : Addr) (xs : List V) (R : Rs) (out : M), vs = [.ref a] ∧ SqA K H a xs ∧ Rel (RawM K H) xs R.mults ∧ IsOut R out ∧ ∀ H', Same H H' → Q .non H'
theorem ok_check_endless (W : Wd K mg) : Has P w K mg base 1 (He.ga K "check_endless") ["multipliers"] [] (sp_check_endless K) := by
  refine mkHas (d := d_check_endless) (N := N_check_endless) (ps := ["multipliers"]) (W.says.def_ 34) sc_check_endless (fun _ _ _ _ _ _ us hl => match us, hl with | [_], _ => rfl) (fun vs H Q E h => ?_) (fun cdv A outer s0 H vs Q E hr h => ?_)
  · obtain ⟨_, _, _, _, rfl, _⟩ := h
    rfl
  obtain ⟨a, xs, R, out, rfl, ha, rx, hO, q⟩ := h
  obtain ⟨j, ej, uj⟩ := hO.at_
  refine ⟨_, (pss_mid (ps_setLc (i := 1) (own := [("number", 2), ("row", 3)]) (g := gTup K 2 (gCons (gName 2) (gCons (gName 3) gNil))) rfl sc_check_endless.nd rfl rfl (sw_true rfl rfl rfl (by decide +kernel)) (pi_enumT rfl W.f_enumerate (pa_cons (pv 0) pa_nil)) (blkOk_by (own := [("number", 2), ("row", 3)]) (N := N_check_endless) (sc := defScope s_check_endless) (by decide +kernel)) (fun _ _ _ _ _ => (pg_tup rfl (pgs_cons (pg_name (i := 2) sc_check_endless.nd rfl (Or.inl rfl)) (pgs_cons (pg_name (i := 3) sc_check_endless.nd rfl (Or.inl rfl)) pgs_nil)))) (fun _ _ _ _ _ => (pts_one (pt_cmpR op_isN1 (pe_ix (ix_seqK (K := K) rfl) (pv 3) pe_int (fun _ _ => rfl)) pe_non (nomark _)))) (fun _ _ _ _ _ => (pv 2)))
      (pss_one (ps_if (pt_cmpR op_gt (pe_callB call_len rfl W.f_len PySem.boot_len (pa_cons (pv 1) pa_nil)) pe_int (nomark _)) (pss_one ps_never) pss_nil))), ?_⟩
  refine ⟨fun σ H' => Same H H' ∧ ∃ f l, H' f = some (.lst l) ∧ l.length ≤ 1 ∧ ∃ a2 a3, σ = [some (.ref a), some (.ref f), a2, a3], ?_, ?_⟩
  · refine asg_of (lc_enumA (i := 0) (a := a) rfl ha fun J G wk hG => fun D nD => ?_)
    refine lc_it wk (fun i H' => Same H H' ∧ H' D = some (.lst (if j < i then [.int (j : Nat)] else []))) ⟨Same.new nD, by rw [upd_same, if_neg (Nat.not_lt_zero _)]⟩ (fun i H' _ pv => hG _ (KeepA.same pv.1)) ?_ ?_
    · rintro i x H1 H2 hi ⟨sH, hD⟩ ⟨T, xi, xr, rfl, nT, rfl, e1, e2⟩
      cases e1
      have nDT : D ≠ T := no_in hD nT
      have s2 : Same H (upd H1 T (.tup [.int (i : Nat), xr])) := sH.new' nT
      obtain ⟨m, em, b, rfl, hb⟩ := rx.get e2
      refine ⟨T, _, rfl, SqT.of upd_same, rfl, _, _, rfl, _, _, rfl, rfl, rfl, ?_⟩
      refine ⟨_, rfl, rIx_of (v := cntV m.count) (hb.same s2) rfl ⟨rfl, _, rfl, ?_⟩⟩
      cases hc : m.count with
      | none =>
        obtain rfl := uj i m em hc
        rw [if_neg (Nat.lt_irrefl _)] at hD
        refine iteT' rfl ⟨_, rfl, [], by rw [upd_ne nDT]; exact hD, by decide, s2.mut nD, ?_⟩
        rw [upd_same, if_pos (Nat.lt_succ_self _)]
        rfl
      | some k =>
        have nij : i ≠ j := by
          rintro rfl
          rw [ej] at em
          injection em with em
          subst em
          rw [hO.no] at hc
          cases hc
        refine iteF' rfl ⟨s2, ?_⟩
        rw [upd_ne nDT, hD]
        by_cases h : j < i
        · rw [if_pos h, if_pos (by omega)]
        · rw [if_neg h, if_neg (by omega)]
    · rintro H1 ⟨sH, hD⟩
      refine ⟨sH, D, _, hD, ?_, _, _, rfl⟩
      split <;> simp
  rintro σ H1 ⟨sH, f, l, hf, hl, a2, a3, rfl⟩
  refine ⟨_, rfl, .ref f, _, rfl, .inl ⟨_, SqL.of hf, rfl⟩, _, _, rfl, rfl, _, rfl, iteF' (decide_eq_false (by omega)) ?_⟩
  exact q H1 sH

end
end Sy

/-! part: Y3 -/
set_option Elab.async false
set_option linter.all false
set_option maxRecDepth 100000
set_option maxHeartbeats 4000000
namespace Sy
open PySem PySem.Spec PyProof.Rows L2
section
variable {P : Program} {w : World} {K : PySem.W.Frag} {mg : Str → Option Value} {base : Heap}
def RowW (K : PySem.W.Frag) (H : Hp) (x : V) (w : Str) : Prop := ∃ a ys, x = .ref a ∧ SqA K H a ys ∧ atI ys 0 = some (.str w)
theorem RowW.same {K : PySem.W.Frag} {H H' : Hp} (e : Same H H') {x : V} {w : Str} (h : RowW K H x w) : RowW K H' x w := by
  obtain ⟨a, ys, h1, h2, h3⟩ := h; exact ⟨a, ys, h1, h2.same e, h3⟩
theorem valV_mem {kvs : List (Key × V)} {k : Key} : (valV kvs k).isSome = true ↔ k ∈ kvs.map Prod.fst := by
  rw [← valV_any]
  simp only [List.any_eq_true, decide_eq_true_eq, List.mem_map]
theorem valV_not {kvs : List (Key × V)} {k : Key} (h : k ∉ kvs.map Prod.fst) : valV kvs k = none := by
  cases e : valV kvs k with
  | none => rfl
  | some v => exact absurd (valV_mem.mp (by rw [e]; rfl)) h
theorem putK_keys {kvs : List (Key × V)} {k : Key} {v : V} (h : k ∉ kvs.map Prod.fst) : (putK kvs k v).map Prod.fst = kvs.map Prod.fst ++ [k] := by
  rw [putK_new _ (valV_not h), List.map_append]
  rfl
def sp_check_words (K : PySem.W.Frag) : Sp := fun vs H Q _ => ∃ (a b : Addr) (xs zs : List V) (ws us : List Str), vs = [.ref a, .ref b] ∧ SqA K H a xs ∧ SqA K H b zs ∧ Rel (RowW K H) xs ws ∧ Rel (RowW K H) zs us ∧ (ws ++ us).Nodup ∧ (ws ++ us).length ≤ 1000 ∧ ∀ H', Same H H' → Q .non H'
theorem ok_check_words (W : Wd K mg) : Has P w K mg base 1 (He.ga K "check_words") ["simple", "multipliers"] [] (sp_check_words K) := by
  refine mkHas (d := d_check_words) (N := N_check_words) (ps := ["simple", "multipliers"]) (W.says.def_ 33) sc_check_words (fun _ _ _ _ _ _ us hl => match us, hl with | [_, _], _ => rfl) (fun vs H Q E h => ?_) (fun cdv A outer s0 H vs Q E hr h => ?_)
  · obtain ⟨_, _, _, _, _, _, rfl, _⟩ := h
    rfl
  obtain ⟨a, b, xs, zs, ws, us, rfl, ha, hb, rx, rz, hnd, hlen, q⟩ := h
  have hu := hu_of hr
  refine ⟨_, (pss_cons (ps_set (i := 2) sc_check_words.nd rfl (Or.inl rfl) pe_dnewK)
      (pss_one (ps_for PassesOwn.never rfl (pi_tup (pe_tup (pa_cons (pe_tup (pa_cons pe_str (pa_cons (pv 0) pa_nil))) (pa_cons (pe_tup (pa_cons pe_str (pa_cons (pv 1) pa_nil))) pa_nil)))) (pg_tup rfl (pgs_cons (pg_name (i := 3) sc_check_words.nd rfl (Or.inl rfl)) (pgs_cons (pg_name (i := 4) sc_check_words.nd rfl (Or.inl rfl)) pgs_nil))) (pss_one (ps_for PassesOwn.never rfl (pi_enumT rfl W.f_enumerate (pa_cons (pv 4) pa_nil)) (pg_tup rfl (pgs_cons (pg_name (i := 5) sc_check_words.nd rfl (Or.inl rfl)) (pgs_cons (pg_name (i := 6) sc_check_words.nd rfl (Or.inl rfl)) pgs_nil))) (pss_cons (ps_if (pt_cmp (pc_din hu (pe_ix ix_seq (pv 6) pe_int (fun _ _ => rfl)) (pv 2))) (pss_one ps_never) pss_nil)
      (pss_one (ps_dput hu (pv 2) (pe_ix ix_seq (pv 6) pe_int (fun _ _ => rfl)) pe_bl rfl)))))))), ?_⟩
  refine fun sn nsn => ⟨_, rfl, (by show 2 ≤ sizeLine; decide), fun t1 n1 => ⟨_, rfl, (by show 2 ≤ sizeLine; decide), fun t2 n2 => ⟨(by show 2 ≤ sizeLine; decide), fun T nT => ⟨T, rfl, ⟨_, SqT.of upd_same⟩, ?_⟩⟩⟩⟩
  have s1 : Same H (upd H sn (.dK [])) := Same.new nsn
  have hsn0 : upd H sn (.dK []) sn = some (.dK []) := upd_same
  revert n1 n2 nT
  generalize upd H sn (.dK []) = H1 at s1 hsn0 ⊢
  intro n1 n2 nT
  have m1 : Same H1 (upd H1 t1 (.tup [.str "simple", .ref a])) := Same.new n1
  have m2 := m1.new' n2 (o := .tup [.str "multipliers", .ref b])
  have m3 := m2.new' nT (o := .tup [.ref t1, .ref t2])
  have g1 : upd (upd (upd H1 t1 (.tup [.str "simple", .ref a])) t2 (.tup [.str "multipliers", .ref b])) T (.tup [.ref t1, .ref t2]) t1 = some (.tup [.str "simple", .ref a]) := Same.new nT _ _ (Same.new n2 _ _ upd_same)
  have g2 : upd (upd (upd H1 t1 (.tup [.str "simple", .ref a])) t2 (.tup [.str "multipliers", .ref b])) T (.tup [.ref t1, .ref t2]) t2 = some (.tup [.str "multipliers", .ref b]) := Same.new nT _ _ upd_same
  have g3 : upd (upd (upd H1 t1 (.tup [.str "simple", .ref a])) t2 (.tup [.str "multipliers", .ref b])) T (.tup [.ref t1, .ref t2]) T = some (.tup [.ref t1, .ref t2]) := upd_same
  have gs := m3 _ _ hsn0
  have sH := s1.trans m3
  have nn1 : t1 ≠ sn := ne_of g1 gs (by intro z; cases z)
  have nn2 : t2 ≠ sn := ne_of g2 gs (by intro z; cases z)
  have nn3 : T ≠ sn := ne_of g3 gs (by intro z; cases z)
  generalize upd (upd (upd H1 t1 (.tup [.str "simple", .ref a])) t2 (.tup [.str "multipliers", .ref b])) T (.tup [.ref t1, .ref t2]) = H2 at g1 g2 g3 gs sH ⊢
  refine for_tup (xs := [.ref t1, .ref t2]) (fun i σ H' => But [sn] H2 H' ∧ (∃ kvs, H' sn = some (.dK kvs) ∧ kvs.map Prod.fst = (if i = 0 then [] else if i = 1 then ws else ws ++ us).map Sum.inr) ∧ ∃ a3 a4 a5 a6, σ = [some (.ref a), some (.ref b), some (.ref sn), a3, a4, a5, a6])
    ⟨But.refl _ _, ⟨[], gs, rfl⟩, _, _, _, _, rfl⟩ (fun i σ H' _ pv => SqT.of (pv.1.at g3 (by simpa using nn3))) ?_ ?_
  · rintro i x σ H3 hi ⟨b3, ⟨kvs, hk, hkk⟩, a3, a4, a5, a6, rfl⟩
    obtain ⟨t, part, r, ys, pre, vs, rfl, nt, gt, hr2, ry, e1, e2, e3⟩ : ∃ (t : Addr) (part : Str) (r : Addr) (ys : List V) (pre vs : List Str), x = .ref t ∧ t ≠ sn ∧ H2 t = some (.tup [.str part, .ref r]) ∧ SqA K H r ys ∧ Rel (RowW K H) ys vs ∧
        (if i = 0 then [] else if i = 1 then ws else ws ++ us) = pre ∧ (if i + 1 = 0 then [] else if i + 1 = 1 then ws else ws ++ us) = pre ++ vs ∧ (pre ++ vs).Nodup ∧ (pre ++ vs).length ≤ 1000 := by
      match i, hi with
      | 0, hi =>
        cases hi
        refine ⟨t1, _, a, xs, [], ws, rfl, nn1, g1, ha, rx, rfl, rfl, ?_, ?_⟩
        · exact (List.nodup_append.mp hnd).1
        · rw [List.length_append] at hlen; show ws.length ≤ 1000; omega
      | 1, hi =>
        cases hi
        exact ⟨t2, _, b, zs, ws, us, rfl, nn2, g2, hb, rz, rfl, rfl, hnd, hlen⟩
    obtain ⟨e3, e4⟩ := e3
    rw [e1] at hkk
    rw [e2]
    have bS : ∀ {H' : Hp}, But [sn] H2 H' → Same H H' := fun b => b.base sH (by simpa using nsn)
    refine ⟨t, _, rfl, SqT.of (b3.at gt (by simpa using nt)), rfl, _, _, rfl, _, _, rfl, rfl, ?_⟩
    have hk3 : ∀ {H'}, But [sn] H3 H' → But [sn] H2 H' := fun b => b3.trans b
    refine for_enumA (i := 4) (a := r) rfl (hr2.same (bS b3)) (fun i σ H' => But [sn] H3 H' ∧ (∃ kvs, H' sn = some (.dK kvs) ∧ kvs.map Prod.fst = (pre ++ vs.take i).map Sum.inr) ∧ ∃ a3 a4 a5 a6, σ = [some (.ref a), some (.ref b), some (.ref sn), a3, a4, a5, a6])
      ⟨But.refl _ _, ⟨kvs, hk, by rw [List.take_zero, List.append_nil]; exact hkk⟩, _, _, _, _, rfl⟩ (fun i σ H' pv => KeepA.but pv.1 hk) ?_ ?_
    · rintro j y σ H4 H5 hj ⟨b4, ⟨kvs4, hk4, hkk4⟩, a3, a4, a5, a6, rfl⟩ ⟨U, yi, yr, rfl, nU, rfl, u1, u2⟩
      cases u1
      obtain ⟨z, ez, c, cs, rfl, hc, hc0⟩ := ry.get u2
      have nUs : sn ≠ U := no_in hk4 nU
      have b5 : But [sn] H3 (upd H4 U (.tup [.int (j : Nat), .ref c])) := b4.trans (But.of (Same.new nU))
      have hc5 := hc.same (bS (hk3 b5))
      have hk5 : upd H4 U (.tup [.int (j : Nat), .ref c]) sn = some (.dK kvs4) := by rw [upd_ne nUs]; exact hk4
      have hz : Sum.inr z ∉ kvs4.map Prod.fst := by
        rw [hkk4]
        intro hm
        obtain ⟨z', hz', e⟩ := List.mem_map.mp hm
        injection e with e
        subst e
        have hi' := (List.getElem?_eq_some_iff.mp ez).1
        have e9 : pre ++ vs = (pre ++ vs.take j) ++ vs.drop j := by rw [List.append_assoc, List.take_append_drop]
        rw [e9, List.drop_eq_getElem_cons hi', (List.getElem?_eq_some_iff.mp ez).2] at e3
        have := (List.nodup_append.mp e3).2.2 z' hz' z' (List.mem_cons_self ..)
        exact this rfl
      have hlen4 : kvs4.length ≤ 1000 := by
        have h1 := congrArg List.length hkk4
        simp only [List.length_map, List.length_append, List.length_take] at h1 e4
        omega
      refine ⟨U, _, rfl, SqT.of upd_same, rfl, _, _, rfl, _, _, rfl, rfl, ?_⟩
      refine ⟨_, rfl, rIx_of (v := .str z) hc5 hc0 ⟨_, rfl, sn, _, rfl, DGet.k (k := Sum.inr z) hk5, _, rfl, iteF' (by rw [valV_not hz]; rfl) ?_⟩⟩
      refine ⟨_, rfl, _, rfl, rIx_of (v := .str z) hc5 hc0 ⟨sn, _, rfl, DPut.k (k := Sum.inr z) hk5 (small_lt (by omega)), ?_⟩⟩
      refine ⟨b5.upd (.inl (by simp)), ⟨_, upd_same, ?_⟩, _, _, _, _, rfl⟩
      rw [putK_keys hz, hkk4, List.take_succ_eq_append_getElem (List.getElem?_eq_some_iff.mp ez).1, (List.getElem?_eq_some_iff.mp ez).2, ← List.append_assoc, List.map_append (l₂ := [z])]
      rfl
    · rintro σ H4 ⟨b4, ⟨kvs4, hk4, hkk4⟩, a3, a4, a5, a6, rfl⟩
      refine ⟨b3.trans b4, ⟨kvs4, hk4, ?_⟩, _, _, _, _, rfl⟩
      rw [hkk4, ry.1, List.take_length]
  · rintro σ H3 ⟨b3, _, a3, a4, a5, a6, rfl⟩
    exact q H3 (b3.base sH (by simpa using nsn))

end
end Sy

/-! part: Y4 -/
set_option Elab.async false
set_option linter.all false
set_option maxRecDepth 100000
set_option maxHeartbeats 4000000
namespace Sy
open PySem PySem.Spec PyProof.Rows L2
section
variable {P : Program} {w : World} {K : PySem.W.Frag} {mg : Str → Option Value} {base : Heap}
theorem fld_of {K : PySem.W.Frag} {ta tv : TE} {f : Str} {D : Ends} {σ : L2.St} {H : Hp} (h : tv σ H fun y H1 => ta σ H1 fun x H2 => ∃ a C dx fs, x = .ref a ∧ H2 a = some (.ins C dx fs) ∧ Cls K C ∧ NoAttr K C f ∧ fs.length < 1000 ∧ D.nx σ (upd H2 a (.ins C dx (putF f y fs)))) : sFld K ta tv f D σ H := h
theorem cb1_of {r : List V → Hp → VK → Prop} {te : TE} {σ : L2.St} {H : Hp} {Q : VK} (h : te σ H fun x H1 => r [x] H1 Q) : tCB r (tCons te tNil) σ H Q := h
theorem SqT.keep {K : PySem.W.Frag} {H H' : Hp} {p : Addr} {o : HO} (hp : H p = some o) (ho : (∀ xs, o ≠ .tup xs) ∧ ∀ ob xs, o ≠ .frz ob (.tup xs)) (b : But [p] H H') {a : Addr} {xs : List V} (h : SqT K H a xs) : SqT K H' a xs := by
  rcases h with (h | ⟨ob, h⟩) | h
  · exact .inl (.inl (b _ _ h (by
      simp only [List.mem_singleton]
      rintro rfl
      rw [hp] at h
      injection h with h
      exact ho.1 _ h)))
  · exact .inl (.inr ⟨ob, b _ _ h (by
      simp only [List.mem_singleton]
      rintro rfl
      rw [hp] at h
      injection h with h
      exact ho.2 _ _ h)⟩)
  · exact .inr h
def RowT {α : Type} (K : PySem.W.Frag) (f : α → List V) (H : Hp) (x : V) (p : α) : Prop := ∃ a, x = .ref a ∧ SqT K H a (f p)
def RowA {α : Type} (K : PySem.W.Frag) (f : α → List V) (H : Hp) (x : V) (p : α) : Prop := ∃ a, x = .ref a ∧ SqA K H a (f p)
theorem RowT.keep {α : Type} {K : PySem.W.Frag} {f : α → List V} {H H' : Hp} (k : ∀ {a xs}, SqT K H a xs → SqT K H' a xs) {x : V} {p : α} (h : RowT K f H x p) : RowT K f H' x p := by
  obtain ⟨a, e, q⟩ := h; exact ⟨a, e, k q⟩
theorem tup_rows {α : Type} (f : α → List V) {K : PySem.W.Frag} {H : Hp} {l : List α} {i : Nat} {a x y z : Addr} {a3 : Option V} {xs : List V} {Q : VK} (hv : ([some (.ref x), some (.ref y), some (.ref z), a3] : L2.St)[i]? = some (some (.ref a))) (hq : SqA K H a xs) (hr : Rel (RowA K f H) xs l) (hl : l.length ≤ 1000)
    (h : ∀ D H' ys, Same H H' → H' D = some (.lst ys) → Rel (RowT K f H') ys l → Q (.ref D) H') :
    tLc (iSeq K (tVar i)) (gName 3) tYes (tCB (rTupOf K) (tCons (tVar 3) tNil)) ([(Str.ofString "row", 3)].map (·.2)) [some (.ref x), some (.ref y), some (.ref z), a3] H Q := by
  refine lc_seqA hv hq fun J G wk hG D nD => ?_
  refine lc_it wk (fun i H' => Same H H' ∧ ∃ ys, H' D = some (.lst ys) ∧ Rel (RowT K f H') ys (l.take i)) ⟨Same.new nD, [], upd_same, Rel.nil⟩ (fun i H' _ pv => hG _ (KeepA.same pv.1)) ?_ ?_
  · rintro i v H1 H2 hi ⟨sH, ys, hD, ry⟩ ⟨rfl, e⟩
    obtain ⟨p, ep, b, rfl, hb⟩ := hr.get e
    have hi' := (List.getElem?_eq_some_iff.mp ep).1
    have et : l.take (i + 1) = l.take i ++ [p] := by rw [List.take_succ_eq_append_getElem hi', (List.getElem?_eq_some_iff.mp ep).2]
    have hyl : ys.length < 100000 := by rw [ry.1, List.length_take]; omega
    refine ⟨rfl, yes_of ?_⟩
    have fin : ∀ (q : Addr) (H3 : Hp), Same H2 H3 → SqT K H3 q (f p) → ∃ acc, H3 D = some (.lst acc) ∧ acc.length < sizeLine ∧ (Same H (upd H3 D (.lst (acc ++ [.ref q]))) ∧ ∃ ys, upd H3 D (.lst (acc ++ [.ref q])) D = some (.lst ys) ∧ Rel (RowT K f (upd H3 D (.lst (acc ++ [.ref q])))) ys (l.take (i + 1))) := fun q H3 s3 hq3 => by
      have hD3 := s3 _ _ hD
      have kp : ∀ {c cs}, SqT K H3 c cs → SqT K (upd H3 D (.lst (ys ++ [.ref q]))) c cs := fun hc => SqT.keep hD3 ⟨fun _ z => (by cases z), fun _ _ z => (by cases z)⟩ ((But.refl _ _).upd (.inl (by simp))) hc
      refine ⟨ys, hD3, small_lt (by omega), (sH.trans s3).mut nD, _, upd_same, ?_⟩
      rw [et]
      exact Rel.append (ry.imp fun a b h => RowT.keep kp (RowT.keep (fun hc => s3.tup hc) h)) (Rel.cons ⟨q, rfl, kp hq3⟩ Rel.nil)
    rcases hb.same sH with hb | hb
    · exact ⟨_, rfl, b, _, rfl, .inl ⟨hb, fun q nq => fin q _ (Same.new nq) (SqT.of upd_same)⟩⟩
    · exact ⟨_, rfl, b, _, rfl, .inr ⟨hb, fin b _ (Same.refl _) hb⟩⟩
  · rintro H1 ⟨sH, ys, hD, ry⟩
    rw [hr.1, List.take_length] at ry
    exact h D H1 ys sH hD ry
/-- the rows make a system -/
structure Valid (R : Rs) : Prop where
  sim : ∀ p ∈ R.simple, SimOk p
  mul : ∀ m ∈ R.mults, MulOk m
  nd : (wordsL R).Nodup
  sz : R.simple.length ≤ 24
  mz : R.mults.length ≤ 6
structure SysIn (K : PySem.W.Frag) (H : Hp) (a b : Addr) (R : Rs) : Prop where
  sim : ∃ xs, SqA K H a xs ∧ Rel (RawS K H) xs R.simple
  mul : ∃ zs, SqA K H b zs ∧ Rel (RawM K H) zs R.mults
abbrev yf1 (s : Addr) : List (Str × V) := [("simple", .ref s)]
abbrev yf2 (s m : Addr) : List (Str × V) := [("simple", .ref s), ("multipliers", .ref m)]
abbrev yf3 (s m v : Addr) : List (Str × V) := [("simple", .ref s), ("multipliers", .ref m), ("_values", .ref v)]
theorem py1 {s : Addr} : putF ("simple" : Str) (.ref s) [] = yf1 s := by with_unfolding_all rfl
theorem py2 {s m : Addr} : putF ("multipliers" : Str) (.ref m) (yf1 s) = yf2 s m := by with_unfolding_all rfl
theorem py3 {s m v : Addr} : putF ("_values" : Str) (.ref v) (yf2 s m) = yf3 s m v := by with_unfolding_all rfl
theorem py4 {s m v r : Addr} : putF ("_rows" : Str) (.ref r) (yf3 s m v) = sysF s m v r := by with_unfolding_all rfl
theorem ly2 {s m : Addr} : (yf2 s m).lookup ("simple" : Str) = some (.ref s) := by with_unfolding_all rfl
theorem ly3 {s m v : Addr} : (yf3 s m v).lookup ("multipliers" : Str) = some (.ref m) := by with_unfolding_all rfl
abbrev simL (p : Str × Nat) : List V := [.str p.1, .int (p.2 : Nat)]
def spY_init (K : PySem.W.Frag) : Sp := fun vs H Q _ => ∃ (x a b dx : Addr) (R : Rs) (out : M), vs = [.ref x, .ref a, .ref b] ∧ H x = some (.ins (cY K) dx []) ∧ SysIn K H a b R ∧ Valid R ∧ IsOut R out ∧ ∀ H' s m, But [x] H H' → SysAt K H' x R s m → Q .non H'
theorem ok_Y_init (W : Wd K mg) : Has P w K mg base 4 (He.ma K (He.ga K "System") "__init__") ["self", "simple", "multipliers"] [] (spY_init K) := by
  have h_check_rows := ok_check_rows (P := P) (w := w) (base := base) W
  have h_check_words := ok_check_words (P := P) (w := w) (base := base) W
  have h_check_endless := ok_check_endless (P := P) (w := w) (base := base) W
  refine mkHas (d := d_Y_init) (N := N_Y_init) (ps := ["self", "simple", "multipliers"]) (W.says.def_ 35) sc_Y_init (fun _ _ _ _ _ _ us hl => match us, hl with | [_, _, _], _ => rfl) (fun vs H Q E h => ?_) (fun cdv A outer s0 H vs Q E hr h => ?_)
  · obtain ⟨_, _, _, _, _, _, rfl, _⟩ := h
    rfl
  obtain ⟨x, a, b, dx, R, out, rfl, hx, ⟨⟨xs, ha, rx⟩, ⟨zs, hb, rz⟩⟩, hV, hO, q⟩ := h
  have v1 := hV.sz
  have v2 := hV.mz
  refine ⟨_, (pss_cons (ps_expr (pe_callH h_check_rows W.g_check_rows (hr.mono (by omega)) rfl (pa_cons pe_str (pa_cons (pv 1) (pa_cons (pe_globI W.c_MOST_SIMPLE rfl) pa_nil)))))
      (pss_cons (ps_expr (pe_callH h_check_rows W.g_check_rows (hr.mono (by omega)) rfl (pa_cons pe_str (pa_cons (pv 2) (pa_cons (pe_globI W.c_MOST_MULTIPLIERS rfl) pa_nil)))))
      (pss_cons (ps_expr (pe_callH h_check_words W.g_check_words (hr.mono (by omega)) rfl (pa_cons (pv 1) (pa_cons (pv 2) pa_nil))))
      (pss_cons (ps_expr (pe_callH h_check_endless W.g_check_endless (hr.mono (by omega)) rfl (pa_cons (pv 2) pa_nil)))
      (pss_mid (ps_fld (pv 0) (pe_callTy call_tuple_of rfl W.f_tuple PyProof.Rows.boot_tuple (pa_cons (pe_lc (own := [("row", 3)]) (g := gName 3) rfl sc_Y_init.nd (pi_seq (pv 1)) (blkOk_by (own := [("row", 3)]) (N := N_Y_init) (sc := defScope s_Y_init) (by decide +kernel)) (fun _ _ _ _ _ => (pg_name (i := 3) sc_Y_init.nd rfl (Or.inl rfl))) (fun _ _ _ _ _ => pts_nil) (fun _ _ _ _ _ => (pe_callTy (call_tuple_ofK (K := K) rfl) rfl W.f_tuple PyProof.Rows.boot_tuple (pa_cons (pv 3) pa_nil)))) pa_nil)) rfl)
      (pss_mid (ps_fld (pv 0) (pe_callTy call_tuple_of rfl W.f_tuple PyProof.Rows.boot_tuple (pa_cons (pe_lc (own := [("row", 3)]) (g := gName 3) rfl sc_Y_init.nd (pi_seq (pv 2)) (blkOk_by (own := [("row", 3)]) (N := N_Y_init) (sc := defScope s_Y_init) (by decide +kernel)) (fun _ _ _ _ _ => (pg_name (i := 3) sc_Y_init.nd rfl (Or.inl rfl))) (fun _ _ _ _ _ => pts_nil) (fun _ _ _ _ _ => (pe_callTy (call_tuple_ofK (K := K) rfl) rfl W.f_tuple PyProof.Rows.boot_tuple (pa_cons (pv 3) pa_nil)))) pa_nil)) rfl)
      (pss_mid (ps_fld (pv 0) (pe_dc (own := [("row", 3)]) (g := gName 3) rfl sc_Y_init.nd (pi_tup (pe_fld (pv 0) rfl)) (blkOk_by (own := [("row", 3)]) (N := N_Y_init) (sc := defScope s_Y_init) (by decide +kernel)) (fun _ _ _ _ _ => (pg_name (i := 3) sc_Y_init.nd rfl (Or.inl rfl))) (fun _ _ _ _ _ => pts_nil) (fun _ _ _ _ _ => (pe_ix (ix_tupK (K := K) rfl) (pv 3) pe_int (fun _ _ => rfl))) (fun _ _ _ _ _ => (pe_ix (ix_tupK (K := K) rfl) (pv 3) pe_int (fun _ _ => rfl)))) rfl)
      (pss_one (ps_fld (pv 0) (pe_dc (own := [("row", 3)]) (g := gName 3) rfl sc_Y_init.nd (pi_tup (pe_fld (pv 0) rfl)) (blkOk_by (own := [("row", 3)]) (N := N_Y_init) (sc := defScope s_Y_init) (by decide +kernel)) (fun _ _ _ _ _ => (pg_name (i := 3) sc_Y_init.nd rfl (Or.inl rfl))) (fun _ _ _ _ _ => pts_nil) (fun _ _ _ _ _ => (pe_ix (ix_tupK (K := K) rfl) (pv 3) pe_int (fun _ _ => rfl))) (fun _ _ _ _ _ => (pv 3))) rfl))))))))), ?_⟩
  refine ⟨_, rfl, "simple", a, 24, xs, rfl, by rw [rx.1]; exact v1, ha, .inl ⟨rfl, R.simple, rx, hV.sim⟩, fun H1 s1 => ?_⟩
  have rz1 := rz.imp fun _ _ => RawM.same s1
  refine ⟨_, rfl, "multipliers", b, 6, zs, rfl, by rw [rz.1]; exact v2, hb.same s1, .inr ⟨by decide +kernel, R.mults, rz1, hV.mul⟩, fun H2 s2 => ?_⟩
  have s12 := s1.trans s2
  have rw1 : Rel (RowW K H2) xs (R.simple.map (·.1)) := (rx.imp fun _ _ => RawS.same s12).map fun x p h => by obtain ⟨c, e1, e2⟩ := h; exact ⟨c, _, e1, e2, rfl⟩
  have rw2 : Rel (RowW K H2) zs (R.mults.map (·.word)) := (rz.imp fun _ _ => RawM.same s12).map fun x p h => by obtain ⟨c, e1, e2⟩ := h; exact ⟨c, _, e1, e2, rfl⟩
  refine ⟨_, rfl, _, rfl, a, b, xs, zs, _, _, rfl, ha.same s12, hb.same s12, rw1, rw2, hV.nd, by rw [List.length_append, List.length_map, List.length_map]; omega, fun H3 s3 => ?_⟩
  have s13 := s12.trans s3
  refine ⟨_, rfl, b, zs, R, out, rfl, hb.same s13, rz.imp fun _ _ => RawM.same s13, hO, fun H4 s4 => ?_⟩
  have s14 := s13.trans s4
  have hx4 := s14 _ _ hx
  -- simple
  refine ⟨fun σ H' => ∃ s a3, But [x] H H' ∧ H' x = some (.ins (cY K) dx (yf1 s)) ∧ SimAt K H' s R.simple ∧ SysIn K H' a b R ∧ σ = [some (.ref x), some (.ref a), some (.ref b), a3], ?_, ?_⟩
  · refine fld_of (cb1_of (tup_rows (i := 1) simL rfl (ha.same s14) ((rx.imp fun _ _ => RawS.same s14).imp fun _ _ h => h) (by omega) fun D H5 ys s5 hD ry => ?_))
    refine ⟨D, _, rfl, .inl ⟨SqL.of hD, fun l nl => ?_⟩⟩
    have s6 : Same H5 (upd H5 l (.tup ys)) := Same.new nl
    have s46 := s5.trans s6
    have sA := s14.trans s46
    refine ⟨_, rfl, x, _, dx, _, rfl, s46 _ _ hx4, W.k_System, W.n_System_simple, by decide, ?_⟩
    rw [py1]
    have bb : But [x] (upd H5 l (.tup ys)) (upd (upd H5 l (.tup ys)) x (.ins (cY K) dx (yf1 l))) := (But.refl _ _).upd (.inl (by simp))
    have kp : ∀ {c cs}, SqT K (upd H5 l (.tup ys)) c cs → SqT K (upd (upd H5 l (.tup ys)) x (.ins (cY K) dx (yf1 l))) c cs := fun hc => SqT.keep (s46 _ _ hx4) ⟨fun _ z => (by cases z), fun _ _ z => (by cases z)⟩ bb hc
    have kl : ∀ {c cs}, SqA K (upd H5 l (.tup ys)) c cs → SqA K (upd (upd H5 l (.tup ys)) x (.ins (cY K) dx (yf1 l))) c cs := fun hc => by
      rcases hc with hc | hc
      · refine .inl ?_
        rcases hc with (hc | ⟨o, hc⟩) | hc
        · exact .inl (.inl (bb _ _ hc (by simpa using (ne_of hc (s46 _ _ hx4) (by intro z; cases z)))))
        · exact .inl (.inr ⟨o, bb _ _ hc (by simpa using (ne_of hc (s46 _ _ hx4) (by intro z; cases z)))⟩)
        · exact .inr hc
      · exact .inr (kp hc)
    refine ⟨l, _, (But.of sA).trans bb, upd_same, ⟨ys, kp (SqT.of upd_same), (ry.imp fun _ _ h => RowT.keep (fun hc => kp (s6.tup hc)) h)⟩, ⟨⟨xs, kl (ha.same sA), rx.imp fun u p h => ?_⟩, ⟨zs, kl (hb.same sA), rz.imp fun u p h => ?_⟩⟩, rfl⟩
    · obtain ⟨c, e1, e2⟩ := h; exact ⟨c, e1, kl (e2.same sA)⟩
    · obtain ⟨c, e1, e2⟩ := h; exact ⟨c, e1, kl (e2.same sA)⟩
  rintro σ H5 ⟨s, a3, b5, hx5, hs5, ⟨⟨xs5, ha5, rx5⟩, ⟨zs5, hb5, rz5⟩⟩, rfl⟩
  refine ⟨fun σ H' => ∃ m a3, But [x] H H' ∧ H' x = some (.ins (cY K) dx (yf2 s m)) ∧ SimAt K H' s R.simple ∧ MulAt K H' m R.mults ∧ σ = [some (.ref x), some (.ref a), some (.ref b), a3], ?_, ?_⟩
  · refine fld_of (cb1_of (tup_rows (i := 2) mulL rfl hb5 (rz5.imp fun _ _ h => h) (by omega) fun D H6 ys s6 hD ry => ?_))
    refine ⟨D, _, rfl, .inl ⟨SqL.of hD, fun l nl => ?_⟩⟩
    have s7 : Same H6 (upd H6 l (.tup ys)) := Same.new nl
    have s57 := s6.trans s7
    refine ⟨_, rfl, x, _, dx, _, rfl, s57 _ _ hx5, W.k_System, W.n_System_multipliers, (by show 1 < 1000; decide), ?_⟩
    rw [py2]
    have bb : But [x] (upd H6 l (.tup ys)) (upd (upd H6 l (.tup ys)) x (.ins (cY K) dx (yf2 s l))) := (But.refl _ _).upd (.inl (by simp))
    have kp : ∀ {c cs}, SqT K (upd H6 l (.tup ys)) c cs → SqT K (upd (upd H6 l (.tup ys)) x (.ins (cY K) dx (yf2 s l))) c cs := fun hc => SqT.keep (s57 _ _ hx5) ⟨fun _ z => (by cases z), fun _ _ z => (by cases z)⟩ bb hc
    obtain ⟨us, hu1, hu2⟩ := hs5
    exact ⟨l, _, (b5.trans (But.of s57)).trans bb, upd_same, ⟨us, kp (s57.tup hu1), hu2.imp fun _ _ h => RowT.keep (f := simL) (fun hc => kp (s57.tup hc)) h⟩, ⟨ys, kp (SqT.of upd_same), (ry.imp fun _ _ h => RowT.keep (fun hc => kp (s7.tup hc)) h)⟩, rfl⟩
  rintro σ H6 ⟨m, a3, b6, hx6, ⟨us, hu1, hu2⟩, ⟨ts, ht1, ht2⟩, rfl⟩
  refine ⟨fun σ H' => ∃ v a3, But [x] H H' ∧ H' x = some (.ins (cY K) dx (yf3 s m v)) ∧ SimAt K H' s R.simple ∧ MulAt K H' m R.mults ∧ σ = [some (.ref x), some (.ref a), some (.ref b), a3], ?_, ?_⟩
  · refine ⟨_, rfl, x, _, dx, _, _, rfl, hx6, W.k_System, W.n_System_simple, ly2, s, rfl, ⟨_, hu1⟩, fun D nD => ?_⟩
    refine dc_tup (xs := us) (fun i H' => Same H6 H' ∧ ∃ kvs, H' D = some (.dK kvs) ∧ kvs.length ≤ i) ⟨Same.new nD, [], upd_same, Nat.zero_le _⟩ (fun i H' _ pv => pv.1.tup hu1) ?_ ?_
    · rintro i v H7 hi ⟨s7, kvs, hD, hl⟩
      obtain ⟨p, ep, c, rfl, hc⟩ := hu2.get hi
      have hip := (List.getElem?_eq_some_iff.mp ep).1
      refine ⟨rfl, yes_of ?_⟩
      exact ⟨_, rfl, c, _, _, _, rfl, rfl, s7.tup hc, rfl, _, rfl, c, _, _, _, rfl, rfl, s7.tup hc, rfl, kvs, .inr p.1, rfl, hD, small_lt (by omega), s7.mut nD, _, upd_same, Nat.le_trans put_len (by omega)⟩
    · rintro H7 ⟨s7, kvs, hD, hl⟩
      refine ⟨_, rfl, x, _, dx, _, rfl, s7 _ _ hx6, W.k_System, W.n_System_values, (by show 2 < 1000; decide), ?_⟩
      rw [py3]
      have bb : But [x] H7 (upd H7 x (.ins (cY K) dx (yf3 s m D))) := (But.refl _ _).upd (.inl (by simp))
      have kp : ∀ {c cs}, SqT K H6 c cs → SqT K (upd H7 x (.ins (cY K) dx (yf3 s m D))) c cs := fun hc => SqT.keep (s7 _ _ hx6) ⟨fun _ z => (by cases z), fun _ _ z => (by cases z)⟩ bb (s7.tup hc)
      exact ⟨D, _, (b6.trans (But.of s7)).trans bb, upd_same, ⟨us, kp hu1, hu2.imp fun _ _ h => RowT.keep (f := simL) kp h⟩, ⟨ts, kp ht1, ht2.imp fun _ _ h => RowT.keep (f := mulL) kp h⟩, rfl⟩
  rintro σ H7 ⟨v, a3, b7, hx7, ⟨us7, hu7, hv7⟩, ⟨ts7, ht7, hw7⟩, rfl⟩
  refine ⟨_, rfl, x, _, dx, _, _, rfl, hx7, W.k_System, W.n_System_multipliers, ly3, m, rfl, ⟨_, ht7⟩, fun D nD => ?_⟩
  refine dc_tup (xs := ts7) (fun i H' => Same H7 H' ∧ ∃ kvs, H' D = some (.dK kvs) ∧ kvs.length ≤ i) ⟨Same.new nD, [], upd_same, Nat.zero_le _⟩ (fun i H' _ pv => pv.1.tup ht7) ?_ ?_
  · rintro i u H8 hi ⟨s8, kvs, hD, hl⟩
    obtain ⟨p, ep, c, rfl, hc⟩ := hw7.get hi
    have hip := (List.getElem?_eq_some_iff.mp ep).1
    refine ⟨rfl, yes_of ?_⟩
    exact ⟨_, rfl, c, mulL p, _, _, rfl, rfl, s8.tup hc, rfl, _, rfl, kvs, .inr p.word, rfl, hD, small_lt (by omega), s8.mut nD, _, upd_same, Nat.le_trans put_len (by omega)⟩
  · rintro H8 ⟨s8, kvs, hD, hl⟩
    refine ⟨_, rfl, x, _, dx, _, rfl, s8 _ _ hx7, W.k_System, W.n_System_rows, (by show 3 < 1000; decide), ?_⟩
    rw [py4]
    have bb : But [x] H8 (upd H8 x (.ins (cY K) dx (sysF s m v D))) := (But.refl _ _).upd (.inl (by simp))
    have kp : ∀ {c cs}, SqT K H7 c cs → SqT K (upd H8 x (.ins (cY K) dx (sysF s m v D))) c cs := fun hc => SqT.keep (s8 _ _ hx7) ⟨fun _ z => (by cases z), fun _ _ z => (by cases z)⟩ bb (s8.tup hc)
    exact q _ s m ((b7.trans (But.of s8)).trans bb) ⟨⟨dx, v, D, upd_same⟩, ⟨us7, kp hu7, hv7.imp fun _ _ h => RowT.keep (f := simL) kp h⟩, ⟨ts7, kp ht7, hw7.imp fun _ _ h => RowT.keep (f := mulL) kp h⟩⟩

end
end Sy

/-! part: L1 -/
set_option Elab.async false
set_option linter.all false
set_option maxRecDepth 100000
set_option maxHeartbeats 4000000
namespace Sy
open PySem PySem.Spec PyProof.Rows L2
section
variable {P : Program} {w : World} {K : PySem.W.Frag} {mg : Str → Option Value} {base : Heap}
/-! ### the law: the pool -/
def cellN (c : Int) : Nat := if 0 ≤ c then (2 * c).toNat else (-2 * c - 1).toNat
structure PoolAt (H : Hp) (p L : Addr) (cs : List Nat) : Prop where
  at_ : ∃ i d s : Nat, H p = some (.lst [.ref L, .int (i : Nat), .int (d : Nat), .int (s : Nat)]) ∧ s < 2147483647
  cells : H L = some (.lst (cs.map fun c => V.int (c : Nat)))
  ne : L ≠ p
theorem PoolAt.same {H H' : Hp} {p L : Addr} {cs : List Nat} (e : Same H H') (h : PoolAt H p L cs) : PoolAt H' p L cs := by
  obtain ⟨⟨i, d, s, h1, h2⟩, h3, h4⟩ := h
  exact ⟨⟨i, d, s, e _ _ h1, h2⟩, e _ _ h3, h4⟩
def sp_l_pool (K : PySem.W.Frag) : Sp := fun vs H Q _ => ∃ (a : Addr) (ns : List Int), vs = [.ref a] ∧ SqL K H a (ns.map V.int) ∧ ns.length < sizeLine ∧ ∀ p L H', Same H H' → H p = none → PoolAt H' p L (ns.map cellN) → Q (.ref p) H'
theorem ok_l_pool (W : Wd K mg) : Has P w K mg base 1 (He.ga K "_law_pool") ["_law_script"] [] (sp_l_pool K) := by
  refine mkHas (d := d_l_pool) (N := N_l_pool) (ps := ["_law_script"]) (W.says.def_ 39) sc_l_pool (fun _ _ _ _ _ _ us hl => match us, hl with | [_], _ => rfl) (fun vs H Q E h => ?_) (fun cdv A outer s0 H vs Q E hr h => ?_)
  · obtain ⟨_, _, rfl, _⟩ := h
    rfl
  obtain ⟨a, ns, rfl, ha, hl, q⟩ := h
  refine ⟨_, (pss_one (ps_ret (pe_lst (pa_cons (pe_lc (own := [("_law_cell", 1)]) (g := gName 1) rfl sc_l_pool.nd (pi_list (pv 0)) (blkOk_by (own := [("_law_cell", 1)]) (N := N_l_pool) (sc := defScope s_l_pool) (by decide +kernel)) (fun _ _ _ _ _ => (pg_name (i := 1) sc_l_pool.nd rfl (Or.inl rfl))) (fun _ _ _ _ _ => pts_nil) (fun _ _ _ _ _ => (pe_ifExp (pt_cmpR op_ge (pv 1) pe_int (nomark _)) (pe_op op_mul pe_int (pv 1)) (pe_op op_sub (pe_op op_mul (pe_un un_neg pe_int) (pv 1)) pe_int)))) (pa_cons pe_int (pa_cons pe_int (pa_cons pe_int pa_nil))))))), ?_⟩
  refine ⟨_, rfl, a, rfl, ⟨_, ha⟩, fun L nL => ?_⟩
  refine lc_list (xs := ns.map V.int) (fun i H' => Same H H' ∧ H' L = some (.lst (((ns.take i).map cellN).map fun c => V.int (c : Nat)))) ⟨Same.new nL, upd_same⟩ (fun i H' _ pv => pv.1.seq ha) ?_ ?_
  · rintro i x H1 hi ⟨s1, hL⟩
    rw [List.getElem?_map] at hi
    obtain ⟨c, ec, rfl⟩ := Option.map_eq_some_iff.mp hi
    have hi' := (List.getElem?_eq_some_iff.mp ec).1
    refine ⟨rfl, yes_of ?_⟩
    have fin : ∀ c' : Int, c' = (cellN c : Nat) → ∃ acc, H1 L = some (.lst acc) ∧ acc.length < sizeLine ∧ (Same H (upd H1 L (.lst (acc ++ [.int c']))) ∧ upd H1 L (.lst (acc ++ [.int c'])) L = some (.lst (((ns.take (i + 1)).map cellN).map fun c => V.int (c : Nat)))) := fun c' e => by
      refine ⟨_, hL, ?_, s1.mut nL, ?_⟩
      · rw [List.length_map, List.length_map, List.length_take]; omega
      · rw [upd_same, e, List.take_succ_eq_append_getElem hi', (List.getElem?_eq_some_iff.mp ec).2, List.map_append, List.map_append]
        rfl
    refine ⟨_, rfl, _, _, rfl, rfl, _, rfl, r_dec (fun h => ?_) (fun h => ?_)⟩
    · exact ⟨_, rfl, _, _, rfl, rfl, .inl ⟨by omega, by omega⟩, fin _ (by unfold cellN; rw [if_pos h]; omega)⟩
    · exact ⟨_, rfl, _, rfl, _, _, rfl, rfl, .inl ⟨by omega, by omega⟩, _, _, rfl, rfl, fin _ (by unfold cellN; rw [if_neg h]; omega)⟩
  · rintro H1 ⟨s1, hL⟩
    rw [List.length_map, List.take_length] at hL
    refine ⟨by show 4 ≤ sizeLine; decide, fun p np => ?_⟩
    have nLp : L ≠ p := no_in hL np
    exact q p L _ (s1.new' np) (s1.free np) ⟨⟨0, 0, 17, upd_same, by decide⟩, by rw [upd_ne nLp]; exact hL, nLp⟩

end
end Sy

/-! part: L2a -/
set_option Elab.async false
set_option linter.all false
set_option maxRecDepth 100000
set_option maxHeartbeats 4000000
namespace Sy
open PySem PySem.Spec PyProof.Rows L2
section
variable {P : Program} {w : World} {K : PySem.W.Frag} {mg : Str → Option Value} {base : Heap}
def sp_l_take1 (K : PySem.W.Frag) : Sp := fun vs H Q _ => ∃ (p L : Addr) (cs : List Nat) (i d s many : Nat), vs = [.ref p, .int (many : Nat)] ∧ H p = some (.lst [.ref L, .int (i : Nat), .int (d : Nat), .int (s : Nat)]) ∧ s < 2147483647 ∧ H L = some (.lst (cs.map fun c => V.int (c : Nat))) ∧ L ≠ p ∧ 0 < d ∧ 0 < many ∧ many < 1073741824 ∧
  ∀ r H', But [p] H H' → PoolAt H' p L cs → r < many → Q (.int (r : Nat)) H'
def sp_l_take (K : PySem.W.Frag) : Sp := fun vs H Q _ => ∃ (p L : Addr) (cs : List Nat) (many : Nat), vs = [.ref p, .int (many : Nat)] ∧ PoolAt H p L cs ∧ cs.length < sizeLine ∧ 0 < many ∧ many < 1073741824 ∧
  ∀ r H', But [p] H H' → PoolAt H' p L cs → r < many → Q (.int (r : Nat)) H'
theorem pw18 : (10 : Int) ^ (18 : Int).toNat = 1000000000000000000 := by decide
theorem ok_l_take1 (W : Wd K mg) : Has P w K mg base 1 (He.ga K "_law_take") ["_law_pool_here", "_law_many"] [] (sp_l_take1 K) := by
  have h_l_take : Has P w K mg base 0 (He.ga K "_law_take") ["_law_pool_here", "_law_many"] [] (fun _ _ _ _ => False) := Has.no (d := d_l_take) (W.says.def_ 40) (fun _ _ _ _ _ _ us hl => match us, hl with | [_, _], _ => rfl)
  refine mkHas (d := d_l_take) (N := N_l_take) (ps := ["_law_pool_here", "_law_many"]) (W.says.def_ 40) sc_l_take (fun _ _ _ _ _ _ us hl => match us, hl with | [_, _], _ => rfl) (fun vs H Q E h => ?_) (fun cdv A outer s0 H vs Q E hr h => ?_)
  · obtain ⟨_, _, _, _, _, _, _, rfl, _⟩ := h
    rfl
  obtain ⟨p, L, cs, i, d, s, many, rfl, hp, hs, hL, hne, hd, h0, h1, q⟩ := h
  refine ⟨_, (pss_cons (ps_if (pt_cmpR op_gt (pe_ix ix_list (pv 0) pe_int (fun _ _ => rfl)) pe_int (nomark _)) (pss_cons (ps_set (i := 4) sc_l_take.nd rfl (Or.inl rfl) (pe_op op_nmod (pe_callTy call_int1 rfl W.f_int PyProof.Rows.boot_int (pa_cons (pe_ix ix_list (pv 0) pe_int (fun _ _ => rfl)) pa_nil)) (pv 1)))
      (pss_cons (ps_asg (pe_op op_ndiv (pe_ix ix_list (pv 0) pe_int (fun _ _ => rfl)) (pv 1)) (pg_sub (pv 0) pe_int set_list))
      (pss_one (ps_ret (pv 4))))) pss_nil)
      (pss_cons (ps_set (i := 2) sc_l_take.nd rfl (Or.inl rfl) pe_int)
      (pss_cons (ps_if (pt_cmpR op_lt (pe_ix ix_list (pv 0) pe_int (fun _ _ => rfl)) (pe_callB call_len rfl W.f_len PySem.boot_len (pa_cons (pe_ix ix_list (pv 0) pe_int (fun _ _ => rfl)) pa_nil)) (nomark _)) (pss_one (ps_set (i := 2) sc_l_take.nd rfl (Or.inl rfl) (pe_ix ix_list (pe_ix ix_list (pv 0) pe_int (fun _ _ => rfl)) (pe_ix ix_list (pv 0) pe_int (fun _ _ => rfl)) (fun _ _ => rfl)))) pss_nil)
      (pss_cons (ps_asg (pe_op op_nadd (pe_ix ix_list (pv 0) pe_int (fun _ _ => rfl)) pe_int) (pg_sub (pv 0) pe_int set_list))
      (pss_cons (ps_if (pt_cmpR op_ge (pv 2) (pe_op op_pow pe_int pe_int) (nomark _)) (pss_cons (ps_asg (pe_op op_ndiv (pv 2) pe_int) (pg_sub (pv 0) pe_int set_list))
      (pss_one (ps_ret (pe_callH h_l_take W.g_l_take (hr.mono (by omega)) rfl (pa_cons (pv 0) (pa_cons (pv 1) pa_nil)))))) pss_nil)
      (pss_cons (ps_asg (pe_op op_nmod (pe_callTy call_int1 rfl W.f_int PyProof.Rows.boot_int (pa_cons (pe_op op_nadd (pe_op op_nadd (pe_op op_nmul (pe_ix ix_list (pv 0) pe_int (fun _ _ => rfl)) pe_int) (pe_op op_nmul (pv 2) pe_int)) (pe_op op_nmul (pe_ix ix_list (pv 0) pe_int (fun _ _ => rfl)) pe_int)) pa_nil)) pe_int) (pg_sub (pv 0) pe_int set_list))
      (pss_cons (ps_set (i := 3) sc_l_take.nd rfl (Or.inl rfl) (pe_op op_nmod (pe_callTy call_int1 rfl W.f_int PyProof.Rows.boot_int (pa_cons (pe_op op_nadd (pe_op op_nadd (pe_op op_nmul (pe_ix ix_list (pv 0) pe_int (fun _ _ => rfl)) (pe_ix ix_list (pv 0) pe_int (fun _ _ => rfl))) (pe_op op_nmul (pe_ix ix_list (pv 0) pe_int (fun _ _ => rfl)) pe_int)) pe_int) pa_nil)) pe_int))
      (pss_one (ps_ret (pe_op op_nmod (pe_callTy call_int1 rfl W.f_int PyProof.Rows.boot_int (pa_cons (pe_op op_ndiv (pv 3) pe_int) pa_nil)) (pv 1))))))))))), ?_⟩
  refine ⟨_, rfl, p, _, _, _, rfl, rfl, SqL.of hp, rfl, _, _, rfl, rfl, _, rfl, iteT' (decide_eq_true (by omega)) ?_⟩
  refine ⟨_, rfl, p, _, _, _, rfl, rfl, SqL.of hp, rfl, .inl ⟨_, rfl, _, rfl, _, _, rfl, rfl, h0, ?_⟩⟩
  refine ⟨_, rfl, p, _, _, _, rfl, rfl, SqL.of hp, rfl, _, rfl, _, _, rfl, rfl, ⟨h0, h1⟩, _, rfl, p, _, _, 2, rfl, rfl, hp, rfl, ?_⟩
  refine ⟨_, rfl, q _ _ ((But.refl _ _).upd (.inl (by simp))) ⟨⟨i, d / many, s, upd_same, hs⟩, ?_, hne⟩ (Nat.mod_lt _ h0)⟩
  rw [upd_ne hne]; exact hL
theorem ok_l_take (W : Wd K mg) : Has P w K mg base 2 (He.ga K "_law_take") ["_law_pool_here", "_law_many"] [] (sp_l_take K) := by
  have h_l_take := ok_l_take1 (P := P) (w := w) (base := base) W
  refine mkHas (d := d_l_take) (N := N_l_take) (ps := ["_law_pool_here", "_law_many"]) (W.says.def_ 40) sc_l_take (fun _ _ _ _ _ _ us hl => match us, hl with | [_, _], _ => rfl) (fun vs H Q E h => ?_) (fun cdv A outer s0 H vs Q E hr h => ?_)
  · obtain ⟨_, _, _, _, rfl, _⟩ := h
    rfl
  obtain ⟨p, L, cs, many, rfl, ⟨⟨i, d, s, hp, hs⟩, hL, hne⟩, hlen, h0, h1, q⟩ := h
  refine ⟨_, (pss_cons (ps_if (pt_cmpR op_gt (pe_ix ix_list (pv 0) pe_int (fun _ _ => rfl)) pe_int (nomark _)) (pss_cons (ps_set (i := 4) sc_l_take.nd rfl (Or.inl rfl) (pe_op op_nmod (pe_callTy call_int1 rfl W.f_int PyProof.Rows.boot_int (pa_cons (pe_ix ix_list (pv 0) pe_int (fun _ _ => rfl)) pa_nil)) (pv 1)))
      (pss_cons (ps_asg (pe_op op_ndiv (pe_ix ix_list (pv 0) pe_int (fun _ _ => rfl)) (pv 1)) (pg_sub (pv 0) pe_int set_list))
      (pss_one (ps_ret (pv 4))))) pss_nil)
      (pss_cons (ps_set (i := 2) sc_l_take.nd rfl (Or.inl rfl) pe_int)
      (pss_mid (ps_if (pt_cmpR op_lt (pe_ix ix_list (pv 0) pe_int (fun _ _ => rfl)) (pe_callB call_len rfl W.f_len PySem.boot_len (pa_cons (pe_ix ix_list (pv 0) pe_int (fun _ _ => rfl)) pa_nil)) (nomark _)) (pss_one (ps_set (i := 2) sc_l_take.nd rfl (Or.inl rfl) (pe_ix ix_list (pe_ix ix_list (pv 0) pe_int (fun _ _ => rfl)) (pe_ix ix_list (pv 0) pe_int (fun _ _ => rfl)) (fun _ _ => rfl)))) pss_nil)
      (pss_cons (ps_asg (pe_op op_nadd (pe_ix ix_list (pv 0) pe_int (fun _ _ => rfl)) pe_int) (pg_sub (pv 0) pe_int set_list))
      (pss_cons (ps_if (pt_cmpR op_ge (pv 2) (pe_op op_pow pe_int pe_int) (nomark _)) (pss_cons (ps_asg (pe_op op_ndiv (pv 2) pe_int) (pg_sub (pv 0) pe_int set_list))
      (pss_one (ps_ret (pe_callH h_l_take W.g_l_take (hr.mono (by omega)) rfl (pa_cons (pv 0) (pa_cons (pv 1) pa_nil)))))) pss_nil)
      (pss_cons (ps_asg (pe_op op_nmod (pe_callTy call_int1 rfl W.f_int PyProof.Rows.boot_int (pa_cons (pe_op op_nadd (pe_op op_nadd (pe_op op_nmul (pe_ix ix_list (pv 0) pe_int (fun _ _ => rfl)) pe_int) (pe_op op_nmul (pv 2) pe_int)) (pe_op op_nmul (pe_ix ix_list (pv 0) pe_int (fun _ _ => rfl)) pe_int)) pa_nil)) pe_int) (pg_sub (pv 0) pe_int set_list))
      (pss_cons (ps_set (i := 3) sc_l_take.nd rfl (Or.inl rfl) (pe_op op_nmod (pe_callTy call_int1 rfl W.f_int PyProof.Rows.boot_int (pa_cons (pe_op op_nadd (pe_op op_nadd (pe_op op_nmul (pe_ix ix_list (pv 0) pe_int (fun _ _ => rfl)) (pe_ix ix_list (pv 0) pe_int (fun _ _ => rfl))) (pe_op op_nmul (pe_ix ix_list (pv 0) pe_int (fun _ _ => rfl)) pe_int)) pe_int) pa_nil)) pe_int))
      (pss_one (ps_ret (pe_op op_nmod (pe_callTy call_int1 rfl W.f_int PyProof.Rows.boot_int (pa_cons (pe_op op_ndiv (pv 3) pe_int) pa_nil)) (pv 1))))))))))), ?_⟩
  refine ⟨_, rfl, p, _, _, _, rfl, rfl, SqL.of hp, rfl, _, _, rfl, rfl, _, rfl, r_dec (fun hd => ?_) (fun hd => ?_)⟩
  · refine ⟨_, rfl, p, _, _, _, rfl, rfl, SqL.of hp, rfl, .inl ⟨_, rfl, _, rfl, _, _, rfl, rfl, h0, ?_⟩⟩
    refine ⟨_, rfl, p, _, _, _, rfl, rfl, SqL.of hp, rfl, _, rfl, _, _, rfl, rfl, ⟨h0, h1⟩, _, rfl, p, _, _, 2, rfl, rfl, hp, rfl, ?_⟩
    refine ⟨_, rfl, q _ _ ((But.refl _ _).upd (.inl (by simp))) ⟨⟨i, d / many, s, upd_same, hs⟩, ?_, hne⟩ (Nat.mod_lt _ h0)⟩
    rw [upd_ne hne]; exact hL
  · have hd0 : d = 0 := by omega
    refine ⟨fun σ H' => H = H' ∧ ∃ c : Nat, σ = [some (.ref p), some (.int (many : Nat)), some (.int (c : Nat)), none, none], ?_, ?_⟩
    · refine ⟨_, rfl, p, _, _, _, rfl, rfl, SqL.of hp, rfl, _, rfl, p, _, _, _, rfl, rfl, SqL.of hp, rfl, .ref L, _, rfl, .inl ⟨_, SqL.of hL, rfl⟩, _, _, rfl, rfl, _, rfl, r_dec (fun hi => ?_) (fun hi => ?_)⟩
      · rw [List.length_map] at hi
        have hi' : i < cs.length := by omega
        refine ⟨_, rfl, p, _, _, _, rfl, rfl, SqL.of hp, rfl, _, rfl, p, _, _, _, rfl, rfl, SqL.of hp, rfl, L, _, _, .int (cs[i] : Nat), rfl, rfl, SqL.of hL, atI_nat ?_, rfl, cs[i], rfl⟩
        rw [List.getElem?_map, List.getElem?_eq_getElem hi']
        rfl
      · exact ⟨rfl, 0, rfl⟩
    rintro σ _ ⟨rfl, c, rfl⟩
    refine ⟨_, rfl, p, _, _, _, rfl, rfl, SqL.of hp, rfl, i, 1, rfl, rfl, _, rfl, p, _, _, 1, rfl, rfl, hp, rfl, ?_⟩
    have hp1 : upd H p (.lst [.ref L, .int (i + 1 : Nat), .int (d : Nat), .int (s : Nat)]) p = some (.lst [.ref L, .int (i + 1 : Nat), .int (d : Nat), .int (s : Nat)]) := upd_same
    have hL1 : upd H p (.lst [.ref L, .int (i + 1 : Nat), .int (d : Nat), .int (s : Nat)]) L = some (.lst (cs.map fun c => V.int (c : Nat))) := by rw [upd_ne hne]; exact hL
    have b1 : But [p] H (upd H p (.lst [.ref L, .int (i + 1 : Nat), .int (d : Nat), .int (s : Nat)])) := (But.refl _ _).upd (.inl (by simp))
    show tSeq _ _ _ _ (upd H p (.lst [.ref L, .int (i + 1 : Nat), .int (d : Nat), .int (s : Nat)]))
    generalize upd H p (.lst [.ref L, .int (i + 1 : Nat), .int (d : Nat), .int (s : Nat)]) = H1 at hp1 hL1 b1 ⊢
    refine ⟨_, rfl, _, _, rfl, rfl, ⟨by decide, by decide, by decide⟩, _, _, rfl, rfl, _, rfl, r_dec (fun hc => ?_) (fun hc => ?_)⟩
    · rw [pw18] at hc
      refine ⟨_, rfl, c, 2, rfl, rfl, ⟨by decide, by decide⟩, _, rfl, p, _, _, 2, rfl, rfl, hp1, rfl, ?_⟩
      refine ⟨_, rfl, _, rfl, p, L, cs, i + 1, c / 2, s, many, rfl, upd_same, hs, by rw [upd_ne hne]; exact hL1, hne, by omega, h0, h1, fun r H2 b2 hP hr => q r H2 ?_ hP hr⟩
      exact (b1.upd (.inl (by simp))).trans b2
    · rw [pw18] at hc
      refine ⟨_, rfl, p, _, _, _, rfl, rfl, SqL.of hp1, rfl, s, 48271, rfl, rfl, .inr (by decide), _, rfl, c, 69621, rfl, rfl, .inr (by decide), _, _, rfl, rfl, _, rfl, p, _, _, _, rfl, rfl, SqL.of hp1, rfl, i + 1, 613, rfl, rfl, .inr (by decide), _, _, rfl, rfl, .inl ⟨_, rfl, _, 2147483647, rfl, rfl, by decide, _, rfl, p, _, _, 3, rfl, rfl, hp1, rfl, ?_⟩⟩
      have hs2 : (s * 48271 + c * 69621 + (i + 1) * 613) % 2147483647 < 2147483647 := Nat.mod_lt _ (by decide)
      generalize (s * 48271 + c * 69621 + (i + 1) * 613) % 2147483647 = s2 at hs2 ⊢
      have hp2 : upd H1 p (.lst [.ref L, .int (i + 1 : Nat), .int (d : Nat), .int (s2 : Nat)]) p = some (.lst [.ref L, .int (i + 1 : Nat), .int (d : Nat), .int (s2 : Nat)]) := upd_same
      have hL2 : upd H1 p (.lst [.ref L, .int (i + 1 : Nat), .int (d : Nat), .int (s2 : Nat)]) L = some (.lst (cs.map fun c => V.int (c : Nat))) := by rw [upd_ne hne]; exact hL1
      have b2 : But [p] H (upd H1 p (.lst [.ref L, .int (i + 1 : Nat), .int (d : Nat), .int (s2 : Nat)])) := b1.upd (.inl (by simp))
      show tSeq _ _ _ _ (upd H1 p (.lst [.ref L, .int (i + 1 : Nat), .int (d : Nat), .int (s2 : Nat)]))
      generalize upd H1 p (.lst [.ref L, .int (i + 1 : Nat), .int (d : Nat), .int (s2 : Nat)]) = H2 at hp2 hL2 b2 ⊢
      refine ⟨_, rfl, p, _, _, _, rfl, rfl, SqL.of hp2, rfl, _, rfl, p, _, _, _, rfl, rfl, SqL.of hp2, rfl, s2, s2, rfl, rfl, .inr (by omega), _, rfl, p, _, _, _, rfl, rfl, SqL.of hp2, rfl, s2, 7919, rfl, rfl, .inr (by decide), _, _, rfl, rfl, _, 104729, rfl, rfl, .inl ⟨_, rfl, _, 1000000007, rfl, rfl, by decide, ?_⟩⟩
      refine ⟨_, rfl, _, 3, rfl, rfl, ⟨by decide, by decide⟩, .inl ⟨_, rfl, _, rfl, _, _, rfl, rfl, h0, ?_⟩⟩
      exact q _ H2 b2 ⟨⟨i + 1, d, s2, hp2, hs2⟩, hL2, hne⟩ (Nat.mod_lt _ h0)

end
end Sy

/-! part: L3 -/
set_option Elab.async false
set_option linter.all false
set_option maxRecDepth 100000
set_option maxHeartbeats 4000000
namespace Sy
open PySem PySem.Spec PyProof.Rows L2
section
variable {P : Program} {w : World} {K : PySem.W.Frag} {mg : Str → Option Value} {base : Heap}
theorem pw8 : (10 : Int) ^ (8 : Int).toNat = (100000000 : Nat) := by decide
def sp_l_upto (K : PySem.W.Frag) : Sp := fun vs H Q _ => ∃ (p L : Addr) (cs : List Nat) (many : Nat), vs = [.ref p, .int (many : Nat)] ∧ PoolAt H p L cs ∧ cs.length < sizeLine ∧ (many = 3 ∨ many = 40 ∨ many = 1000000000) ∧
  ∀ r H', But [p] H H' → PoolAt H' p L cs → r < many → Q (.int (r : Nat)) H'
theorem ok_l_upto (W : Wd K mg) : Has P w K mg base 3 (He.ga K "_law_upto") ["_law_pool_here", "_law_many"] [] (sp_l_upto K) := by
  have h_l_take := ok_l_take (P := P) (w := w) (base := base) W
  refine mkHas (d := d_l_upto) (N := N_l_upto) (ps := ["_law_pool_here", "_law_many"]) (W.says.def_ 41) sc_l_upto (fun _ _ _ _ _ _ us hl => match us, hl with | [_, _], _ => rfl) (fun vs H Q E h => ?_) (fun cdv A outer s0 H vs Q E hr h => ?_)
  · obtain ⟨_, _, _, _, rfl, _⟩ := h
    rfl
  obtain ⟨p, L, cs, many, rfl, hP, hlen, hm, q⟩ := h
  have hm0 : 0 < many := by omega
  refine ⟨_, (pss_cons (ps_set (i := 2) sc_l_upto.nd rfl (Or.inl rfl) (pe_callH h_l_take W.g_l_take (hr.mono (by omega)) rfl (pa_cons (pv 0) (pa_cons (pe_op op_pow pe_int pe_int) pa_nil))))
      (pss_cons (ps_for PassesOwn.never rfl (pi_range1 rfl W.f_range (pa_cons (pe_op op_nadd pe_int (pe_op op_ndiv (pe_callB call_len rfl W.f_len PySem.boot_len (pa_cons (pe_callTy call_str_int rfl W.f_str PyProof.Rows.boot_str (pa_cons (pv 1) pa_nil)) pa_nil)) pe_int)) pa_nil)) (pg_name (i := 3) sc_l_upto.nd rfl (Or.inl rfl)) (pss_one (ps_set (i := 2) sc_l_upto.nd rfl (Or.inl rfl) (pe_op op_nadd (pe_op op_nmul (pv 2) (pe_op op_pow pe_int pe_int)) (pe_callH h_l_take W.g_l_take (hr.mono (by omega)) rfl (pa_cons (pv 0) (pa_cons (pe_op op_pow pe_int pe_int) pa_nil)))))))
      (pss_one (ps_ret (pe_op op_nmod (pe_callTy call_int1 rfl W.f_int PyProof.Rows.boot_int (pa_cons (pv 2) pa_nil)) (pv 1)))))), ?_⟩
  refine ⟨_, rfl, _, _, rfl, rfl, ⟨by decide, by decide, by decide⟩, ?_⟩
  refine ⟨p, L, cs, 100000000, congrArg (fun z => [V.ref p, V.int z]) pw8, hP, hlen, by decide, by decide, fun r1 H1 b1 hP1 hr1 => ?_⟩
  have hk : ∃ k : Nat, LenV K (.str (toString ((many : Nat) : Int))) H1 k ∧ k ≤ 10 := by
    rcases hm with rfl | rfl | rfl
    · exact ⟨1, ⟨by decide +kernel, by decide +kernel⟩, by decide⟩
    · exact ⟨2, ⟨by decide +kernel, by decide +kernel⟩, by decide⟩
    · exact ⟨10, ⟨by decide +kernel, by decide +kernel⟩, by decide⟩
  obtain ⟨k, hk1, hk2⟩ := hk
  have hl : ((many : Nat) : Int).natAbs.log2 < 1920 := by
    rw [Int.natAbs_natCast]
    rcases hm with rfl | rfl | rfl <;> decide
  refine ⟨_, rfl, _, rfl, hl, _, k, rfl, hk1, _, 8, rfl, rfl, ⟨by decide, by decide⟩, 1, _, rfl, rfl, _, rfl, by omega, by omega, ?_⟩
  refine for_range (fun i σ H' => But [p] H H' ∧ PoolAt H' p L cs ∧ ∃ (f : Nat) (a3 : Option V), σ = [some (.ref p), some (.int (many : Nat)), some (.int (f : Nat)), a3]) ⟨b1, hP1, r1, _, rfl⟩ ?_ ?_
  · rintro i σ H2 hi ⟨b2, hP2, f, a3, rfl⟩
    refine ⟨_, rfl, _, _, rfl, rfl, ⟨by decide, by decide, by decide⟩, f, 100000000, rfl, congrArg V.int pw8, .inr (by decide), _, rfl, _, _, rfl, rfl, ⟨by decide, by decide, by decide⟩, ?_⟩
    refine ⟨p, L, cs, 100000000, congrArg (fun z => [V.ref p, V.int z]) pw8, hP2, hlen, by decide, by decide, fun r3 H3 b3 hP3 hr3 => ?_⟩
    exact ⟨_, _, rfl, rfl, b2.trans b3, hP3, _, _, rfl⟩
  · rintro σ H2 ⟨b2, hP2, f, a3, rfl⟩
    exact ⟨_, rfl, .inl ⟨_, rfl, _, rfl, _, _, rfl, rfl, hm0, q _ H2 b2 hP2 (Nat.mod_lt _ hm0)⟩⟩

end
end Sy

/-! part: L4 -/
set_option Elab.async false
set_option linter.all false
set_option maxRecDepth 100000
set_option maxHeartbeats 4000000
namespace Sy
open PySem PySem.Spec PyProof.Rows L2
section
variable {P : Program} {w : World} {K : PySem.W.Frag} {mg : Str → Option Value} {base : Heap}
def wsum (cs : List Nat) : Nat := (cs.take (min 5 cs.length)).sum
def fl (t k : Nat) : Nat := 97 + (k * (1 + t % 22) + t) % 23
theorem lts : letters.cps.toList = (List.range 26).map fun i => 97 + i := by decide +kernel
theorem lt_at {i : Nat} (h : i < 26) : letters.cps.toList[i]? = some (97 + i) := by
  rw [lts, List.getElem?_map, List.getElem?_range h]
  rfl
theorem lt_mem {c : Nat} : c ∈ letters.cps.toList ↔ 97 ≤ c ∧ c < 123 := by
  rw [lts]
  simp only [List.mem_map, List.mem_range]
  constructor
  · rintro ⟨i, h, rfl⟩; omega
  · rintro ⟨h1, h2⟩; exact ⟨c - 97, by omega, by omega⟩
theorem cut5 (xs : List V) : cutV xs none (some 5) = xs.take (min 5 xs.length) := by
  unfold cutV
  rw [HT.sIx_none, show (some (5 : Int)) = some ((5 : Nat) : Int) from rfl, HT.sIx_nat, List.drop_zero, Nat.sub_zero]
theorem sum_cast : ∀ l : List Nat, (l.map fun c => ((c : Nat) : Int)).sum = ((l.sum : Nat) : Int)
  | [] => rfl
  | x :: l => by
    rw [List.map_cons, List.sum_cons, List.sum_cons, sum_cast l]
    omega
def sp_l_word (K : PySem.W.Frag) : Sp := fun vs H Q _ => ∃ (p L : Addr) (cs : List Nat) (k : Nat), vs = [.ref p, .int (k : Nat)] ∧ PoolAt H p L cs ∧ cs.length < sizeLine ∧
  ∀ z H', But [p] H H' → PoolAt H' p L cs → WordOk z → z.cps[0]? = some (fl (wsum cs) k) → Q (.str z) H'
theorem ok_l_word (W : Wd K mg) : Has P w K mg base 3 (He.ga K "_law_word") ["_law_pool_here", "_law_number"] [] (sp_l_word K) := by
  have h_l_take := ok_l_take (P := P) (w := w) (base := base) W
  refine mkHas (d := d_l_word) (N := N_l_word) (ps := ["_law_pool_here", "_law_number"]) (W.says.def_ 45) sc_l_word (fun _ _ _ _ _ _ us hl => match us, hl with | [_, _], _ => rfl) (fun vs H Q E h => ?_) (fun cdv A outer s0 H vs Q E hr h => ?_)
  · obtain ⟨_, _, _, _, rfl, _⟩ := h
    rfl
  obtain ⟨p, L, cs, k, rfl, hP, hlen, q⟩ := h
  have hlet : letters.length ≤ sizeLine := by decide +kernel
  obtain ⟨⟨i, d, s, hp, hs⟩, hL, hne⟩ := hP
  refine ⟨_, (pss_cons (ps_set (i := 2) sc_l_word.nd rfl (Or.inl rfl) pe_str)
      (pss_mid (ps_set (i := 3) sc_l_word.nd rfl (Or.inl rfl) (pe_callB (cr_sum rfl) rfl W.f_sum PyProof.Rows.boot_sum (pa_cons (pe_slice sl_list (pe_ix ix_list (pv 0) pe_int (fun _ _ => rfl)) po_none (po_some pe_int)) pa_nil)))
      (pss_mid (ps_set (i := 4) sc_l_word.nd rfl (Or.inl rfl) (pe_ix ix_str (pv 2) (pe_op op_nmod (pe_callTy call_int1 rfl W.f_int PyProof.Rows.boot_int (pa_cons (pe_op op_nadd (pe_op op_nmul (pv 1) (pe_op op_nadd pe_int (pe_op op_nmod (pe_callTy call_int1 rfl W.f_int PyProof.Rows.boot_int (pa_cons (pv 3) pa_nil)) pe_int))) (pv 3)) pa_nil)) pe_int) (fun _ _ => rfl)))
      (pss_cons (ps_for PassesOwn.never rfl (pi_range1 rfl W.f_range (pa_cons (pe_op op_nmul (pe_op op_ndiv (pe_callH h_l_take W.g_l_take (hr.mono (by omega)) rfl (pa_cons (pv 0) (pa_cons pe_int pa_nil))) pe_int) (pe_callH h_l_take W.g_l_take (hr.mono (by omega)) rfl (pa_cons (pv 0) (pa_cons pe_int pa_nil)))) pa_nil)) (pg_name (i := 5) sc_l_word.nd rfl (Or.inl rfl)) (pss_one (ps_set (i := 4) sc_l_word.nd rfl (Or.inl rfl) (pe_op op_add_str (pv 4) (pe_ix ix_str (pv 2) (pe_callH h_l_take W.g_l_take (hr.mono (by omega)) rfl (pa_cons (pv 0) (pa_cons pe_int pa_nil))) (fun _ _ => rfl))))))
      (pss_one (ps_ret (pv 4))))))), ?_⟩
  refine ⟨fun σ H' => But [p] H H' ∧ PoolAt H' p L cs ∧ σ = [some (.ref p), some (.int (k : Nat)), some (.str letters), some (.int (wsum cs : Nat)), none, none], ?_, ?_⟩
  · refine ⟨_, rfl, p, _, _, _, rfl, rfl, SqL.of hp, rfl, 5, rfl, L, _, rfl, SqL.of hL, fun c nc => ?_⟩
    have e1 : cutV (cs.map fun c => V.int (c : Nat)) none (some 5) = ((cs.take (min 5 cs.length)).map fun c => ((c : Nat) : Int)).map V.int := by
      rw [cut5, List.length_map, ← List.map_take, List.map_map]
      rfl
    refine ⟨c, (cs.take (min 5 cs.length)).map fun c => ((c : Nat) : Int), rfl, SqL.of (by rw [upd_same, e1]), ?_⟩
    rw [sum_cast]
    have nLc : L ≠ c := no_in hL nc
    have npc : p ≠ c := no_in hp nc
    exact ⟨But.of (Same.new nc), ⟨⟨i, d, s, by rw [upd_ne npc]; exact hp, hs⟩, by rw [upd_ne nLc]; exact hL, hne⟩, rfl⟩
  rintro σ H1 ⟨b1, hP1, rfl⟩
  have hix : (k * (1 + wsum cs % 22) + wsum cs) % 23 < 23 := Nat.mod_lt _ (by decide)
  refine ⟨fun σ H' => H1 = H' ∧ σ = [some (.ref p), some (.int (k : Nat)), some (.str letters), some (.int (wsum cs : Nat)), some (.str ⟨#[fl (wsum cs) k]⟩), none], ?_, ?_⟩
  · refine ⟨_, rfl, _, rfl, _, rfl, .inl ⟨_, rfl, _, 22, rfl, rfl, by decide, 1, _, rfl, rfl, _, _, rfl, rfl, .inr ?_, _, rfl, _, _, rfl, rfl, .inl ⟨_, rfl, _, 23, rfl, rfl, by decide, letters, _, fl (wsum cs) k, rfl, rfl, hlet, ?_, rfl, rfl⟩⟩⟩
    · have : wsum cs % 22 < 22 := Nat.mod_lt _ (by decide)
      omega
    · exact atI_nat (lt_at (by omega))
  rintro σ _ ⟨rfl, rfl⟩
  refine ⟨_, rfl, p, L, cs, 9, rfl, hP1, hlen, by decide, by decide, fun r1 H2 b2 hP2 hr1 => ?_⟩
  refine ⟨_, 6, rfl, rfl, ⟨by decide, by decide⟩, _, rfl, p, L, cs, 8, rfl, hP2, hlen, by decide, by decide, fun r2 H3 b3 hP3 hr2 => ?_⟩
  have hr3 : r1 / 6 * r2 ≤ 7 := by
    have h1 : r1 / 6 ≤ 1 := by omega
    have h2 : r1 / 6 * r2 ≤ 1 * r2 := Nat.mul_le_mul_right _ h1
    omega
  refine ⟨_, _, rfl, rfl, .inr (by omega), _, rfl, by omega, by omega, ?_⟩
  rw [Int.toNat_natCast]
  refine for_range (fun i σ H' => But [p] H H' ∧ PoolAt H' p L cs ∧ ∃ (z : Str) (a5 : Option V), z.cps.size = 1 + i ∧ (∀ c ∈ z.cps.toList, c ∈ letters.cps.toList) ∧ z.cps[0]? = some (fl (wsum cs) k) ∧ σ = [some (.ref p), some (.int (k : Nat)), some (.str letters), some (.int (wsum cs : Nat)), some (.str z), a5])
    ⟨b1.trans (b2.trans b3), hP3, _, _, rfl, ?_, rfl, rfl⟩ ?_ ?_
  · intro c hc
    have : c = fl (wsum cs) k := by simpa using hc
    rw [lt_mem, this]
    unfold fl
    omega
  · rintro j σ H4 hj ⟨b4, hP4, z, a5, hz1, hz2, hz3, rfl⟩
    refine ⟨_, rfl, _, rfl, _, rfl, p, L, cs, 26, rfl, hP4, hlen, by decide, by decide, fun r H5 b5 hP5 hr => ?_⟩
    refine ⟨letters, _, 97 + r, rfl, rfl, hlet, atI_nat (lt_at hr), z, ⟨#[97 + r]⟩, rfl, rfl, small_le ?_, b4.trans b5, hP5, z ++ (⟨#[97 + r]⟩ : Str), _, ?_, ?_, ?_, rfl⟩
    · show z.cps.size + 1 ≤ 100000; omega
    · show (z.cps ++ #[97 + r]).size = _
      rw [Array.size_append, hz1]
      rfl
    · intro c hc
      have hc' : c ∈ (z.cps ++ #[97 + r]).toList := hc
      rw [Array.toList_append] at hc'
      rcases List.mem_append.mp hc' with h | h
      · exact hz2 c h
      · have : c = 97 + r := by simpa using h
        rw [lt_mem, this]; omega
    · show (z.cps ++ #[97 + r])[0]? = _
      rw [Array.getElem?_append_left (by omega)]
      exact hz3
  · rintro σ H4 ⟨b4, hP4, z, a5, hz1, hz2, hz3, rfl⟩
    exact ⟨_, rfl, q z H4 b4 hP4 ⟨by show 1 ≤ z.cps.size; omega, by show z.cps.size ≤ 8; omega, hz2⟩ hz3⟩

end
end Sy

/-! part: L5 -/
set_option Elab.async false
set_option linter.all false
set_option maxRecDepth 100000
set_option maxHeartbeats 4000000
namespace Sy
open PySem PySem.Spec PyProof.Rows L2
section
variable {P : Program} {w : World} {K : PySem.W.Frag} {mg : Str → Option Value} {base : Heap}
/-! ### rows -/
theorem mul23 : ∀ a < 23, 1 ≤ a → ∀ k < 23, ∀ j < 23, (k * a) % 23 = (j * a) % 23 → k = j := by decide +kernel
theorem fl_inj {t k j : Nat} (hk : k < 23) (hj : j < 23) (h : fl t k = fl t j) : k = j := by
  unfold fl at h
  have h2 : t % 22 < 22 := Nat.mod_lt _ (by decide)
  refine mul23 (1 + t % 22) (by omega) (by omega) k hk j hj ?_
  generalize k * (1 + t % 22) = x at h ⊢
  generalize j * (1 + t % 22) = y at h ⊢
  omega
theorem fl_lt (t k : Nat) : 97 ≤ fl t k ∧ fl t k < 120 := by
  unfold fl
  have := Nat.mod_lt (k * (1 + t % 22) + t) (show 0 < 23 by decide)
  omega
def fst1 (w : Str) : Option Nat := w.cps[0]?
theorem fl_nodup {t : Nat} : ∀ {ks : List Nat}, ks.Nodup → (∀ k ∈ ks, k < 23) → (ks.map fun k => some (fl t k)).Nodup
  | [], _, _ => List.nodup_nil
  | k :: ks, h, hl => by
    obtain ⟨h1, h2⟩ := List.nodup_cons.mp h
    refine List.nodup_cons.mpr ⟨fun hm => ?_, fl_nodup h2 fun j hj => hl j (List.mem_cons_of_mem _ hj)⟩
    obtain ⟨j, hj, e⟩ := List.mem_map.mp hm
    injection e with e
    have := fl_inj (hl j (List.mem_cons_of_mem _ hj)) (hl k (List.mem_cons_self ..)) e
    exact h1 (this ▸ hj)
theorem nodup_of_map {α β : Type} (f : α → β) : ∀ {l : List α}, (l.map f).Nodup → l.Nodup
  | [], _ => List.nodup_nil
  | a :: l, h => by
    obtain ⟨h1, h2⟩ := List.nodup_cons.mp (show (f a :: l.map f).Nodup from h)
    exact List.nodup_cons.mpr ⟨fun hm => h1 (List.mem_map.mpr ⟨a, hm, rfl⟩), nodup_of_map f h2⟩
/-- a multiplier row, a simple row, within bounds -/
structure MG (m : M) : Prop where
  w : WordOk m.word
  v2 : 2 ≤ m.value
  v3 : m.value ≤ 217
  r : m.rest < m.value
  c : ∀ k, m.count = some k → 1 ≤ k ∧ k ≤ 40 ∧ k * m.value + m.rest ≤ 2000
structure SG (p : Str × Nat) : Prop where
  w : WordOk p.1
  lo : 1 ≤ p.2
  hi : p.2 ≤ 301
structure Good (R : Rs) : Prop where
  sim : ∀ p ∈ R.simple, SG p
  mul : ∀ m ∈ R.mults, MG m
  nd : ((wordsL R).map fst1).Nodup
  z : ∀ w ∈ wordsL R, fst1 w ≠ some 122
  out : ∃ o, IsOut R o
  sz : R.simple.length ≤ 6
  mz : R.mults.length ≤ 6
theorem Good.ok {R : Rs} (h : Good R) : R.Ok := by
  refine ⟨fun p hp => (h.sim p hp).lo, fun m hm => (h.mul m hm).v2, fun m hm => Nat.le_trans (h.mul m hm).v3 (by decide), fun m hm => (h.mul m hm).r, fun m hm k hk => ?_, Nat.le_trans h.sz (by decide), h.mz⟩
  obtain ⟨a, b, _⟩ := (h.mul m hm).c k hk
  exact ⟨a, by omega⟩
theorem Good.isB {R : Rs} (h : Good R) : IsB R 2000 :=
  ⟨fun p hp => Nat.le_trans (h.sim p hp).hi (by decide), fun m hm k hk => ((h.mul m hm).c k hk).2.2⟩
theorem Good.valid {R : Rs} (h : Good R) : Valid R := by
  refine ⟨fun p hp => ⟨(h.sim p hp).w, (h.sim p hp).lo, Nat.le_trans (h.sim p hp).hi (by decide)⟩, fun m hm => ⟨(h.mul m hm).w, (h.mul m hm).v2, Nat.le_trans (h.mul m hm).v3 (by decide), (h.mul m hm).r, fun k hk => ?_⟩, nodup_of_map fst1 h.nd, Nat.le_trans h.sz (by decide), h.mz⟩
  obtain ⟨a, b, c⟩ := (h.mul m hm).c k hk
  exact ⟨a, by omega, by omega⟩
/-! the heap without the pool -/
def hp (p : Addr) (H : Hp) : Hp := fun a => if a = p then none else H a
theorem hp_same (p : Addr) (H : Hp) : Same (hp p H) H := fun a o h => by
  unfold hp at h
  split at h
  · cases h
  · exact h
theorem hp_at (p : Addr) (H : Hp) : hp p H p = none := if_pos rfl
theorem hp_of {p a : Addr} {H : Hp} {o : HO} (h : H a = some o) (n : a ≠ p) : hp p H a = some o := by
  unfold hp
  rw [if_neg n]
  exact h
theorem hp_but {p : Addr} {H H' : Hp} (b : But [p] H H') : Same (hp p H) (hp p H') := fun a o h => by
  by_cases e : a = p
  · subst e; rw [hp_at] at h; cases h
  · exact hp_of (b _ _ (hp_same _ _ _ _ h) (by simpa using e)) e
theorem but_hp {p : Addr} {H H' : Hp} (s : Same (hp p H) H') : But [p] H H' := fun a o h n => s _ _ (hp_of h (by simpa using n))
/-- tuples stay -/
def TK (K : PySem.W.Frag) (H H' : Hp) : Prop := ∀ c cs, SqT K H c cs → SqT K H' c cs
theorem TK.same {K : PySem.W.Frag} {H H' : Hp} (s : Same H H') : TK K H H' := fun _ _ h => s.tup h
theorem TK.trans {K : PySem.W.Frag} {H H1 H2 : Hp} (a : TK K H H1) (b : TK K H1 H2) : TK K H H2 := fun c cs h => b c cs (a c cs h)
theorem TK.but {K : PySem.W.Frag} {H H' : Hp} {p : Addr} {l : List V} (b : But [p] H H') (h : H p = some (.lst l)) : TK K H H' := fun _ _ q => SqT.keep h ⟨fun _ z => (by cases z), fun _ _ z => (by cases z)⟩ b q
theorem TK.put {K : PySem.W.Frag} {H : Hp} {p : Addr} {l : List V} {o : HO} (h : H p = some (.lst l)) : TK K H (upd H p o) := TK.but ((But.refl _ _).upd (.inl (by simp))) h
theorem TK.hide {K : PySem.W.Frag} {H : Hp} {p : Addr} {l : List V} (h : H p = some (.lst l)) : TK K H (hp p H) := by
  refine TK.but (p := p) ?_ h
  exact fun a o e n => hp_of e (by simpa using n)
theorem SimRow.tk {K : PySem.W.Frag} {H H' : Hp} (t : TK K H H') {x : V} {p : Str × Nat} (h : SimRow K H x p) : SimRow K H' x p := by
  obtain ⟨a, e, q⟩ := h; exact ⟨a, e, t _ _ q⟩
theorem MulRow.tk {K : PySem.W.Frag} {H H' : Hp} (t : TK K H H') {x : V} {m : M} (h : MulRow K H x m) : MulRow K H' x m := by
  obtain ⟨a, e, q⟩ := h; exact ⟨a, e, t _ _ q⟩
theorem PoolAt.lst {H : Hp} {p L : Addr} {cs : List Nat} (h : PoolAt H p L cs) : ∃ l, H p = some (.lst l) := by
  obtain ⟨⟨i, d, s, e, _⟩, _⟩ := h; exact ⟨_, e⟩
theorem PoolAt.tk {K : PySem.W.Frag} {H H' : Hp} {p L : Addr} {cs : List Nat} (h : PoolAt H p L cs) (b : But [p] H H') : TK K H H' := by
  obtain ⟨l, e⟩ := h.lst; exact TK.but b e
theorem PoolAt.put {H : Hp} {p L D : Addr} {cs : List Nat} {o : HO} (h : PoolAt H p L cs) (n1 : D ≠ p) (n2 : D ≠ L) : PoolAt (upd H D o) p L cs := by
  obtain ⟨⟨i, d, s, e, hs⟩, hL, hne⟩ := h
  exact ⟨⟨i, d, s, by rw [upd_ne n1.symm]; exact e, hs⟩, by rw [upd_ne n2.symm]; exact hL, hne⟩
/-- the two lists of rows in a dict -/
structure RowsAt (K : PySem.W.Frag) (G : Hp) (rd s m : Addr) (R : Rs) : Prop where
  at_ : G rd = some (.dK [(.inr "simple", .ref s), (.inr "multipliers", .ref m)])
  sim : ∃ xs, G s = some (.lst xs) ∧ Rel (SimRow K G) xs R.simple
  mul : ∃ zs, G m = some (.lst zs) ∧ Rel (MulRow K G) zs R.mults
theorem RowsAt.same {K : PySem.W.Frag} {G G' : Hp} (e : Same G G') {rd s m : Addr} {R : Rs} (h : RowsAt K G rd s m R) : RowsAt K G' rd s m R := by
  obtain ⟨h1, ⟨xs, h2, h3⟩, ⟨zs, h4, h5⟩⟩ := h
  exact ⟨e _ _ h1, ⟨xs, e _ _ h2, h3.imp fun _ _ => SimRow.same e⟩, ⟨zs, e _ _ h4, h5.imp fun _ _ => MulRow.same e⟩⟩
theorem ks_simple {s m : Addr} : valV [((.inr "simple" : Key), V.ref s), (.inr "multipliers", .ref m)] (.inr "simple") = some (.ref s) := by with_unfolding_all rfl
theorem ks_mult {s m : Addr} : valV [((.inr "simple" : Key), V.ref s), (.inr "multipliers", .ref m)] (.inr "multipliers") = some (.ref m) := by with_unfolding_all rfl
theorem RowsAt.gs {K : PySem.W.Frag} {G : Hp} {rd s m : Addr} {R : Rs} (h : RowsAt K G rd s m R) : DGet G rd (.str "simple") (some (.ref s)) := by
  have z := DGet.k (k := (.inr "simple" : Key)) h.at_
  rw [ks_simple] at z
  exact z
theorem RowsAt.gm {K : PySem.W.Frag} {G : Hp} {rd s m : Addr} {R : Rs} (h : RowsAt K G rd s m R) : DGet G rd (.str "multipliers") (some (.ref m)) := by
  have z := DGet.k (k := (.inr "multipliers" : Key)) h.at_
  rw [ks_mult] at z
  exact z

end
end Sy

/-! part: L6 -/
set_option Elab.async false
set_option linter.all false
set_option maxRecDepth 100000
set_option maxHeartbeats 4000000
namespace Sy
open PySem PySem.Spec PyProof.Rows L2
section
variable {P : Program} {w : World} {K : PySem.W.Frag} {mg : Str → Option Value} {base : Heap}
/-- words by their first letters: numbers off, off + 1, .. -/
def Wds (t off : Nat) (ws : List Str) : Prop := ws.map fst1 = (List.range ws.length).map fun k => some (fl t (off + k))
theorem Wds.nil {t off : Nat} : Wds t off [] := rfl
theorem Wds.snoc {t off : Nat} {ws : List Str} {w : Str} (h : Wds t off ws) (e : fst1 w = some (fl t (off + ws.length))) : Wds t off (ws ++ [w]) := by
  unfold Wds at h ⊢
  rw [List.map_append, h, List.length_append, List.length_singleton, List.range_succ, List.map_append]
  show _ ++ [fst1 w] = _
  rw [e]
  rfl
/-- rows of a regular system -/
structure MR (m : M) : Prop where
  w : WordOk m.word
  v2 : 2 ≤ m.value
  v3 : m.value ≤ 216
  r : m.rest < m.value
  c : ∀ k, m.count = some k → 1 ≤ k ∧ k ≤ 5 ∧ m.value ≤ 36
theorem MR.toMG {m : M} (h : MR m) : MG m := by
  refine ⟨h.w, h.v2, Nat.le_trans h.v3 (by decide), h.r, fun k hk => ?_⟩
  obtain ⟨a, b, c⟩ := h.c k hk
  have h1 := h.r
  have h2 : k * m.value ≤ 5 * 36 := Nat.mul_le_mul b c
  exact ⟨a, by omega, by omega⟩
theorem rng_nodup (n off : Nat) : ((List.range n).map fun k => off + k).Nodup := by
  rw [List.nodup_iff_pairwise_ne] at *
  refine List.pairwise_map.mpr (List.Pairwise.imp (fun {a b} h => ?_) (List.nodup_range (n := n)))
  omega
theorem words_good {t n c : Nat} {ws us : List Str} {ks : List Nat} (h1 : ws.map fst1 = (List.range n).map fun k => some (fl t k)) (hn : n ≤ 10) (h2 : us.map fst1 = ks.map fun k => some (fl t k)) (hk : ks.Nodup) (hl : ∀ k ∈ ks, 10 ≤ k ∧ k < 23) :
    ((ws ++ us).map fst1).Nodup ∧ ∀ w ∈ ws ++ us, ∃ k, fst1 w = some (fl t k) := by
  have e : (ws ++ us).map fst1 = ((List.range n ++ ks).map fun k => some (fl t k)) := by rw [List.map_append, h1, h2, List.map_append]
  refine ⟨?_, fun w hw => ?_⟩
  · rw [e]
    refine fl_nodup (List.nodup_append.mpr ⟨List.nodup_range, hk, fun a ha b hb => ?_⟩) fun k hk' => ?_
    · have := List.mem_range.mp ha
      have := hl b hb
      omega
    · rcases List.mem_append.mp hk' with h | h
      · have := List.mem_range.mp h; omega
      · exact (hl k h).2
  · have : fst1 w ∈ (ws ++ us).map fst1 := List.mem_map.mpr ⟨w, hw, rfl⟩
    rw [e] at this
    obtain ⟨k, _, e2⟩ := List.mem_map.mp this
    exact ⟨k, e2.symm⟩
theorem isOut_snoc {R : Rs} {ms : List M} {o : M} (e : R.mults = ms ++ [o]) (ho : o.count = none) (hm : ∀ m ∈ ms, m.count ≠ none) : IsOut R o := by
  refine ⟨⟨ms.length, ?_, fun i m hi hc => ?_⟩, ho⟩
  · rw [e]; simp
  · rw [e] at hi
    by_cases h : i < ms.length
    · rw [List.getElem?_append_left h] at hi
      exact absurd hc (hm m (List.mem_of_getElem? hi))
    · have := (List.getElem?_eq_some_iff.mp hi).1
      rw [List.length_append, List.length_singleton] at this
      omega
theorem mk_rows {D E : Addr} : mergeK [] [((.inr "simple" : Key), V.ref D), (.inr "multipliers", .ref E)] = [((.inr "simple" : Key), V.ref D), (.inr "multipliers", .ref E)] := by with_unfolding_all rfl
def sp_l_regular (K : PySem.W.Frag) : Sp := fun vs H Q _ => ∃ (p L : Addr) (cs : List Nat), vs = [.ref p] ∧ PoolAt H p L cs ∧ cs.length < sizeLine ∧
  ∀ rd s m H' R, But [p] H H' → PoolAt H' p L cs → RowsAt K (hp p H') rd s m R → H m = none → s ≠ m → Good R → (∀ x ∈ R.mults, MR x) → Q (.ref rd) H'
theorem ok_l_regular (W : Wd K mg) : Has P w K mg base 4 (He.ga K "_law_regular") ["_law_pool_here"] [] (sp_l_regular K) := by
  have h_l_take := ok_l_take (P := P) (w := w) (base := base) W
  have h_l_word := ok_l_word (P := P) (w := w) (base := base) W
  refine mkHas (d := d_l_regular) (N := N_l_regular) (ps := ["_law_pool_here"]) (W.says.def_ 47) sc_l_regular (fun _ _ _ _ _ _ us hl => match us, hl with | [_], _ => rfl) (fun vs H Q E h => ?_) (fun cdv A outer s0 H vs Q E hr h => ?_)
  · obtain ⟨_, _, _, rfl, _⟩ := h
    rfl
  obtain ⟨p, L, cs, rfl, hP, hlen, q⟩ := h
  refine ⟨_, (pss_mid (ps_set (i := 1) sc_l_regular.nd rfl (Or.inl rfl) (pe_op op_nadd pe_int (pe_callH h_l_take W.g_l_take (hr.mono (by omega)) rfl (pa_cons (pv 0) (pa_cons pe_int pa_nil)))))
      (pss_mid (ps_set (i := 2) sc_l_regular.nd rfl (Or.inl rfl) (pe_cmpR op_eq (pe_callH h_l_take W.g_l_take (hr.mono (by omega)) rfl (pa_cons (pv 0) (pa_cons pe_int pa_nil))) pe_int (nomark _)))
      (pss_mid (ps_setLc (i := 3) (own := [("_law_k", 6)]) (g := gName 6) rfl sc_l_regular.nd rfl rfl (sw_true rfl rfl rfl (by decide +kernel)) (pi_range1 rfl W.f_range (pa_cons (pe_op op_nsub (pv 1) pe_int) pa_nil)) (blkOk_by (own := [("_law_k", 6)]) (N := N_l_regular) (sc := defScope s_l_regular) (by decide +kernel)) (fun _ _ _ _ _ => (pg_name (i := 6) sc_l_regular.nd rfl (Or.inl rfl))) (fun _ _ _ _ _ => pts_nil) (fun _ _ _ _ _ => (pe_tup (pa_cons (pe_callH h_l_word W.g_l_word (hr.mono (by omega)) rfl (pa_cons (pv 0) (pa_cons (pv 6) pa_nil))) (pa_cons (pe_op op_nadd (pv 6) pe_int) pa_nil)))))
      (pss_mid (ps_set (i := 4) sc_l_regular.nd rfl (Or.inl rfl) (pe_lst pa_nil))
      (pss_mid (ps_set (i := 5) sc_l_regular.nd rfl (Or.inl rfl) (pv 1))
      (pss_mid (ps_for PassesOwn.never rfl (pi_range1 rfl W.f_range (pa_cons (pe_callH h_l_take W.g_l_take (hr.mono (by omega)) rfl (pa_cons (pv 0) (pa_cons pe_int pa_nil))) pa_nil)) (pg_name (i := 6) sc_l_regular.nd rfl (Or.inl rfl)) (pss_cons (ps_expr (pe_bm PySem.F.plainAttrs_list PySem.F.slot_list_append PySem.F.type_list_append mt_append (pv 4) (pa_cons (pe_tup (pa_cons (pe_callH h_l_word W.g_l_word (hr.mono (by omega)) rfl (pa_cons (pv 0) (pa_cons (pe_op op_nadd pe_int (pv 6)) pa_nil))) (pa_cons (pv 5) (pa_cons (pe_op op_nsub (pv 1) pe_int) (pa_cons (pv 2) (pa_cons (pe_op op_nsub (pv 5) pe_int) pa_nil)))))) pa_nil)))
      (pss_one (ps_set (i := 5) sc_l_regular.nd rfl (Or.inl rfl) (pe_op op_nmul (pv 5) (pv 1))))))
      (pss_mid (ps_expr (pe_bm PySem.F.plainAttrs_list PySem.F.slot_list_append PySem.F.type_list_append mt_append (pv 4) (pa_cons (pe_tup (pa_cons (pe_callH h_l_word W.g_l_word (hr.mono (by omega)) rfl (pa_cons (pv 0) (pa_cons pe_int pa_nil))) (pa_cons (pv 5) (pa_cons pe_non (pa_cons (pe_cmpR op_eq (pe_callH h_l_take W.g_l_take (hr.mono (by omega)) rfl (pa_cons (pv 0) (pa_cons pe_int pa_nil))) pe_int (nomark _)) (pa_cons (pe_op op_nsub (pv 5) pe_int) pa_nil)))))) pa_nil)))
      (pss_one (ps_ret (pe_disp (pps_cons pe_str (pv 3) (pps_cons pe_str (pv 4) pps_nil)) rfl rfl (fun z => by cases z) (by decide))))))))))), ?_⟩
  refine ⟨fun σ H' => ∃ b : Nat, 2 ≤ b ∧ b ≤ 6 ∧ But [p] H H' ∧ PoolAt H' p L cs ∧ σ = [some (.ref p), some (.int (b : Nat)), none, none, none, none, none], ?_, ?_⟩
  · refine ⟨_, rfl, p, L, cs, 5, rfl, hP, hlen, by decide, by decide, fun r H1 b1 hP1 hr1 => ?_⟩
    exact ⟨2, r, rfl, rfl, 2 + r, by omega, by omega, b1, hP1, rfl⟩
  rintro σ H1 ⟨b, hb1, hb2, b1, hP1, rfl⟩
  refine ⟨fun σ H' => ∃ u : Bool, But [p] H H' ∧ PoolAt H' p L cs ∧ σ = [some (.ref p), some (.int (b : Nat)), some (.bl u), none, none, none, none], ?_, ?_⟩
  · refine ⟨_, rfl, p, L, cs, 2, rfl, hP1, hlen, by decide, by decide, fun r H2 b2 hP2 hr1 => ?_⟩
    exact ⟨rfl, _, b1.trans b2, hP2, rfl⟩
  rintro σ H2 ⟨u, b2, hP2, rfl⟩
  -- simple
  refine ⟨fun σ H' => ∃ (D : Addr) (xs : List V) (sim : List (Str × Nat)), But [p] H H' ∧ PoolAt H' p L cs ∧ H D = none ∧ D ≠ p ∧ D ≠ L ∧ H' D = some (.lst xs) ∧ Rel (SimRow K H') xs sim ∧ Wds (wsum cs) 0 (sim.map (·.1)) ∧ (∀ x ∈ sim, SG x) ∧ sim.length ≤ 5 ∧ ∃ a6, σ = [some (.ref p), some (.int (b : Nat)), some (.bl u), some (.ref D), none, none, a6], ?_, ?_⟩
  · refine ⟨_, rfl, b, 1, rfl, rfl, by omega, _, rfl, by omega, by omega, fun D nD => ?_⟩
    rw [Int.toNat_natCast]
    have nDp : D ≠ p := by obtain ⟨l, e⟩ := hP2.lst; exact (no_in e nD).symm
    have nDL : D ≠ L := (no_in hP2.cells nD).symm
    have nHD : H D = none := by
      cases e : H D with
      | none => rfl
      | some oo => rw [b2 _ _ e (by simpa using nDp)] at nD; cases nD
    refine lc_range (fun i H' => But [p] H H' ∧ PoolAt H' p L cs ∧ ∃ xs sim, H' D = some (.lst xs) ∧ Rel (SimRow K H') xs sim ∧ Wds (wsum cs) 0 (sim.map (·.1)) ∧ (∀ x ∈ sim, SG x) ∧ sim.length = i)
      ⟨b2.trans (But.of (Same.new nD)), hP2.put nDp nDL, [], [], upd_same, Rel.nil, Wds.nil, by simp, rfl⟩ ?_ ?_
    · rintro i H3 hi ⟨b3, hP3, xs, sim, hD, rx, hw, hs, hl⟩
      refine ⟨rfl, yes_of ?_⟩
      rw [Int.zero_add]
      refine ⟨_, rfl, _, rfl, p, L, cs, i, rfl, hP3, hlen, fun z H4 b4 hP4 hz1 hz2 => ?_⟩
      refine ⟨_, rfl, i, 1, rfl, rfl, (by show 2 ≤ sizeLine; decide), fun t nt => ?_⟩
      have hD4 := b4.at hD (by simpa using nDp)
      have ntD : D ≠ t := no_in hD4 nt
      have hD5 : upd H4 t (.tup [.str z, .int (i + 1 : Nat)]) D = some (.lst xs) := by rw [upd_ne ntD]; exact hD4
      have k5 : TK K H3 (upd H4 t (.tup [.str z, .int (i + 1 : Nat)])) := (hP3.tk b4).trans (TK.same (Same.new nt))
      have k6 : TK K (upd H4 t (.tup [.str z, .int (i + 1 : Nat)])) (upd (upd H4 t (.tup [.str z, .int (i + 1 : Nat)])) D (.lst (xs ++ [.ref t]))) := TK.put hD5
      refine ⟨xs, hD5, small_lt (by rw [rx.1]; omega), ?_, ?_, xs ++ [.ref t], sim ++ [(z, i + 1)], upd_same, ?_, ?_, ?_, ?_⟩
      · exact ((b3.trans b4).trans (But.of (Same.new nt))).upd (.inr nHD)
      · exact (hP4.same (Same.new nt)).put nDp nDL
      · exact Rel.append (rx.imp fun _ _ h => SimRow.tk (k5.trans k6) h) (Rel.cons ⟨t, rfl, k6 _ _ (SqT.of upd_same)⟩ Rel.nil)
      · rw [List.map_append]
        exact hw.snoc (by rw [List.length_map, hl, Nat.zero_add]; exact hz2)
      · intro x hx
        rcases List.mem_append.mp hx with h | h
        · exact hs x h
        · obtain rfl := List.mem_singleton.mp h
          exact ⟨hz1, by show 1 ≤ i + 1; omega, by show i + 1 ≤ 301; omega⟩
      · rw [List.length_append, hl]; rfl
    · rintro H3 ⟨b3, hP3, xs, sim, hD, rx, hw, hs, hl⟩
      exact ⟨D, xs, sim, b3, hP3, nHD, nDp, nDL, hD, rx, hw, hs, by omega, _, rfl⟩
  rintro σ H3 ⟨D, xs, sim, b3, hP3, nHD, nDp, nDL, hD, rx, hw, hs, hl, a6, rfl⟩
  -- multipliers = []
  refine ⟨fun σ H' => ∃ Em, Same H3 H' ∧ H3 Em = none ∧ H' Em = some (.lst []) ∧ σ = [some (.ref p), some (.int (b : Nat)), some (.bl u), some (.ref D), some (.ref Em), none, a6], ?_, ?_⟩
  · exact ⟨Nat.zero_le _, fun Em nE => ⟨Em, Same.new nE, nE, upd_same, rfl⟩⟩
  rintro σ H4 ⟨Em, s4, nE, hE, rfl⟩
  have nEp : Em ≠ p := by obtain ⟨l, e⟩ := hP3.lst; exact (no_in e nE).symm
  have nEL : Em ≠ L := (no_in hP3.cells nE).symm
  have nED : Em ≠ D := (no_in hD nE).symm
  have nHE : H Em = none := by
    cases e : H Em with
    | none => rfl
    | some oo => rw [b3 _ _ e (by simpa using nEp)] at nE; cases nE
  have b4 : But [p] H H4 := b3.trans (But.of s4)
  have hP4 := hP3.same s4
  refine ⟨fun σ H' => H4 = H' ∧ σ = [some (.ref p), some (.int (b : Nat)), some (.bl u), some (.ref D), some (.ref Em), some (.int (b : Nat)), a6], ?_, ?_⟩
  · exact ⟨_, rfl, rfl, rfl⟩
  rintro σ _ ⟨rfl, rfl⟩
  -- the loop
  refine ⟨fun σ H' => ∃ (zs : List V) (ms : List M) (v : Nat), But [p] H H' ∧ PoolAt H' p L cs ∧ H' D = some (.lst xs) ∧ Rel (SimRow K H') xs sim ∧ H' Em = some (.lst zs) ∧ Rel (MulRow K H') zs ms ∧ Wds (wsum cs) 10 (ms.map (·.word)) ∧ (∀ x ∈ ms, MR x ∧ x.count ≠ none) ∧ ms.length ≤ 2 ∧ 2 ≤ v ∧ v ≤ 216 ∧ ∃ a6, σ = [some (.ref p), some (.int (b : Nat)), some (.bl u), some (.ref D), some (.ref Em), some (.int (v : Nat)), a6], ?_, ?_⟩
  · refine ⟨_, rfl, p, L, cs, 3, rfl, hP4, hlen, by decide, by decide, fun r H5 b5 hP5 hr5 => ?_⟩
    refine ⟨_, rfl, by omega, by omega, ?_⟩
    rw [Int.toNat_natCast]
    have k5 : TK K H3 H5 := (TK.same s4).trans (hP4.tk b5)
    refine for_range (fun i σ H' => ∃ (zs : List V) (ms : List M) (v : Nat), But [p] H H' ∧ PoolAt H' p L cs ∧ H' D = some (.lst xs) ∧ Rel (SimRow K H') xs sim ∧ H' Em = some (.lst zs) ∧ Rel (MulRow K H') zs ms ∧ Wds (wsum cs) 10 (ms.map (·.word)) ∧ (∀ x ∈ ms, MR x ∧ x.count ≠ none) ∧ ms.length = i ∧ 2 ≤ v ∧ v ≤ 6 ^ (i + 1) ∧ ∃ a6, σ = [some (.ref p), some (.int (b : Nat)), some (.bl u), some (.ref D), some (.ref Em), some (.int (v : Nat)), a6])
      ⟨[], [], b, b4.trans b5, hP5, b5.at (s4 _ _ hD) (by simpa using nDp), rx.imp fun _ _ => SimRow.tk k5, b5.at hE (by simpa using nEp), Rel.nil, Wds.nil, by simp, rfl, hb1, hb2, _, rfl⟩ ?_ ?_
    · rintro i σ H6 hi ⟨zs, ms, v, b6, hP6, hD6, rx6, hE6, rz6, hw6, hm6, hl6, hv1, hv2, a6, rfl⟩
      have hv3 : v ≤ 36 := by
        have : 6 ^ (i + 1) ≤ 6 ^ 2 := Nat.pow_le_pow_right (by decide) (by omega)
        omega
      rw [Int.zero_add]
      refine ⟨_, rfl, .inl ⟨rfl, _, SqL.of hE6⟩, _, rfl, _, rfl, 10, i, rfl, rfl, p, L, cs, 10 + i, rfl, hP6, hlen, fun z H7 b7 hP7 hz1 hz2 => ?_⟩
      have hE7 := b7.at hE6 (by simpa using nEp)
      refine ⟨_, rfl, _, rfl, b, 1, rfl, rfl, by omega, _, rfl, _, rfl, v, 1, rfl, rfl, by omega, (by show 5 ≤ sizeLine; decide), fun t nt => ?_⟩
      have ntE : Em ≠ t := no_in hE7 nt
      have hD7 := b7.at hD6 (by simpa using nDp)
      have s8 : Same H7 (upd H7 t (.tup [.str z, .int (v : Nat), .int (b - 1 : Nat), .bl u, .int (v - 1 : Nat)])) := Same.new nt
      have k8 : TK K H6 (upd H7 t (.tup [.str z, .int (v : Nat), .int (b - 1 : Nat), .bl u, .int (v - 1 : Nat)])) := (hP6.tk b7).trans (TK.same s8)
      have k9 : TK K (upd H7 t (.tup [.str z, .int (v : Nat), .int (b - 1 : Nat), .bl u, .int (v - 1 : Nat)])) (upd (upd H7 t (.tup [.str z, .int (v : Nat), .int (b - 1 : Nat), .bl u, .int (v - 1 : Nat)])) Em (.lst (zs ++ [.ref t]))) := TK.put (s8 _ _ hE7)
      refine ⟨Em, zs, _, rfl, rfl, s8 _ _ hE7, small_lt (by rw [rz6.1]; omega), ?_⟩
      refine ⟨_, rfl, _, rfl, v, b, rfl, rfl, .inr (by omega), zs ++ [.ref t], ms ++ [⟨z, v, some (b - 1), u, v - 1⟩], v * b, ?_, ?_, ?_, ?_, upd_same, ?_, ?_, ?_, ?_, ?_, ?_, _, rfl⟩
      · exact ((b6.trans b7).trans (But.of s8)).upd (.inr nHE)
      · exact (hP7.same s8).put nEp nEL
      · rw [upd_ne nED.symm]; exact s8 _ _ hD7
      · exact rx6.imp fun _ _ => SimRow.tk (k8.trans k9)
      · exact Rel.append (rz6.imp fun _ _ => MulRow.tk (k8.trans k9)) (Rel.cons ⟨t, rfl, k9 _ _ (SqT.of upd_same)⟩ Rel.nil)
      · rw [List.map_append]
        exact hw6.snoc (by rw [List.length_map, hl6]; exact hz2)
      · intro x hx
        rcases List.mem_append.mp hx with h | h
        · exact hm6 x h
        · obtain rfl := List.mem_singleton.mp h
          refine ⟨⟨hz1, hv1, by show v ≤ 216; omega, by show v - 1 < v; omega, fun k hk => ?_⟩, Option.some_ne_none _⟩
          injection hk with hk
          subst hk
          exact ⟨by omega, by omega, hv3⟩
      · rw [List.length_append, hl6]; rfl
      · have : 2 * 1 ≤ v * b := Nat.mul_le_mul hv1 (by omega)
        omega
      · rw [Nat.pow_succ]
        exact Nat.mul_le_mul hv2 hb2
    · rintro σ H6 ⟨zs, ms, v, b6, hP6, hD6, rx6, hE6, rz6, hw6, hm6, hl6, hv1, hv2, a6, rfl⟩
      have hv3 : v ≤ 216 := by
        have : 6 ^ (r + 1) ≤ 6 ^ 3 := Nat.pow_le_pow_right (by decide) (by omega)
        omega
      exact ⟨zs, ms, v, b6, hP6, hD6, rx6, hE6, rz6, hw6, hm6, by omega, hv1, hv3, _, rfl⟩
  rintro σ H6 ⟨zs, ms, v, b6, hP6, hD6, rx6, hE6, rz6, hw6, hm6, hl6, hv1, hv2, a6', rfl⟩
  -- the last row
  refine ⟨fun σ H' => ∃ (zs : List V) (o : M), But [p] H H' ∧ PoolAt H' p L cs ∧ H' D = some (.lst xs) ∧ Rel (SimRow K H') xs sim ∧ H' Em = some (.lst zs) ∧ Rel (MulRow K H') zs (ms ++ [o]) ∧ o.count = none ∧ MR o ∧ fst1 o.word = some (fl (wsum cs) 20) ∧ σ = [some (.ref p), some (.int (b : Nat)), some (.bl u), some (.ref D), some (.ref Em), some (.int (v : Nat)), a6'], ?_, ?_⟩
  · refine ⟨_, rfl, .inl ⟨rfl, _, SqL.of hE6⟩, _, rfl, p, L, cs, 20, rfl, hP6, hlen, fun z H7 b7 hP7 hz1 hz2 => ?_⟩
    refine ⟨_, rfl, _, rfl, p, L, cs, 2, rfl, hP7, hlen, by decide, by decide, fun r H8 b8 hP8 hr8 => ?_⟩
    refine ⟨rfl, _, rfl, v, 1, rfl, rfl, by omega, (by show 5 ≤ sizeLine; decide), fun t nt => ?_⟩
    generalize decide (V.int (r : Nat) = V.int 1) = un
    have b78 := b7.trans b8
    have hE8 := b78.at hE6 (by simpa using nEp)
    have hD8 := b78.at hD6 (by simpa using nDp)
    have s9 : Same H8 (upd H8 t (.tup [.str z, .int (v : Nat), .non, .bl un, .int (v - 1 : Nat)])) := Same.new nt
    have k8 : TK K H6 (upd H8 t (.tup [.str z, .int (v : Nat), .non, .bl un, .int (v - 1 : Nat)])) := (hP6.tk b78).trans (TK.same s9)
    have k9 : TK K (upd H8 t (.tup [.str z, .int (v : Nat), .non, .bl un, .int (v - 1 : Nat)])) (upd (upd H8 t (.tup [.str z, .int (v : Nat), .non, .bl un, .int (v - 1 : Nat)])) Em (.lst (zs ++ [.ref t]))) := TK.put (s9 _ _ hE8)
    refine ⟨Em, zs, _, rfl, rfl, s9 _ _ hE8, small_lt (by rw [rz6.1]; omega), ?_⟩
    refine ⟨zs ++ [.ref t], ⟨z, v, none, un, v - 1⟩, ?_, ?_, ?_, ?_, upd_same, ?_, rfl, ?_, hz2, rfl⟩
    · exact ((b6.trans b78).trans (But.of s9)).upd (.inr nHE)
    · exact (hP8.same s9).put nEp nEL
    · rw [upd_ne nED.symm]; exact s9 _ _ hD8
    · exact rx6.imp fun _ _ => SimRow.tk (k8.trans k9)
    · exact Rel.append (rz6.imp fun _ _ => MulRow.tk (k8.trans k9)) (Rel.cons ⟨t, rfl, k9 _ _ (SqT.of upd_same)⟩ Rel.nil)
    · exact ⟨hz1, hv1, hv2, by show v - 1 < v; omega, fun k hk => by cases hk⟩
  rintro σ H7 ⟨zs7, o, b7, hP7, hD7, rx7, hE7, rz7, ho, hoR, how, rfl⟩
  refine fun rd nrd => ⟨_, rfl, _, rfl, upd_same, [(.inr "simple", .ref D), (.inr "multipliers", .ref Em)], rfl, (by show 2 ≤ 15; decide), ?_⟩
  rw [mk_rows]
  have s9 : Same H7 (upd (upd H7 rd (.dK [])) rd (.dK [(.inr "simple", .ref D), (.inr "multipliers", .ref Em)])) := (Same.new nrd).mut nrd
  have nrp : rd ≠ p := by obtain ⟨l, e⟩ := hP7.lst; exact (no_in e nrd).symm
  have hP9 := hP7.same s9
  have k9 : TK K H7 (hp p (upd (upd H7 rd (.dK [])) rd (.dK [(.inr "simple", .ref D), (.inr "multipliers", .ref Em)]))) := by
    obtain ⟨l, e⟩ := hP9.lst
    exact (TK.same s9).trans (TK.hide e)
  have hout := isOut_snoc (R := ⟨sim, ms ++ [o]⟩) rfl ho fun m hm => (hm6 m hm).2
  have hmr : ∀ x ∈ ms ++ [o], MR x := fun x hx => by
    rcases List.mem_append.mp hx with h | h
    · exact (hm6 x h).1
    · obtain rfl := List.mem_singleton.mp h; exact hoR
  have hwd := words_good (t := wsum cs) (n := (sim.map (·.1)).length) (ws := sim.map (·.1)) (us := (ms ++ [o]).map (·.word)) (c := 0) (ks := ((List.range (ms.map (·.word)).length).map fun k => 10 + k) ++ [20])
    (by have := hw; unfold Wds at this; simpa using this) (by rw [List.length_map]; omega)
    (by
      rw [List.map_append, List.map_append, hw6, List.map_append]
      show _ ++ [fst1 o.word] = _
      simp only [how, List.map_map]
      rfl)
    (by
      refine List.nodup_append.mpr ⟨rng_nodup _ _, by simp, fun a ha b hb => ?_⟩
      obtain ⟨k, hk, rfl⟩ := List.mem_map.mp ha
      have := List.mem_range.mp hk
      rw [List.length_map] at this
      have : b = 20 := by simpa using hb
      omega)
    (fun k hk => by
      rcases List.mem_append.mp hk with h | h
      · obtain ⟨j, hj, rfl⟩ := List.mem_map.mp h
        have := List.mem_range.mp hj
        rw [List.length_map] at this
        omega
      · have : k = 20 := by simpa using h
        omega)
  refine q rd D Em _ ⟨sim, ms ++ [o]⟩ (b7.trans (But.of s9)) hP9 ⟨hp_of upd_same nrp, ⟨xs, hp_of (s9 _ _ hD7) nDp, rx7.imp fun _ _ => SimRow.tk k9⟩, ⟨zs7, hp_of (s9 _ _ hE7) nEp, rz7.imp fun _ _ => MulRow.tk k9⟩⟩ nHE nED.symm ?_ hmr
  refine ⟨hs, fun m hm => (hmr m hm).toMG, hwd.1, fun w hw' e => ?_, ⟨o, hout⟩, by show sim.length ≤ 6; omega, by show (ms ++ [o]).length ≤ 6; rw [List.length_append]; show ms.length + 1 ≤ 6; omega⟩
  obtain ⟨k, hk⟩ := hwd.2 w hw'
  rw [e] at hk
  injection hk with hk
  have := fl_lt (wsum cs) k
  omega

end
end Sy

/-! part: L7 -/
set_option Elab.async false
set_option linter.all false
set_option maxRecDepth 100000
set_option maxHeartbeats 4000000
namespace Sy
open PySem PySem.Spec PyProof.Rows L2
section
variable {P : Program} {w : World} {K : PySem.W.Frag} {mg : Str → Option Value} {base : Heap}
theorem map_set_same {α β : Type} (f : α → β) {l : List α} {i : Nat} {a b : α} (h : l[i]? = some a) (e : f b = f a) : (l.set i b).map f = l.map f := by
  apply List.ext_getElem?
  intro j
  rw [List.getElem?_map, List.getElem?_map, List.getElem?_set]
  by_cases hj : i = j
  · subst hj
    have := (List.getElem?_eq_some_iff.mp h).1
    rw [if_pos rfl, if_pos this, h]
    show some (f b) = some (f a)
    rw [e]
  · rw [if_neg hj]
theorem mem_set {α : Type} {l : List α} {i : Nat} {a x : α} (h : x ∈ l.set i a) : x = a ∨ x ∈ l := by
  rcases List.mem_or_eq_of_mem_set h with h | h
  · exact .inr h
  · exact .inl h
theorem Good.set {R : Rs} (g : Good R) {i : Nat} {a b : M} (h : R.mults[i]? = some a) (ew : b.word = a.word) (ec : b.count = none ↔ a.count = none) (hb : MG b) : Good ⟨R.simple, R.mults.set i b⟩ := by
  have e : wordsL ⟨R.simple, R.mults.set i b⟩ = wordsL R := by
    unfold wordsL
    show R.simple.map (·.1) ++ (R.mults.set i b).map (·.word) = _
    rw [map_set_same (·.word) h ew]
  refine ⟨g.sim, fun m hm => ?_, by rw [e]; exact g.nd, by rw [e]; exact g.z, ?_, g.sz, by show (R.mults.set i b).length ≤ 6; rw [List.length_set]; exact g.mz⟩
  · rcases mem_set hm with rfl | hm
    · exact hb
    · exact g.mul m hm
  · obtain ⟨o, ⟨j, ej, uj⟩, ho⟩ := g.out
    have hi := (List.getElem?_eq_some_iff.mp h).1
    by_cases hij : i = j
    · subst hij
      rw [h] at ej
      injection ej with ej
      subst ej
      refine ⟨b, ⟨i, ?_, fun k m hk hc => ?_⟩, ec.mpr ho⟩
      · show (R.mults.set i b)[i]? = some b
        rw [List.getElem?_set, if_pos rfl, if_pos hi]
      · have hk' : (R.mults.set i b)[k]? = some m := hk
        rw [List.getElem?_set] at hk'
        by_cases hik : i = k
        · exact hik.symm
        · rw [if_neg hik] at hk'
          exact uj k m hk' hc
    · refine ⟨o, ⟨j, ?_, fun k m hk hc => ?_⟩, ho⟩
      · show (R.mults.set i b)[j]? = some o
        rw [List.getElem?_set, if_neg hij]
        exact ej
      · have hk' : (R.mults.set i b)[k]? = some m := hk
        rw [List.getElem?_set] at hk'
        by_cases hik : i = k
        · subst hik
          rw [if_pos rfl, if_pos hi] at hk'
          injection hk' with hk'
          subst hk'
          exact uj i a h (ec.mp hc)
        · rw [if_neg hik] at hk'
          exact uj k m hk' hc
/-- the row while it is changed -/
structure Chg (kd lim : Nat) (m0 mm : M) : Prop where
  w : mm.word = m0.word
  c : mm.count = none ↔ m0.count = none
  g : MG mm
  k : lim ≤ kd → mm = m0
theorem Chg.skip {kd i : Nat} {m0 mm : M} (h : Chg kd i m0 mm) : Chg kd (i + 1) m0 mm := ⟨h.w, h.c, h.g, fun z => h.k (by omega)⟩
abbrev rowS (p rd : Addr) (at_ kd : Nat) (mm : M) : L2.St := [some (.ref p), some (.ref rd), some (.int (at_ : Nat)), some (.int (kd : Nat)), some (.str mm.word), some (.int (mm.value : Nat)), some (cntV mm.count), some (.bl mm.unsaid), some (.int (mm.rest : Nat))]
def sp_l_nearly (K : PySem.W.Frag) : Sp := fun vs H Q _ => ∃ (p L : Addr) (cs : List Nat), vs = [.ref p] ∧ PoolAt H p L cs ∧ cs.length < sizeLine ∧
  ∀ rd s m H' R, But [p] H H' → PoolAt H' p L cs → RowsAt K (hp p H') rd s m R → Good R → Q (.ref rd) H'
theorem ok_l_nearly (W : Wd K mg) : Has P w K mg base 5 (He.ga K "_law_nearly") ["_law_pool_here"] [] (sp_l_nearly K) := by
  have h_l_take := ok_l_take (P := P) (w := w) (base := base) W
  have h_l_regular := ok_l_regular (P := P) (w := w) (base := base) W
  refine mkHas (d := d_l_nearly) (N := N_l_nearly) (ps := ["_law_pool_here"]) (W.says.def_ 48) sc_l_nearly (fun _ _ _ _ _ _ us hl => match us, hl with | [_], _ => rfl) (fun vs H Q E h => ?_) (fun cdv A outer s0 H vs Q E hr h => ?_)
  · obtain ⟨_, _, _, rfl, _⟩ := h
    rfl
  obtain ⟨p, L, cs, rfl, hP, hlen, q⟩ := h
  have hu := hu_of hr
  refine ⟨_, (pss_cons (ps_set (i := 1) sc_l_nearly.nd rfl (Or.inl rfl) (pe_callH h_l_regular W.g_l_regular (hr.mono (by omega)) rfl (pa_cons (pv 0) pa_nil)))
      (pss_cons (ps_set (i := 2) sc_l_nearly.nd rfl (Or.inl rfl) (pe_callH h_l_take W.g_l_take (hr.mono (by omega)) rfl (pa_cons (pv 0) (pa_cons (pe_callB call_len rfl W.f_len PySem.boot_len (pa_cons (pe_dget hu (pv 1) pe_str (fun _ _ => rfl)) pa_nil)) pa_nil))))
      (pss_cons (ps_asg (pe_ix ix_list (pe_dget hu (pv 1) pe_str (fun _ _ => rfl)) (pv 2) (fun _ _ => rfl)) (pg_tup rfl (pgs_cons (pg_name (i := 4) sc_l_nearly.nd rfl (Or.inl rfl)) (pgs_cons (pg_name (i := 5) sc_l_nearly.nd rfl (Or.inl rfl)) (pgs_cons (pg_name (i := 6) sc_l_nearly.nd rfl (Or.inl rfl)) (pgs_cons (pg_name (i := 7) sc_l_nearly.nd rfl (Or.inl rfl)) (pgs_cons (pg_name (i := 8) sc_l_nearly.nd rfl (Or.inl rfl)) pgs_nil)))))))
      (pss_mid (ps_set (i := 3) sc_l_nearly.nd rfl (Or.inl rfl) (pe_callH h_l_take W.g_l_take (hr.mono (by omega)) rfl (pa_cons (pv 0) (pa_cons pe_int pa_nil))))
      (pss_mid (ps_if (PW.pt (pw_and (pt_cmpR op_eq (pv 3) pe_int (nomark _)) (pw_and1 (pt_cmpR op_notN1 (pv 6) pe_non (nomark _))))) (pss_one (ps_set (i := 6) sc_l_nearly.nd rfl (Or.inl rfl) (pe_op op_nadd (pe_op op_nadd (pv 6) pe_int) (pe_callH h_l_take W.g_l_take (hr.mono (by omega)) rfl (pa_cons (pv 0) (pa_cons pe_int pa_nil)))))) pss_nil)
      (pss_mid (ps_if (pt_cmpR op_eq (pv 3) pe_int (nomark _)) (pss_one (ps_set (i := 7) sc_l_nearly.nd rfl (Or.inl rfl) (pe_not (pv 7)))) pss_nil)
      (pss_mid (ps_if (pt_cmpR op_eq (pv 3) pe_int (nomark _)) (pss_one (ps_set (i := 8) sc_l_nearly.nd rfl (Or.inl rfl) (pe_callB (call_max2 rfl) rfl W.f_max PyProof.Rows.boot_max (pa_cons pe_int (pa_cons (pe_op op_sub (pe_op op_sub (pv 8) pe_int) (pe_callH h_l_take W.g_l_take (hr.mono (by omega)) rfl (pa_cons (pv 0) (pa_cons pe_int pa_nil)))) pa_nil))))) pss_nil)
      (pss_mid (ps_if (pt_cmpR op_eq (pv 3) pe_int (nomark _)) (pss_one (ps_set (i := 5) sc_l_nearly.nd rfl (Or.inl rfl) (pe_op op_nadd (pv 5) pe_int))) pss_nil)
      (pss_cons (ps_asg (pe_tup (pa_cons (pv 4) (pa_cons (pv 5) (pa_cons (pv 6) (pa_cons (pv 7) (pa_cons (pv 8) pa_nil)))))) (pg_sub (pe_dget hu (pv 1) pe_str (fun _ _ => rfl)) (pv 2) set_list))
      (pss_one (ps_ret (pv 1)))))))))))), ?_⟩
  refine ⟨_, rfl, p, L, cs, rfl, hP, hlen, fun rd s m H1 R b1 hP1 hR nm nsm hG hMR => ?_⟩
  obtain ⟨zs, hz, rz⟩ := hR.mul
  have hz1 := hp_same _ _ _ _ hz
  have hmp : m ≠ p := by
    rintro rfl
    rw [hp_at] at hz
    cases hz
  have hmz := hG.mz
  have hlz : 0 < zs.length := by
    obtain ⟨o, ho⟩ := hG.out
    have := List.length_pos_of_mem ho.mem
    rw [rz.1]; exact this
  refine ⟨_, rfl, _, rfl, rd, _, rfl, (hR.same (hp_same p H1)).gm, .ref m, _, rfl, .inl ⟨_, SqL.of hz1, rfl⟩, p, L, cs, zs.length, rfl, hP1, hlen, hlz, by rw [rz.1]; omega, fun at_ H2 b2 hP2 hat => ?_⟩
  have hR2 := hR.same (hp_but b2)
  obtain ⟨x, ex⟩ : ∃ x, zs[at_]? = some x := ⟨_, List.getElem?_eq_getElem hat⟩
  obtain ⟨m0, em0, t0, rfl, ht0⟩ := rz.get ex
  have hz2 := b2.at hz1 (by simpa using hmp)
  have ht2 : SqT K H2 t0 (mulL m0) := (hp_same p H2).tup ((hp_but b2).tup ht0)
  have hm0 := hMR m0 (List.mem_of_getElem? em0)
  refine ⟨_, rfl, rd, _, rfl, (hR2.same (hp_same p H2)).gm, _, rfl, m, zs, _, _, rfl, rfl, SqL.of hz2, atI_nat ex, t0, _, rfl, ht2, rfl, _, _, rfl, _, _, rfl, _, _, rfl, _, _, rfl, _, _, rfl, rfl, ?_⟩
  refine ⟨fun σ H' => ∃ kd, But [p] H2 H' ∧ PoolAt H' p L cs ∧ σ = rowS p rd at_ kd m0, ?_, ?_⟩
  · exact ⟨_, rfl, p, L, cs, 4, rfl, hP2, hlen, by decide, by decide, fun kd H3 b3 hP3 hk => ⟨kd, b3, hP3, rfl⟩⟩
  rintro σ H3 ⟨kd, b3, hP3, rfl⟩
  have mgo : ∀ mm : M, mm.word = m0.word → (mm.count = none ↔ m0.count = none) → MG mm → ∀ i, kd = i → Chg kd (i + 1) m0 mm := fun mm h1 h2 h3 i hi => ⟨h1, h2, h3, fun z => by omega⟩
  have hr0 := hm0.r
  have hv2 := hm0.v2
  have hv3 := hm0.v3
  -- count
  refine ⟨fun σ H' => ∃ mm, But [p] H2 H' ∧ PoolAt H' p L cs ∧ Chg kd 1 m0 mm ∧ σ = rowS p rd at_ kd mm, ?_, ?_⟩
  · have hno : Chg kd 0 m0 m0 := ⟨rfl, Iff.rfl, hm0.toMG, fun _ => rfl⟩
    refine ⟨_, rfl, rfl, _, rfl, r_dec (fun e => ?_) (fun e => iteF ⟨m0, b3, hP3, hno.skip, rfl⟩)⟩
    have ek : kd = 0 := by injection e with e; omega
    cases hc : m0.count with
    | none =>
      exact ⟨_, rfl, rfl, _, rfl, iteF' (by rw [hc]; rfl) ⟨m0, b3, hP3, hno.skip, rfl⟩⟩
    | some k =>
      obtain ⟨c1, c2, c3⟩ := hm0.c k hc
      refine ⟨_, rfl, rfl, _, rfl, iteT' (by rw [hc]; rfl) ?_⟩
      refine ⟨_, rfl, k, 1, by rw [hc]; rfl, rfl, _, rfl, p, L, cs, 3, rfl, hP3, hlen, by decide, by decide, fun r H4 b4 hP4 hr4 => ?_⟩
      refine ⟨_, _, rfl, rfl, { m0 with count := some (k + 1 + r) }, b3.trans b4, hP4, ?_, rfl⟩
      refine mgo { m0 with count := some (k + 1 + r) } rfl (by rw [hc]; simp) ⟨hm0.w, hv2, by show m0.value ≤ 217; omega, hr0, fun k' hk' => ?_⟩ 0 ek
      injection hk' with hk'
      subst hk'
      have h2 : (k + 1 + r) * m0.value ≤ 8 * 36 := Nat.mul_le_mul (by omega) c3
      exact ⟨by omega, by omega, by show (k + 1 + r) * m0.value + m0.rest ≤ 2000; omega⟩
  rintro σ H4 ⟨mm, b4, hP4, hC, rfl⟩
  -- unsaid
  refine ⟨fun σ H' => ∃ mm, But [p] H2 H' ∧ PoolAt H' p L cs ∧ Chg kd 2 m0 mm ∧ σ = rowS p rd at_ kd mm, ?_, ?_⟩
  · refine ⟨_, rfl, rfl, _, rfl, r_dec (fun e => ?_) (fun e => ⟨mm, b4, hP4, hC.skip, rfl⟩)⟩
    have ek : kd = 1 := by injection e with e; omega
    obtain rfl := hC.k (by omega)
    refine ⟨_, rfl, ?_⟩
    have hg := hC.g
    exact ⟨_, rfl, { mm with unsaid := !mm.unsaid }, b4, hP4, mgo { mm with unsaid := !mm.unsaid } rfl Iff.rfl ⟨hg.w, hg.v2, hg.v3, hg.r, hg.c⟩ 1 ek, rfl⟩
  rintro σ H5 ⟨mm, b5, hP5, hC, rfl⟩
  -- rest
  refine ⟨fun σ H' => ∃ mm, But [p] H2 H' ∧ PoolAt H' p L cs ∧ Chg kd 3 m0 mm ∧ σ = rowS p rd at_ kd mm, ?_, ?_⟩
  · refine ⟨_, rfl, rfl, _, rfl, r_dec (fun e => ?_) (fun e => ⟨mm, b5, hP5, hC.skip, rfl⟩)⟩
    have ek : kd = 2 := by injection e with e; omega
    obtain rfl := hC.k (by omega)
    have hg := hC.g
    refine ⟨_, rfl, _, _, rfl, rfl, _, rfl, p, L, cs, 2, rfl, hP5, hlen, by decide, by decide, fun r H6 b6 hP6 hr6 => ?_⟩
    refine ⟨_, _, rfl, rfl, 0, _, rfl, ?_⟩
    have er : (if ((mm.rest : Nat) : Int) - 1 - ((r : Nat) : Int) > 0 then ((mm.rest : Nat) : Int) - 1 - ((r : Nat) : Int) else 0) = ((mm.rest - 1 - r : Nat) : Int) := by
      split <;> omega
    rw [er]
    refine ⟨{ mm with rest := mm.rest - 1 - r }, b5.trans b6, hP6, mgo { mm with rest := mm.rest - 1 - r } rfl Iff.rfl ⟨hg.w, hg.v2, hg.v3, by show mm.rest - 1 - r < mm.value; omega, fun k hk => ?_⟩ 2 ek, rfl⟩
    obtain ⟨c1, c2, c3⟩ := hg.c k hk
    exact ⟨c1, c2, by show k * mm.value + (mm.rest - 1 - r) ≤ 2000; omega⟩
  rintro σ H6 ⟨mm, b6, hP6, hC, rfl⟩
  -- value
  refine ⟨fun σ H' => ∃ mm, But [p] H2 H' ∧ PoolAt H' p L cs ∧ Chg kd 4 m0 mm ∧ σ = rowS p rd at_ kd mm, ?_, ?_⟩
  · refine ⟨_, rfl, rfl, _, rfl, r_dec (fun e => ?_) (fun e => ⟨mm, b6, hP6, hC.skip, rfl⟩)⟩
    have ek : kd = 3 := by injection e with e; omega
    obtain rfl := hC.k (by omega)
    have hg := hC.g
    refine ⟨_, rfl, mm.value, 1, rfl, rfl, { mm with value := mm.value + 1 }, b6, hP6, mgo { mm with value := mm.value + 1 } rfl Iff.rfl ⟨hg.w, by show 2 ≤ mm.value + 1; omega, by show mm.value + 1 ≤ 217; omega, by show mm.rest < mm.value + 1; omega, fun k hk => ?_⟩ 3 ek, rfl⟩
    obtain ⟨c1, c2, c3⟩ := hm0.c k hk
    have h2 : k * (mm.value + 1) ≤ 5 * 37 := Nat.mul_le_mul c2 (by omega)
    exact ⟨c1, by omega, by show k * (mm.value + 1) + mm.rest ≤ 2000; omega⟩
  rintro σ H7 ⟨mm, b7, hP7, hC, rfl⟩
  have hR7 := hR2.same (hp_but b7)
  have hz7 := b7.at hz2 (by simpa using hmp)
  refine ⟨_, rfl, _, rfl, _, rfl, _, rfl, _, rfl, (by show 5 ≤ sizeLine; decide), fun t nt => ?_⟩
  have s8 : Same H7 (upd H7 t (.tup (mulL mm))) := Same.new nt
  have nmt : m ≠ t := no_in hz7 nt
  have hz8 := s8 _ _ hz7
  refine ⟨_, rfl, rd, _, rfl, ((hR7.same (hp_same p H7)).same s8).gm, _, rfl, m, zs, _, at_, rfl, rfl, hz8, ?_, ?_⟩
  · unfold ixN
    rw [if_pos (by omega), if_pos (by omega)]
    rfl
  have hP8 := hP7.same s8
  have nmL : m ≠ L := by
    rintro rfl
    have := hP1.cells
    have h0 : H m = none := nm
    have h1 := hP.cells
    rw [h0] at h1
    cases h1
  have k9 : TK K (upd H7 t (.tup (mulL mm))) (upd (upd H7 t (.tup (mulL mm))) m (.lst (zs.set at_ (.ref t)))) := TK.put hz8
  have hP9 : PoolAt (upd (upd H7 t (.tup (mulL mm))) m (.lst (zs.set at_ (.ref t)))) p L cs := hP8.put hmp nmL
  have k10 : TK K (upd (upd H7 t (.tup (mulL mm))) m (.lst (zs.set at_ (.ref t)))) (hp p (upd (upd H7 t (.tup (mulL mm))) m (.lst (zs.set at_ (.ref t))))) := by
    obtain ⟨l, e⟩ := hP9.lst
    exact TK.hide e
  have kA : TK K (hp p H7) (hp p (upd (upd H7 t (.tup (mulL mm))) m (.lst (zs.set at_ (.ref t))))) := (TK.same ((hp_same p H7).trans s8)).trans (k9.trans k10)
  obtain ⟨hat7, ⟨xs7, hx7, rx7⟩, ⟨zs7, hz7', rz7⟩⟩ := hR7
  have ezs : zs7 = zs := by
    have := hp_same _ _ _ _ hz7'
    rw [hz7] at this
    injection this with this
    injection this with this
    exact this.symm
  subst ezs
  have hrdp : rd ≠ p := by
    rintro rfl
    rw [hp_at] at hat7
    cases hat7
  have hrdm : rd ≠ m := ne_of (hp_same _ _ _ _ hat7) hz7 (by intro z; cases z)
  have hsp : s ≠ p := by
    rintro rfl
    rw [hp_at] at hx7
    cases hx7
  have e0 : ∀ a o, hp p H7 a = some o → a ≠ m → hp p (upd (upd H7 t (.tup (mulL mm))) m (.lst (zs7.set at_ (.ref t)))) a = some o := fun a o ha hm => by
    have hap : a ≠ p := by
      rintro rfl
      rw [hp_at] at ha
      cases ha
    exact hp_of (by rw [upd_ne hm]; exact s8 _ _ (hp_same _ _ _ _ ha)) hap
  refine ⟨_, rfl, q rd s m _ ⟨R.simple, R.mults.set at_ mm⟩ ?_ hP9 ⟨e0 _ _ hat7 hrdm, ⟨xs7, e0 _ _ hx7 nsm, rx7.imp fun _ _ => SimRow.tk kA⟩, ⟨zs7.set at_ (.ref t), hp_of upd_same hmp, ?_⟩⟩ (hG.set em0 hC.w hC.c hC.g)⟩
  · exact (((b1.trans (b2.trans b7)).trans (But.of s8))).upd (.inr nm)
  · refine ⟨by show (zs7.set at_ (.ref t)).length = (R.mults.set at_ mm).length; rw [List.length_set, List.length_set]; exact rz7.1, fun i y o e1 e2 => ?_⟩
    have e2' : (R.mults.set at_ mm)[i]? = some o := e2
    rw [List.getElem?_set] at e1 e2'
    by_cases h : at_ = i
    · subst h
      have hl : at_ < R.mults.length := by rw [← rz.1]; exact hat
      rw [if_pos rfl, if_pos hat] at e1
      rw [if_pos rfl, if_pos hl] at e2'
      injection e1 with e1
      injection e2' with e2'
      subst e1
      subst e2'
      exact ⟨t, rfl, k10 _ _ (k9 _ _ (SqT.of upd_same))⟩
    · rw [if_neg h] at e1 e2'
      exact MulRow.tk kA (rz7.2 i y o e1 e2')

end
end Sy

/-! part: L8 -/
set_option Elab.async false
set_option linter.all false
set_option maxRecDepth 100000
set_option maxHeartbeats 4000000
namespace Sy
open PySem PySem.Spec PyProof.Rows L2
section
variable {P : Program} {w : World} {K : PySem.W.Frag} {mg : Str → Option Value} {base : Heap}
theorem pick3 {a b c r : Nat} (h : r < 3) : ∃ v : Nat, ([.int (a : Nat), .int (b : Nat), .int (c : Nat)] : List V)[r]? = some (.int (v : Nat)) ∧ (v = a ∨ v = b ∨ v = c) := by
  match r, h with
  | 0, _ => exact ⟨a, rfl, .inl rfl⟩
  | 1, _ => exact ⟨b, rfl, .inr (.inl rfl)⟩
  | 2, _ => exact ⟨c, rfl, .inr (.inr rfl)⟩
/-- one of three numbers, then a draw below it -/
structure Drw (K : PySem.W.Frag) (p L : Addr) (cs : List Nat) (H H' : Hp) : Prop where
  b : But [p] H H'
  P : PoolAt H' p L cs
theorem Drw.trans {K : PySem.W.Frag} {p L : Addr} {cs : List Nat} {H H1 H2 : Hp} (a : Drw K p L cs H H1) (b : Drw K p L cs H1 H2) : Drw K p L cs H H2 := ⟨a.b.trans b.b, b.P⟩
theorem Drw.tk {K : PySem.W.Frag} {p L : Addr} {cs : List Nat} {H H1 : Hp} (a : Drw K p L cs H H1) (h : PoolAt H p L cs) : TK K H H1 := h.tk a.b
/-- reading: a draw below one of three numbers (the tuple is new) -/
theorem take3 {K : PySem.W.Frag} {p L : Addr} {cs : List Nat} {σ : L2.St} {H : Hp} {Q : VK} {a b c : Nat} (h0 : σ[0]? = some (some (.ref p))) (hP : PoolAt H p L cs) (hlen : cs.length < sizeLine) (ha : 0 < a ∧ a < 1000) (hb : 0 < b ∧ b < 1000) (hc : 0 < c ∧ c < 1000)
    (q : ∀ v r H', Drw K p L cs H H' → (v = a ∨ v = b ∨ v = c) → r < v → Q (.int (r : Nat)) H') :
    tCall (sp_l_take K) [] E0 (tCons (tVar 0) (tCons (tOp (rIxT K) (tTup (tCons (tC (.int (a : Nat))) (tCons (tC (.int (b : Nat))) (tCons (tC (.int (c : Nat))) tNil)))) (tCall (sp_l_take K) [] E0 (tCons (tVar 0) (tCons (tC (.int 3)) tNil)))) tNil)) σ H Q := by
  refine ⟨_, h0, (by show 3 ≤ sizeLine; decide), fun T nT => ?_⟩
  have sT : Same H (upd H T (.tup [.int (a : Nat), .int (b : Nat), .int (c : Nat)])) := Same.new nT
  have hPT := hP.same sT
  have nTp : T ≠ p := by obtain ⟨l, e⟩ := hP.lst; exact (no_in e nT).symm
  refine ⟨_, h0, p, L, cs, 3, rfl, hPT, hlen, by decide, by decide, fun r H1 b1 hP1 hr => ?_⟩
  obtain ⟨v, ev, hv⟩ := pick3 (a := a) (b := b) (c := c) hr
  refine ⟨T, _, _, .int (v : Nat), rfl, rfl, SqT.of (b1.at upd_same (by simpa using nTp)), atI_nat ev, p, L, cs, v, rfl, hP1, hlen, by omega, by omega, fun r2 H2 b2 hP2 hr2 => ?_⟩
  exact q v r2 H2 ⟨((But.of sT).trans b1).trans b2, hP2⟩ hv hr2
/-- the list D of rows grows by a row at t -/
theorem free_but {p D : Addr} {H H' : Hp} (b : But [p] H H') (n : D ≠ p) (h : H' D = none) : H D = none := by
  cases e : H D with
  | none => rfl
  | some oo => rw [b _ _ e (by simpa using n)] at h; cases h
def sp_l_drawn (K : PySem.W.Frag) : Sp := fun vs H Q _ => ∃ (p L : Addr) (cs : List Nat), vs = [.ref p] ∧ PoolAt H p L cs ∧ cs.length < sizeLine ∧
  ∀ rd s m H' R, But [p] H H' → PoolAt H' p L cs → RowsAt K (hp p H') rd s m R → Wds (wsum cs) 0 (R.simple.map (·.1)) → Wds (wsum cs) 10 (R.mults.map (·.word)) → (∀ x ∈ R.simple, SG x) → (∀ x ∈ R.mults, MG x) → R.simple.length ≤ 5 → R.mults.length ≤ 3 → Q (.ref rd) H'
theorem ok_l_drawn (W : Wd K mg) : Has P w K mg base 4 (He.ga K "_law_drawn") ["_law_pool_here"] [] (sp_l_drawn K) := by
  have h_l_take := ok_l_take (P := P) (w := w) (base := base) W
  have h_l_word := ok_l_word (P := P) (w := w) (base := base) W
  refine mkHas (d := d_l_drawn) (N := N_l_drawn) (ps := ["_law_pool_here"]) (W.says.def_ 46) sc_l_drawn (fun _ _ _ _ _ _ us hl => match us, hl with | [_], _ => rfl) (fun vs H Q E h => ?_) (fun cdv A outer s0 H vs Q E hr h => ?_)
  · obtain ⟨_, _, _, rfl, _⟩ := h
    rfl
  obtain ⟨p, L, cs, rfl, hP, hlen, q⟩ := h
  refine ⟨_, (pss_cons (ps_set (i := 1) sc_l_drawn.nd rfl (Or.inl rfl) (pe_lst pa_nil))
      (pss_mid (ps_for PassesOwn.never rfl (pi_range1 rfl W.f_range (pa_cons (pe_callH h_l_take W.g_l_take (hr.mono (by omega)) rfl (pa_cons (pv 0) (pa_cons pe_int pa_nil))) pa_nil)) (pg_name (i := 2) sc_l_drawn.nd rfl (Or.inl rfl)) (pss_one (ps_expr (pe_bm PySem.F.plainAttrs_list PySem.F.slot_list_append PySem.F.type_list_append mt_append (pv 1) (pa_cons (pe_tup (pa_cons (pe_callH h_l_word W.g_l_word (hr.mono (by omega)) rfl (pa_cons (pv 0) (pa_cons (pv 2) pa_nil))) (pa_cons (pe_op op_nadd pe_int (pe_callH h_l_take W.g_l_take (hr.mono (by omega)) rfl (pa_cons (pv 0) (pa_cons (pe_ix ix_tup (pe_tup (pa_cons pe_int (pa_cons pe_int (pa_cons pe_int pa_nil)))) (pe_callH h_l_take W.g_l_take (hr.mono (by omega)) rfl (pa_cons (pv 0) (pa_cons pe_int pa_nil))) (fun _ _ => rfl)) pa_nil)))) pa_nil))) pa_nil)))))
      (pss_mid (ps_set (i := 3) sc_l_drawn.nd rfl (Or.inl rfl) (pe_lst pa_nil))
      (pss_cons (ps_for PassesOwn.never rfl (pi_range1 rfl W.f_range (pa_cons (pe_callH h_l_take W.g_l_take (hr.mono (by omega)) rfl (pa_cons (pv 0) (pa_cons pe_int pa_nil))) pa_nil)) (pg_name (i := 2) sc_l_drawn.nd rfl (Or.inl rfl)) (pss_mid (ps_set (i := 4) sc_l_drawn.nd rfl (Or.inl rfl) (pe_op op_nadd pe_int (pe_callH h_l_take W.g_l_take (hr.mono (by omega)) rfl (pa_cons (pv 0) (pa_cons (pe_ix ix_tup (pe_tup (pa_cons pe_int (pa_cons pe_int (pa_cons pe_int pa_nil)))) (pe_callH h_l_take W.g_l_take (hr.mono (by omega)) rfl (pa_cons (pv 0) (pa_cons pe_int pa_nil))) (fun _ _ => rfl)) pa_nil)))))
      (pss_mid (ps_set (i := 5) sc_l_drawn.nd rfl (Or.inl rfl) (pe_op op_nadd pe_int (pe_callH h_l_take W.g_l_take (hr.mono (by omega)) rfl (pa_cons (pv 0) (pa_cons (pe_ix ix_tup (pe_tup (pa_cons pe_int (pa_cons pe_int (pa_cons pe_int pa_nil)))) (pe_callH h_l_take W.g_l_take (hr.mono (by omega)) rfl (pa_cons (pv 0) (pa_cons pe_int pa_nil))) (fun _ _ => rfl)) pa_nil)))))
      (pss_mid (ps_if (PW.pt (pw_and (pt_cmpR op_eq (pe_callH h_l_take W.g_l_take (hr.mono (by omega)) rfl (pa_cons (pv 0) (pa_cons pe_int pa_nil))) pe_int (nomark _)) (pw_and1 (pt_not (pt_val (pe_callB (cr_any rfl) rfl W.f_any PyProof.Rows.boot_any (pa_cons (pe_lc (own := [("_law_row", 7)]) (g := gName 7) rfl sc_l_drawn.nd (pi_list (pv 3)) (blkOk_by (own := [("_law_row", 7)]) (N := N_l_drawn) (sc := defScope s_l_drawn) (by decide +kernel)) (fun _ _ _ _ _ => (pg_name (i := 7) sc_l_drawn.nd rfl (Or.inl rfl))) (fun _ _ _ _ _ => pts_nil) (fun _ _ _ _ _ => (pe_cmpR op_isN1 (pe_ix (ix_tupK (K := K) rfl) (pv 7) pe_int (fun _ _ => rfl)) pe_non (nomark _)))) pa_nil))))))) (pss_one (ps_set (i := 5) sc_l_drawn.nd rfl (Or.inl rfl) pe_non)) pss_nil)
      (pss_mid (ps_set (i := 6) sc_l_drawn.nd rfl (Or.inl rfl) (pe_ix ix_tup (pe_tup (pa_cons pe_int (pa_cons (pe_op op_nsub (pv 4) pe_int) (pa_cons (pe_callH h_l_take W.g_l_take (hr.mono (by omega)) rfl (pa_cons (pv 0) (pa_cons (pv 4) pa_nil))) pa_nil)))) (pe_callH h_l_take W.g_l_take (hr.mono (by omega)) rfl (pa_cons (pv 0) (pa_cons pe_int pa_nil))) (fun _ _ => rfl)))
      (pss_one (ps_expr (pe_bm PySem.F.plainAttrs_list PySem.F.slot_list_append PySem.F.type_list_append mt_append (pv 3) (pa_cons (pe_tup (pa_cons (pe_callH h_l_word W.g_l_word (hr.mono (by omega)) rfl (pa_cons (pv 0) (pa_cons (pe_op op_nadd pe_int (pv 2)) pa_nil))) (pa_cons (pv 4) (pa_cons (pv 5) (pa_cons (pe_cmpR op_eq (pe_callH h_l_take W.g_l_take (hr.mono (by omega)) rfl (pa_cons (pv 0) (pa_cons pe_int pa_nil))) pe_int (nomark _)) (pa_cons (pv 6) pa_nil)))))) pa_nil)))))))))
      (pss_one (ps_ret (pe_disp (pps_cons pe_str (pv 1) (pps_cons pe_str (pv 3) pps_nil)) rfl rfl (fun z => by cases z) (by decide)))))))), ?_⟩
  refine ⟨Nat.zero_le _, fun D nD => ?_⟩
  have nDp : D ≠ p := by obtain ⟨l, e⟩ := hP.lst; exact (no_in e nD).symm
  have nDL : D ≠ L := (no_in hP.cells nD).symm
  have sD : Same H (upd H D (.lst [])) := Same.new nD
  -- simple
  refine ⟨fun σ H' => ∃ (xs : List V) (sim : List (Str × Nat)), But [p] H H' ∧ PoolAt H' p L cs ∧ H' D = some (.lst xs) ∧ Rel (SimRow K H') xs sim ∧ Wds (wsum cs) 0 (sim.map (·.1)) ∧ (∀ x ∈ sim, SG x) ∧ sim.length ≤ 5 ∧ ∃ a2, σ = [some (.ref p), some (.ref D), a2, none, none, none, none, none], ?_, ?_⟩
  · refine ⟨_, rfl, p, L, cs, 6, rfl, hP.same sD, hlen, by decide, by decide, fun n H1 b1 hP1 hn => ?_⟩
    refine ⟨_, rfl, by omega, by omega, ?_⟩
    rw [Int.toNat_natCast]
    refine for_range (fun i σ H' => ∃ (xs : List V) (sim : List (Str × Nat)), But [p] H H' ∧ PoolAt H' p L cs ∧ H' D = some (.lst xs) ∧ Rel (SimRow K H') xs sim ∧ Wds (wsum cs) 0 (sim.map (·.1)) ∧ (∀ x ∈ sim, SG x) ∧ sim.length = i ∧ ∃ a2, σ = [some (.ref p), some (.ref D), a2, none, none, none, none, none])
      ⟨[], [], (But.of sD).trans b1, hP1, b1.at upd_same (by simpa using nDp), Rel.nil, Wds.nil, by simp, rfl, _, rfl⟩ ?_ ?_
    · rintro i σ H2 hi ⟨xs, sim, b2, hP2, hD2, rx, hw, hs, hl, a2, rfl⟩
      rw [Int.zero_add]
      refine ⟨_, rfl, .inl ⟨rfl, _, SqL.of hD2⟩, _, rfl, _, rfl, p, L, cs, i, rfl, hP2, hlen, fun z H3 b3 hP3 hz1 hz2 => ?_⟩
      refine take3 (a := 4) (b := 9) (c := 30) rfl hP3 hlen (by decide) (by decide) (by decide) fun v r H4 d4 hv hr4 => ?_
      refine ⟨1, r, rfl, rfl, (by show 2 ≤ sizeLine; decide), fun t nt => ?_⟩
      have hD4 := d4.b.at (b3.at hD2 (by simpa using nDp)) (by simpa using nDp)
      have s5 : Same H4 (upd H4 t (.tup [.str z, .int (1 + r : Nat)])) := Same.new nt
      have k5 : TK K H2 (upd H4 t (.tup [.str z, .int (1 + r : Nat)])) := ((hP2.tk b3).trans (d4.tk hP3)).trans (TK.same s5)
      have k6 : TK K (upd H4 t (.tup [.str z, .int (1 + r : Nat)])) (upd (upd H4 t (.tup [.str z, .int (1 + r : Nat)])) D (.lst (xs ++ [.ref t]))) := TK.put (s5 _ _ hD4)
      refine ⟨D, xs, _, rfl, rfl, s5 _ _ hD4, small_lt (by rw [rx.1]; omega), xs ++ [.ref t], sim ++ [(z, 1 + r)], ?_, ?_, upd_same, ?_, ?_, ?_, ?_, _, rfl⟩
      · exact (((b2.trans b3).trans d4.b).trans (But.of s5)).upd (.inr nD)
      · exact (d4.P.same s5).put nDp nDL
      · exact Rel.append (rx.imp fun _ _ h => SimRow.tk (k5.trans k6) h) (Rel.cons ⟨t, rfl, k6 _ _ (SqT.of upd_same)⟩ Rel.nil)
      · rw [List.map_append]
        exact hw.snoc (by rw [List.length_map, hl, Nat.zero_add]; exact hz2)
      · intro x hx
        rcases List.mem_append.mp hx with h | h
        · exact hs x h
        · obtain rfl := List.mem_singleton.mp h
          exact ⟨hz1, by show 1 ≤ 1 + r; omega, by show 1 + r ≤ 301; omega⟩
      · rw [List.length_append, hl]; rfl
    · rintro σ H2 ⟨xs, sim, b2, hP2, hD2, rx, hw, hs, hl, a2, rfl⟩
      exact ⟨xs, sim, b2, hP2, hD2, rx, hw, hs, by omega, _, rfl⟩
  rintro σ H2 ⟨xs, sim, b2, hP2, hD2, rx, hw, hs, hl, a2, rfl⟩
  -- multipliers = []
  refine ⟨fun σ H' => ∃ Em, Same H2 H' ∧ H2 Em = none ∧ H' Em = some (.lst []) ∧ σ = [some (.ref p), some (.ref D), a2, some (.ref Em), none, none, none, none], ?_, ?_⟩
  · exact ⟨Nat.zero_le _, fun Em nE => ⟨Em, Same.new nE, nE, upd_same, rfl⟩⟩
  rintro σ H3 ⟨Em, s3, nE, hE, rfl⟩
  have nEp : Em ≠ p := by obtain ⟨l, e⟩ := hP2.lst; exact (no_in e nE).symm
  have nEL : Em ≠ L := (no_in hP2.cells nE).symm
  have nED : Em ≠ D := (no_in hD2 nE).symm
  have nHE : H Em = none := free_but b2 nEp nE
  have hP3 := hP2.same s3
  refine ⟨_, rfl, p, L, cs, 4, rfl, hP3, hlen, by decide, by decide, fun n H4 b4 hP4 hn => ?_⟩
  refine ⟨_, rfl, by omega, by omega, ?_⟩
  rw [Int.toNat_natCast]
  have k4 : TK K H2 H4 := (TK.same s3).trans (hP3.tk b4)
  refine for_range (fun i σ H' => ∃ (zs : List V) (ms : List M), But [p] H H' ∧ PoolAt H' p L cs ∧ H' D = some (.lst xs) ∧ Rel (SimRow K H') xs sim ∧ H' Em = some (.lst zs) ∧ Rel (MulRow K H') zs ms ∧ Wds (wsum cs) 10 (ms.map (·.word)) ∧ (∀ x ∈ ms, MG x) ∧ ms.length = i ∧ ∃ a2 a4 a5 a6 a7, σ = [some (.ref p), some (.ref D), a2, some (.ref Em), a4, a5, a6, a7])
    ⟨[], [], (b2.trans (But.of s3)).trans b4, hP4, b4.at (s3 _ _ hD2) (by simpa using nDp), rx.imp fun _ _ => SimRow.tk k4, b4.at hE (by simpa using nEp), Rel.nil, Wds.nil, by simp, rfl, _, _, _, _, _, rfl⟩ ?_ ?_
  · rintro i σ H5 hi ⟨zs, ms, b5, hP5, hD5, rx5, hE5, rz5, hw5, hm5, hl5, a2, a4, a5, a6, a7, rfl⟩
    rw [Int.zero_add]
    -- value
    refine ⟨fun σ H' => ∃ v, 2 ≤ v ∧ v ≤ 31 ∧ Drw K p L cs H5 H' ∧ σ = [some (.ref p), some (.ref D), some (.int (i : Nat)), some (.ref Em), some (.int (v : Nat)), a5, a6, a7], ?_, ?_⟩
    · refine take3 (a := 3) (b := 9) (c := 30) rfl hP5 hlen (by decide) (by decide) (by decide) fun v r H6 d6 hv hr6 => ?_
      exact ⟨2, r, rfl, rfl, 2 + r, by omega, by omega, d6, rfl⟩
    rintro σ H6 ⟨v, hv1, hv2, d6, rfl⟩
    refine ⟨fun σ H' => ∃ k, 1 ≤ k ∧ k ≤ 40 ∧ Drw K p L cs H5 H' ∧ σ = [some (.ref p), some (.ref D), some (.int (i : Nat)), some (.ref Em), some (.int (v : Nat)), some (.int (k : Nat)), a6, a7], ?_, ?_⟩
    · refine take3 (a := 3) (b := 9) (c := 40) rfl d6.P hlen (by decide) (by decide) (by decide) fun v r H7 d7 hv hr7 => ?_
      exact ⟨1, r, rfl, rfl, 1 + r, by omega, by omega, d6.trans d7, rfl⟩
    rintro σ H7 ⟨k, hk1, hk2, d7, rfl⟩
    -- count = None
    refine ⟨fun σ H' => ∃ (co : Option Nat) (a7 : Option V), (∀ k, co = some k → 1 ≤ k ∧ k ≤ 40) ∧ Drw K p L cs H5 H' ∧ σ = [some (.ref p), some (.ref D), some (.int (i : Nat)), some (.ref Em), some (.int (v : Nat)), some (cntV co), a6, a7], ?_, ?_⟩
    · have stay : ∀ H', Drw K p L cs H5 H' → ∃ (co : Option Nat) (a7' : Option V), (∀ k, co = some k → 1 ≤ k ∧ k ≤ 40) ∧ Drw K p L cs H5 H' ∧ ([some (.ref p), some (.ref D), some (.int (i : Nat)), some (.ref Em), some (.int (v : Nat)), some (.int (k : Nat)), a6, a7] : L2.St) = [some (.ref p), some (.ref D), some (.int (i : Nat)), some (.ref Em), some (.int (v : Nat)), some (cntV co), a6, a7'] := fun H' d => ⟨some k, a7, fun k' e => by injection e with e; omega, d, rfl⟩
      refine ⟨_, rfl, p, L, cs, 3, rfl, d7.P, hlen, by decide, by decide, fun r H8 b8 hP8 hr8 => ?_⟩
      have d8 : Drw K p L cs H5 H8 := d7.trans ⟨b8, hP8⟩
      refine ⟨rfl, _, rfl, r_dec (fun e => ?_) (fun e => iteF (stay H8 d8))⟩
      have hE8 := d8.b.at hE5 (by simpa using nEp)
      have rz8 := rz5.imp fun _ _ => MulRow.tk (d8.tk hP5)
      refine ⟨_, rfl, Em, rfl, ⟨_, SqL.of hE8⟩, fun C nC => ?_⟩
      have nCp : C ≠ p := by obtain ⟨l, e⟩ := hP8.lst; exact (no_in e nC).symm
      refine lc_list (xs := zs) (fun j H' => Same H8 H' ∧ ∃ bs : List Bool, H' C = some (.lst (bs.map V.bl)) ∧ bs.length = j) ⟨Same.new nC, [], upd_same, rfl⟩ (fun j H' _ pv => pv.1.seq (SqL.of hE8)) ?_ ?_
      · rintro j x H9 hj ⟨s9, bs, hC, hbl⟩
        obtain ⟨mi, em, a, rfl, ha⟩ := rz8.get hj
        have hj' := (List.getElem?_eq_some_iff.mp em).1
        refine ⟨rfl, yes_of ?_⟩
        exact ⟨_, rfl, a, _, _, _, rfl, rfl, s9.tup ha, rfl, rfl, _, hC, small_lt (by rw [List.length_map]; omega), s9.mut nC, bs ++ [_], by rw [upd_same, List.map_append]; rfl, by rw [List.length_append, hbl]; rfl⟩
      · rintro H9 ⟨s9, bs, hC, hbl⟩
        have d9 : Drw K p L cs H5 H9 := d8.trans ⟨But.of s9, hP8.same s9⟩
        refine ⟨C, bs, rfl, SqL.of hC, _, rfl, ?_⟩
        refine r_nb (fun e => ?_) (fun e => stay H9 d9)
        exact ⟨none, a7, fun k' e => (by cases e), d9, rfl⟩
    rintro σ H8 ⟨co, a7, hco, d8, rfl⟩
    -- rest
    refine ⟨fun σ H' => ∃ rr, rr < v ∧ Drw K p L cs H5 H' ∧ σ = [some (.ref p), some (.ref D), some (.int (i : Nat)), some (.ref Em), some (.int (v : Nat)), some (cntV co), some (.int (rr : Nat)), a7], ?_, ?_⟩
    · refine ⟨_, rfl, v, 1, rfl, rfl, by omega, _, rfl, _, rfl, p, L, cs, v, rfl, d8.P, hlen, by omega, by omega, fun r H9 b9 hP9 hr9 => ?_⟩
      refine ⟨(by show 3 ≤ sizeLine; decide), fun T nT => ?_⟩
      have sT : Same H9 (upd H9 T (.tup [.int (0 : Nat), .int (v - 1 : Nat), .int (r : Nat)])) := Same.new nT
      have nTp : T ≠ p := by obtain ⟨l, e⟩ := hP9.lst; exact (no_in e nT).symm
      refine ⟨_, rfl, p, L, cs, 3, rfl, hP9.same sT, hlen, by decide, by decide, fun r2 H10 b10 hP10 hr10 => ?_⟩
      obtain ⟨rr, er, hrr⟩ := pick3 (a := 0) (b := v - 1) (c := r) hr10
      refine ⟨T, _, _, .int (rr : Nat), rfl, rfl, SqT.of (b10.at upd_same (by simpa using nTp)), atI_nat er, rr, by omega, ?_, rfl⟩
      exact d8.trans ⟨(b9.trans (But.of sT)).trans b10, hP10⟩
    rintro σ H9 ⟨rr, hrr, d9, rfl⟩
    have hE9 := d9.b.at hE5 (by simpa using nEp)
    refine ⟨_, rfl, .inl ⟨rfl, _, SqL.of hE9⟩, _, rfl, _, rfl, 10, i, rfl, rfl, p, L, cs, 10 + i, rfl, d9.P, hlen, fun z H10 b10 hP10 hz1 hz2 => ?_⟩
    refine ⟨_, rfl, _, rfl, _, rfl, p, L, cs, 2, rfl, hP10, hlen, by decide, by decide, fun r H11 b11 hP11 hr11 => ?_⟩
    refine ⟨rfl, _, rfl, (by show 5 ≤ sizeLine; decide), fun t nt => ?_⟩
    generalize decide (V.int (r : Nat) = V.int 1) = un
    have dA : Drw K p L cs H5 H11 := (d9.trans ⟨b10, hP10⟩).trans ⟨b11, hP11⟩
    have hE11 := dA.b.at hE5 (by simpa using nEp)
    have hD11 := dA.b.at hD5 (by simpa using nDp)
    have s12 : Same H11 (upd H11 t (.tup [.str z, .int (v : Nat), cntV co, .bl un, .int (rr : Nat)])) := Same.new nt
    have k8 : TK K H5 (upd H11 t (.tup [.str z, .int (v : Nat), cntV co, .bl un, .int (rr : Nat)])) := (dA.tk hP5).trans (TK.same s12)
    have k9 : TK K (upd H11 t (.tup [.str z, .int (v : Nat), cntV co, .bl un, .int (rr : Nat)])) (upd (upd H11 t (.tup [.str z, .int (v : Nat), cntV co, .bl un, .int (rr : Nat)])) Em (.lst (zs ++ [.ref t]))) := TK.put (s12 _ _ hE11)
    refine ⟨Em, zs, _, rfl, rfl, s12 _ _ hE11, small_lt (by rw [rz5.1]; omega), zs ++ [.ref t], ms ++ [⟨z, v, co, un, rr⟩], ?_, ?_, ?_, ?_, upd_same, ?_, ?_, ?_, ?_, _, _, _, _, _, rfl⟩
    · exact ((b5.trans dA.b).trans (But.of s12)).upd (.inr nHE)
    · exact (dA.P.same s12).put nEp nEL
    · rw [upd_ne nED.symm]; exact s12 _ _ hD11
    · exact rx5.imp fun _ _ => SimRow.tk (k8.trans k9)
    · exact Rel.append (rz5.imp fun _ _ => MulRow.tk (k8.trans k9)) (Rel.cons ⟨t, rfl, k9 _ _ (SqT.of upd_same)⟩ Rel.nil)
    · rw [List.map_append]
      exact hw5.snoc (by rw [List.length_map, hl5]; exact hz2)
    · intro x hx
      rcases List.mem_append.mp hx with h | h
      · exact hm5 x h
      · obtain rfl := List.mem_singleton.mp h
        refine ⟨hz1, hv1, by show v ≤ 217; omega, hrr, fun k' hk' => ?_⟩
        obtain ⟨c1, c2⟩ := hco k' hk'
        have h2 : k' * v ≤ 40 * 31 := Nat.mul_le_mul c2 hv2
        exact ⟨c1, c2, by show k' * v + rr ≤ 2000; omega⟩
    · rw [List.length_append, hl5]; rfl
  · rintro σ H5 ⟨zs, ms, b5, hP5, hD5, rx5, hE5, rz5, hw5, hm5, hl5, a2, a4, a5, a6, a7, rfl⟩
    refine fun rd nrd => ⟨_, rfl, _, rfl, upd_same, [(.inr "simple", .ref D), (.inr "multipliers", .ref Em)], rfl, (by show 2 ≤ 15; decide), ?_⟩
    rw [mk_rows]
    have s9 : Same H5 (upd (upd H5 rd (.dK [])) rd (.dK [(.inr "simple", .ref D), (.inr "multipliers", .ref Em)])) := (Same.new nrd).mut nrd
    have nrp : rd ≠ p := by obtain ⟨l, e⟩ := hP5.lst; exact (no_in e nrd).symm
    have hP9 := hP5.same s9
    have k9 : TK K H5 (hp p (upd (upd H5 rd (.dK [])) rd (.dK [(.inr "simple", .ref D), (.inr "multipliers", .ref Em)]))) := by
      obtain ⟨l, e⟩ := hP9.lst
      exact (TK.same s9).trans (TK.hide e)
    exact q rd D Em _ ⟨sim, ms⟩ (b5.trans (But.of s9)) hP9 ⟨hp_of upd_same nrp, ⟨xs, hp_of (s9 _ _ hD5) nDp, rx5.imp fun _ _ => SimRow.tk k9⟩, ⟨zs, hp_of (s9 _ _ hE5) nEp, rz5.imp fun _ _ => MulRow.tk k9⟩⟩ hw hw5 hs hm5 hl (by show ms.length ≤ 3; omega)

end
end Sy

/-! part: L9 -/
set_option Elab.async false
set_option linter.all false
set_option maxRecDepth 100000
set_option maxHeartbeats 4000000
namespace Sy
open PySem PySem.Spec PyProof.Rows L2
section
variable {P : Program} {w : World} {K : PySem.W.Frag} {mg : Str → Option Value} {base : Heap}
theorem Rel.filter {α : Type} {f : V → α → Prop} {xs : List V} {x : V} {l : List α} {i : Nat} {a : α} {p : α → Bool} {ys : List V} (ea : l[i]? = some a) (hy : Rel f ys ((l.take i).filter p)) (hx : f x a) :
    Rel f (if p a = true then ys ++ [x] else ys) ((l.take (i + 1)).filter p) := by
  have hi := (List.getElem?_eq_some_iff.mp ea).1
  rw [List.take_succ_eq_append_getElem hi, (List.getElem?_eq_some_iff.mp ea).2, List.filter_append]
  by_cases h : p a = true
  · rw [if_pos h, show [a].filter p = [a] by simp [h]]
    exact Rel.append hy (Rel.cons hx Rel.nil)
  · rw [if_neg h, show [a].filter p = [] by simp [h], List.append_nil]
    exact hy
theorem fst_y : fst1 "yyyyyyyy" = some 121 := by decide +kernel
theorem ok_y : WordOk "yyyyyyyy" := ⟨by decide +kernel, by decide +kernel, by decide +kernel⟩
theorem good_more {t : Nat} {R : Rs} {v r : Nat} {u : Bool} (h1 : Wds t 0 (R.simple.map (·.1))) (h2 : Wds t 10 (R.mults.map (·.word))) (h3 : ∀ x ∈ R.simple, SG x) (h4 : ∀ x ∈ R.mults, MG x) (h5 : R.simple.length ≤ 5) (h6 : R.mults.length ≤ 3) (hv1 : 2 ≤ v) (hv2 : v ≤ 31) (hr : r < v) :
    Good ⟨R.simple, R.mults.filter (fun m => m.count.isSome) ++ [⟨"yyyyyyyy", v, none, u, r⟩]⟩ := by
  have hwd := words_good (t := t) (n := (R.simple.map (·.1)).length) (ws := R.simple.map (·.1)) (us := R.mults.map (·.word)) (c := 0) (ks := (List.range (R.mults.map (·.word)).length).map fun k => 10 + k)
    (by have := h1; unfold Wds at this; simpa using this) (by rw [List.length_map]; omega)
    (by
      rw [show (R.mults.map (·.word)).map fst1 = _ from h2, List.map_map]
      rfl)
    (rng_nodup _ _)
    (fun k hk => by
      obtain ⟨j, hj, rfl⟩ := List.mem_map.mp hk
      have := List.mem_range.mp hj
      rw [List.length_map] at this
      omega)
  have e : wordsL ⟨R.simple, R.mults.filter (fun m => m.count.isSome) ++ [⟨"yyyyyyyy", v, none, u, r⟩]⟩ = (R.simple.map (·.1) ++ (R.mults.filter fun m => m.count.isSome).map (·.word)) ++ [("yyyyyyyy" : Str)] := by
    unfold wordsL
    show _ ++ (R.mults.filter (fun m => m.count.isSome) ++ [⟨"yyyyyyyy", v, none, u, r⟩] : List M).map (·.word) = _
    rw [List.map_append, ← List.append_assoc]
    rfl
  have hsub : (R.simple.map (·.1) ++ (R.mults.filter fun m => m.count.isSome).map (·.word)).Sublist (R.simple.map (·.1) ++ R.mults.map (·.word)) := List.Sublist.append (List.Sublist.refl _) (List.Sublist.map _ List.filter_sublist)
  have hfl : ∀ w ∈ R.simple.map (·.1) ++ (R.mults.filter fun m => m.count.isSome).map (·.word), ∃ k, fst1 w = some (fl t k) := fun w hw => hwd.2 w (hsub.subset hw)
  refine ⟨h3, fun m hm => ?_, ?_, fun w hw e2 => ?_, ⟨_, isOut_snoc (R := ⟨R.simple, R.mults.filter (fun m => m.count.isSome) ++ [⟨"yyyyyyyy", v, none, u, r⟩]⟩) rfl rfl fun m hm => ?_⟩, by show R.simple.length ≤ 6; omega, ?_⟩
  · rcases List.mem_append.mp hm with h | h
    · exact h4 m ((List.mem_filter.mp h).1)
    · obtain rfl := List.mem_singleton.mp h
      exact ⟨ok_y, hv1, by show v ≤ 217; omega, hr, fun k hk => by cases hk⟩
  · rw [e, List.map_append]
    refine List.nodup_append.mpr ⟨hwd.1.sublist (hsub.map fst1), by simp, fun a ha b hb => ?_⟩
    have hb' : b = some 121 := by
      have : b = fst1 "yyyyyyyy" := by simpa using hb
      rw [this, fst_y]
    obtain ⟨w, hw, rfl⟩ := List.mem_map.mp ha
    obtain ⟨k, hk⟩ := hfl w hw
    rw [hk, hb']
    intro z
    injection z with z
    have := fl_lt t k
    omega
  · rw [e] at hw
    rcases List.mem_append.mp hw with h | h
    · obtain ⟨k, hk⟩ := hfl w h
      rw [hk] at e2
      injection e2 with e2
      have := fl_lt t k
      omega
    · obtain rfl := List.mem_singleton.mp h
      rw [fst_y] at e2
      injection e2 with e2
      omega
  · have := (List.mem_filter.mp hm).2
    intro z
    rw [z] at this
    cases this
  · show (R.mults.filter (fun m => m.count.isSome) ++ ([⟨"yyyyyyyy", v, none, u, r⟩] : List M)).length ≤ 6
    rw [List.length_append]
    exact Nat.succ_le_succ (Nat.le_trans (List.length_filter_le _ _) (by omega))
def sp_l_with_outer (K : PySem.W.Frag) : Sp := fun vs H Q _ => ∃ (p L : Addr) (cs : List Nat), vs = [.ref p] ∧ PoolAt H p L cs ∧ cs.length < sizeLine ∧
  ∀ rd s m H' R, But [p] H H' → PoolAt H' p L cs → RowsAt K (hp p H') rd s m R → Good R → Q (.ref rd) H'
theorem ok_l_with_outer (W : Wd K mg) : Has P w K mg base 6 (He.ga K "_law_with_outer") ["_law_pool_here"] [] (sp_l_with_outer K) := by
  have h_l_take := ok_l_take (P := P) (w := w) (base := base) W
  have h_l_regular := ok_l_regular (P := P) (w := w) (base := base) W
  have h_l_nearly := ok_l_nearly (P := P) (w := w) (base := base) W
  have h_l_drawn := ok_l_drawn (P := P) (w := w) (base := base) W
  refine mkHas (d := d_l_with_outer) (N := N_l_with_outer) (ps := ["_law_pool_here"]) (W.says.def_ 57) sc_l_with_outer (fun _ _ _ _ _ _ us hl => match us, hl with | [_], _ => rfl) (fun vs H Q E h => ?_) (fun cdv A outer s0 H vs Q E hr h => ?_)
  · obtain ⟨_, _, _, rfl, _⟩ := h
    rfl
  obtain ⟨p, L, cs, rfl, hP, hlen, q⟩ := h
  have hu := hu_of hr
  refine ⟨_, (pss_cons (ps_set (i := 1) sc_l_with_outer.nd rfl (Or.inl rfl) (pe_callH h_l_take W.g_l_take (hr.mono (by omega)) rfl (pa_cons (pv 0) (pa_cons pe_int pa_nil))))
      (pss_cons (ps_if (pt_cmpR op_lt (pv 1) pe_int (nomark _)) (pss_one (ps_ret (pe_ifExp (pt_cmpR op_eq (pv 1) pe_int (nomark _)) (pe_callH h_l_regular W.g_l_regular (hr.mono (by omega)) rfl (pa_cons (pv 0) pa_nil)) (pe_callH h_l_nearly W.g_l_nearly (hr.mono (by omega)) rfl (pa_cons (pv 0) pa_nil))))) pss_nil)
      (pss_cons (ps_set (i := 2) sc_l_with_outer.nd rfl (Or.inl rfl) (pe_callH h_l_drawn W.g_l_drawn (hr.mono (by omega)) rfl (pa_cons (pv 0) pa_nil)))
      (pss_cons (ps_set (i := 3) sc_l_with_outer.nd rfl (Or.inl rfl) (pe_op op_nadd pe_int (pe_callH h_l_take W.g_l_take (hr.mono (by omega)) rfl (pa_cons (pv 0) (pa_cons pe_int pa_nil)))))
      (pss_cons (ps_set (i := 4) sc_l_with_outer.nd rfl (Or.inl rfl) (pe_tup (pa_cons pe_str (pa_cons (pv 3) (pa_cons pe_non (pa_cons (pe_cmpR op_eq (pe_callH h_l_take W.g_l_take (hr.mono (by omega)) rfl (pa_cons (pv 0) (pa_cons pe_int pa_nil))) pe_int (nomark _)) (pa_cons (pe_callH h_l_take W.g_l_take (hr.mono (by omega)) rfl (pa_cons (pv 0) (pa_cons (pv 3) pa_nil))) pa_nil)))))))
      (pss_cons (ps_setLc (i := 5) (own := [("_law_row", 6)]) (g := gName 6) rfl sc_l_with_outer.nd rfl rfl (sw_true rfl rfl rfl (by decide +kernel)) (pi_list (pe_dget hu (pv 2) pe_str (fun _ _ => rfl))) (blkOk_by (own := [("_law_row", 6)]) (N := N_l_with_outer) (sc := defScope s_l_with_outer) (by decide +kernel)) (fun _ _ _ _ _ => (pg_name (i := 6) sc_l_with_outer.nd rfl (Or.inl rfl))) (fun _ _ _ _ _ => (pts_one (pt_cmpR op_notN1 (pe_ix (ix_tupK (K := K) rfl) (pv 6) pe_int (fun _ _ => rfl)) pe_non (nomark _)))) (fun _ _ _ _ _ => (pv 6)))
      (pss_one (ps_ret (pe_disp (pps_cons pe_str (pe_dget hu (pv 2) pe_str (fun _ _ => rfl)) (pps_cons pe_str (pe_op op_cat (pv 5) (pe_lst (pa_cons (pv 4) pa_nil))) pps_nil)) rfl rfl (fun z => by cases z) (by decide)))))))))), ?_⟩
  refine ⟨_, rfl, p, L, cs, 3, rfl, hP, hlen, by decide, by decide, fun kd H1 b1 hP1 hk => ?_⟩
  refine ⟨_, rfl, _, _, rfl, rfl, _, rfl, r_dec (fun e => ?_) (fun e => ?_)⟩
  · refine ⟨_, rfl, rfl, _, rfl, r_dec (fun e2 => ?_) (fun e2 => ?_)⟩
    · exact ⟨_, rfl, p, L, cs, rfl, hP1, hlen, fun rd s m H' R b2 hP2 hR _ _ hG _ => q rd s m H' R (b1.trans b2) hP2 hR hG⟩
    · exact ⟨_, rfl, p, L, cs, rfl, hP1, hlen, fun rd s m H' R b2 hP2 hR hG => q rd s m H' R (b1.trans b2) hP2 hR hG⟩
  · refine ⟨_, rfl, p, L, cs, rfl, hP1, hlen, fun rd s m H2 R b2 hP2 hR w1 w2 g1 g2 l1 l2 => ?_⟩
    refine ⟨_, rfl, p, L, cs, 30, rfl, hP2, hlen, by decide, by decide, fun v H3 b3 hP3 hv => ?_⟩
    refine ⟨2, v, rfl, rfl, ?_⟩
    refine ⟨_, rfl, _, rfl, p, L, cs, 2, rfl, hP3, hlen, by decide, by decide, fun u0 H4 b4 hP4 hu0 => ?_⟩
    refine ⟨rfl, _, rfl, _, rfl, p, L, cs, 2 + v, rfl, hP4, hlen, by omega, by omega, fun rr H5 b5 hP5 hrr => ?_⟩
    refine ⟨(by show 5 ≤ sizeLine; decide), fun y ny => ?_⟩
    generalize decide (V.int (u0 : Nat) = V.int 1) = un
    have b25 : But [p] H2 H5 := (b3.trans b4).trans b5
    have s6 : Same H5 (upd H5 y (.tup [.str "yyyyyyyy", .int (2 + v : Nat), .non, .bl un, .int (rr : Nat)])) := Same.new ny
    have hR5 := (hR.same (hp_but b25))
    have hR6 : RowsAt K (upd H5 y (.tup [.str "yyyyyyyy", .int (2 + v : Nat), .non, .bl un, .int (rr : Nat)])) rd s m R := (hR5.same (hp_same p H5)).same s6
    have hP6 := hP5.same s6
    have hy6 : upd H5 y (.tup [.str "yyyyyyyy", .int (2 + v : Nat), .non, .bl un, .int (rr : Nat)]) y = some (.tup [.str "yyyyyyyy", .int (2 + v : Nat), .non, .bl un, .int (rr : Nat)]) := upd_same
    have bH : But [p] H (upd H5 y (.tup [.str "yyyyyyyy", .int (2 + v : Nat), .non, .bl un, .int (rr : Nat)])) := ((b1.trans b2).trans b25).trans (But.of s6)
    have hsp : s ≠ p := by
      obtain ⟨xs, hx, _⟩ := hR.sim
      rintro rfl
      rw [hp_at] at hx
      cases hx
    revert hR6 hP6 hy6 bH
    generalize upd H5 y (.tup [.str "yyyyyyyy", .int (2 + v : Nat), .non, .bl un, .int (rr : Nat)]) = H6
    intro hR6 hP6 hy6 bH
    obtain ⟨zs, hz, rz⟩ := hR6.mul
    refine ⟨_, rfl, rd, _, rfl, hR6.gm, m, rfl, ⟨_, SqL.of hz⟩, fun D nD => ?_⟩
    refine lc_list (xs := zs) (fun i H' => Same H6 H' ∧ ∃ ys, H' D = some (.lst ys) ∧ Rel (MulRow K H6) ys ((R.mults.take i).filter fun m => m.count.isSome)) ⟨Same.new nD, [], upd_same, Rel.nil⟩ (fun i H' _ pv => pv.1.seq (SqL.of hz)) ?_ ?_
    · rintro i x H7 hi ⟨s7, ys, hD, ry⟩
      obtain ⟨mi, em, a, rfl, ha⟩ := rz.get hi
      have hyl : ys.length < 1000 := by
        have h1 := ry.1
        have h2 := List.length_filter_le (fun m : M => m.count.isSome) (R.mults.take i)
        have h3 : (R.mults.take i).length ≤ R.mults.length := by rw [List.length_take]; omega
        omega
      have hrow : MulRow K H6 (.ref a) mi := ⟨a, rfl, ha⟩
      have hfil := Rel.filter (xs := []) (p := fun m : M => m.count.isSome) em ry hrow
      refine ⟨rfl, _, rfl, a, mulL mi, _, _, rfl, rfl, s7.tup ha, rfl, rfl, _, rfl, ?_⟩
      cases hc : mi.count with
      | none =>
        rw [if_neg (by rw [hc]; exact Bool.false_ne_true)] at hfil
        exact iteF' rfl ⟨s7, ys, hD, hfil⟩
      | some k =>
        rw [if_pos (by rw [hc]; rfl)] at hfil
        exact iteT' rfl ⟨_, rfl, ys, hD, small_lt (by omega), s7.mut nD, _, upd_same, hfil⟩
    · rintro H7 ⟨s7, ys, hD, ry⟩
      rw [rz.1, List.take_length] at ry
      have nDp : D ≠ p := by obtain ⟨l, e⟩ := hP6.lst; exact (no_in e nD).symm
      have hR7 := hR6.same s7
      have hP7 := hP6.same s7
      have hylen : ys.length < 1000 := by
        have h1 := ry.1
        have h2 := List.length_filter_le (fun m : M => m.count.isSome) R.mults
        omega
      refine fun rd2 nrd => ⟨_, rfl, rd, _, rfl, (hR7.same (Same.new nrd)).gs, ?_⟩
      have s8 : Same H7 (upd H7 rd2 (.dK [])) := Same.new nrd
      have nrD : D ≠ rd2 := no_in hD nrd
      refine ⟨_, rfl, _, rfl, (by show 1 ≤ sizeLine; decide), fun b nb => ?_⟩
      have s9 : Same H7 (upd (upd H7 rd2 (.dK [])) b (.lst [.ref y])) := s8.new' nb
      have nrb : rd2 ≠ b := no_in upd_same nb
      refine ⟨D, b, ys, [.ref y], rfl, rfl, s9 _ _ hD, upd_same, small_le (by show ys.length + 1 ≤ _; omega), fun c nc => ?_⟩
      have nrc : rd2 ≠ c := no_in (show upd _ b _ rd2 = some _ by rw [upd_ne nrb, upd_same]) nc
      have nbc : b ≠ c := no_in upd_same nc
      have s10 : Same H7 (upd (upd (upd H7 rd2 (.dK [])) b (.lst [.ref y])) c (.lst (ys ++ [.ref y]))) := s9.new' nc
      refine ⟨by rw [upd_ne nrc, upd_ne nrb, upd_same], [(.inr "simple", .ref s), (.inr "multipliers", .ref c)], rfl, (by show 2 ≤ 15; decide), ?_⟩
      rw [mk_rows]
      have s11 : Same H7 (upd (upd (upd (upd H7 rd2 (.dK [])) b (.lst [.ref y])) c (.lst (ys ++ [.ref y]))) rd2 (.dK [(.inr "simple", .ref s), (.inr "multipliers", .ref c)])) := s10.mut nrd
      have hcc : upd (upd (upd (upd H7 rd2 (.dK [])) b (.lst [.ref y])) c (.lst (ys ++ [.ref y]))) rd2 (.dK [(.inr "simple", .ref s), (.inr "multipliers", .ref c)]) c = some (.lst (ys ++ [.ref y])) := by rw [upd_ne nrc.symm, upd_same]
      have hrd2 : upd (upd (upd (upd H7 rd2 (.dK [])) b (.lst [.ref y])) c (.lst (ys ++ [.ref y]))) rd2 (.dK [(.inr "simple", .ref s), (.inr "multipliers", .ref c)]) rd2 = some (.dK [(.inr "simple", .ref s), (.inr "multipliers", .ref c)]) := upd_same
      revert s11 hcc hrd2
      generalize upd (upd (upd (upd H7 rd2 (.dK [])) b (.lst [.ref y])) c (.lst (ys ++ [.ref y]))) rd2 (.dK [(.inr "simple", .ref s), (.inr "multipliers", .ref c)]) = H8
      intro s11 hcc hrd2
      have hP8 := hP7.same s11
      have nrp : rd2 ≠ p := by obtain ⟨l, e⟩ := hP7.lst; exact (no_in e nrd).symm
      have ncp : c ≠ p := by obtain ⟨l, e⟩ := (hP7.same s9).lst; exact (no_in e nc).symm
      have s68 : Same H6 H8 := s7.trans s11
      have k9 : TK K H6 (hp p H8) := by
        obtain ⟨l, e⟩ := hP8.lst
        exact (TK.same s68).trans (TK.hide e)
      obtain ⟨xs, hx, rx⟩ := hR6.sim
      refine q rd2 s c H8 ⟨R.simple, R.mults.filter (fun m => m.count.isSome) ++ [⟨"yyyyyyyy", 2 + v, none, un, rr⟩]⟩ (bH.trans (But.of s68)) hP8 ⟨hp_of hrd2 nrp, ⟨xs, hp_of (s68 _ _ hx) hsp, rx.imp fun _ _ => SimRow.tk k9⟩, ⟨ys ++ [.ref y], hp_of hcc ncp, Rel.append (ry.imp fun _ _ => MulRow.tk k9) (Rel.cons ⟨y, rfl, k9 _ _ (show SqT K H6 y (mulL ⟨"yyyyyyyy", 2 + v, none, un, rr⟩) from SqT.of hy6)⟩ Rel.nil)⟩⟩ (good_more w1 w2 g1 g2 l1 l2 (by omega) (by omega) hrr)

end
end Sy

/-! part: L10 -/
set_option Elab.async false
set_option linter.all false
set_option maxRecDepth 100000
set_option maxHeartbeats 4000000
namespace Sy
open PySem PySem.Spec PyProof.Rows L2
section
variable {P : Program} {w : World} {K : PySem.W.Frag} {mg : Str → Option Value} {base : Heap}
/-! ### shaped -/
def hp2 (p D : Addr) (H : Hp) : Hp := fun a => if a = p ∨ a = D then none else H a
theorem hp2_of {p D a : Addr} {H : Hp} {o : HO} (h : H a = some o) (n1 : a ≠ p) (n2 : a ≠ D) : hp2 p D H a = some o := by
  unfold hp2
  rw [if_neg (by rintro (e | e); exact n1 e; exact n2 e)]
  exact h
theorem hp2_some {p D a : Addr} {H : Hp} {o : HO} (h : hp2 p D H a = some o) : H a = some o ∧ a ≠ p ∧ a ≠ D := by
  unfold hp2 at h
  split at h
  · cases h
  · rename_i n
    exact ⟨h, fun e => n (.inl e), fun e => n (.inr e)⟩
theorem hp2_but {p D : Addr} {H H' : Hp} (b : But [p, D] H H') : Same (hp2 p D H) (hp2 p D H') := fun a o h => by
  obtain ⟨h1, h2, h3⟩ := hp2_some h
  exact hp2_of (b _ _ h1 (by simp [h2, h3])) h2 h3
theorem hp2_hp {p D : Addr} {H : Hp} : Same (hp2 p D H) (hp p H) := fun a o h => by
  obtain ⟨h1, h2, h3⟩ := hp2_some h
  exact hp_of h1 h2
theorem But.two {p D : Addr} {H H' : Hp} (b : But [p] H H') : But [p, D] H H' := b.sub (by simp)
theorem RowA.same {α : Type} {K : PySem.W.Frag} {f : α → List V} {H H' : Hp} (e : Same H H') {x : V} {p : α} (h : RowA K f H x p) : RowA K f H' x p := by
  obtain ⟨a, q, h⟩ := h; exact ⟨a, q, h.same e⟩
abbrev RT (K : PySem.W.Frag) (H : Hp) (x : V) (l : List V) : Prop := RowT K (fun l : List V => l) H x l
abbrev RA (K : PySem.W.Frag) (H : Hp) (x : V) (l : List V) : Prop := RowA K (fun l : List V => l) H x l
def sp_l_shaped (K : PySem.W.Frag) : Sp := fun vs H Q _ => ∃ (p L r : Addr) (cs : List Nat) (xs : List V) (items : List (List V)), vs = [.ref p, .ref r] ∧ PoolAt H p L cs ∧ cs.length < sizeLine ∧ r ≠ p ∧ H r = some (.lst xs) ∧ Rel (RT K (hp p H)) xs items ∧ items.length ≤ 1000 ∧
  ∀ a H' ys, But [p] H H' → PoolAt H' p L cs → SqA K (hp p H') a ys → Rel (RA K (hp p H')) ys items → Q (.ref a) H'
theorem ok_l_shaped (W : Wd K mg) : Has P w K mg base 3 (He.ga K "_law_shaped") ["_law_pool_here", "_law_rows"] [] (sp_l_shaped K) := by
  have h_l_take := ok_l_take (P := P) (w := w) (base := base) W
  refine mkHas (d := d_l_shaped) (N := N_l_shaped) (ps := ["_law_pool_here", "_law_rows"]) (W.says.def_ 49) sc_l_shaped (fun _ _ _ _ _ _ us hl => match us, hl with | [_, _], _ => rfl) (fun vs H Q E h => ?_) (fun cdv A outer s0 H vs Q E hr h => ?_)
  · obtain ⟨_, _, _, _, _, _, rfl, _⟩ := h
    rfl
  obtain ⟨p, L, r, cs, xs, items, rfl, hP, hlen, nrp, hr0, rx, hil, q⟩ := h
  refine ⟨_, (pss_mid (ps_setLc (i := 2) (own := [("_law_row", 3)]) (g := gName 3) rfl sc_l_shaped.nd rfl rfl (sw_true rfl rfl rfl (by decide +kernel)) (pi_list (pv 1)) (blkOk_by (own := [("_law_row", 3)]) (N := N_l_shaped) (sc := defScope s_l_shaped) (by decide +kernel)) (fun _ _ _ _ _ => (pg_name (i := 3) sc_l_shaped.nd rfl (Or.inl rfl))) (fun _ _ _ _ _ => pts_nil) (fun _ _ _ _ _ => (pe_ix (ix_tupK (K := K) rfl) (pe_tup (pa_cons (pe_callTy (call_list_ofK (K := K) rfl) rfl W.f_list PyProof.Rows.boot_list (pa_cons (pv 3) pa_nil)) (pa_cons (pv 3) pa_nil))) (pe_callH h_l_take W.g_l_take (hr.mono (by omega)) rfl (pa_cons (pv 0) (pa_cons pe_int pa_nil))) (fun _ _ => rfl))))
      (pss_one (ps_ret (pe_ix ix_tup (pe_tup (pa_cons (pv 2) (pa_cons (pe_callTy call_tuple_of rfl W.f_tuple PyProof.Rows.boot_tuple (pa_cons (pv 2) pa_nil)) pa_nil))) (pe_callH h_l_take W.g_l_take (hr.mono (by omega)) rfl (pa_cons (pv 0) (pa_cons pe_int pa_nil))) (fun _ _ => rfl))))), ?_⟩
  refine ⟨fun σ H' => ∃ D ys, But [p] H H' ∧ PoolAt H' p L cs ∧ H' D = some (.lst ys) ∧ D ≠ p ∧ Rel (RA K (hp p H')) ys items ∧ ∃ a3, σ = [some (.ref p), some (.ref r), some (.ref D), a3], ?_, ?_⟩
  · refine ⟨_, rfl, r, rfl, ⟨_, SqL.of hr0⟩, fun D nD => ?_⟩
    have nDp : D ≠ p := by obtain ⟨l, e⟩ := hP.lst; exact (no_in e nD).symm
    have nDL : D ≠ L := (no_in hP.cells nD).symm
    have nrD : r ≠ D := no_in hr0 nD
    refine lc_list (xs := xs) (fun i H' => But [p, D] H H' ∧ PoolAt H' p L cs ∧ ∃ ys, H' D = some (.lst ys) ∧ Rel (RA K (hp2 p D H')) ys (items.take i)) ⟨(But.of (Same.new nD)), (hP.same (Same.new nD)), [], upd_same, Rel.nil⟩ (fun i H' _ pv => SqL.of (pv.1.at hr0 (by simp [nrp, nrD]))) ?_ ?_
    · rintro i x H1 hi ⟨b1, hP1, ys, hD, ry⟩
      obtain ⟨l, el, a, rfl, ha⟩ := rx.get hi
      have hi' := (List.getElem?_eq_some_iff.mp el).1
      -- the row stands outside
      have haG : SqT K (hp2 p D H1) a l := by
        rcases ha with (h | ⟨o, h⟩) | h
        · have h1 := hp_same _ _ _ _ h
          have n1 : a ≠ p := by rintro rfl; rw [hp_at] at h; cases h
          have n2 : a ≠ D := no_in h1 nD
          exact .inl (.inl (hp2_of (b1 _ _ h1 (by simp [n1, n2])) n1 n2))
        · have h1 := hp_same _ _ _ _ h
          have n1 : a ≠ p := by rintro rfl; rw [hp_at] at h; cases h
          have n2 : a ≠ D := no_in h1 nD
          exact .inl (.inr ⟨o, hp2_of (b1 _ _ h1 (by simp [n1, n2])) n1 n2⟩)
        · exact .inr h
      have ha1 : SqT K H1 a l := ((hp2_hp (p := p) (D := D)).trans (hp_same p H1)).tup haG
      refine ⟨rfl, yes_of ?_⟩
      refine ⟨_, rfl, a, _, rfl, .inr ha1, fun c nc => ?_⟩
      have ncp : c ≠ p := by obtain ⟨l, e⟩ := hP1.lst; exact (no_in e nc).symm
      have ncD : c ≠ D := (no_in hD nc).symm
      have s2 : Same H1 (upd H1 c (.lst l)) := Same.new nc
      refine ⟨_, rfl, (by show 2 ≤ sizeLine; decide), fun T nT => ?_⟩
      have s3 : Same H1 (upd (upd H1 c (.lst l)) T (.tup [.ref c, .ref a])) := s2.new' nT
      have hT : upd (upd H1 c (.lst l)) T (.tup [.ref c, .ref a]) T = some (.tup [.ref c, .ref a]) := upd_same
      have hc3 : upd (upd H1 c (.lst l)) T (.tup [.ref c, .ref a]) c = some (.lst l) := Same.new nT _ _ upd_same
      have nTp : T ≠ p := by obtain ⟨l, e⟩ := (hP1.same s2).lst; exact (no_in e nT).symm
      revert s3 hT hc3
      generalize upd (upd H1 c (.lst l)) T (.tup [.ref c, .ref a]) = H3
      intro s3 hT hc3
      refine ⟨_, rfl, p, L, cs, 2, rfl, hP1.same s3, hlen, by decide, by decide, fun k H4 b4 hP4 hk => ?_⟩
      have hT4 := b4.at hT (by simpa using nTp)
      have hc4 := b4.at hc3 (by simpa using ncp)
      have b14 : But [p] H1 H4 := (But.of s3).trans b4
      have hD4 := b14.at hD (by simpa using nDp)
      have nTD : T ≠ D := by
        rintro rfl
        rw [s3 _ _ hD] at hT
        cases hT
      obtain ⟨v, ev, hv⟩ : ∃ v, ([.ref c, .ref a] : List V)[k]? = some v ∧ RA K (hp2 p D H4) v l := by
        match k, hk with
        | 0, _ => exact ⟨.ref c, rfl, c, rfl, .inl (SqL.of (hp2_of hc4 ncp ncD))⟩
        | 1, _ => exact ⟨.ref a, rfl, a, rfl, .inr ((hp2_but (b14.two)).tup haG)⟩
      refine ⟨T, _, _, v, rfl, rfl, SqT.of hT4, atI_nat ev, ys, hD4, small_lt (by rw [ry.1, List.length_take]; omega), ?_, ?_, ys ++ [v], upd_same, ?_⟩
      · exact (b1.trans b14.two).upd (.inl (by simp))
      · exact hP4.put nDp nDL
      · have e : Same (hp2 p D H4) (hp2 p D (upd H4 D (.lst (ys ++ [v])))) := hp2_but ((But.refl _ _).upd (.inl (by simp)))
        rw [List.take_succ_eq_append_getElem hi', (List.getElem?_eq_some_iff.mp el).2]
        exact Rel.append (ry.imp fun _ _ => RowA.same ((hp2_but b14.two).trans e)) (Rel.cons (hv.same e) Rel.nil)
    · rintro H1 ⟨b1, hP1, ys, hD, ry⟩
      rw [rx.1, List.take_length] at ry
      refine ⟨D, ys, ?_, hP1, hD, nDp, ry.imp fun _ _ => RowA.same hp2_hp, _, rfl⟩
      intro a o h n
      have nD2 : a ≠ D := no_in h nD
      exact b1 a o h (by simp at n; simp [n, nD2])
  rintro σ H1 ⟨D, ys, b1, hP1, hD, nDp, ry, a3, rfl⟩
  refine ⟨_, rfl, _, rfl, D, _, rfl, .inl ⟨SqL.of hD, fun c nc => ?_⟩⟩
  have s2 : Same H1 (upd H1 c (.tup ys)) := Same.new nc
  have ncp : c ≠ p := by obtain ⟨l, e⟩ := hP1.lst; exact (no_in e nc).symm
  refine ⟨(by show 2 ≤ sizeLine; decide), fun T nT => ?_⟩
  have s3 : Same H1 (upd (upd H1 c (.tup ys)) T (.tup [.ref D, .ref c])) := s2.new' nT
  have hT : upd (upd H1 c (.tup ys)) T (.tup [.ref D, .ref c]) T = some (.tup [.ref D, .ref c]) := upd_same
  have hc3 : upd (upd H1 c (.tup ys)) T (.tup [.ref D, .ref c]) c = some (.tup ys) := Same.new nT _ _ upd_same
  have nTp : T ≠ p := by obtain ⟨l, e⟩ := (hP1.same s2).lst; exact (no_in e nT).symm
  refine ⟨_, rfl, p, L, cs, 2, rfl, hP1.same s3, hlen, by decide, by decide, fun k H4 b4 hP4 hk => ?_⟩
  have hT4 := b4.at hT (by simpa using nTp)
  have b14 : But [p] H1 H4 := (But.of s3).trans b4
  have sG : Same (hp p H1) (hp p H4) := hp_but b14
  obtain ⟨v, ev, a, rfl, ha⟩ : ∃ v, ([.ref D, .ref c] : List V)[k]? = some v ∧ ∃ a, v = .ref a ∧ SqA K (hp p H4) a ys := by
    match k, hk with
    | 0, _ => exact ⟨.ref D, rfl, D, rfl, .inl (SqL.of (sG _ _ (hp_of hD nDp)))⟩
    | 1, _ => exact ⟨.ref c, rfl, c, rfl, .inr (SqT.of (hp_of (b4.at hc3 (by simpa using ncp)) ncp))⟩
  exact ⟨T, _, _, _, rfl, rfl, SqT.of hT4, atI_nat ev, q a H4 ys (b1.trans b14) hP4 ha (ry.imp fun _ _ => RowA.same sG)⟩
/-! made -/
theorem Rel.unmap {α β : Type} {f : V → β → Prop} {k : α → β} {xs : List V} {ys : List α} (h : Rel f xs (ys.map k)) : Rel (fun x y => f x (k y)) xs ys := by
  refine ⟨by simpa using h.1, fun i x y e1 e2 => h.2 i x (k y) e1 ?_⟩
  rw [List.getElem?_map, e2]
  rfl
def sp_l_made (K : PySem.W.Frag) : Sp := fun vs H Q _ => ∃ (p L rd s m : Addr) (cs : List Nat) (R : Rs) (out : M), vs = [.ref p, .ref rd] ∧ PoolAt H p L cs ∧ cs.length < sizeLine ∧ RowsAt K (hp p H) rd s m R ∧ Valid R ∧ IsOut R out ∧
  ∀ y H' s' m', But [p] H H' → PoolAt H' p L cs → SysAt K (hp p H') y R s' m' → Q (.ref y) H'
theorem ok_l_made (W : Wd K mg) : Has P w K mg base 6 (He.ga K "_law_made") ["_law_pool_here", "_law_rows"] [] (sp_l_made K) := by
  have h_l_shaped := ok_l_shaped (P := P) (w := w) (base := base) W
  have h_Y_init := ok_Y_init (P := P) (w := w) (base := base) W
  refine mkHas (d := d_l_made) (N := N_l_made) (ps := ["_law_pool_here", "_law_rows"]) (W.says.def_ 52) sc_l_made (fun _ _ _ _ _ _ us hl => match us, hl with | [_, _], _ => rfl) (fun vs H Q E h => ?_) (fun cdv A outer s0 H vs Q E hr h => ?_)
  · obtain ⟨_, _, _, _, _, _, _, _, rfl, _⟩ := h
    rfl
  obtain ⟨p, L, rd, s, m, cs, R, out, rfl, hP, hlen, hR, hV, hO, q⟩ := h
  have hu := hu_of hr
  have v1 := hV.sz
  have v2 := hV.mz
  refine ⟨_, (pss_one (ps_ret (pe_makeH h_Y_init W.i_System W.g_System (hr.mono (by decide)) rfl (pa_cons (pe_callH h_l_shaped W.g_l_shaped (hr.mono (by omega)) rfl (pa_cons (pv 0) (pa_cons (pe_dget hu (pv 1) pe_str (fun _ _ => rfl)) pa_nil))) (pa_cons (pe_callH h_l_shaped W.g_l_shaped (hr.mono (by omega)) rfl (pa_cons (pv 0) (pa_cons (pe_dget hu (pv 1) pe_str (fun _ _ => rfl)) pa_nil))) pa_nil))))), ?_⟩
  obtain ⟨xs, hx, rx⟩ := hR.sim
  obtain ⟨zs, hz, rz⟩ := hR.mul
  have nsp : s ≠ p := by rintro rfl; rw [hp_at] at hx; cases hx
  have nmp : m ≠ p := by rintro rfl; rw [hp_at] at hz; cases hz
  have rx' : Rel (RT K (hp p H)) xs (R.simple.map simL) := rx.map fun _ _ h => h
  refine ⟨_, rfl, _, rfl, rd, _, rfl, (hR.same (hp_same p H)).gs, p, L, s, cs, xs, R.simple.map simL, rfl, hP, hlen, nsp, hp_same _ _ _ _ hx, rx', by rw [List.length_map]; omega, fun a H1 ys b1 hP1 ha ry => ?_⟩
  have s1 := hp_but b1
  have rz' : Rel (RT K (hp p H1)) zs (R.mults.map mulL) := (rz.imp fun _ _ => MulRow.same s1).map fun _ _ h => h
  refine ⟨_, rfl, _, rfl, rd, _, rfl, ((hR.same s1).same (hp_same p H1)).gm, p, L, m, cs, zs, R.mults.map mulL, rfl, hP1, hlen, nmp, hp_same _ _ _ _ (s1 _ _ hz), rz', by rw [List.length_map]; omega, fun b H2 us b2 hP2 hb ru => ?_⟩
  have s2 := hp_but b2
  intro x dx nx ndx hne
  have sH : Same H2 (upd (upd H2 dx (.own x)) x (.ins (cY K) dx [])) := (Same.new ndx).new' (by rw [upd_ne hne.symm]; exact nx)
  have hx3 : upd (upd H2 dx (.own x)) x (.ins (cY K) dx []) x = some (.ins (cY K) dx []) := upd_same
  have nxp : x ≠ p := by obtain ⟨l, e⟩ := hP2.lst; exact (no_in e nx).symm
  revert sH hx3
  generalize upd (upd H2 dx (.own x)) x (.ins (cY K) dx []) = H3
  intro sH hx3
  have sG : Same (hp p H2) H3 := (hp_same p H2).trans sH
  refine ⟨x, a, b, dx, R, out, rfl, hx3, ⟨⟨ys, ha.same (s2.trans sG), ry.unmap.imp fun _ _ h => RowA.same (s2.trans sG) h⟩, ⟨us, hb.same sG, ru.unmap.imp fun _ _ h => RowA.same sG h⟩⟩, hV, hO, fun H4 s' m' b4 hS => ⟨rfl, ?_⟩⟩
  have b24 : But [p] H2 H4 := fun c o h n => b4 _ _ (sH _ _ h) (by simpa using no_in h nx)
  have s24 : Same H2 H4 := fun c o h => b4 _ _ (sH _ _ h) (by simpa using no_in h nx)
  have hP4 := hP2.same s24
  refine q x H4 s' m' ((b1.trans b2).trans b24) hP4 ?_
  obtain ⟨⟨dy, v, r, hi⟩, ⟨x1, h1, h2⟩, ⟨z1, h3, h4⟩⟩ := hS
  have tk : TK K H4 (hp p H4) := by
    obtain ⟨l, e⟩ := hP4.lst
    exact TK.hide e
  exact ⟨⟨dy, v, r, hp_of hi nxp⟩, ⟨x1, tk _ _ h1, h2.imp fun _ _ => SimRow.tk tk⟩, ⟨z1, tk _ _ h3, h4.imp fun _ _ => MulRow.tk tk⟩⟩

end
end Sy

/-! part: L11 -/
set_option Elab.async false
set_option linter.all false
set_option maxRecDepth 100000
set_option maxHeartbeats 4000000
namespace Sy
open PySem PySem.Spec PyProof.Rows L2
section
variable {P : Program} {w : World} {K : PySem.W.Frag} {mg : Str → Option Value} {base : Heap}
def sp_l_words (K : PySem.W.Frag) : Sp := fun vs H Q _ => ∃ (rd s m : Addr) (R : Rs), vs = [.ref rd] ∧ RowsAt K H rd s m R ∧ R.simple.length ≤ 24 ∧ R.mults.length ≤ 6 ∧ ∀ l H', Same H H' → H l = none → H' l = some (.lst ((wordsL R).map V.str)) → Q (.ref l) H'
theorem ok_l_words (W : Wd K mg) : Has P w K mg base 1 (He.ga K "_law_words") ["_law_rows"] [] (sp_l_words K) := by
  refine mkHas (d := d_l_words) (N := N_l_words) (ps := ["_law_rows"]) (W.says.def_ 50) sc_l_words (fun _ _ _ _ _ _ us hl => match us, hl with | [_], _ => rfl) (fun vs H Q E h => ?_) (fun cdv A outer s0 H vs Q E hr h => ?_)
  · obtain ⟨_, _, _, _, rfl, _⟩ := h
    rfl
  obtain ⟨rd, s, m, R, rfl, hR, h1, h2, q⟩ := h
  have hu := hu_of hr
  obtain ⟨xs, hx, rx⟩ := hR.sim
  obtain ⟨zs, hz, rz⟩ := hR.mul
  refine ⟨_, (pss_one (ps_ret (pe_lc (own := [("_law_row", 1)]) (g := gName 1) rfl sc_l_words.nd (pi_list (pe_op op_cat (pe_dget hu (pv 0) pe_str (fun _ _ => rfl)) (pe_dget hu (pv 0) pe_str (fun _ _ => rfl)))) (blkOk_by (own := [("_law_row", 1)]) (N := N_l_words) (sc := defScope s_l_words) (by decide +kernel)) (fun _ _ _ _ _ => (pg_name (i := 1) sc_l_words.nd rfl (Or.inl rfl))) (fun _ _ _ _ _ => pts_nil) (fun _ _ _ _ _ => (pe_ix (ix_tupK (K := K) rfl) (pv 1) pe_int (fun _ _ => rfl)))))), ?_⟩
  have hlw : (wordsL R).length ≤ 30 := by
    unfold wordsL
    rw [List.length_append, List.length_map, List.length_map]
    omega
  have rr : Rel (RowV K H) (xs ++ zs) (wordsL R) := Rel.append (rx.map fun x p h => by obtain ⟨a, e1, e2⟩ := h; exact ⟨a, _, e1, e2, rfl⟩) (rz.map fun x p h => by obtain ⟨a, e1, e2⟩ := h; exact ⟨a, _, e1, e2, rfl⟩)
  refine ⟨_, rfl, rd, _, rfl, hR.gs, _, rfl, rd, _, rfl, hR.gm, s, m, xs, zs, rfl, rfl, hx, hz, small_le (by rw [rx.1, rz.1]; omega), fun c nc => ?_⟩
  have s1 : Same H (upd H c (.lst (xs ++ zs))) := Same.new nc
  have hc : upd H c (.lst (xs ++ zs)) c = some (.lst (xs ++ zs)) := upd_same
  revert s1 hc
  generalize upd H c (.lst (xs ++ zs)) = H1
  intro s1 hc
  refine ⟨c, rfl, ⟨_, SqL.of hc⟩, fun D nD => ?_⟩
  refine lc_list (xs := xs ++ zs) (fun i H' => Same H1 H' ∧ H' D = some (.lst (((wordsL R).take i).map V.str))) ⟨Same.new nD, by rw [upd_same]; rfl⟩ (fun i H' _ pv => pv.1.seq (SqL.of hc)) ?_ ?_
  · rintro i x H' hi ⟨sH, hD⟩
    obtain ⟨z, ez, a, ws, rfl, ha, ha0⟩ := rr.get hi
    refine ⟨rfl, yes_of ?_⟩
    refine ⟨_, rfl, a, ws, _, _, rfl, rfl, (s1.trans sH).tup ha, atI_nat (j := 0) ha0, _, hD, small_lt (by rw [List.length_map, List.length_take]; omega), sH.mut nD, ?_⟩
    rw [upd_same, map_take V.str ez]
  · rintro H' ⟨sH, hD⟩
    rw [rr.1, List.take_length] at hD
    exact q D H' (s1.trans sH) (s1.free nD) hD
def sp_l_pick (K : PySem.W.Frag) : Sp := fun vs H Q _ => ∃ (p L l : Addr) (cs : List Nat) (ws : List Str), vs = [.ref p, .ref l] ∧ PoolAt H p L cs ∧ cs.length < sizeLine ∧ H l = some (.lst (ws.map V.str)) ∧ l ≠ p ∧ 0 < ws.length ∧ ws.length ≤ 1000 ∧
  ∀ z H', But [p] H H' → PoolAt H' p L cs → z ∈ ws → Q (.str z) H'
theorem ok_l_pick (W : Wd K mg) : Has P w K mg base 3 (He.ga K "_law_pick") ["_law_pool_here", "_law_rows"] [] (sp_l_pick K) := by
  have h_l_take := ok_l_take (P := P) (w := w) (base := base) W
  refine mkHas (d := d_l_pick) (N := N_l_pick) (ps := ["_law_pool_here", "_law_rows"]) (W.says.def_ 44) sc_l_pick (fun _ _ _ _ _ _ us hl => match us, hl with | [_, _], _ => rfl) (fun vs H Q E h => ?_) (fun cdv A outer s0 H vs Q E hr h => ?_)
  · obtain ⟨_, _, _, _, _, rfl, _⟩ := h
    rfl
  obtain ⟨p, L, l, cs, ws, rfl, hP, hlen, hl, nlp, h1, h2, q⟩ := h
  refine ⟨_, (pss_one (ps_ret (pe_ix ix_list (pv 1) (pe_callH h_l_take W.g_l_take (hr.mono (by omega)) rfl (pa_cons (pv 0) (pa_cons (pe_callB call_len rfl W.f_len PySem.boot_len (pa_cons (pv 1) pa_nil)) pa_nil))) (fun _ _ => rfl)))), ?_⟩
  refine ⟨_, rfl, _, rfl, _, rfl, .ref l, ws.length, rfl, .inl ⟨_, SqL.of hl, (List.length_map _).symm⟩, p, L, cs, ws.length, rfl, hP, hlen, h1, by omega, fun r H1 b1 hP1 hr => ?_⟩
  have er : (ws.map V.str)[r]? = some (.str ws[r]) := by rw [List.getElem?_map, List.getElem?_eq_getElem hr]; rfl
  exact ⟨l, _, _, _, rfl, rfl, SqL.of (b1.at hl (by simpa using nlp)), atI_nat er, q _ H1 b1 hP1 (List.getElem_mem hr)⟩
def sp_l_some_word (K : PySem.W.Frag) : Sp := fun vs H Q _ => ∃ (p L rd s m : Addr) (cs : List Nat) (R : Rs), vs = [.ref p, .ref rd] ∧ PoolAt H p L cs ∧ cs.length < sizeLine ∧ RowsAt K (hp p H) rd s m R ∧ Good R ∧
  ∀ z H', But [p] H H' → PoolAt H' p L cs → z ∈ wordsL R → Q (.str z) H'
theorem ok_l_some_word (W : Wd K mg) : Has P w K mg base 4 (He.ga K "_law_some_word") ["_law_pool_here", "_law_rows"] [] (sp_l_some_word K) := by
  have h_l_words := ok_l_words (P := P) (w := w) (base := base) W
  have h_l_pick := ok_l_pick (P := P) (w := w) (base := base) W
  refine mkHas (d := d_l_some_word) (N := N_l_some_word) (ps := ["_law_pool_here", "_law_rows"]) (W.says.def_ 56) sc_l_some_word (fun _ _ _ _ _ _ us hl => match us, hl with | [_, _], _ => rfl) (fun vs H Q E h => ?_) (fun cdv A outer s0 H vs Q E hr h => ?_)
  · obtain ⟨_, _, _, _, _, _, _, rfl, _⟩ := h
    rfl
  obtain ⟨p, L, rd, s, m, cs, R, rfl, hP, hlen, hR, hG, q⟩ := h
  refine ⟨_, (pss_cons (ps_set (i := 2) sc_l_some_word.nd rfl (Or.inl rfl) (pe_callH h_l_words W.g_l_words (hr.mono (by omega)) rfl (pa_cons (pv 1) pa_nil)))
      (pss_one (ps_ret (pe_ifExp (pt_truthK (pv 2)) (pe_callH h_l_pick W.g_l_pick (hr.mono (by omega)) rfl (pa_cons (pv 0) (pa_cons (pv 2) pa_nil))) pe_non)))), ?_⟩
  have g1 := hG.sz
  have g2 := hG.mz
  have hne : 0 < (wordsL R).length ∧ (wordsL R).length ≤ 1000 := by
    obtain ⟨o, ho⟩ := hG.out
    have := List.length_pos_of_mem ho.mem
    unfold wordsL
    rw [List.length_append, List.length_map, List.length_map]
    omega
  refine ⟨_, rfl, rd, s, m, R, rfl, hR.same (hp_same p H), by omega, g2, fun l H1 s1 nl hl => ?_⟩
  have nlp : l ≠ p := by obtain ⟨c, e⟩ := hP.lst; exact (no_in e nl).symm
  refine ⟨_, rfl, _, .inl ⟨_, SqL.of hl, rfl⟩, iteT' ?_ ?_⟩
  · cases e : wordsL R with
    | nil => rw [e] at hne; exact absurd hne.1 (by simp)
    | cons a b => rfl
  · exact ⟨_, rfl, _, rfl, p, L, l, cs, wordsL R, rfl, hP.same s1, hlen, hl, nlp, hne.1, hne.2, fun z H2 b2 hP2 hz => q z H2 ((But.of s1).trans b2) hP2 hz⟩
def sp_l_outer (K : PySem.W.Frag) : Sp := fun vs H Q _ => ∃ (G : Hp) (rd s m : Addr) (R : Rs) (out : M), vs = [.ref rd] ∧ Same G H ∧ RowsAt K G rd s m R ∧ R.mults.length ≤ 6 ∧ IsOut R out ∧ ∀ a H', Same H H' → SqT K G a (mulL out) → Q (.ref a) H'
theorem ok_l_outer (W : Wd K mg) : Has P w K mg base 1 (He.ga K "_law_outer") ["_law_rows"] [] (sp_l_outer K) := by
  refine mkHas (d := d_l_outer) (N := N_l_outer) (ps := ["_law_rows"]) (W.says.def_ 58) sc_l_outer (fun _ _ _ _ _ _ us hl => match us, hl with | [_], _ => rfl) (fun vs H Q E h => ?_) (fun cdv A outer s0 H vs Q E hr h => ?_)
  · obtain ⟨_, _, _, _, _, _, rfl, _⟩ := h
    rfl
  obtain ⟨G, rd, s, m, R, out, rfl, sG, hR, hl, hO, q⟩ := h
  have hu := hu_of hr
  obtain ⟨zs, hz, rz⟩ := hR.mul
  obtain ⟨j, ej, uj⟩ := hO.at_
  have hjl := (List.getElem?_eq_some_iff.mp ej).1
  refine ⟨_, (pss_one (ps_ret (pe_ix ix_list (pe_lc (own := [("_law_row", 1)]) (g := gName 1) rfl sc_l_outer.nd (pi_list (pe_dget hu (pv 0) pe_str (fun _ _ => rfl))) (blkOk_by (own := [("_law_row", 1)]) (N := N_l_outer) (sc := defScope s_l_outer) (by decide +kernel)) (fun _ _ _ _ _ => (pg_name (i := 1) sc_l_outer.nd rfl (Or.inl rfl))) (fun _ _ _ _ _ => (pts_one (pt_cmpR op_isN1 (pe_ix (ix_tupK (K := K) rfl) (pv 1) pe_int (fun _ _ => rfl)) pe_non (nomark _)))) (fun _ _ _ _ _ => (pv 1))) pe_int (fun _ _ => rfl)))), ?_⟩
  refine ⟨_, rfl, rd, _, rfl, (hR.same sG).gm, m, rfl, ⟨_, SqL.of (sG _ _ hz)⟩, fun D nD => ?_⟩
  refine lc_list (xs := zs) (fun i H' => Same H H' ∧ ∃ ys, H' D = some (.lst ys) ∧ ys.length ≤ i ∧ (i ≤ j → ys = []) ∧ (j < i → ∃ a, ys = [.ref a] ∧ SqT K G a (mulL out))) ⟨Same.new nD, [], upd_same, Nat.le_refl _, fun _ => rfl, fun h => absurd h (Nat.not_lt_zero _)⟩ (fun i H' _ pv => (sG.trans pv.1).seq (SqL.of hz)) ?_ ?_
  · rintro i x H1 hi ⟨s1, ys, hD, hy, hy0, hy1⟩
    obtain ⟨mi, em, a, rfl, ha⟩ := rz.get hi
    have hil := (List.getElem?_eq_some_iff.mp em).1
    refine ⟨rfl, _, rfl, a, mulL mi, _, _, rfl, rfl, (sG.trans s1).tup ha, rfl, rfl, _, rfl, ?_⟩
    cases hc : mi.count with
    | none =>
      obtain rfl := uj i mi em hc
      rw [ej] at em
      injection em with em
      subst em
      obtain rfl := hy0 (Nat.le_refl _)
      refine iteT' rfl ⟨_, rfl, [], hD, by decide, s1.mut nD, _, upd_same, by show 1 ≤ i + 1; omega, fun h => by omega, fun _ => ⟨a, rfl, ha⟩⟩
    | some k =>
      have nij : i ≠ j := by
        rintro rfl
        rw [ej] at em
        injection em with em
        subst em
        rw [hO.no] at hc
        cases hc
      exact iteF' rfl ⟨s1, ys, hD, by omega, fun h => hy0 (by omega), fun h => hy1 (by omega)⟩
  · rintro H1 ⟨s1, ys, hD, hy, hy0, hy1⟩
    obtain ⟨a, rfl, ha⟩ := hy1 (by rw [rz.1]; exact hjl)
    exact ⟨D, _, _, _, rfl, rfl, SqL.of hD, rfl, q a H1 s1 ha⟩
def sp_l_bounded (K : PySem.W.Frag) : Sp := fun vs H Q _ => ∃ (rd s m : Addr) (R : Rs) (M0 : Nat), vs = [.ref rd] ∧ RowsAt K H rd s m R ∧ R.Ok ∧ IsB R M0 ∧ ∀ H' B, Same H H' → IsB R B → B ≤ M0 → Q (.int (B : Nat)) H'
theorem ok_l_bounded (W : Wd K mg) : Has P w K mg base 1 (He.ga K "_law_bounded") ["_law_rows"] [] (sp_l_bounded K) := by
  refine mkHas (d := d_l_bounded) (N := N_l_bounded) (ps := ["_law_rows"]) (W.says.def_ 51) sc_l_bounded (fun _ _ _ _ _ _ us hl => match us, hl with | [_], _ => rfl) (fun vs H Q E h => ?_) (fun cdv A outer s0 H vs Q E hr h => ?_)
  · obtain ⟨_, _, _, _, _, rfl, _⟩ := h
    rfl
  obtain ⟨rd, s, m, R, M0, rfl, hR, ok, hB, q⟩ := h
  have hu := hu_of hr
  have h1 := ok.sz
  have h2 := ok.mz
  obtain ⟨xs, hx, rx⟩ := hR.sim
  obtain ⟨zs, hz, rz⟩ := hR.mul
  refine ⟨_, (pss_mid (ps_set (i := 1) sc_l_bounded.nd rfl (Or.inl rfl) (pe_op op_cat (pe_lst (pa_cons pe_int pa_nil)) (pe_lc (own := [("_law_word_here", 2), ("_law_value", 3)]) (g := gTup K 2 (gCons (gName 2) (gCons (gName 3) gNil))) rfl sc_l_bounded.nd (pi_list (pe_dget hu (pv 0) pe_str (fun _ _ => rfl))) (blkOk_by (own := [("_law_word_here", 2), ("_law_value", 3)]) (N := N_l_bounded) (sc := defScope s_l_bounded) (by decide +kernel)) (fun _ _ _ _ _ => (pg_tup rfl (pgs_cons (pg_name (i := 2) sc_l_bounded.nd rfl (Or.inl rfl)) (pgs_cons (pg_name (i := 3) sc_l_bounded.nd rfl (Or.inl rfl)) pgs_nil)))) (fun _ _ _ _ _ => pts_nil) (fun _ _ _ _ _ => (pv 3)))))
      (pss_cons (ps_for PassesOwn.never rfl (pi_list (pe_dget hu (pv 0) pe_str (fun _ _ => rfl))) (pg_tup rfl (pgs_cons (pg_name (i := 2) sc_l_bounded.nd rfl (Or.inl rfl)) (pgs_cons (pg_name (i := 3) sc_l_bounded.nd rfl (Or.inl rfl)) (pgs_cons (pg_name (i := 4) sc_l_bounded.nd rfl (Or.inl rfl)) (pgs_cons (pg_name (i := 5) sc_l_bounded.nd rfl (Or.inl rfl)) (pgs_cons (pg_name (i := 6) sc_l_bounded.nd rfl (Or.inl rfl)) pgs_nil)))))) (pss_one (ps_if (pt_cmpR op_notN1 (pv 4) pe_non (nomark _)) (pss_one (ps_expr (pe_bm PySem.F.plainAttrs_list PySem.F.slot_list_append PySem.F.type_list_append mt_append (pv 1) (pa_cons (pe_op op_nadd (pe_op op_nmul (pv 4) (pv 3)) (pv 6)) pa_nil)))) pss_nil)))
      (pss_one (ps_ret (pe_callB (cr_max rfl) rfl W.f_max PyProof.Rows.boot_max (pa_cons (pv 1) pa_nil)))))), ?_⟩
  refine ⟨fun σ H' => Same H H' ∧ ∃ f, H f = none ∧ H' f = some (.lst ((0 :: R.simple.map (·.2)).map fun z => V.int (z : Nat))) ∧ ∃ a2 a3, σ = [some (.ref rd), some (.ref f), a2, a3, none, none, none], ?_, ?_⟩
  · refine ⟨(by show 1 ≤ sizeLine; decide), fun c nc => ?_⟩
    have s1 : Same H (upd H c (.lst [.int 0])) := Same.new nc
    have hc : upd H c (.lst [.int 0]) c = some (.lst [.int 0]) := upd_same
    revert s1 hc
    generalize upd H c (.lst [.int 0]) = H1
    intro s1 hc
    refine ⟨_, rfl, rd, _, rfl, (hR.same s1).gs, s, rfl, ⟨_, SqL.of (s1 _ _ hx)⟩, fun D nD => ?_⟩
    have rx1 := rx.imp fun _ _ => SimRow.same s1
    refine lc_list (xs := xs) (fun i H' => Same H1 H' ∧ H' D = some (.lst ((R.simple.take i).map fun p => V.int (p.2 : Nat)))) ⟨Same.new nD, by rw [upd_same]; rfl⟩ (fun i H' _ pv => pv.1.seq (SqL.of (s1 _ _ hx))) ?_ ?_
    · rintro i x H' hi ⟨sH, hD⟩
      obtain ⟨⟨w0, v0⟩, ep, a, rfl, ha⟩ := rx1.get hi
      refine ⟨a, _, rfl, sH.tup ha, rfl, _, _, rfl, _, _, rfl, rfl, rfl, yes_of ?_⟩
      refine ⟨_, rfl, _, hD, small_lt (by rw [List.length_map, List.length_take]; omega), sH.mut nD, ?_⟩
      rw [upd_same, map_take (fun p : Str × Nat => V.int (p.2 : Nat)) ep]
    · rintro H' ⟨sH, hD⟩
      rw [rx.1, List.take_length] at hD
      refine ⟨c, D, _, _, rfl, rfl, sH _ _ hc, hD, small_le (by rw [List.length_map]; show 1 + _ ≤ _; omega), fun f nf => ?_⟩
      refine ⟨(s1.trans sH).new' nf, f, (s1.trans sH).free nf, ?_, _, _, rfl⟩
      rw [upd_same, List.map_cons, List.map_map]
      rfl
  rintro σ H1 ⟨s1, f, nf, hf, a2, a3, rfl⟩
  have nmf : m ≠ f := no_in hz nf
  refine ⟨_, rfl, rd, _, rfl, (hR.same s1).gm, m, rfl, ⟨_, SqL.of (s1 _ _ hz)⟩, ?_⟩
  refine for_list (xs := zs) (fun i σ H' => Same H H' ∧ H' f = some (.lst (((0 :: R.simple.map (·.2)) ++ (R.mults.take i).filterMap rowMax).map fun z => V.int (z : Nat))) ∧ ∃ a2 a3 a4 a5 a6, σ = [some (.ref rd), some (.ref f), a2, a3, a4, a5, a6])
    ⟨s1, by rw [hf, List.take_zero, List.filterMap_nil, List.append_nil], _, _, _, _, _, rfl⟩ (fun i σ H' _ pv => pv.1.seq (SqL.of hz)) ?_ ?_
  · rintro i x σ H' hi ⟨sH, hD, a2, a3, a4, a5, a6, rfl⟩
    obtain ⟨mi, em, a, rfl, ha⟩ := rz.get hi
    have hv := ok.ml _ (List.mem_of_getElem? em)
    have e := filterMap_take rowMax em
    refine ⟨a, _, rfl, sH.tup ha, rfl, _, _, rfl, _, _, rfl, _, _, rfl, _, _, rfl, _, _, rfl, rfl, ?_⟩
    cases hc : mi.count with
    | none =>
      refine ⟨_, rfl, rfl, _, rfl, iteF' rfl ⟨sH, ?_, _, _, _, _, _, rfl⟩⟩
      rw [show rowMax mi = none by unfold rowMax; rw [hc]; rfl] at e
      rw [e]
      simpa using hD
    | some k =>
      refine ⟨_, rfl, rfl, _, rfl, iteT' rfl ?_⟩
      rw [show rowMax mi = some (k * mi.value + mi.rest) by unfold rowMax; rw [hc]; rfl] at e
      refine ⟨_, rfl, .inl ⟨rfl, _, SqL.of hD⟩, _, rfl, _, rfl, _, _, rfl, rfl, .inr (by omega), _, rfl, _, _, rfl, rfl, f, _, _, rfl, rfl, hD, ?_, sH.mut nf, ?_, _, _, _, _, _, rfl⟩
      · have := List.length_filterMap_le rowMax (R.mults.take i)
        rw [List.length_take] at this
        exact small_lt (by rw [List.length_map, List.length_append, List.length_cons, List.length_map]; omega)
      · rw [upd_same, e, ← List.append_assoc, List.map_append (l₂ := Option.toList _)]
        rfl
  · rintro σ H' ⟨sH, hD, a2, a3, a4, a5, a6, rfl⟩
    rw [rz.1, List.take_length] at hD
    refine ⟨_, rfl, f, ((0 :: R.simple.map (·.2)) ++ R.mults.filterMap rowMax).map fun z => ((z : Nat) : Int), rfl, SqL.of (by rw [hD, List.map_map]; rfl), by rw [List.length_map, List.length_append, List.length_cons]; omega, fun b hb hmax => ?_⟩
    obtain ⟨bn, hbm, rfl⟩ := List.mem_map.mp hb
    have hle : bn ≤ M0 := by
      rcases List.mem_append.mp hbm with h | h
      · rcases List.mem_cons.mp h with rfl | h
        · exact Nat.zero_le _
        · obtain ⟨p, hp, rfl⟩ := List.mem_map.mp h
          exact hB.s p hp
      · obtain ⟨mi, hmi, e⟩ := List.mem_filterMap.mp h
        unfold rowMax at e
        obtain ⟨k, hk, rfl⟩ := Option.map_eq_some_iff.mp e
        exact hB.m mi hmi k hk
    refine q _ bn sH ⟨fun p hp => ?_, fun mi hmi k hk => ?_⟩ hle
    · have := hmax _ (List.mem_map.mpr ⟨p.2, List.mem_append.mpr (.inl (List.mem_cons_of_mem _ (List.mem_map.mpr ⟨p, hp, rfl⟩))), rfl⟩)
      omega
    · have := hmax _ (List.mem_map.mpr ⟨k * mi.value + mi.rest, List.mem_append.mpr (.inr (List.mem_filterMap.mpr ⟨mi, hmi, by unfold rowMax; rw [hk]; rfl⟩)), rfl⟩)
      omega

end
end Sy

/-! part: L12 -/
set_option Elab.async false
set_option linter.all false
set_option maxRecDepth 100000
set_option maxHeartbeats 4000000
namespace Sy
open PySem PySem.Spec PyProof.Rows L2
section
variable {P : Program} {w : World} {K : PySem.W.Frag} {mg : Str → Option Value} {base : Heap}
/-! ### the first derivation, by the law -/
def PhO (H : Hp) (o : Option (List Str)) (v : V) : Prop := (o = none ∧ v = .non) ∨ ∃ t l, o = some l ∧ v = .ref t ∧ FT H t (l.map V.str)
theorem PhO.same {H H' : Hp} (e : Same H H') {o : Option (List Str)} {v : V} (h : PhO H o v) : PhO H' o v := by
  rcases h with h | ⟨t, l, h1, h2, h3⟩
  · exact .inl h
  · exact .inr ⟨t, l, h1, h2, h3.same e⟩
theorem PhO.but {H H' : Hp} {p : Addr} {kvs : List (Key × V)} (b : But [p] H H') (hp : H p = some (.dK kvs)) {o : Option (List Str)} {v : V} (h : PhO H o v) : PhO H' o v := by
  rcases h with h | ⟨t, l, h1, h2, oo, h3, h4⟩
  · exact .inl h
  · exact .inr ⟨t, l, h1, h2, oo, h3, b _ _ h4 (by simpa using (ne_of h4 hp (by intro z; cases z)))⟩
theorem PhO.isN {H : Hp} {o : Option (List Str)} {v : V} (h : PhO H o v) : decide (v = .non) = o.isNone := by
  rcases h with ⟨rfl, rfl⟩ | ⟨t, l, rfl, rfl, _⟩
  · rfl
  · rfl
theorem PhO.notN {H : Hp} {o : Option (List Str)} {v : V} (h : PhO H o v) : (!decide (v = .non)) = o.isSome := by
  rw [h.isN]
  cases o <;> rfl
structure KpAt (H : Hp) (kd : Addr) (R : Rs) (L : List Nat) (kvs : List (Key × V)) : Prop where
  at_ : H kd = some (.dK kvs)
  ks : ∃ ks : List Nat, kvs.map Prod.fst = ks.map (fun k => Sum.inl ((k : Nat) : Int)) ∧ ks.Nodup ∧ ∀ k ∈ ks, k ∈ L
  val : ∀ (n : Nat) v, valV kvs (.inl (n : Nat)) = some v → PhO H (phr R n) v
theorem KpAt.same {H H' : Hp} (e : Same H H') {kd : Addr} {R : Rs} {L : List Nat} {kvs : List (Key × V)} (h : KpAt H kd R L kvs) : KpAt H' kd R L kvs := ⟨e _ _ h.at_, h.ks, fun n v hv => (h.val n v hv).same e⟩
theorem KpAt.len {H : Hp} {kd : Addr} {R : Rs} {L : List Nat} {kvs : List (Key × V)} (h : KpAt H kd R L kvs) (hL : L.length ≤ 5000) : kvs.length < sizeLine := by
  obtain ⟨ks, e, nd, kl⟩ := h.ks
  have h1 := congrArg List.length e
  rw [List.length_map, List.length_map] at h1
  have h2 := sub_length nd kl
  exact small_lt (by omega)
theorem KpAt.put {H : Hp} {kd : Addr} {R : Rs} {L : List Nat} {kvs : List (Key × V)} {n : Nat} {v : V} (h : KpAt H kd R L kvs) (hn : n ∈ L) (hv : PhO H (phr R n) v) : KpAt (upd H kd (.dK (putK kvs (.inl (n : Nat)) v))) kd R L (putK kvs (.inl (n : Nat)) v) := by
  obtain ⟨ks, e, nd, kl⟩ := h.ks
  have b : But [kd] H (upd H kd (.dK (putK kvs (.inl (n : Nat)) v))) := (But.refl _ _).upd (.inl (by simp))
  refine ⟨upd_same, ?_, fun m u hu => ?_⟩
  · by_cases hm : n ∈ ks
    · refine ⟨ks, ?_, nd, kl⟩
      rw [← e]
      unfold putK
      split
      · rw [List.map_map]
        refine List.map_congr_left fun kv _ => ?_
        show (if kv.1 = _ then (kv.1, v) else kv).1 = kv.1
        split <;> rfl
      · rename_i hno
        exfalso
        apply hno
        have : (Sum.inl ((n : Nat) : Int) : Key) ∈ kvs.map Prod.fst := by rw [e]; exact List.mem_map.mpr ⟨n, hm, rfl⟩
        obtain ⟨kv, hkv, e2⟩ := List.mem_map.mp this
        exact List.any_eq_true.mpr ⟨kv, hkv, decide_eq_true e2⟩
    · refine ⟨ks ++ [n], ?_, nd_snoc nd hm, fun k hk => ?_⟩
      · rw [putK_keys, e, List.map_append]
        · rfl
        · rw [e]
          intro hx
          obtain ⟨k, hk, e2⟩ := List.mem_map.mp hx
          injection e2 with e2
          have : k = n := by omega
          exact hm (this ▸ hk)
      · rcases List.mem_append.mp hk with h1 | h1
        · exact kl k h1
        · obtain rfl := List.mem_singleton.mp h1; exact hn
  · rw [valV_put] at hu
    split at hu
    · rename_i e2
      injection e2 with e2
      have : m = n := by omega
      subst this
      injection hu with hu
      subst hu
      exact hv.but b h.at_
    · exact (h.val m u hu).but b h.at_
/-- rules of tuples with their objects -/
theorem rCatF_of {K : PySem.W.Frag} {H : Hp} {a b : Addr} {xs ys : List V} {Q : VK} (ha : FT H a xs) (hb : FT H b ys) (hl : xs.length + ys.length ≤ sizeLine) (h : ∀ p H1, Same H H1 → FT H1 p (xs ++ ys) → Q (.ref p) H1) : rCatF K (.ref a) (.ref b) H Q := by
  refine ⟨a, b, xs, ys, rfl, rfl, ha.sq, hb.sq, hl, fun e => ?_, fun _ e => ?_, fun _ _ p o np ho => ?_⟩
  · subst e; exact h b H (Same.refl _) hb
  · subst e; exact h a H (Same.refl _) (by rw [List.append_nil]; exact ha)
  · exact h p _ (Same.new np) ⟨o, ho, upd_same⟩
theorem findSome_append' {α β : Type} (f : α → Option β) (a b : List α) : (a ++ b).findSome? f = (a.findSome? f).or (b.findSome? f) := List.findSome?_append
/-- what is found after i multipliers -/
def fnd (R : Rs) (n i : Nat) : Option (List Str) := match R.wordsOf n with
  | w :: _ => some [w]
  | [] => (partsL (R.mults.take i) 0 n).findSome? (cmb (phr R))
theorem fnd_end {R : Rs} (ok : R.Ok) (n : Nat) : fnd R n R.mults.length = phr R n := by
  rw [phr_eq ok]
  unfold fnd step
  rw [List.take_length]
  cases R.wordsOf n <;> rfl
theorem fnd_snoc {R : Rs} {n i : Nat} {m : M} (h : R.mults[i]? = some m) : fnd R n (i + 1) = if (fnd R n i).isNone = true ∧ m.fits (n / m.value) (n % m.value) = true then cmb (phr R) ⟨i, m, n / m.value, n % m.value⟩ else fnd R n i := by
  unfold fnd
  cases R.wordsOf n with
  | cons w ws => rfl
  | nil =>
    show (partsL (R.mults.take (i + 1)) 0 n).findSome? (cmb (phr R)) = if ((partsL (R.mults.take i) 0 n).findSome? (cmb (phr R))).isNone = true ∧ _ then _ else (partsL (R.mults.take i) 0 n).findSome? (cmb (phr R))
    rw [parts_take R n i m h, findSome_append']
    generalize (partsL (R.mults.take i) 0 n).findSome? (cmb (phr R)) = o
    by_cases hf : m.fits (n / m.value) (n % m.value) = true
    · rw [if_pos hf]
      cases o with
      | none =>
        rw [if_pos ⟨rfl, hf⟩]
        show ([_] : List (Part Str)).findSome? (cmb (phr R)) = _
        rw [List.findSome?_cons]
        cases cmb (phr R) ⟨i, m, n / m.value, n % m.value⟩ <;> rfl
      | some l => rfl
    · rw [if_neg hf, if_neg fun z => hf z.2]
      cases o <;> rfl
def sp_l_first (K : PySem.W.Frag) (j : Nat) : Sp := fun vs H Q _ => ∃ (F : Hp) (rd s m kd : Addr) (R : Rs) (L : List Nat) (n : Nat) (kvs : List (Key × V)), vs = [.ref rd, .int (n : Nat), .ref kd] ∧ Same F H ∧ F kd = none ∧ RowsAt K F rd s m R ∧ R.Ok ∧ KpAt H kd R L kvs ∧ n ∈ L ∧ 1 ≤ n ∧ n < 2 ^ j ∧
  (∀ a ∈ L, ∀ b ∈ below R a, b ∈ L) ∧ L.length ≤ 5000 ∧ (∀ a ∈ L, PB R a) ∧
  ∀ H' v kvs', But [kd] H H' → KpAt H' kd R L kvs' → PhO H' (phr R n) v → Q v H'
theorem small3 {a b : Nat} (ha : a ≤ 1000000) (hb : b ≤ 1000000) : a + 1 + b ≤ sizeLine := Nat.le_trans (show a + 1 + b ≤ 2000001 by omega) (by decide)
theorem getD_len {o : Option (List Str)} {l : List Str} (e : o = some l) (h : (o.getD []).length ≤ 1000000) : l.length ≤ 1000000 := by
  rw [e] at h
  exact h

def cat2 (a : Option (List Str)) (w : Str) (b : Option (List Str)) : Option (List Str) := match a, b with
  | some x, some y => some (x ++ w :: y)
  | _, _ => none
theorem cmb_cat2 (f : Nat → Option (List Str)) (p : Part Str) : cmb f p = cat2 (if p.m.un p.c = true then some [] else f p.c) p.m.word (if p.r = 0 then some [] else f p.r) := by
  unfold cmb cat2
  generalize (if p.m.un p.c = true then some [] else f p.c) = x
  generalize (if p.r = 0 then some [] else f p.r) = y
  cases x <;> cases y <;> rfl
theorem fits_ans {K : PySem.W.Frag} {σ : L2.St} {H : Hp} {o : Option (List Str)} {v : V} {m : M} {c r : Nat} (hv : PhO H o v) (h3 : σ[3]? = some (some v)) (h9 : σ[9]? = some (some (.int (c : Nat)))) (h10 : σ[10]? = some (some (.int (r : Nat)))) (h8 : σ[8]? = some (some (.int (m.rest : Nat)))) (h6 : σ[6]? = some (some (cntV m.count))) :
    Ans (tAnd (tTest (tOp rIsN (tVar 3) (tC .non))) (tAnd (tTest (tOp (rI0 fun i j => .bl (decide (j < i))) (tVar 9) (tC (.int 0)))) (tAnd (tTest (tOp (rI0 fun i j => .bl (decide (i ≤ j))) (tVar 10) (tVar 8))) (tOr (tTest (tOp rIsN (tVar 6) (tC .non))) (tTest (tOp (rI0 fun i j => .bl (decide (i ≤ j))) (tVar 9) (tVar 6))))))) σ H (o.isNone && m.fits c r) := by
  have a1 : Ans (tTest (tOp (rI0 fun i j => .bl (decide (j < i))) (tVar 9) (tC (.int 0)))) σ H (decide (1 ≤ c)) := by
    refine ans_cmp (val_var h9) val_c fun Q q => ⟨_, _, rfl, rfl, ?_⟩
    have e : decide ((0 : Int) < (c : Int)) = decide (1 ≤ c) := decide_eq_decide.mpr ⟨fun z => by omega, fun z => by omega⟩
    show Q (.bl (decide ((0 : Int) < (c : Int)))) H
    rw [e]; exact q
  have a2 : Ans (tTest (tOp (rI0 fun i j => .bl (decide (i ≤ j))) (tVar 10) (tVar 8))) σ H (decide (r ≤ m.rest)) := by
    refine ans_cmp (val_var h10) (val_var h8) fun Q q => ⟨_, _, rfl, rfl, ?_⟩
    have e : decide ((r : Int) ≤ (m.rest : Int)) = decide (r ≤ m.rest) := decide_eq_decide.mpr ⟨fun z => by omega, fun z => by omega⟩
    show Q (.bl (decide ((r : Int) ≤ (m.rest : Int)))) H
    rw [e]; exact q
  have a3 : Ans (tOr (tTest (tOp rIsN (tVar 6) (tC .non))) (tTest (tOp (rI0 fun i j => .bl (decide (i ≤ j))) (tVar 9) (tVar 6)))) σ H (match m.count with | none => true | some k => decide (c ≤ k)) := by
    cases hc : m.count with
    | none =>
      rw [hc] at h6
      exact ans_or1 (ans_isN (val_var h6) rfl)
    | some k =>
      rw [hc] at h6
      refine ans_or (ans_isN (val_var h6) rfl) ?_
      refine ans_cmp (val_var h9) (val_var h6) fun Q q => ⟨_, _, rfl, rfl, ?_⟩
      have e : decide ((c : Int) ≤ (k : Int)) = decide (c ≤ k) := decide_eq_decide.mpr ⟨fun z => by omega, fun z => by omega⟩
      show Q (.bl (decide ((c : Int) ≤ (k : Int)))) H
      rw [e]; exact q
  have e : (o.isNone && m.fits c r) = (o.isNone && (decide (1 ≤ c) && (decide (r ≤ m.rest) && (match m.count with | none => true | some k => decide (c ≤ k))))) := by
    unfold Mul.fits
    cases m.count with
    | none => cases o.isNone <;> cases decide (1 ≤ c) <;> cases decide (r ≤ m.rest) <;> rfl
    | some k =>
      dsimp only
      generalize decide (c ≤ k) = x
      cases o.isNone <;> cases decide (1 ≤ c) <;> cases decide (r ≤ m.rest) <;> cases x <;> rfl
  rw [e]
  exact ans_and2 (ans_isN (val_var h3) hv.isN) (ans_and2 a1 (ans_and2 a2 a3))
theorem l_first_step (W : Wd K mg) (j : Nat) (h_l_first : Has P w K mg base j (He.ga K "_law_first") ["_law_rows", "_law_number", "_law_known"] [] (sp_l_first K j)) : Has P w K mg base (j + 1) (He.ga K "_law_first") ["_law_rows", "_law_number", "_law_known"] [] (sp_l_first K (j + 1)) := by
  refine mkHas (d := d_l_first) (N := N_l_first) (ps := ["_law_rows", "_law_number", "_law_known"]) (W.says.def_ 53) sc_l_first (fun _ _ _ _ _ _ us hl => match us, hl with | [_, _, _], _ => rfl) (fun vs H Q E h => ?_) (fun cdv A outer s0 H vs Q E hr h => ?_)
  · obtain ⟨_, _, _, _, _, _, _, _, _, rfl, _⟩ := h
    rfl
  obtain ⟨F, rd, s, m, kd, R, L, n, kvs, rfl, sF, nFk, hR, ok, hK, hn, hn1, hnj, hcl, hL, hPB, q⟩ := h
  have hu := hu_of hr
  obtain ⟨xs, hx, rx⟩ := hR.sim
  obtain ⟨zs, hz, rz⟩ := hR.mul
  refine ⟨_, (pss_cons (ps_if (pt_cmp (pc_din hu (pv 1) (pv 2))) (pss_one (ps_ret (pe_dget hu (pv 2) (pv 1) (fun _ _ => rfl)))) pss_nil)
      (pss_cons (ps_set (i := 3) sc_l_first.nd rfl (Or.inl rfl) pe_non)
      (pss_mid (ps_for PassesOwn.never rfl (pi_list (pe_dget hu (pv 0) pe_str (fun _ _ => rfl))) (pg_tup rfl (pgs_cons (pg_name (i := 4) sc_l_first.nd rfl (Or.inl rfl)) (pgs_cons (pg_name (i := 5) sc_l_first.nd rfl (Or.inl rfl)) pgs_nil))) (pss_one (ps_if (pt_cmpR op_eq (pv 5) (pv 1) (nomark _)) (pss_cons (ps_set (i := 3) sc_l_first.nd rfl (Or.inl rfl) (pe_tupF (pa_cons (pv 4) pa_nil)))
      (pss_one ps_break)) pss_nil)))
      (pss_cons (ps_for PassesOwn.never rfl (pi_list (pe_dget hu (pv 0) pe_str (fun _ _ => rfl))) (pg_tup rfl (pgs_cons (pg_name (i := 4) sc_l_first.nd rfl (Or.inl rfl)) (pgs_cons (pg_name (i := 5) sc_l_first.nd rfl (Or.inl rfl)) (pgs_cons (pg_name (i := 6) sc_l_first.nd rfl (Or.inl rfl)) (pgs_cons (pg_name (i := 7) sc_l_first.nd rfl (Or.inl rfl)) (pgs_cons (pg_name (i := 8) sc_l_first.nd rfl (Or.inl rfl)) pgs_nil)))))) (pss_cons (ps_set (i := 9) sc_l_first.nd rfl (Or.inl rfl) (pe_op op_ndiv (pv 1) (pv 5)))
      (pss_cons (ps_set (i := 10) sc_l_first.nd rfl (Or.inl rfl) (pe_op op_nsub (pv 1) (pe_op op_nmul (pv 9) (pv 5))))
      (pss_one (ps_if (PW.pt (pw_and (pt_cmpR op_isN1 (pv 3) pe_non (nomark _)) (pw_and (pt_cmpR op_gt (pv 9) pe_int (nomark _)) (pw_and (pt_cmpR op_le (pv 10) (pv 8) (nomark _)) (pw_and1 (PW.pt (pw_or (pt_cmpR op_isN1 (pv 6) pe_non (nomark _)) (pw_or1 (pt_cmpR op_le (pv 9) (pv 6) (nomark _)))))))))) (pss_mid (ps_set (i := 11) sc_l_first.nd rfl (Or.inl rfl) (pe_ifExp (PW.pt (pw_and (pt_val (pv 7)) (pw_and1 (pt_cmpR op_eq (pv 9) pe_int (nomark _))))) (pe_tupF pa_nil) (pe_callH h_l_first W.g_l_first (hr.mono (by omega)) rfl (pa_cons (pv 0) (pa_cons (pv 9) (pa_cons (pv 2) pa_nil))))))
      (pss_mid (ps_set (i := 12) sc_l_first.nd rfl (Or.inl rfl) (pe_ifExp (pt_cmpR op_eq (pv 10) pe_int (nomark _)) (pe_tupF pa_nil) (pe_callH h_l_first W.g_l_first (hr.mono (by omega)) rfl (pa_cons (pv 0) (pa_cons (pv 10) (pa_cons (pv 2) pa_nil))))))
      (pss_one (ps_if (PW.pt (pw_and (pt_cmpR op_notN1 (pv 11) pe_non (nomark _)) (pw_and1 (pt_cmpR op_notN1 (pv 12) pe_non (nomark _))))) (pss_one (ps_set (i := 3) sc_l_first.nd rfl (Or.inl rfl) (pe_op op_catF (pe_op op_catF (pv 11) (pe_tupF (pa_cons (pv 4) pa_nil))) (pv 12)))) pss_nil)))) pss_nil)))))
      (pss_cons (ps_dput hu (pv 2) (pv 1) (pv 3) rfl)
      (pss_one (ps_ret (pv 3)))))))), ?_⟩
  refine ⟨_, rfl, _, rfl, kd, _, rfl, DGet.k (k := Sum.inl ((n : Nat) : Int)) hK.at_, _, rfl, r_b (fun hin => ?_) (fun hin => ?_)⟩
  · obtain ⟨v, hv⟩ := Option.isSome_iff_exists.mp hin
    exact ⟨_, rfl, _, rfl, kd, v, rfl, dget_of hK.at_ hv, q H v kvs (But.refl _ _) hK (hK.val n v hv)⟩
  -- simple words
  refine ⟨fun σ H' => Same H H' ∧ ∃ (v : V) (a4 a5 : Option V), PhO H' (fnd R n 0) v ∧ σ = [some (.ref rd), some (.int (n : Nat)), some (.ref kd), some v, a4, a5, none, none, none, none, none, none, none], ?_, ?_⟩
  · refine ⟨_, rfl, rd, _, rfl, (hR.same sF).gs, s, rfl, ⟨_, SqL.of (sF _ _ hx)⟩, ?_⟩
    refine for_list (xs := xs) (fun i σ H' => H' = H ∧ ((R.simple.take i).filter fun p => decide (p.2 = n)) = [] ∧ ∃ a4 a5, σ = [some (.ref rd), some (.int (n : Nat)), some (.ref kd), some .non, a4, a5, none, none, none, none, none, none, none])
      ⟨rfl, rfl, _, _, rfl⟩ (fun i σ H' _ pv => by rw [pv.1]; exact SqL.of (sF _ _ hx)) ?_ ?_
    · rintro i x σ H' hi ⟨rfl, hno, a4, a5, rfl⟩
      obtain ⟨⟨w0, v0⟩, ep, a, rfl, ha⟩ := rx.get hi
      have hi' := (List.getElem?_eq_some_iff.mp ep).1
      have et : (R.simple.take (i + 1)) = R.simple.take i ++ [(w0, v0)] := by rw [List.take_succ_eq_append_getElem hi', (List.getElem?_eq_some_iff.mp ep).2]
      refine ⟨a, _, rfl, sF.tup ha, rfl, _, _, rfl, _, _, rfl, rfl, ?_⟩
      refine ⟨_, rfl, _, rfl, rfl, _, rfl, r_dec (fun e => ?_) (fun e => ?_)⟩
      · have e' : v0 = n := by injection e with e; omega
        subst e'
        refine ⟨_, rfl, (by show 1 ≤ sizeLine; decide), fun t o nt ho => ⟨Same.new nt, .ref t, _, _, .inr ⟨t, [w0], ?_, rfl, o, ho, upd_same⟩, rfl⟩⟩
        have e9 : R.wordsOf v0 = w0 :: ((R.simple.drop (i + 1)).filter fun p => decide (p.2 = v0)).map (·.1) := by
          unfold Rows.wordsOf
          conv => lhs; rw [← List.take_append_drop (i + 1) R.simple, et, List.filter_append, List.filter_append, hno]
          simp
        unfold fnd
        rw [e9]
      · have e' : ¬ v0 = n := fun z => e (by rw [z])
        refine ⟨rfl, ?_, _, _, rfl⟩
        rw [et, List.filter_append, hno]
        simp [e']
    · rintro σ H' ⟨rfl, hno, a4, a5, rfl⟩
      rw [rx.1, List.take_length] at hno
      refine ⟨Same.refl _, .non, _, _, .inl ⟨?_, rfl⟩, rfl⟩
      have e9 : R.wordsOf n = [] := by
        unfold Rows.wordsOf
        rw [hno]
        rfl
      unfold fnd
      rw [e9]
      rfl
  rintro σ H1 ⟨s1, v0, a4, a5, hv0, rfl⟩
  have sF1 := sF.trans s1
  refine ⟨_, rfl, rd, _, rfl, (hR.same sF1).gm, m, rfl, ⟨_, SqL.of (sF1 _ _ hz)⟩, ?_⟩
  refine for_list (xs := zs) (fun i σ H' => But [kd] H H' ∧ ∃ (v : V) (kvs' : List (Key × V)) (a4 a5 a6 a7 a8 a9 a10 a11 a12 : Option V), KpAt H' kd R L kvs' ∧ PhO H' (fnd R n i) v ∧ σ = [some (.ref rd), some (.int (n : Nat)), some (.ref kd), some v, a4, a5, a6, a7, a8, a9, a10, a11, a12])
    ⟨But.of s1, v0, kvs, _, _, _, _, _, _, _, _, _, hK.same s1, hv0, rfl⟩ (fun i σ H' _ pv => (pv.1.base sF (by simpa using nFk)).seq (SqL.of hz)) ?_ ?_
  · rintro i x σ H2 hi ⟨b2, v, kvs2, a4, a5, a6, a7, a8, a9, a10, a11, a12, hK2, hv2, rfl⟩
    obtain ⟨mi, em, a, rfl, ha⟩ := rz.get hi
    have hmem := List.mem_of_getElem? em
    have mv := ok.mv mi hmem
    have ml := ok.ml mi hmem
    have sF2 : Same F H2 := b2.base sF (by simpa using nFk)
    have es := fnd_snoc (n := n) em
    refine ⟨a, _, rfl, sF2.tup ha, rfl, _, _, rfl, _, _, rfl, _, _, rfl, _, _, rfl, _, _, rfl, rfl, ?_⟩
    refine ⟨_, rfl, _, rfl, _, _, rfl, rfl, ⟨by omega, by omega⟩, ?_⟩
    refine ⟨_, rfl, _, rfl, _, rfl, _, _, rfl, rfl, .inr (by omega), _, _, rfl, rfl, div_mul_le' _ _, ?_⟩
    rw [sub_div_mul']
    refine st_ans (b := (fnd R n i).isNone && mi.fits (n / mi.value) (n % mi.value)) (fits_ans (K := K) hv2 rfl rfl rfl rfl rfl) (fun c => ?_) (fun c => ?_)
    · obtain ⟨c1, c2⟩ := Bool.and_eq_true_iff.mp c
      rw [if_pos ⟨c1, c2⟩] at es
      have hpart : (⟨i, mi, n / mi.value, n % mi.value⟩ : Part Str) ∈ R.parts n := by
        have := partsL_of (i := 0) (n := n) em c2
        rw [Nat.zero_add] at this
        exact this
      obtain ⟨p1, p2, p3, p4⟩ := parts_lt ok hpart
      have hbel : ∀ b, b ∈ belowP ⟨i, mi, n / mi.value, n % mi.value⟩ → b ∈ L := fun b hb => hcl n hn b (List.mem_flatMap.mpr ⟨_, hpart, hb⟩)
      have hcj : n / mi.value < 2 ^ j := by
        have h1 := Nat.div_mul_le_self n mi.value
        have h2 : n / mi.value * 2 ≤ n / mi.value * mi.value := Nat.mul_le_mul_left _ mv
        rw [Nat.pow_succ] at hnj
        omega
      have hrj : n % mi.value < 2 ^ j := by
        have h1 := Nat.div_add_mod n mi.value
        have h2 : mi.value * 1 ≤ mi.value * (n / mi.value) := Nat.mul_le_mul_left _ p1
        have h3 := Nat.mod_lt n (show 0 < mi.value by omega)
        rw [Nat.pow_succ] at hnj
        omega
      -- ahead
      refine ⟨fun σ H' => But [kd] H2 H' ∧ ∃ (u : V) (kvs' : List (Key × V)), KpAt H' kd R L kvs' ∧ PhO H' (if mi.un (n / mi.value) = true then some [] else phr R (n / mi.value)) u ∧ σ = [some (.ref rd), some (.int (n : Nat)), some (.ref kd), some v, some (.str mi.word), some (.int (mi.value : Nat)), some (cntV mi.count), some (.bl mi.unsaid), some (.int (mi.rest : Nat)), some (.int (n / mi.value : Nat)), some (.int (n % mi.value : Nat)), some u, a12], ?_, ?_⟩
      · have call : mi.un (n / mi.value) = false → sp_l_first K j ([.ref rd, .int (n / mi.value : Nat), .ref kd] ++ []) H2 (fun u H' => But [kd] H2 H' ∧ ∃ (u' : V) (kvs' : List (Key × V)), KpAt H' kd R L kvs' ∧ PhO H' (if mi.un (n / mi.value) = true then some [] else phr R (n / mi.value)) u' ∧ ([some (.ref rd), some (.int (n : Nat)), some (.ref kd), some v, some (.str mi.word), some (.int (mi.value : Nat)), some (cntV mi.count), some (.bl mi.unsaid), some (.int (mi.rest : Nat)), some (.int (n / mi.value : Nat)), some (.int (n % mi.value : Nat)), a11, a12] : L2.St).set 11 (some u) = [some (.ref rd), some (.int (n : Nat)), some (.ref kd), some v, some (.str mi.word), some (.int (mi.value : Nat)), some (cntV mi.count), some (.bl mi.unsaid), some (.int (mi.rest : Nat)), some (.int (n / mi.value : Nat)), some (.int (n % mi.value : Nat)), some u', a12]) E0 := fun hun => by
          have hcL : n / mi.value ∈ L := hbel _ (by
            unfold belowP
            rw [if_neg (by rw [hun]; exact Bool.false_ne_true)]
            exact List.mem_append.mpr (.inl (List.mem_singleton.mpr rfl)))
          refine ⟨F, rd, s, m, kd, R, L, n / mi.value, kvs2, rfl, sF2, nFk, hR, ok, hK2, hcL, p1, hcj, hcl, hL, hPB, fun H' u kvs' b hK' hu' => ⟨b, u, kvs', hK', ?_, rfl⟩⟩
          rw [if_neg (by rw [hun]; exact Bool.false_ne_true)]
          exact hu'
        refine ⟨_, rfl, _, rfl, r_b (fun hs => ?_) (fun hs => iteF ?_)⟩
        · refine ⟨_, rfl, rfl, _, rfl, r_dec (fun e => ?_) (fun e => ?_)⟩
          · have e' : n / mi.value = 1 := by injection e with e; omega
            refine ⟨Nat.zero_le _, fun t o nt ho => ⟨But.of (Same.new nt), .ref t, kvs2, hK2.same (Same.new nt), .inr ⟨t, [], ?_, rfl, o, ho, upd_same⟩, rfl⟩⟩
            rw [if_pos (by unfold Mul.un; rw [e', hs]; rfl)]
          · have e' : ¬ n / mi.value = 1 := fun z => e (by rw [z]; rfl)
            exact ⟨_, rfl, _, rfl, _, rfl, call (by unfold Mul.un; rw [decide_eq_false e']; rfl)⟩
        · exact ⟨_, rfl, _, rfl, _, rfl, call (by unfold Mul.un; rw [hs]; simp)⟩
      rintro σ H3 ⟨b3, u1, kvs3, hK3, hu1, rfl⟩
      have b23 := b2.trans b3
      have sF3 : Same F H3 := b23.base sF (by simpa using nFk)
      -- behind
      refine ⟨fun σ H' => But [kd] H3 H' ∧ ∃ (u : V) (kvs' : List (Key × V)), KpAt H' kd R L kvs' ∧ PhO H' (if n % mi.value = 0 then some [] else phr R (n % mi.value)) u ∧ σ = [some (.ref rd), some (.int (n : Nat)), some (.ref kd), some v, some (.str mi.word), some (.int (mi.value : Nat)), some (cntV mi.count), some (.bl mi.unsaid), some (.int (mi.rest : Nat)), some (.int (n / mi.value : Nat)), some (.int (n % mi.value : Nat)), some u1, some u], ?_, ?_⟩
      · refine ⟨_, rfl, rfl, _, rfl, r_dec (fun e => ?_) (fun e => ?_)⟩
        · have e' : n % mi.value = 0 := by injection e with e; omega
          refine ⟨Nat.zero_le _, fun t o nt ho => ⟨But.of (Same.new nt), .ref t, kvs3, hK3.same (Same.new nt), .inr ⟨t, [], ?_, rfl, o, ho, upd_same⟩, rfl⟩⟩
          rw [if_pos e']
        · have e' : ¬ n % mi.value = 0 := fun z => e (by rw [z]; rfl)
          have hrL : n % mi.value ∈ L := hbel _ (by
            unfold belowP
            rw [show (if (⟨i, mi, n / mi.value, n % mi.value⟩ : Part Str).r = 0 then ([] : List Nat) else [(⟨i, mi, n / mi.value, n % mi.value⟩ : Part Str).r]) = [n % mi.value] from if_neg e']
            exact List.mem_append.mpr (.inr (List.mem_singleton.mpr rfl)))
          refine ⟨_, rfl, _, rfl, _, rfl, F, rd, s, m, kd, R, L, n % mi.value, kvs3, rfl, sF3, nFk, hR, ok, hK3, hrL, by omega, hrj, hcl, hL, hPB, fun H' u kvs' b hK' hu' => ⟨b, u, kvs', hK', ?_, rfl⟩⟩
          rw [if_neg e']
          exact hu'
      rintro σ H4 ⟨b4, u2, kvs4, hK4, hu2, rfl⟩
      have hu1' := hu1.but b4 hK3.at_
      have b24 := b23.trans b4
      have ec : cmb (phr R) ⟨i, mi, n / mi.value, n % mi.value⟩ = cat2 (if mi.un (n / mi.value) = true then some [] else phr R (n / mi.value)) mi.word (if n % mi.value = 0 then some [] else phr R (n % mi.value)) := cmb_cat2 _ _
      have la : ∀ l, (if mi.un (n / mi.value) = true then some [] else phr R (n / mi.value)) = some l → l.length ≤ 1000000 := fun l e => by
        by_cases hun : mi.un (n / mi.value) = true
        · rw [if_pos hun] at e
          injection e with e
          subst e
          exact Nat.zero_le _
        · rw [if_neg hun] at e
          refine getD_len e (hPB _ (hbel _ ?_))
          unfold belowP
          rw [if_neg hun]
          exact List.mem_append.mpr (.inl (List.mem_singleton.mpr rfl))
      have lb : ∀ l, (if n % mi.value = 0 then some [] else phr R (n % mi.value)) = some l → l.length ≤ 1000000 := fun l e => by
        by_cases hr0 : n % mi.value = 0
        · rw [if_pos hr0] at e
          injection e with e
          subst e
          exact Nat.zero_le _
        · rw [if_neg hr0] at e
          refine getD_len e (hPB _ (hbel _ ?_))
          unfold belowP
          rw [show (if (⟨i, mi, n / mi.value, n % mi.value⟩ : Part Str).r = 0 then ([] : List Nat) else [(⟨i, mi, n / mi.value, n % mi.value⟩ : Part Str).r]) = [n % mi.value] from if_neg hr0]
          exact List.mem_append.mpr (.inr (List.mem_singleton.mpr rfl))
      rw [ec] at es
      revert es hu1' hu2 la lb
      generalize (if mi.un (n / mi.value) = true then some [] else phr R (n / mi.value)) = oa
      generalize (if n % mi.value = 0 then some [] else phr R (n % mi.value)) = ob
      intro es hu2 hu1' la lb
      refine st_ans (b := oa.isSome && ob.isSome) (ans_and2 (ans_notN (val_var rfl) hu1'.notN) (ans_notN (val_var rfl) hu2.notN)) (fun e => ?_) (fun e => ?_)
      · rcases hu1' with ⟨rfl, _⟩ | ⟨t1, l1, rfl, rfl, ht1⟩
        · cases e
        rcases hu2 with ⟨rfl, _⟩ | ⟨t2, l2, rfl, rfl, ht2⟩
        · cases e
        have la' := la l1 rfl
        have lb' := lb l2 rfl
        refine ⟨_, rfl, _, rfl, (by show 1 ≤ sizeLine; decide), fun t o nt ho => ?_⟩
        have s5 : Same H4 (upd H4 t (.frz o (.tup [.str mi.word]))) := Same.new nt
        have ht5 : FT (upd H4 t (.frz o (.tup [.str mi.word]))) t [.str mi.word] := ⟨o, ho, upd_same⟩
        refine rCatF_of (ht1.same s5) ht5 (by rw [List.length_map]; exact small3 (b := 0) la' (by omega)) fun t6 H6 s6 h6 => ?_
        refine ⟨_, rfl, ?_⟩
        refine rCatF_of h6 (ht2.same (s5.trans s6)) (by rw [List.length_append, List.length_map, List.length_map]; exact small3 la' lb') fun t7 H7 s7 h7 => ?_
        have s47 := (s5.trans s6).trans s7
        refine ⟨b24.trans (But.of s47), .ref t7, kvs4, _, _, _, _, _, _, _, _, _, hK4.same s47, ?_, rfl⟩
        rw [es]
        refine .inr ⟨t7, l1 ++ mi.word :: l2, rfl, rfl, ?_⟩
        rw [List.map_append]
        rw [List.append_assoc] at h7
        exact h7
      · refine ⟨b24, v, kvs4, _, _, _, _, _, _, _, _, _, hK4, ?_, rfl⟩
        rw [es]
        have hvn : v = .non := by
          rcases hv2 with ⟨_, h⟩ | ⟨t, l, h, _⟩
          · exact h
          · rw [h] at c1; cases c1
        refine .inl ⟨?_, hvn⟩
        cases oa with
        | none => rfl
        | some x =>
          cases ob with
          | none => rfl
          | some y => cases e
    · rw [if_neg (fun z => by rw [z.1, z.2] at c; cases c)] at es
      refine ⟨b2, v, kvs2, _, _, _, _, _, _, _, _, _, hK2, ?_, rfl⟩
      rw [es]
      exact hv2
  · rintro σ H2 ⟨b2, v, kvs2, a4, a5, a6, a7, a8, a9, a10, a11, a12, hK2, hv2, rfl⟩
    rw [rz.1, fnd_end ok] at hv2
    refine ⟨_, rfl, _, rfl, _, rfl, kd, _, rfl, DPut.k (k := Sum.inl ((n : Nat) : Int)) hK2.at_ (hK2.len hL), ?_⟩
    exact ⟨_, rfl, q _ v _ (b2.upd (.inl (by simp))) (hK2.put hn hv2) (hv2.but ((But.refl _ _).upd (.inl (by simp))) hK2.at_)⟩
theorem ok_l_first (W : Wd K mg) : ∀ j, Has P w K mg base j (He.ga K "_law_first") ["_law_rows", "_law_number", "_law_known"] [] (sp_l_first K j)
  | 0 => (Has.no (d := d_l_first) (W.says.def_ 53) (fun _ _ _ _ _ _ us hl => match us, hl with | [_, _, _], _ => rfl)).imp fun vs H Q E h => by
    obtain ⟨_, _, _, _, _, _, _, n, _, _, _, _, _, _, _, _, h1, h2, _⟩ := h
    simp at h2
    omega
  | j + 1 => l_first_step W j (ok_l_first W j)

end
end Sy

/-! part: L13 -/
set_option Elab.async false
set_option linter.all false
set_option maxRecDepth 100000
set_option maxHeartbeats 4000000
namespace Sy
open PySem PySem.Spec PyProof.Rows L2
section
variable {P : Program} {w : World} {K : PySem.W.Frag} {mg : Str → Option Value} {base : Heap}
/-- what first needs, but the number -/
structure Fst (K : PySem.W.Frag) (F H : Hp) (rd s m kd : Addr) (R : Rs) (L : List Nat) (kvs : List (Key × V)) : Prop where
  same : Same F H
  fk : F kd = none
  rows : RowsAt K F rd s m R
  ok : R.Ok
  kp : KpAt H kd R L kvs
  cl : ∀ a ∈ L, ∀ b ∈ below R a, b ∈ L
  len : L.length ≤ 5000
  pb : ∀ a ∈ L, PB R a
theorem Fst.next {K : PySem.W.Frag} {F H H' : Hp} {rd s m kd : Addr} {R : Rs} {L : List Nat} {kvs kvs' : List (Key × V)} (h : Fst K F H rd s m kd R L kvs) (b : But [kd] H H') (k : KpAt H' kd R L kvs') : Fst K F H' rd s m kd R L kvs' :=
  ⟨b.base h.same (by simpa using h.fk), h.fk, h.rows, h.ok, k, h.cl, h.len, h.pb⟩
def sp_l_said (K : PySem.W.Frag) : Sp := fun vs H Q _ => ∃ (F : Hp) (rd s m kd : Addr) (R : Rs) (L : List Nat) (n : Nat) (kvs : List (Key × V)) (wd : Option Str), vs = [.ref rd, .int (n : Nat), optS wd, .ref kd] ∧ Fst K F H rd s m kd R L kvs ∧ n ∈ L ∧ 1 ≤ n ∧ n < 2 ^ 139 ∧
  ∀ H' kvs', But [kd] H H' → KpAt H' kd R L kvs' → Q (cntV (told R wd n)) H'
theorem ok_l_said (W : Wd K mg) : Has P w K mg base 140 (He.ga K "_law_said") ["_law_rows", "_law_number", "_law_word_here", "_law_known"] [] (sp_l_said K) := by
  have h_l_first := ok_l_first (P := P) (w := w) (base := base) W 139
  refine mkHas (d := d_l_said) (N := N_l_said) (ps := ["_law_rows", "_law_number", "_law_word_here", "_law_known"]) (W.says.def_ 54) sc_l_said (fun _ _ _ _ _ _ us hl => match us, hl with | [_, _, _, _], _ => rfl) (fun vs H Q E h => ?_) (fun cdv A outer s0 H vs Q E hr h => ?_)
  · obtain ⟨_, _, _, _, _, _, _, _, _, _, rfl, _⟩ := h
    rfl
  obtain ⟨F, rd, s, m, kd, R, L, n, kvs, wd, rfl, hF, hn, hn1, hnj, q⟩ := h
  refine ⟨_, (pss_cons (ps_set (i := 4) sc_l_said.nd rfl (Or.inl rfl) (pe_callH h_l_first W.g_l_first (hr.mono (by omega)) rfl (pa_cons (pv 0) (pa_cons (pv 1) (pa_cons (pv 3) pa_nil)))))
      (pss_cons (ps_if (pt_cmpR op_isN1 (pv 4) pe_non (nomark _)) (pss_one (ps_ret pe_non)) pss_nil)
      (pss_one (ps_ret (pe_ifExp (pt_cmpR op_isN1 (pv 2) pe_non (nomark _)) (pe_callB call_len rfl W.f_len PySem.boot_len (pa_cons (pv 4) pa_nil)) (pe_cnt hr.units (pv 4) (pv 2))))))), ?_⟩
  refine ⟨_, rfl, _, rfl, _, rfl, F, rd, s, m, kd, R, L, n, kvs, rfl, hF.same, hF.fk, hF.rows, hF.ok, hF.kp, hn, hn1, hnj, hF.cl, hF.len, hF.pb, fun H1 v kvs1 b1 hK1 hv => ?_⟩
  have q1 := q H1 kvs1 b1 hK1
  unfold told at q1
  rcases hv with ⟨e, rfl⟩ | ⟨t, l, e, rfl, ht⟩
  · rw [e] at q1
    exact ⟨_, rfl, rfl, _, rfl, iteT' rfl q1⟩
  · rw [e] at q1
    refine ⟨_, rfl, rfl, _, rfl, iteF' rfl ?_⟩
    cases wd with
    | none =>
      have e2 : Option.map (wt none) (some l) = some l.length := by rw [Option.map_some, wt_none]
      rw [e2] at q1
      exact ⟨_, rfl, rfl, _, rfl, iteT' rfl ⟨_, rfl, .ref t, l.length, rfl, .inr ⟨_, ht.sq, (List.length_map _).symm⟩, q1⟩⟩
    | some z =>
      have e2 : Option.map (wt (some z)) (some l) = some (l.countP fun y => decide (y = z)) := by rw [Option.map_some, wt_some]
      rw [e2] at q1
      exact ⟨_, rfl, rfl, _, rfl, iteF' rfl ⟨_, rfl, t, l, rfl, ht, _, rfl, z, rfl, ht, q1⟩⟩
def sp_l_counted (K : PySem.W.Frag) : Sp := fun vs H Q _ => ∃ (F : Hp) (rd s m kd : Addr) (R : Rs) (L : List Nat) (b : Nat) (kvs : List (Key × V)) (wd : Option Str), vs = [.ref rd, .int 1, .int (b : Nat), optS wd, .ref kd] ∧ Fst K F H rd s m kd R L kvs ∧ (∀ n, 1 ≤ n → n ≤ b → n ∈ L) ∧ b ≤ 1000 ∧
  ∀ H' kvs', But [kd] H H' → KpAt H' kd R L kvs' → Q (.int ((sums (told R wd) b).2 : Nat)) H'
theorem ok_l_counted (W : Wd K mg) : Has P w K mg base 141 (He.ga K "_law_counted") ["_law_rows", "_law_start", "_law_stop", "_law_word_here", "_law_known"] [] (sp_l_counted K) := by
  have h_l_said := ok_l_said (P := P) (w := w) (base := base) W
  refine mkHas (d := d_l_counted) (N := N_l_counted) (ps := ["_law_rows", "_law_start", "_law_stop", "_law_word_here", "_law_known"]) (W.says.def_ 55) sc_l_counted (fun _ _ _ _ _ _ us hl => match us, hl with | [_, _, _, _, _], _ => rfl) (fun vs H Q E h => ?_) (fun cdv A outer s0 H vs Q E hr h => ?_)
  · obtain ⟨_, _, _, _, _, _, _, _, _, _, rfl, _⟩ := h
    rfl
  obtain ⟨F, rd, s, m, kd, R, L, b, kvs, wd, rfl, hF, hn, hb, q⟩ := h
  refine ⟨_, (pss_cons (ps_set (i := 5) sc_l_counted.nd rfl (Or.inl rfl) pe_int)
      (pss_cons (ps_for PassesOwn.never rfl (pi_range2 rfl W.f_range (pa_cons (pv 1) (pa_cons (pe_op op_nadd (pv 2) pe_int) pa_nil))) (pg_name (i := 6) sc_l_counted.nd rfl (Or.inl rfl)) (pss_one (ps_set (i := 5) sc_l_counted.nd rfl (Or.inl rfl) (pe_op op_nadd (pv 5) (pe_orT (pe_callH h_l_said W.g_l_said (hr.mono (by omega)) rfl (pa_cons (pv 0) (pa_cons (pv 6) (pa_cons (pv 3) (pa_cons (pv 4) pa_nil))))) (pe_one pe_int))))))
      (pss_one (ps_ret (pv 5))))), ?_⟩
  refine ⟨_, rfl, _, rfl, b, 1, rfl, rfl, _, _, rfl, ⟨by omega, by omega, by omega, by omega⟩, ?_⟩
  rw [show (((b + 1 : Nat) : Int) - 1).toNat = b by omega]
  refine for_range (fun i σ H' => But [kd] H H' ∧ ∃ kvs' a6, KpAt H' kd R L kvs' ∧ σ = [some (.ref rd), some (.int 1), some (.int (b : Nat)), some (optS wd), some (.ref kd), some (.int ((sums (told R wd) i).2 : Nat)), a6])
    ⟨But.refl _ _, kvs, _, hF.kp, rfl⟩ ?_ ?_
  · rintro i σ H1 hi ⟨b1, kvs1, a6, hK1, rfl⟩
    rw [show (1 : Int) + (i : Nat) = ((i + 1 : Nat) : Int) by omega]
    have hp : i + 1 < 2 ^ 139 := Nat.lt_of_le_of_lt (show i + 1 ≤ 1000 by omega) (by decide)
    refine ⟨_, rfl, _, rfl, _, rfl, _, rfl, _, rfl, F, rd, s, m, kd, R, L, i + 1, kvs1, wd, rfl, hF.next b1 hK1, hn _ (by omega) (by omega), by omega, hp, fun H2 kvs2 b2 hK2 => ?_⟩
    cases e : told R wd (i + 1) with
    | none =>
      refine ⟨false, rfl, iteF ⟨_, 0, rfl, rfl, b1.trans b2, kvs2, _, hK2, by rw [sums_none e]; rfl⟩⟩
    | some z =>
      have fin : ∀ z' : Nat, z' = z → But [kd] H H2 ∧ ∃ kvs' a6', KpAt H2 kd R L kvs' ∧ (([some (.ref rd), some (.int 1), some (.int (b : Nat)), some (optS wd), some (.ref kd), some (.int ((sums (told R wd) i).2 : Nat)), some (.int (i + 1 : Nat))] : L2.St).set 5 (some (.int ((sums (told R wd) i).2 + z' : Nat)))) = [some (.ref rd), some (.int 1), some (.int (b : Nat)), some (optS wd), some (.ref kd), some (.int ((sums (told R wd) (i + 1)).2 : Nat)), a6'] := fun z' hz => by
        subst hz
        exact ⟨b1.trans b2, kvs2, _, hK2, by rw [sums_some e]; rfl⟩
      by_cases hz : z = 0
      · subst hz
        exact ⟨false, by first | rfl | decide, iteF ⟨_, 0, rfl, rfl, fin 0 rfl⟩⟩
      · refine ⟨true, ?_, iteT ⟨_, z, rfl, rfl, fin z rfl⟩⟩
        show true = _
        simp [hz]
  · rintro σ H1 ⟨b1, kvs1, a6, hK1, rfl⟩
    exact ⟨_, rfl, q H1 kvs1 b1 hK1⟩
def sp_l_told (K : PySem.W.Frag) : Sp := fun vs H Q _ => ∃ (y s m : Addr) (R : Rs) (out : M) (M0 : Nat) (wd : Option Str) (a b : Nat), vs = [.ref y, .int (a : Nat), .int (b : Nat), optS wd] ∧ SysAt K H y R s m ∧ R.Ok ∧ IsOut R out ∧ IsB R M0 ∧ M0 ≤ 3000 ∧ 1 ≤ a ∧ a ≤ b ∧ b < 2 ^ 1000 ∧ (∀ z, wd = some z → z ∈ wordsL R) ∧
  ∀ H', Same H H' → Q (.int ((sums (told R wd) b).2 - (sums (told R wd) (a - 1)).2 : Nat)) H'
theorem ok_l_told (W : Wd K mg) : Has P w K mg base 10 (He.ga K "_law_told") ["_law_system", "_law_start", "_law_stop", "_law_word_here"] [] (sp_l_told K) := by
  have h_words_said := ok_words_said (P := P) (w := w) (base := base) W
  have h_times_said := ok_times_said (P := P) (w := w) (base := base) W
  refine mkHas (d := d_l_told) (N := N_l_told) (ps := ["_law_system", "_law_start", "_law_stop", "_law_word_here"]) (W.says.def_ 59) sc_l_told (fun _ _ _ _ _ _ us hl => match us, hl with | [_, _, _, _], _ => rfl) (fun vs H Q E h => ?_) (fun cdv A outer s0 H vs Q E hr h => ?_)
  · obtain ⟨_, _, _, _, _, _, _, _, _, rfl, _⟩ := h
    rfl
  obtain ⟨y, s, m, R, out, M0, wd, a, b, rfl, hY, ok, hO, hM, hM0, h1, h2, h3, hz, q⟩ := h
  refine ⟨_, (pss_one (ps_ret (pe_ifExp (pt_cmpR op_isN1 (pv 3) pe_non (nomark _)) (pe_callH h_words_said W.g_words_said (hr.mono (by omega)) rfl (pa_cons (pv 0) (pa_cons (pv 1) (pa_cons (pv 2) pa_nil)))) (pe_callH h_times_said W.g_times_said (hr.mono (by omega)) rfl (pa_cons (pv 0) (pa_cons (pv 1) (pa_cons (pv 2) (pa_cons (pv 3) pa_nil)))))))), ?_⟩
  cases wd with
  | none => exact ⟨_, rfl, rfl, _, rfl, iteT' rfl ⟨_, rfl, _, rfl, _, rfl, y, s, m, R, out, M0, a, b, rfl, hY, ok, hO, hM, hM0, h1, h2, h3, q⟩⟩
  | some z => exact ⟨_, rfl, rfl, _, rfl, iteF' rfl ⟨_, rfl, _, rfl, _, rfl, _, rfl, y, s, m, R, out, M0, a, b, z, rfl, hY, ok, hO, hM, hM0, h1, h2, h3, hz z rfl, q⟩⟩
def sp_l_is_integer : Sp := fun vs H Q _ => ∃ i : Int, vs = [.int i] ∧ Q (.bl true) H
theorem ok_l_is_integer (W : Wd K mg) : Has P w K mg base 1 (He.ga K "_law_is_integer") ["_law_actual"] [] sp_l_is_integer := by
  refine mkHas (d := d_l_is_integer) (N := N_l_is_integer) (ps := ["_law_actual"]) (W.says.def_ 42) sc_l_is_integer (fun _ _ _ _ _ _ us hl => match us, hl with | [_], _ => rfl) (fun vs H Q E h => ?_) (fun cdv A outer s0 H vs Q E hr h => ?_)
  · obtain ⟨_, rfl, _⟩ := h
    rfl
  obtain ⟨i, rfl, q⟩ := h
  refine ⟨_, (pss_one (ps_ret (pe_and (pe_callB call_isi rfl W.f_isinstance PyProof.Rows.boot_isinstance (pa_cons (pv 0) (pa_cons (pe_bltn (v := .ty "int") rfl W.f_int PyProof.Rows.boot_int rfl) pa_nil))) (pe_one (pe_not (pe_callB call_isi rfl W.f_isinstance PyProof.Rows.boot_isinstance (pa_cons (pv 0) (pa_cons (pe_bltn (v := .ty "bool") rfl W.f_bool PyProof.Rows.boot_bool rfl) pa_nil)))))))), ?_⟩
  refine ⟨_, rfl, _, _, _, _, _, rfl, .ty _, .base (.int _), kit_ty (a := "int") (b := "int") (r := true) (by decide +kernel), _, rfl, iteT ?_⟩
  exact ⟨_, rfl, _, _, _, _, _, rfl, .ty _, .base (.int _), kit_ty (a := "int") (b := "bool") (r := false) (by decide +kernel), _, rfl, q⟩
/-! the same value, the same kind -/
def EqS (H : Hp) : Nat → V → V → Prop
  | 0, a, b => (∃ i : Int, a = .int i ∧ b = .int i) ∨ (∃ z, a = .str z ∧ b = .str z)
  | d + 1, a, b => EqS H d a b ∨ ∃ p q xs ys, a = .ref p ∧ b = .ref q ∧ Rd H p (.tup xs) ∧ Rd H q (.tup ys) ∧ xs.length = ys.length ∧ ys.length ≤ 2000000 ∧ ∀ (i : Nat) x y, xs[i]? = some x → ys[i]? = some y → EqS H d x y
theorem EqS.same {H H' : Hp} (e : Same H H') : ∀ {d : Nat} {a b : V}, EqS H d a b → EqS H' d a b
  | 0, _, _, h => h
  | d + 1, _, _, h => by
    rcases h with h | ⟨p, q, xs, ys, e1, e2, h1, h2, h3, h4, h5⟩
    · exact .inl (EqS.same e h)
    · exact .inr ⟨p, q, xs, ys, e1, e2, h1.imp (e _ _) (fun ⟨o, h⟩ => ⟨o, e _ _ h⟩), h2.imp (e _ _) (fun ⟨o, h⟩ => ⟨o, e _ _ h⟩), h3, h4, fun i x y e3 e4 => EqS.same e (h5 i x y e3 e4)⟩
theorem EqS.cases {H : Hp} : ∀ {d : Nat} {a b : V}, EqS H d a b → (∃ i : Int, a = .int i ∧ b = .int i) ∨ (∃ z, a = .str z ∧ b = .str z) ∨ ∃ d', d' + 1 ≤ d ∧ ∃ p q xs ys, a = .ref p ∧ b = .ref q ∧ Rd H p (.tup xs) ∧ Rd H q (.tup ys) ∧ xs.length = ys.length ∧ ys.length ≤ 2000000 ∧ ∀ (i : Nat) x y, xs[i]? = some x → ys[i]? = some y → EqS H d' x y
  | 0, _, _, h => h.imp id .inl
  | d + 1, _, _, h => by
    rcases h with h | h
    · rcases EqS.cases h with h | h | ⟨d', hd, h⟩
      · exact .inl h
      · exact .inr (.inl h)
      · exact .inr (.inr ⟨d', by omega, h⟩)
    · exact .inr (.inr ⟨d, Nat.le_refl _, h⟩)
theorem EqS.up {H : Hp} : ∀ {d e : Nat} {a b : V}, d ≤ e → EqS H d a b → EqS H e a b
  | d, 0, _, _, h, x => by
    obtain rfl : d = 0 := by omega
    exact x
  | d, e + 1, _, _, h, x => by
    rcases Nat.lt_or_eq_of_le h with h | rfl
    · exact .inl (EqS.up (by omega) x)
    · exact x
theorem ty_tup {K : PySem.W.Frag} {H : Hp} {p : Addr} {xs : List V} (h : Rd H p (.tup xs)) : TyX K H (.ref p) (.type "tuple") := by
  rcases h with h | ⟨o, h⟩
  · exact .base (.tup h)
  · exact .fTuple h
def sp_l_same (d : Nat) : Sp := fun vs H Q _ => ∃ a b, vs = [a, b] ∧ EqS H d a b ∧ ∀ H', Same H H' → Q (.bl true) H'
theorem l_same_body (W : Wd K mg) {j d : Nat} {spX : Sp} (hj : 1 ≤ j) (h_l_same : Has P w K mg base j (He.ga K "_law_same") ["_law_actual", "_law_due"] [] spX) (hX : ∀ d', d' + 1 ≤ d → ∀ vs H Q E, sp_l_same d' vs H Q E → spX vs H Q E) : Has P w K mg base (j + 1) (He.ga K "_law_same") ["_law_actual", "_law_due"] [] (sp_l_same d) := by
  have h_l_is_integer := ok_l_is_integer (P := P) (w := w) (base := base) W
  refine mkHas (d := d_l_same) (N := N_l_same) (ps := ["_law_actual", "_law_due"]) (W.says.def_ 43) sc_l_same (fun _ _ _ _ _ _ us hl => match us, hl with | [_, _], _ => rfl) (fun vs H Q E h => ?_) (fun cdv A outer s0 H vs Q E hr h => ?_)
  · obtain ⟨_, _, rfl, _⟩ := h
    rfl
  obtain ⟨a, b, rfl, he, q⟩ := h
  refine ⟨_, (pss_cons (ps_if (pt_val (pe_callB call_isi rfl W.f_isinstance PyProof.Rows.boot_isinstance (pa_cons (pv 1) (pa_cons (pe_bltn (v := .ty "tuple") rfl W.f_tuple PyProof.Rows.boot_tuple rfl) pa_nil)))) (pss_cons (ps_if (PW.pt (pw_or (pt_not (pt_val (pe_callB call_isi rfl W.f_isinstance PyProof.Rows.boot_isinstance (pa_cons (pv 0) (pa_cons (pe_bltn (v := .ty "tuple") rfl W.f_tuple PyProof.Rows.boot_tuple rfl) pa_nil))))) (pw_or1 (pt_cmpR op_ne (pe_callB call_len rfl W.f_len PySem.boot_len (pa_cons (pv 0) pa_nil)) (pe_callB call_len rfl W.f_len PySem.boot_len (pa_cons (pv 1) pa_nil)) (nomark _))))) (pss_one (ps_ret pe_bl)) pss_nil)
      (pss_one (ps_ret (pe_callB (cr_all rfl) rfl W.f_all PyProof.Rows.boot_all (pa_cons (pe_lc (own := [("_law_k", 2)]) (g := gName 2) rfl sc_l_same.nd (pi_range1 rfl W.f_range (pa_cons (pe_callB call_len rfl W.f_len PySem.boot_len (pa_cons (pv 1) pa_nil)) pa_nil)) (blkOk_by (own := [("_law_k", 2)]) (N := N_l_same) (sc := defScope s_l_same) (by decide +kernel)) (fun _ _ _ _ _ => (pg_name (i := 2) sc_l_same.nd rfl (Or.inl rfl))) (fun _ _ _ _ _ => pts_nil) (fun _ _ _ _ _ => (pe_callH h_l_same W.g_l_same (hr.mono (by omega)) rfl (pa_cons (pe_ix (ix_tupK (K := K) rfl) (pv 0) (pv 2) (fun _ _ => rfl)) (pa_cons (pe_ix (ix_tupK (K := K) rfl) (pv 1) (pv 2) (fun _ _ => rfl)) pa_nil))))) pa_nil))))) pss_nil)
      (pss_cons (ps_if (pt_val (pe_callB call_isi rfl W.f_isinstance PyProof.Rows.boot_isinstance (pa_cons (pv 1) (pa_cons (pe_bltn (v := .ty "list") rfl W.f_list PyProof.Rows.boot_list rfl) pa_nil)))) pss_never pss_nil)
      (pss_cons (ps_if (pt_cmpR op_isN1 (pv 1) pe_non (nomark _)) (pss_one (ps_ret (pe_cmpR op_isN1 (pv 0) pe_non (nomark _)))) pss_nil)
      (pss_cons (ps_if (pt_val (pe_callB call_isi rfl W.f_isinstance PyProof.Rows.boot_isinstance (pa_cons (pv 1) (pa_cons (pe_bltn (v := .ty "bool") rfl W.f_bool PyProof.Rows.boot_bool rfl) pa_nil)))) (pss_one (ps_ret (pe_and (pe_callB call_isi rfl W.f_isinstance PyProof.Rows.boot_isinstance (pa_cons (pv 0) (pa_cons (pe_bltn (v := .ty "bool") rfl W.f_bool PyProof.Rows.boot_bool rfl) pa_nil))) (pe_one (pe_cmpR op_eq (pv 0) (pv 1) (nomark _)))))) pss_nil)
      (pss_cons (ps_if (pt_val (pe_callB call_isi rfl W.f_isinstance PyProof.Rows.boot_isinstance (pa_cons (pv 1) (pa_cons (pe_bltn (v := .ty "str") rfl W.f_str PyProof.Rows.boot_str rfl) pa_nil)))) (pss_one (ps_ret (pe_and (pe_callB call_isi rfl W.f_isinstance PyProof.Rows.boot_isinstance (pa_cons (pv 0) (pa_cons (pe_bltn (v := .ty "str") rfl W.f_str PyProof.Rows.boot_str rfl) pa_nil))) (pe_one (pe_cmpR op_eq (pv 0) (pv 1) (nomark _)))))) pss_nil)
      (pss_one (ps_ret (pe_and (pe_callH h_l_is_integer W.g_l_is_integer (hr.mono (by omega)) rfl (pa_cons (pv 0) pa_nil)) (pe_one (pe_cmpR op_eq (pv 0) (pv 1) (nomark _))))))))))), ?_⟩
  rcases he.cases with ⟨i, rfl, rfl⟩ | ⟨z, rfl, rfl⟩ | ⟨d', hd, p, r, xs, ys, rfl, rfl, h1, h2, h3, h4, h5⟩
  · refine ⟨_, rfl, _, _, _, _, _, rfl, .ty _, .base (.int _), kit_ty (a := "int") (b := "tuple") (r := false) (by decide +kernel), _, rfl, iteF ?_⟩
    refine ⟨_, rfl, _, _, _, _, _, rfl, .ty _, .base (.int _), kit_ty (a := "int") (b := "list") (r := false) (by decide +kernel), _, rfl, iteF ?_⟩
    refine ⟨_, rfl, rfl, _, rfl, iteF' rfl ?_⟩
    refine ⟨_, rfl, _, _, _, _, _, rfl, .ty _, .base (.int _), kit_ty (a := "int") (b := "bool") (r := false) (by decide +kernel), _, rfl, iteF ?_⟩
    refine ⟨_, rfl, _, _, _, _, _, rfl, .ty _, .base (.int _), kit_ty (a := "int") (b := "str") (r := false) (by decide +kernel), _, rfl, iteF ?_⟩
    refine ⟨_, rfl, i, rfl, _, rfl, iteT ⟨_, rfl, _, rfl, rfl, ?_⟩⟩
    rw [decide_eq_true rfl]
    exact q H (Same.refl _)
  · refine ⟨_, rfl, _, _, _, _, _, rfl, .ty _, .base (.str _), kit_ty (a := "str") (b := "tuple") (r := false) (by decide +kernel), _, rfl, iteF ?_⟩
    refine ⟨_, rfl, _, _, _, _, _, rfl, .ty _, .base (.str _), kit_ty (a := "str") (b := "list") (r := false) (by decide +kernel), _, rfl, iteF ?_⟩
    refine ⟨_, rfl, rfl, _, rfl, iteF' rfl ?_⟩
    refine ⟨_, rfl, _, _, _, _, _, rfl, .ty _, .base (.str _), kit_ty (a := "str") (b := "bool") (r := false) (by decide +kernel), _, rfl, iteF ?_⟩
    refine ⟨_, rfl, _, _, _, _, _, rfl, .ty _, .base (.str _), kit_ty (a := "str") (b := "str") (r := true) (by decide +kernel), _, rfl, iteT ?_⟩
    refine ⟨_, rfl, _, _, _, _, _, rfl, .ty _, .base (.str _), kit_ty (a := "str") (b := "str") (r := true) (by decide +kernel), _, rfl, iteT ⟨_, rfl, _, rfl, rfl, ?_⟩⟩
    rw [decide_eq_true rfl]
    exact q H (Same.refl _)
  · refine ⟨_, rfl, _, _, _, _, _, rfl, .ty _, ty_tup h2, kit_ty (a := "tuple") (b := "tuple") (r := true) (by decide +kernel), _, rfl, iteT ?_⟩
    refine ⟨_, rfl, _, _, _, _, _, rfl, .ty _, ty_tup h1, kit_ty (a := "tuple") (b := "tuple") (r := true) (by decide +kernel), _, rfl, iteF' rfl ?_⟩
    refine ⟨_, rfl, .ref p, xs.length, rfl, .inr ⟨xs, .inl h1, rfl⟩, _, rfl, .ref r, ys.length, rfl, .inr ⟨ys, .inl h2, rfl⟩, rfl, _, rfl, iteF' (by rw [h3]; simp) ?_⟩
    refine ⟨_, rfl, .ref r, ys.length, rfl, .inr ⟨ys, .inl h2, rfl⟩, _, rfl, by omega, by omega, fun D nD => ?_⟩
    rw [Int.toNat_natCast]
    refine lc_range (fun i H' => Same H H' ∧ i ≤ ys.length ∧ H' D = some (.lst ((List.replicate i true).map V.bl))) ⟨Same.new nD, Nat.zero_le _, upd_same⟩ ?_ ?_
    · rintro i H1 hi ⟨s1, _, hD⟩
      refine ⟨rfl, yes_of ?_⟩
      rw [Int.zero_add]
      obtain ⟨x, ex⟩ : ∃ x, xs[i]? = some x := ⟨_, List.getElem?_eq_getElem (by omega)⟩
      obtain ⟨y, ey⟩ : ∃ y, ys[i]? = some y := ⟨_, List.getElem?_eq_getElem hi⟩
      have h1' : SqT K H1 p xs := s1.tup (.inl h1)
      have h2' : SqT K H1 r ys := s1.tup (.inl h2)
      refine ⟨_, rfl, _, rfl, p, xs, _, x, rfl, rfl, h1', atI_nat ex, _, rfl, _, rfl, r, ys, _, y, rfl, rfl, h2', atI_nat ey, hX d' hd _ _ _ _ ⟨x, y, rfl, (h5 i x y ex ey).same s1, fun H2 s2 => ?_⟩⟩
      refine ⟨_, s2 _ _ hD, big_lt (by rw [List.length_map, List.length_replicate]; omega), (s1.trans s2).mut nD, hi, ?_⟩
      rw [upd_same, List.replicate_succ', List.map_append]
      rfl
    · rintro H1 ⟨s1, _, hD⟩
      refine ⟨D, _, rfl, SqL.of hD, ?_⟩
      rw [all_true]
      exact q H1 s1
theorem ok_l_same (W : Wd K mg) : ∀ d, Has P w K mg base (d + 2) (He.ga K "_law_same") ["_law_actual", "_law_due"] [] (sp_l_same d)
  | 0 => l_same_body W (j := 1) (d := 0) (Nat.le_refl _) (Has.no (d := d_l_same) (W.says.def_ 43) (fun _ _ _ _ _ _ us hl => match us, hl with | [_, _], _ => rfl)) fun d' h => by omega
  | d + 1 => l_same_body W (j := d + 2) (d := d + 1) (by omega) (ok_l_same W d) fun d' h vs H Q E ⟨a, b, e, h1, h2⟩ => ⟨a, b, e, h1.up (by omega), h2⟩

end
end Sy

/-! part: M2 -/
set_option Elab.async false
set_option linter.all false
set_option maxRecDepth 100000
set_option maxHeartbeats 4000000
namespace Sy
open PySem PySem.Spec PyProof.Rows L2
section
variable {P : Program} {w : World} {K : PySem.W.Frag} {mg : Str → Option Value} {base : Heap}
/-! ### sizes -/
theorem sum_le {α : Type} {f : α → Nat} {k : Nat} : ∀ {l : List α}, (∀ x ∈ l, f x ≤ k) → (l.map f).sum ≤ l.length * k
  | [], _ => by simp
  | x :: l, h => by
    have h1 := h x (List.mem_cons_self ..)
    have h2 := sum_le (l := l) (f := f) (k := k) fun y hy => h y (List.mem_cons_of_mem _ hy)
    rw [List.map_cons, List.sum_cons, List.length_cons, Nat.add_mul]
    omega
theorem ways_step {R : Rs} (ok : R.Ok) {n X : Nat} (hX : 1 ≤ X) (h : ∀ p ∈ R.parts n, wy (ways R) p ≤ X) : ways R n ≤ 32 * X := by
  rw [ways_eq ok]
  unfold wayStep
  have h1 := words_len R n
  have h2 := ok.sz
  have h3 := sum_le (l := R.parts n) (f := wy (ways R)) (k := X) h
  have h4 : (R.parts n).length * X ≤ 6 * X := Nat.mul_le_mul_right _ (Nat.le_trans (partsL_len _ _ _) ok.mz)
  omega
theorem one_pow (k : Nat) : 1 ≤ 2 ^ k := Nat.one_le_two_pow
theorem wy_le {R : Rs} {p : Part Str} {x y : Nat} (hx : ways R p.c ≤ x) (hx1 : 1 ≤ x) (hy : ways R p.r ≤ y) (hy1 : 1 ≤ y) : wy (ways R) p ≤ x * y := by
  unfold wy
  refine Nat.mul_le_mul ?_ ?_ <;> split <;> assumption
theorem ways_small {R : Rs} (ok : R.Ok) (n : Nat) : ways R n ≤ 2 ^ (5 * n) := by
  induction n using Nat.strongRecOn with
  | ind n ih =>
    rcases Nat.eq_zero_or_pos n with e | e
    · subst e
      have : ¬ 0 < ways R 0 := fun h => by
        have := (ways_pos ok 0).mp h
        rw [phr_zero ok] at this
        cases this
      omega
    · have h := ways_step ok (n := n) (X := 2 ^ (5 * (n - 1))) (one_pow _) fun p hp => by
        obtain ⟨h1, h2, h3, h4⟩ := parts_lt ok hp
        have := wy_le (ih _ h2) (one_pow _) (ih _ h3) (one_pow _)
        refine Nat.le_trans this ?_
        rw [← Nat.pow_add]
        exact Nat.pow_le_pow_right (by decide) (by omega)
      have e2 : 2 ^ (5 * n) = 32 * 2 ^ (5 * (n - 1)) := by
        rw [show 5 * n = 5 * (n - 1) + 5 by omega, Nat.pow_add, Nat.mul_comm]
      rw [e2]
      exact h
theorem part_rest {R : Rs} (ok : R.Ok) {n : Nat} {p : Part Str} (hp : p ∈ R.parts n) : p.r < 1000 := by
  obtain ⟨_, _, e, _⟩ := parts_mem hp
  have h1 := ok.ml _ (parts_in hp)
  have h2 := ok.mv _ (parts_in hp)
  have := Nat.mod_lt n (show 0 < p.m.value by omega)
  omega
theorem part_half {R : Rs} (ok : R.Ok) {n : Nat} {p : Part Str} (hp : p ∈ R.parts n) : p.c * 2 ≤ n := by
  obtain ⟨_, e, _, _⟩ := parts_mem hp
  have h2 := ok.mv _ (parts_in hp)
  have h1 := Nat.div_mul_le_self n p.m.value
  have h3 : n / p.m.value * 2 ≤ n / p.m.value * p.m.value := Nat.mul_le_mul_left _ h2
  rw [e]
  omega
theorem ways_big {R : Rs} (ok : R.Ok) : ∀ (j n : Nat), n < 2 ^ j → ways R n ≤ 2 ^ (5005 * j)
  | 0, n, h => by
    have : n = 0 := by simpa using h
    subst this
    exact Nat.le_trans (ways_small ok 0) (Nat.pow_le_pow_right (by decide) (by omega))
  | j + 1, n, h => by
    have h9 := ways_step ok (n := n) (X := 2 ^ (5005 * j) * 2 ^ 5000) (Nat.mul_pos (one_pow _) (one_pow _)) fun p hp => by
      have h1 := part_half ok hp
      have h2 := part_rest ok hp
      rw [Nat.pow_succ] at h
      have h3 := ways_big ok j p.c (by omega)
      have h4 : ways R p.r ≤ 2 ^ 5000 := Nat.le_trans (ways_small ok p.r) (Nat.pow_le_pow_right (by decide) (by omega))
      exact wy_le h3 (one_pow _) h4 (one_pow _)
    refine Nat.le_trans h9 ?_
    rw [show 32 = 2 ^ 5 from rfl, ← Nat.pow_add, ← Nat.pow_add]
    exact Nat.pow_le_pow_right (by decide) (by omega)
theorem wb_of {R : Rs} (ok : R.Ok) {n : Nat} (h : n < 2 ^ 139) : WB R n := fun p hp => by
  have h1 := part_half ok hp
  have h2 := part_rest ok hp
  have e : (2 : Nat) ^ 139 = 2 * 2 ^ 138 := by decide
  refine ⟨Nat.lt_of_le_of_lt (ways_big ok 138 p.c (by omega)) (Nat.pow_lt_pow_right (by decide) (by decide)), Nat.lt_of_le_of_lt (ways_small ok p.r) (Nat.pow_lt_pow_right (by decide) (by omega))⟩
theorem phr_len2 {R : Rs} (ok : R.Ok) : ∀ (j n : Nat) (l : List Str), n < 2 ^ j → phr R n = some l → l.length ≤ 1000 * j + 1
  | 0, n, l, h, e => by
    have : n = 0 := by simpa using h
    subst this
    rw [phr_zero ok] at e
    cases e
  | j + 1, n, l, h, e => by
    rw [phr_eq ok] at e
    unfold step at e
    cases hw : R.wordsOf n with
    | cons w ws =>
      rw [hw] at e
      injection e with e
      subst e
      show 1 ≤ _
      omega
    | nil =>
      rw [hw] at e
      obtain ⟨p, hp, e⟩ := List.exists_of_findSome?_eq_some e
      have h1 := part_half ok hp
      have h2 := part_rest ok hp
      rw [Nat.pow_succ] at h
      rw [cmb_cat2] at e
      have ha : ∀ x, (if p.m.un p.c = true then some [] else phr R p.c) = some x → x.length ≤ 1000 * j + 1 := fun x hx => by
        split at hx
        · injection hx with hx; subst hx; exact Nat.zero_le _
        · exact phr_len2 ok j p.c x (by omega) hx
      have hb : ∀ x, (if p.r = 0 then some [] else phr R p.r) = some x → x.length ≤ 999 := fun x hx => by
        split at hx
        · injection hx with hx; subst hx; exact Nat.zero_le _
        · exact Nat.le_trans (phr_len ok p.r x hx) (by omega)
      revert e ha hb
      generalize (if p.m.un p.c = true then some [] else phr R p.c) = oa
      generalize (if p.r = 0 then some [] else phr R p.r) = ob
      intro e ha hb
      cases oa with
      | none => cases e
      | some x =>
        cases ob with
        | none => cases e
        | some y =>
          injection e with e
          subst e
          have := ha x rfl
          have := hb y rfl
          rw [List.length_append, List.length_cons]
          omega
theorem pb_of {R : Rs} (ok : R.Ok) {n : Nat} (h : n < 2 ^ 139) : PB R n := by
  unfold PB
  cases e : phr R n with
  | none => exact Nat.zero_le _
  | some l => exact Nat.le_trans (phr_len2 ok 139 n l h e) (by decide)
/-! ### the numbers that can stand in derivations -/
def chn (V n : Nat) : List Nat := (List.range 140).map fun i => n / V ^ i
def Lc (V : Nat) (ns : List Nat) : List Nat := List.range 2001 ++ ns.flatMap (chn V)
theorem Lc_small {V n : Nat} {ns : List Nat} (h : n ≤ 2000) : n ∈ Lc V ns := List.mem_append.mpr (.inl (List.mem_range.mpr (by omega)))
theorem Lc_self {V n : Nat} {ns : List Nat} (h : n ∈ ns) : n ∈ Lc V ns := by
  refine List.mem_append.mpr (.inr (List.mem_flatMap.mpr ⟨n, h, List.mem_map.mpr ⟨0, List.mem_range.mpr (by decide), ?_⟩⟩))
  rw [Nat.pow_zero, Nat.div_one]
theorem Lc_mono {V : Nat} {ns ms : List Nat} (h : ∀ n ∈ ns, n ∈ ms) {a : Nat} (q : a ∈ Lc V ns) : a ∈ Lc V ms := by
  rcases List.mem_append.mp q with q | q
  · exact List.mem_append.mpr (.inl q)
  · obtain ⟨n, hn, q⟩ := List.mem_flatMap.mp q
    exact List.mem_append.mpr (.inr (List.mem_flatMap.mpr ⟨n, h n hn, q⟩))
theorem chn_len (V : Nat) : ∀ ns : List Nat, (ns.flatMap (chn V)).length = 140 * ns.length
  | [] => rfl
  | n :: ns => by
    rw [List.flatMap_cons, List.length_append, chn_len V ns]
    show (chn V n).length + _ = _
    unfold chn
    rw [List.length_map, List.length_range, List.length_cons]
    omega
theorem Lc_len {V : Nat} {ns : List Nat} (h : ns.length ≤ 20) : (Lc V ns).length ≤ 5000 := by
  unfold Lc
  rw [List.length_append, List.length_range, chn_len]
  omega
theorem Lc_lt {V : Nat} {ns : List Nat} (h : ∀ n ∈ ns, n < 2 ^ 139) : ∀ a ∈ Lc V ns, a < 2 ^ 139 := fun a ha => by
  rcases List.mem_append.mp ha with q | q
  · have := List.mem_range.mp q
    exact Nat.lt_of_lt_of_le this (by decide)
  · obtain ⟨n, hn, q⟩ := List.mem_flatMap.mp q
    obtain ⟨i, _, rfl⟩ := List.mem_map.mp q
    exact Nat.lt_of_le_of_lt (Nat.div_le_self _ _) (h n hn)
theorem Lc_cl {R : Rs} (ok : R.Ok) {out : M} (hB : IsB R 2000) (hO : IsOut R out) {ns : List Nat} (h : ∀ n ∈ ns, n < 2 ^ 139) : ∀ a ∈ Lc out.value ns, ∀ b ∈ below R a, b ∈ Lc out.value ns := fun a ha b hb => by
  have hlt := below_lt ok hb
  by_cases ha2 : a ≤ 2000
  · exact Lc_small (by omega)
  · rcases List.mem_append.mp ha with q | q
    · have := List.mem_range.mp q; omega
    · obtain ⟨n, hn, q⟩ := List.mem_flatMap.mp q
      obtain ⟨i, hi, rfl⟩ := List.mem_map.mp q
      obtain ⟨p, hp, hbp⟩ := List.mem_flatMap.mp hb
      have hno := big_none hB (show 2000 < n / out.value ^ i by omega) hp
      obtain ⟨j, ej, uj⟩ := hO.at_
      obtain ⟨e1, e2, e3, _⟩ := parts_mem hp
      have hj := uj _ _ e1 hno
      rw [hj, ej] at e1
      injection e1 with e1
      have hmv := ok.mv _ hO.mem
      have hr := part_rest ok hp
      unfold belowP at hbp
      rcases List.mem_append.mp hbp with z | z
      · split at z
        · simp at z
        · obtain rfl : b = p.c := by simpa using z
          rw [e2, ← e1, Nat.div_div_eq_div_mul, ← Nat.pow_succ]
          have hi' := List.mem_range.mp hi
          by_cases hi2 : i + 1 < 140
          · exact List.mem_append.mpr (.inr (List.mem_flatMap.mpr ⟨n, hn, List.mem_map.mpr ⟨i + 1, List.mem_range.mpr hi2, rfl⟩⟩))
          · exfalso
            have hi3 : i = 139 := by omega
            have h1 : 2 ^ 139 ≤ out.value ^ 139 := Nat.pow_le_pow_left hmv 139
            have h2 := h n hn
            have h3 : n / out.value ^ 139 = 0 := Nat.div_eq_of_lt (by omega)
            rw [hi3, h3] at ha2
            omega
      · split at z
        · simp at z
        · obtain rfl : b = p.r := by simpa using z
          exact Lc_small (by omega)
theorem KpAt.mono {H : Hp} {kd : Addr} {R : Rs} {L L' : List Nat} {kvs : List (Key × V)} (h : KpAt H kd R L kvs) (s : ∀ a ∈ L, a ∈ L') : KpAt H kd R L' kvs := by
  obtain ⟨h1, ⟨ks, h2, h3, h4⟩, h5⟩ := h
  exact ⟨h1, ⟨ks, h2, h3, fun k hk => s k (h4 k hk)⟩, h5⟩

end
end Sy

/-! part: M3 -/
set_option Elab.async false
set_option linter.all false
set_option maxRecDepth 100000
set_option maxHeartbeats 4000000
namespace Sy
open PySem PySem.Spec PyProof.Rows L2
section
variable {P : Program} {w : World} {K : PySem.W.Frag} {mg : Str → Option Value} {base : Heap}
def restsL (R : Rs) (m : Nat) : List Nat := ((List.range m).map fun i => i + 1).filter fun r => (phr R r).isSome
theorem rests_snoc (R : Rs) (m : Nat) : restsL R (m + 1) = restsL R m ++ (if (phr R (m + 1)).isSome = true then [m + 1] else []) := by
  unfold restsL
  rw [List.range_succ, List.map_append, List.filter_append]
  congr 1
  by_cases h : (phr R (m + 1)).isSome = true
  · rw [if_pos h]
    simp [h]
  · rw [if_neg h]
    simp [h]
theorem told_some (R : Rs) (wd : Option Str) (n : Nat) : (told R wd n).isSome = (phr R n).isSome := by
  unfold told
  cases phr R n <;> rfl
theorem rests_len (R : Rs) (wd : Option Str) : ∀ m, (restsL R m).length = (sums (told R wd) m).1
  | 0 => rfl
  | m + 1 => by
    rw [rests_snoc, List.length_append, rests_len R wd m]
    have e := told_some R wd (m + 1)
    cases h : told R wd (m + 1) with
    | none =>
      rw [h] at e
      rw [sums_none h, if_neg (by rw [← e]; exact Bool.false_ne_true)]
      rfl
    | some k =>
      rw [h] at e
      rw [sums_some h, if_pos (by rw [← e]; rfl)]
      rfl
theorem rests_le (R : Rs) : ∀ m, ∀ r ∈ restsL R m, 1 ≤ r ∧ r ≤ m ∧ (phr R r).isSome = true := fun m r hr => by
  unfold restsL at hr
  obtain ⟨h1, h2⟩ := List.mem_filter.mp hr
  obtain ⟨i, hi, rfl⟩ := List.mem_map.mp h1
  have := List.mem_range.mp hi
  exact ⟨by omega, by omega, h2⟩
theorem period_law {R : Rs} (ok : R.Ok) (wd : Option Str) {B C : Nat} {out : M} (hb : IsB R B) (ho : IsOut R out) (hC : B < C * out.value) :
    (sums (told R wd) (C * out.value + out.value - 1)).2 - (sums (told R wd) (C * out.value - 1)).2 = match aheadT (told R wd) out C with
      | none => 0
      | some a => (a + wt1 wd out.word) * ((restsL R out.rest).length + 1) + (sums (told R wd) out.rest).2 := by
  have hv := ok.mv _ ho.mem
  have hr := ok.mr _ ho.mem
  have p := per ok wd hb ho hC (out.value - 1) (by omega)
  rw [show C * out.value + (out.value - 1) = C * out.value + out.value - 1 by omega, Nat.min_eq_right (by omega)] at p
  rw [p, rests_len R wd]
  cases aheadT (told R wd) out C with
  | none => exact Nat.sub_self _
  | some a => exact Nat.add_sub_cancel_left ..
/-- the first of the greatest, among the numbers from 1 to i -/
def bs (t : Nat → Option Nat) (last : Nat) : Nat → Nat × Nat
  | 0 => (0, 0)
  | i + 1 => match (if i + 1 ≤ last then t (i + 1) else none) with
    | none => bs t last i
    | some z => if (bs t last i).2 < z then (i + 1, z) else bs t last i
theorem bs_none {t : Nat → Option Nat} {last i : Nat} (h : (if i + 1 ≤ last then t (i + 1) else none) = none) : bs t last (i + 1) = bs t last i := by rw [bs, h]
theorem bs_some {t : Nat → Option Nat} {last i z : Nat} (h : (if i + 1 ≤ last then t (i + 1) else none) = some z) : bs t last (i + 1) = if (bs t last i).2 < z then (i + 1, z) else bs t last i := by rw [bs, h]
theorem bs_le (t : Nat → Option Nat) (last : Nat) : ∀ i, (bs t last i).1 ≤ i
  | 0 => Nat.le_refl _
  | i + 1 => by
    have ih := bs_le t last i
    cases e : (if i + 1 ≤ last then t (i + 1) else none) with
    | none => rw [bs_none e]; omega
    | some z =>
      rw [bs_some e]
      split
      · exact Nat.le_refl _
      · omega
theorem bs_over (t : Nat → Option Nat) (last : Nat) : ∀ d, bs t last (last + d) = bs t last last
  | 0 => rfl
  | d + 1 => by
    rw [show last + (d + 1) = last + d + 1 from rfl, bs_none (if_neg (by omega))]
    exact bs_over t last d
theorem bs_min {t : Nat → Option Nat} {last V : Nat} (h : last < V) : bs t last (min 39 (V - 1)) = bs t last (min 39 last) := by
  rcases Nat.lt_or_ge last 39 with h1 | h1
  · rw [Nat.min_eq_right (show last ≤ 39 by omega)]
    obtain ⟨d, hd⟩ := Nat.le.dest (show last ≤ min 39 (V - 1) by omega)
    rw [← hd, bs_over]
  · rw [Nat.min_eq_left h1, Nat.min_eq_left (show 39 ≤ V - 1 by omega)]
/-- the law's own search -/
def bstep (R : Rs) (s : Nat × Nat) (r : Nat) : Nat × Nat := if r < 40 ∧ s.2 < ((phr R r).getD []).length then (r, ((phr R r).getD []).length) else s
theorem told_len {R : Rs} {n : Nat} {l : List Str} (h : phr R n = some l) : told R none n = some l.length := by
  unfold told
  rw [h, Option.map_some, wt_none]
theorem fold_bs (R : Rs) (last : Nat) : ∀ m, m ≤ last → (restsL R m).foldl (bstep R) (0, 0) = bs (told R none) last (min 39 m)
  | 0, _ => rfl
  | m + 1, h => by
    have ih := fold_bs R last m (by omega)
    rw [rests_snoc, List.foldl_append, ih]
    cases e : phr R (m + 1) with
    | none =>
      rw [if_neg (by simp)]
      have et : told R none (m + 1) = none := by unfold told; rw [e]; rfl
      show bs (told R none) last (min 39 m) = _
      rcases Nat.lt_or_ge m 39 with h1 | h1
      · rw [Nat.min_eq_right (show m ≤ 39 by omega), Nat.min_eq_right (show m + 1 ≤ 39 by omega), bs_none (by rw [if_pos h, et])]
      · rw [Nat.min_eq_left h1, Nat.min_eq_left (show 39 ≤ m + 1 by omega)]
    | some l =>
      rw [if_pos (show (some l).isSome = true from rfl)]
      show bstep R (bs (told R none) last (min 39 m)) (m + 1) = _
      unfold bstep
      rw [e]
      rcases Nat.lt_or_ge m 39 with h1 | h1
      · rw [Nat.min_eq_right (show m ≤ 39 by omega), Nat.min_eq_right (show m + 1 ≤ 39 by omega), bs_some (z := l.length) (by rw [if_pos h, told_len e])]
        show (if m + 1 < 40 ∧ (bs (told R none) last m).2 < l.length then (m + 1, l.length) else bs (told R none) last m) = _
        by_cases h2 : (bs (told R none) last m).2 < l.length
        · rw [if_pos ⟨by omega, h2⟩, if_pos h2]
        · rw [if_neg fun z => h2 z.2, if_neg h2]
      · rw [if_neg fun z => by omega, Nat.min_eq_left h1, Nat.min_eq_left (show 39 ≤ m + 1 by omega)]
theorem longest_law {R : Rs} (ok : R.Ok) {B C a : Nat} {out : M} (hb : IsB R B) (ho : IsOut R out) (hC : B < C * out.value) (ha : aheadT (told R none) out C = some a) : ∀ i, i < out.value →
    bestOf (told R none) (C * out.value) (i + 1) = (C * out.value + (bs (told R none) out.rest i).1, a + 1 + (bs (told R none) out.rest i).2)
  | 0, h => by
    have q := big_at ok none (r := 0) hb ho hC h
    rw [if_pos (Nat.zero_le _), ha] at q
    have q' : told R none (C * out.value + 0) = some (a + 1 + 0) := q
    rw [bestOf_some q']
    show (if 0 < a + 1 + 0 then _ else _) = _
    rw [if_pos (by omega)]
    rfl
  | i + 1, h => by
    have ih := longest_law ok hb ho hC ha i (by omega)
    have q := big_at ok none (r := i + 1) hb ho hC h
    by_cases hr : i + 1 ≤ out.rest
    · rw [if_pos hr, ha, show behindT (told R none) (i + 1) = told R none (i + 1) from if_neg (by omega)] at q
      cases et : told R none (i + 1) with
      | none =>
        rw [et] at q
        rw [bestOf_none q, ih, bs_none (by rw [if_pos hr, et])]
      | some z =>
        rw [et] at q
        have q' : told R none (C * out.value + (i + 1)) = some (a + 1 + z) := q
        rw [bestOf_some q', ih, bs_some (z := z) (by rw [if_pos hr, et])]
        by_cases h2 : (bs (told R none) out.rest i).2 < z
        · rw [if_pos (by show a + 1 + _ < _; omega), if_pos h2]
        · rw [if_neg (by show ¬ a + 1 + _ < _; omega), if_neg h2]
    · rw [if_neg hr] at q
      rw [bestOf_none q, ih, bs_none (if_neg hr)]

end
end Sy

/-! part: L14 -/
set_option Elab.async false
set_option linter.all false
set_option maxRecDepth 100000
set_option maxHeartbeats 4000000
namespace Sy
open PySem PySem.Spec PyProof.Rows L2
section
variable {P : Program} {w : World} {K : PySem.W.Frag} {mg : Str → Option Value} {base : Heap}
/-! ### the state of the law's pool and of what it knows -/
theorem PhO.butL {H H' : Hp} {p : Addr} {l : List V} (b : But [p] H H') (hp : H p = some (.lst l)) {o : Option (List Str)} {v : V} (h : PhO H o v) : PhO H' o v := by
  rcases h with h | ⟨t, l, h1, h2, oo, h3, h4⟩
  · exact .inl h
  · exact .inr ⟨t, l, h1, h2, oo, h3, b _ _ h4 (by simpa using (ne_of h4 hp (by intro z; cases z)))⟩
theorem KpAt.butL {H H' : Hp} {p kd : Addr} {l : List V} {R : Rs} {L : List Nat} {kvs : List (Key × V)} (h : KpAt H kd R L kvs) (b : But [p] H H') (hp : H p = some (.lst l)) : KpAt H' kd R L kvs :=
  ⟨b _ _ h.at_ (by simpa using (ne_of h.at_ hp (by intro z; cases z))), h.ks, fun n v hv => (h.val n v hv).butL b hp⟩
theorem PoolAt.butD {H H' : Hp} {p L kd : Addr} {cs : List Nat} {kvs : List (Key × V)} (h : PoolAt H p L cs) (b : But [kd] H H') (hk : H kd = some (.dK kvs)) : PoolAt H' p L cs := by
  obtain ⟨⟨i, d, s, e, hs⟩, hL, hne⟩ := h
  exact ⟨⟨i, d, s, b _ _ e (by simpa using (ne_of e hk (by intro z; cases z))), hs⟩, b _ _ hL (by simpa using (ne_of hL hk (by intro z; cases z))), hne⟩
structure Sts (G H : Hp) (p L : Addr) (cs : List Nat) (kd : Addr) (R : Rs) (Lx : List Nat) (kvs : List (Key × V)) : Prop where
  same : Same G H
  P : PoolAt H p L cs
  kp : KpAt H kd R Lx kvs
section
variable {G H H' : Hp} {p L kd : Addr} {cs : List Nat} {R : Rs} {Lx Ly : List Nat} {kvs kvs' : List (Key × V)}
theorem Sts.pool (h : Sts G H p L cs kd R Lx kvs) (gp : G p = none) (b : But [p] H H') (P' : PoolAt H' p L cs) : Sts G H' p L cs kd R Lx kvs := by
  obtain ⟨l, e⟩ := h.P.lst
  exact ⟨b.base h.same (by simpa using gp), P', h.kp.butL b e⟩
theorem Sts.kn (h : Sts G H p L cs kd R Lx kvs) (gk : G kd = none) (b : But [kd] H H') (k : KpAt H' kd R Ly kvs') : Sts G H' p L cs kd R Ly kvs' := ⟨b.base h.same (by simpa using gk), h.P.butD b h.kp.at_, k⟩
theorem Sts.ext (h : Sts G H p L cs kd R Lx kvs) (s : Same H H') : Sts G H' p L cs kd R Lx kvs := ⟨h.same.trans s, h.P.same s, h.kp.same s⟩
theorem Sts.mono (h : Sts G H p L cs kd R Lx kvs) (s : ∀ a ∈ Lx, a ∈ Ly) : Sts G H p L cs kd R Ly kvs := ⟨h.same, h.P, h.kp.mono s⟩
theorem Sts.put {D : Addr} {l : List V} {o : HO} (h : Sts G H p L cs kd R Lx kvs) (hD : H D = some (.lst l)) (gD : G D = none) (n1 : D ≠ p) (n2 : D ≠ L) : Sts G (upd H D o) p L cs kd R Lx kvs :=
  ⟨h.same.mut gD, h.P.put n1 n2, h.kp.butL ((But.refl _ _).upd (.inl (by simp))) hD⟩
theorem Sts.fst {K : PySem.W.Frag} {rd s m : Addr} {out : M} {ns : List Nat} (h : Sts G H p L cs kd R (Lc out.value ns) kvs) (gk : G kd = none) (hR : RowsAt K G rd s m R) (ok : R.Ok) (hB : IsB R 2000) (hO : IsOut R out) (hns : ∀ n ∈ ns, n < 2 ^ 139) (hl : ns.length ≤ 20) : Fst K G H rd s m kd R (Lc out.value ns) kvs :=
  ⟨h.same, gk, hR, ok, h.kp, Lc_cl ok hB hO hns, Lc_len hl, fun a ha => pb_of ok (Lc_lt hns a ha)⟩
end
theorem two_but1 {p kd : Addr} {H H' : Hp} (b : But [p] H H') : But [p, kd] H H' := b.sub (by simp)
theorem two_but2 {p kd : Addr} {H H' : Hp} (b : But [kd] H H') : But [p, kd] H H' := b.sub (by simp)
theorem pw9 : (10 : Int) ^ (9 : Int).toNat = (1000000000 : Nat) := by decide
theorem pw21 : (10 : Int) ^ (21 : Int).toNat = (1000000000000000000000 : Nat) := by decide
theorem pick9 {r : Nat} (h : r < 3) : ∃ v : Nat, ([.int 3, .int 40, .int ((10 : Int) ^ (9 : Int).toNat)] : List V)[r]? = some (.int (v : Nat)) ∧ (v = 3 ∨ v = 40 ∨ v = 1000000000) := by
  match r, h with
  | 0, _ => exact ⟨3, rfl, .inl rfl⟩
  | 1, _ => exact ⟨40, rfl, .inr (.inl rfl)⟩
  | 2, _ => exact ⟨1000000000, by rw [pw9]; rfl, .inr (.inr rfl)⟩
abbrev pst (p rd y kd : Addr) (w : V) (a5 a6 a7 a8 a9 a10 a11 a12 a13 a14 a15 a16 : Option V) : L2.St := [some (.ref p), some (.ref rd), some (.ref y), some (.ref kd), some w, a5, a6, a7, a8, a9, a10, a11, a12, a13, a14, a15, a16]
def dueV (R : Rs) (wd : Option Str) (out : M) (C : Nat) : Nat := match aheadT (told R wd) out C with
  | none => 0
  | some a => (a + wt1 wd out.word) * ((restsL R out.rest).length + 1) + (sums (told R wd) out.rest).2
def sp_l_period_so (K : PySem.W.Frag) : Sp := fun vs H Q _ => ∃ (G : Hp) (p L rd s m y s' m' kd : Addr) (cs : List Nat) (R : Rs) (out : M) (ns : List Nat) (kvs : List (Key × V)) (wd : Option Str), vs = [.ref p, .ref rd, .ref y, .ref kd, optS wd] ∧ Sts G H p L cs kd R (Lc out.value ns) kvs ∧ G p = none ∧ G kd = none ∧ cs.length < sizeLine ∧ RowsAt K G rd s m R ∧ SysAt K G y R s' m' ∧ Good R ∧ IsOut R out ∧ (∀ n ∈ ns, n < 2 ^ 139) ∧ ns.length ≤ 10 ∧ (∀ z, wd = some z → z ∈ wordsL R) ∧
  ∀ H' ns' kvs', But [p, kd] H H' → Sts G H' p L cs kd R (Lc out.value ns') kvs' → (∀ n ∈ ns', n < 2 ^ 139) → ns'.length ≤ ns.length + 2 → Q (.bl true) H'
theorem ok_l_period_so (W : Wd K mg) : Has P w K mg base 142 (He.ga K "_law_period_so") ["_law_pool_here", "_law_rows", "_law_system", "_law_known", "_law_word_here"] [] (sp_l_period_so K) := by
  have h_l_take := ok_l_take (P := P) (w := w) (base := base) W
  have h_l_upto := ok_l_upto (P := P) (w := w) (base := base) W
  have h_l_outer := ok_l_outer (P := P) (w := w) (base := base) W
  have h_l_bounded := ok_l_bounded (P := P) (w := w) (base := base) W
  have h_l_said := ok_l_said (P := P) (w := w) (base := base) W
  have h_l_first := ok_l_first (P := P) (w := w) (base := base) W 139
  have h_l_counted := ok_l_counted (P := P) (w := w) (base := base) W
  have h_l_told := ok_l_told (P := P) (w := w) (base := base) W
  have h_l_same := ok_l_same (P := P) (w := w) (base := base) W 2
  have h_longest_said := ok_longest_said (P := P) (w := w) (base := base) W
  refine mkHas (d := d_l_period_so) (N := N_l_period_so) (ps := ["_law_pool_here", "_law_rows", "_law_system", "_law_known", "_law_word_here"]) (W.says.def_ 60) sc_l_period_so (fun _ _ _ _ _ _ us hl => match us, hl with | [_, _, _, _, _], _ => rfl) (fun vs H Q E h => ?_) (fun cdv A outer s0 H vs Q E hr h => ?_)
  · obtain ⟨_, _, _, _, _, _, _, _, _, _, _, _, _, _, _, _, rfl, _⟩ := h
    rfl
  obtain ⟨G, p, L, rd, s, m, y, s', m', kd, cs, R, out, ns, kvs, wd, rfl, hS, gp, gk, hlen, hR, hY, hG, hO, hns, hnl, hwd, q⟩ := h
  have ok := hG.ok
  have hB := hG.isB
  have hv := ok.mv _ hO.mem
  have hmr := ok.mr _ hO.mem
  have hv3 := (hG.mul _ hO.mem).v3
  refine ⟨_, (pss_mid (ps_set (i := 5) sc_l_period_so.nd rfl (Or.inl rfl) (pe_callH h_l_outer W.g_l_outer (hr.mono (by omega)) rfl (pa_cons (pv 1) pa_nil)))
      (pss_mid (ps_set (i := 6) sc_l_period_so.nd rfl (Or.inl rfl) (pe_op op_nadd (pe_op op_ndiv (pe_callH h_l_bounded W.g_l_bounded (hr.mono (by omega)) rfl (pa_cons (pv 1) pa_nil)) (pe_ix ix_tup (pv 5) pe_int (fun _ _ => rfl))) pe_int))
      (pss_mid (ps_set (i := 7) sc_l_period_so.nd rfl (Or.inl rfl) (pe_op op_nadd (pv 6) (pe_callH h_l_upto W.g_l_upto (hr.mono (by omega)) rfl (pa_cons (pv 0) (pa_cons (pe_ix ix_tup (pe_tup (pa_cons pe_int (pa_cons pe_int (pa_cons (pe_op op_pow pe_int pe_int) pa_nil)))) (pe_callH h_l_take W.g_l_take (hr.mono (by omega)) rfl (pa_cons (pv 0) (pa_cons pe_int pa_nil))) (fun _ _ => rfl)) pa_nil)))))
      (pss_mid (ps_if (pt_cmpR op_eq (pe_callH h_l_take W.g_l_take (hr.mono (by omega)) rfl (pa_cons (pv 0) (pa_cons pe_int pa_nil))) pe_int (nomark _)) (pss_one (ps_set (i := 7) sc_l_period_so.nd rfl (Or.inl rfl) (pe_op op_nadd (pv 7) (pe_op op_nmul (pe_callH h_l_upto W.g_l_upto (hr.mono (by omega)) rfl (pa_cons (pv 0) (pa_cons (pe_op op_pow pe_int pe_int) pa_nil))) (pe_op op_pow pe_int pe_int))))) pss_nil)
      (pss_mid (ps_set (i := 8) sc_l_period_so.nd rfl (Or.inl rfl) (pe_ifExp (PW.pt (pw_and (pt_cmpR op_eq (pv 7) pe_int (nomark _)) (pw_and1 (pt_val (pe_ix ix_tup (pv 5) pe_int (fun _ _ => rfl)))))) pe_int (pe_callH h_l_said W.g_l_said (hr.mono (by omega)) rfl (pa_cons (pv 1) (pa_cons (pv 7) (pa_cons (pv 4) (pa_cons (pv 3) pa_nil)))))))
      (pss_mid (ps_setLc (i := 9) (own := [("_law_rest", 14)]) (g := gName 14) rfl sc_l_period_so.nd rfl rfl (sw_true rfl rfl rfl (by decide +kernel)) (pi_range2 rfl W.f_range (pa_cons pe_int (pa_cons (pe_op op_nadd (pe_ix ix_tup (pv 5) pe_int (fun _ _ => rfl)) pe_int) pa_nil))) (blkOk_by (own := [("_law_rest", 14)]) (N := N_l_period_so) (sc := defScope s_l_period_so) (by decide +kernel)) (fun _ _ _ _ _ => (pg_name (i := 14) sc_l_period_so.nd rfl (Or.inl rfl))) (fun _ _ _ _ _ => (pts_one (pt_cmpR op_notN1 (pe_callH h_l_first W.g_l_first (hr.mono (by omega)) rfl (pa_cons (pv 1) (pa_cons (pv 14) (pa_cons (pv 3) pa_nil)))) pe_non (nomark _)))) (fun _ _ _ _ _ => (pv 14)))
      (pss_cons (ps_set (i := 10) sc_l_period_so.nd rfl (Or.inl rfl) pe_int)
      (pss_mid (ps_if (pt_cmpR op_notN1 (pv 8) pe_non (nomark _)) (pss_mid (ps_set (i := 16) sc_l_period_so.nd rfl (Or.inl rfl) (pe_ifExp (PW.pt (pw_or (pt_cmpR op_isN1 (pv 4) pe_non (nomark _)) (pw_or1 (pt_cmpR op_eq (pv 4) (pe_ix ix_tup (pv 5) pe_int (fun _ _ => rfl)) (nomark _))))) pe_int pe_int))
      (pss_one (ps_set (i := 10) sc_l_period_so.nd rfl (Or.inl rfl) (pe_op op_nadd (pe_op op_nmul (pe_op op_nadd (pv 8) (pv 16)) (pe_op op_nadd (pe_callB call_len rfl W.f_len PySem.boot_len (pa_cons (pv 9) pa_nil)) pe_int)) (pe_callH h_l_counted W.g_l_counted (hr.mono (by omega)) rfl (pa_cons (pv 1) (pa_cons pe_int (pa_cons (pe_ix ix_tup (pv 5) pe_int (fun _ _ => rfl)) (pa_cons (pv 4) (pa_cons (pv 3) pa_nil)))))))))) pss_nil)
      (pss_mid (ps_set (i := 11) sc_l_period_so.nd rfl (Or.inl rfl) (pe_op op_nmul (pv 7) (pe_ix ix_tup (pv 5) pe_int (fun _ _ => rfl))))
      (pss_mid (ps_if (pt_not (pt_val (pe_callH h_l_same W.g_l_same (hr.mono (by omega)) rfl (pa_cons (pe_callH h_l_told W.g_l_told (hr.mono (by omega)) rfl (pa_cons (pv 2) (pa_cons (pv 11) (pa_cons (pe_op op_nsub (pe_op op_nadd (pv 11) (pe_ix ix_tup (pv 5) pe_int (fun _ _ => rfl))) pe_int) (pa_cons (pv 4) pa_nil))))) (pa_cons (pv 10) pa_nil))))) (pss_one (ps_ret pe_bl)) pss_nil)
      (pss_cons (ps_set (i := 12) sc_l_period_so.nd rfl (Or.inl rfl) pe_int)
      (pss_cons (ps_set (i := 13) sc_l_period_so.nd rfl (Or.inl rfl) pe_int)
      (pss_mid (ps_for PassesOwn.never rfl (pi_list (pv 9)) (pg_name (i := 14) sc_l_period_so.nd rfl (Or.inl rfl)) (pss_one (ps_if (PW.pt (pw_and (pt_cmpR op_lt (pv 14) pe_int (nomark _)) (pw_and1 (pt_cmpR op_gt (pe_callB call_len rfl W.f_len PySem.boot_len (pa_cons (pe_callH h_l_first W.g_l_first (hr.mono (by omega)) rfl (pa_cons (pv 1) (pa_cons (pv 14) (pa_cons (pv 3) pa_nil)))) pa_nil)) (pv 13) (nomark _))))) (pss_cons (ps_set (i := 12) sc_l_period_so.nd rfl (Or.inl rfl) (pv 14))
      (pss_one (ps_set (i := 13) sc_l_period_so.nd rfl (Or.inl rfl) (pe_callB call_len rfl W.f_len PySem.boot_len (pa_cons (pe_callH h_l_first W.g_l_first (hr.mono (by omega)) rfl (pa_cons (pv 1) (pa_cons (pv 14) (pa_cons (pv 3) pa_nil)))) pa_nil))))) pss_nil)))
      (pss_cons (ps_if (pt_cmpR op_isN1 (pv 8) pe_non (nomark _)) (pss_one (ps_ret pe_bl)) pss_nil)
      (pss_cons (ps_set (i := 15) sc_l_period_so.nd rfl (Or.inl rfl) (pe_callH h_longest_said W.g_longest_said (hr.mono (by omega)) rfl (pa_cons (pv 2) (pa_cons (pv 11) (pa_cons (pe_op op_nadd (pv 11) (pe_callB (call_min2 rfl) rfl W.f_min PyProof.Rows.boot_min (pa_cons pe_int (pa_cons (pe_op op_nsub (pe_ix ix_tup (pv 5) pe_int (fun _ _ => rfl)) pe_int) pa_nil)))) pa_nil)))))
      (pss_one (ps_ret (pe_callH h_l_same W.g_l_same (hr.mono (by omega)) rfl (pa_cons (pv 15) (pa_cons (pe_tup (pa_cons (pe_op op_nadd (pv 11) (pv 12)) (pa_cons (pe_callH h_l_first W.g_l_first (hr.mono (by omega)) rfl (pa_cons (pv 1) (pa_cons (pe_op op_nadd (pv 11) (pv 12)) (pa_cons (pv 3) pa_nil)))) pa_nil))) pa_nil)))))))))))))))))))), ?_⟩
  -- outer
  refine ⟨fun σ H' => ∃ o, Same H H' ∧ SqT K G o (mulL out) ∧ σ = pst p rd y kd (optS wd) (some (.ref o)) none none none none none none none none none none none, ?_, ?_⟩
  · exact ⟨_, rfl, G, rd, s, m, R, out, rfl, hS.same, hR, hG.mz, hO, fun o H1 s1 ho => ⟨o, s1, ho, rfl⟩⟩
  rintro σ H1 ⟨o, s1, ho, rfl⟩
  have hS1 := hS.ext s1
  -- least
  refine ⟨fun σ H' => ∃ B le, le = B / out.value + 1 ∧ IsB R B ∧ B ≤ 2000 ∧ Same H H' ∧ σ = pst p rd y kd (optS wd) (some (.ref o)) (some (.int (le : Nat))) none none none none none none none none none none, ?_, ?_⟩
  · refine ⟨_, rfl, rd, s, m, R, 2000, rfl, hR.same hS1.same, ok, hB, fun H2 B s2 hB2 hBl => ?_⟩
    refine ⟨_, rfl, o, mulL out, _, _, rfl, rfl, (hS1.same.trans s2).tup ho, rfl, _, _, rfl, rfl, ⟨by omega, by omega⟩, _, 1, rfl, rfl, ?_⟩
    exact ⟨B, _, rfl, hB2, hBl, s1.trans s2, rfl⟩
  rintro σ H2 ⟨B, le, hle, hB2, hBl, s2, rfl⟩
  have hS2 := hS.ext s2
  have hBd : le ≤ 1001 ∧ 1 ≤ le := by
    have h1 := Nat.div_mul_le_self B out.value
    have h2 : B / out.value * 2 ≤ B / out.value * out.value := Nat.mul_le_mul_left _ hv
    generalize B / out.value = lq at hle h1 h2
    omega
  -- count
  refine ⟨fun σ H' => ∃ C, le ≤ C ∧ C ≤ 1001 + 1000000000 ∧ But [p] H H' ∧ Sts G H' p L cs kd R (Lc out.value ns) kvs ∧ ∃ a6, σ = pst p rd y kd (optS wd) (some (.ref o)) a6 (some (.int (C : Nat))) none none none none none none none none none, ?_, ?_⟩
  · refine ⟨_, rfl, _, rfl, _, _, rfl, rfl, ⟨by decide, by decide, by decide⟩, (by show 3 ≤ sizeLine; decide), fun T nT => ?_⟩
    have sT : Same H2 (upd H2 T (.tup [.int 3, .int 40, .int ((10 : Int) ^ (9 : Int).toNat)])) := Same.new nT
    have nTp : T ≠ p := by obtain ⟨l, e⟩ := hS2.P.lst; exact (no_in e nT).symm
    have hSt := hS2.ext sT
    refine ⟨_, rfl, p, L, cs, 3, rfl, hSt.P, hlen, by decide, by decide, fun r H3 b3 hP3 hr3 => ?_⟩
    obtain ⟨v, ev, hvv⟩ := pick9 hr3
    have hS3 := hSt.pool gp b3 hP3
    refine ⟨T, _, _, .int (v : Nat), rfl, rfl, SqT.of (b3.at upd_same (by simpa using nTp)), atI_nat ev, p, L, cs, v, rfl, hP3, hlen, hvv, fun r2 H4 b4 hP4 hr4 => ?_⟩
    exact ⟨_, _, rfl, rfl, le + r2, by omega, by omega, ((But.of (s2.trans sT)).trans b3).trans b4, hS3.pool gp b4 hP4, _, rfl⟩
  rintro σ H3 ⟨C1, hC1, hC2, b3, hS3, a6, rfl⟩
  -- more
  refine ⟨fun σ H' => ∃ C, le ≤ C ∧ C < 2 ^ 100 ∧ But [p] H H' ∧ Sts G H' p L cs kd R (Lc out.value ns) kvs ∧ ∃ a6, σ = pst p rd y kd (optS wd) (some (.ref o)) a6 (some (.int (C : Nat))) none none none none none none none none none, ?_, ?_⟩
  · refine ⟨_, rfl, p, L, cs, 4, rfl, hS3.P, hlen, by decide, by decide, fun r H4 b4 hP4 hr4 => ?_⟩
    have hS4 := hS3.pool gp b4 hP4
    have e100 : (2 : Nat) ^ 100 = 1267650600228229401496703205376 := by decide
    refine ⟨rfl, _, rfl, r_dec (fun e => ?_) (fun e => ⟨C1, hC1, by omega, b3.trans b4, hS4, _, rfl⟩)⟩
    refine ⟨_, rfl, _, rfl, _, _, rfl, rfl, ⟨by decide, by decide, by decide⟩, p, L, cs, 1000000000, congrArg (fun z => [V.ref p, V.int z]) pw9, hP4, hlen, .inr (.inr rfl), fun r2 H5 b5 hP5 hr5 => ?_⟩
    refine ⟨_, _, rfl, rfl, ⟨by decide, by decide, by decide⟩, r2, 1000000000000000000000, rfl, congrArg V.int pw21, .inl (by omega), _, _, rfl, rfl, ?_⟩
    exact ⟨C1 + r2 * 1000000000000000000000, by omega, by omega, (b3.trans b4).trans b5, hS4.pool gp b5 hP5, _, rfl⟩
  rintro σ H4 ⟨C, hC1, hC2, b4, hS4, a6, rfl⟩
  have hBC : B < C * out.value := by
    have h1 := Nat.lt_div_mul_add (a := B) (b := out.value) (by omega)
    have h2 : le * out.value ≤ C * out.value := Nat.mul_le_mul_right _ hC1
    rw [hle, Nat.add_mul] at h2
    omega
  have hC0 : 1 ≤ C := by omega
  have hbig : C * out.value + out.value < 2 ^ 110 := by
    have h1 : C * out.value ≤ 2 ^ 100 * 217 := Nat.mul_le_mul (by omega) hv3
    have h2 : (2 : Nat) ^ 110 = 2 ^ 100 * 1024 := by decide
    have h3 : (1000 : Nat) < 2 ^ 100 := by decide
    omega
  have p139 : (2 : Nat) ^ 110 < 2 ^ 139 := by decide
  have hC139 : C < 2 ^ 139 := by
    have : (2 : Nat) ^ 100 < 2 ^ 139 := by decide
    omega
  -- ahead
  have hns1 : ∀ n ∈ C :: ns, n < 2 ^ 139 := fun n hn => by
    rcases List.mem_cons.mp hn with rfl | h
    · exact hC139
    · exact hns n h
  have hS4' := hS4.mono (Ly := Lc out.value (C :: ns)) fun a => Lc_mono fun n h => List.mem_cons_of_mem _ h
  refine ⟨fun σ H' => ∃ kvs', But [p, kd] H H' ∧ Sts G H' p L cs kd R (Lc out.value (C :: ns)) kvs' ∧ σ = pst p rd y kd (optS wd) (some (.ref o)) a6 (some (.int (C : Nat))) (some (cntV (aheadT (told R wd) out C))) none none none none none none none none, ?_, ?_⟩
  · have call : aheadT (told R wd) out C = told R wd C → sp_l_said K ([.ref rd, .int (C : Nat), optS wd, .ref kd] ++ []) H4 (fun v H' => ∃ kvs', But [p, kd] H H' ∧ Sts G H' p L cs kd R (Lc out.value (C :: ns)) kvs' ∧ (pst p rd y kd (optS wd) (some (.ref o)) a6 (some (.int (C : Nat))) none none none none none none none none none).set 8 (some v) = pst p rd y kd (optS wd) (some (.ref o)) a6 (some (.int (C : Nat))) (some (cntV (aheadT (told R wd) out C))) none none none none none none none none) E0 := fun e =>
      ⟨G, rd, s, m, kd, R, Lc out.value (C :: ns), C, kvs, wd, rfl, hS4'.fst gk hR ok hB hO hns1 (by show ns.length + 1 ≤ 20; omega), Lc_self (List.mem_cons_self ..), hC0, hC139, fun H' kvs' b hK => ⟨kvs', (two_but1 b4).trans (two_but2 b), hS4'.kn gk b hK, by rw [e]; rfl⟩⟩
    refine ⟨_, rfl, rfl, _, rfl, r_dec (fun e => ?_) (fun e => ?_)⟩
    · have e' : C = 1 := by injection e with e; omega
      refine ⟨_, rfl, o, mulL out, _, _, rfl, rfl, hS4.same.tup ho, rfl, _, rfl, r_b (fun hu => ?_) (fun hu => ?_)⟩
      · have ea : aheadT (told R wd) out C = some 0 := if_pos (by unfold Mul.un; rw [e', hu]; rfl)
        refine ⟨kvs, two_but1 b4, hS4', ?_⟩
        rw [ea]
        rfl
      · have ea : aheadT (told R wd) out C = told R wd C := if_neg (by unfold Mul.un; rw [hu]; simp)
        exact ⟨_, rfl, _, rfl, _, rfl, _, rfl, call ea⟩
    · have e' : ¬ C = 1 := fun z => e (by rw [z]; rfl)
      have ea : aheadT (told R wd) out C = told R wd C := if_neg (by unfold Mul.un; simp [e'])
      exact iteF ⟨_, rfl, _, rfl, _, rfl, _, rfl, call ea⟩
  rintro σ H5 ⟨kvs5, b5, hS5, rfl⟩
  have hnl1 : (C :: ns).length ≤ 11 := by show ns.length + 1 ≤ 11; omega
  -- rests
  refine ⟨fun σ H' => ∃ D kvs', But [p, kd] H H' ∧ Sts G H' p L cs kd R (Lc out.value (C :: ns)) kvs' ∧ D ≠ p ∧ D ≠ kd ∧ H' D = some (.lst ((restsL R out.rest).map fun r => V.int (r : Nat))) ∧ ∃ a14, σ = pst p rd y kd (optS wd) (some (.ref o)) a6 (some (.int (C : Nat))) (some (cntV (aheadT (told R wd) out C))) (some (.ref D)) none none none none a14 none none, ?_, ?_⟩
  · refine ⟨_, rfl, o, mulL out, _, _, rfl, rfl, hS5.same.tup ho, rfl, _, 1, rfl, rfl, _, _, rfl, ⟨by omega, by omega, by omega, by omega⟩, fun D nD => ?_⟩
    have nDp : D ≠ p := by obtain ⟨l, e⟩ := hS5.P.lst; exact (no_in e nD).symm
    have nDL : D ≠ L := (no_in hS5.P.cells nD).symm
    have nDk : D ≠ kd := (no_in hS5.kp.at_ nD).symm
    have gD : G D = none := hS5.same.free nD
    have nHD : H D = none := by
      cases e : H D with
      | none => rfl
      | some oo => rw [b5 _ _ e (by simp [nDp, nDk])] at nD; cases nD
    have sD : Same H5 (upd H5 D (.lst [])) := Same.new nD
    rw [show (((out.rest + 1 : Nat) : Int) - 1).toNat = out.rest by omega]
    refine lc_range (fun i H' => But [p, kd] H H' ∧ ∃ kvs', Sts G H' p L cs kd R (Lc out.value (C :: ns)) kvs' ∧ H' D = some (.lst ((restsL R i).map fun r => V.int (r : Nat)))) ⟨b5.trans (But.of sD), kvs5, hS5.ext sD, upd_same⟩ ?_ ?_
    · rintro i H6 hi ⟨b6, kvs6, hS6, hD⟩
      rw [show (1 : Int) + (i : Nat) = ((i + 1 : Nat) : Int) by omega]
      have hF := hS6.fst gk hR ok hB hO hns1 (by omega)
      have hi139 : i + 1 < 2 ^ 139 := Nat.lt_of_le_of_lt (show i + 1 ≤ 300 by omega) (by decide)
      refine ⟨rfl, _, rfl, _, rfl, _, rfl, G, rd, s, m, kd, R, _, i + 1, kvs6, rfl, hF.same, gk, hR, ok, hF.kp, Lc_small (by omega), by omega, hi139, hF.cl, hF.len, hF.pb, fun H7 v kvs7 b7 hK7 hv7 => ?_⟩
      have hS7 := hS6.kn gk b7 hK7
      have hD7 := b7.at hD (by simpa using nDk)
      have b67 := b6.trans (two_but2 (p := p) b7)
      have er := rests_snoc R i
      refine ⟨rfl, _, rfl, ?_⟩
      rw [hv7.notN]
      by_cases hs : (phr R (i + 1)).isSome = true
      · rw [if_pos hs] at er
        refine iteT' hs ⟨_, rfl, _, hD7, small_lt ?_, b67.upd (.inr nHD), kvs7, hS7.put hD7 gD nDp nDL, ?_⟩
        · have h1 := rests_len R none i
          have h2 := sums1_le (told R none) i
          rw [List.length_map]
          omega
        · rw [upd_same, er, List.map_append]
          rfl
      · rw [if_neg hs, List.append_nil] at er
        refine iteF' (by simpa using hs) ⟨b67, kvs7, hS7, ?_⟩
        rw [er]
        exact hD7
    · rintro H6 ⟨b6, kvs6, hS6, hD⟩
      exact ⟨D, kvs6, b6, hS6, nDp, nDk, hD, _, rfl⟩
  rintro σ H6 ⟨D, kvs6, b6, hS6, nDp, nDk, hD, a14, rfl⟩
  have hrl : (restsL R out.rest).length ≤ 217 := by
    have h1 := rests_len R none out.rest
    have h2 := sums1_le (told R none) out.rest
    omega
  -- due
  refine ⟨fun σ H' => ∃ kvs', But [p, kd] H H' ∧ Sts G H' p L cs kd R (Lc out.value (C :: ns)) kvs' ∧ H' D = some (.lst ((restsL R out.rest).map fun r => V.int (r : Nat))) ∧ ∃ a14 a16, σ = pst p rd y kd (optS wd) (some (.ref o)) a6 (some (.int (C : Nat))) (some (cntV (aheadT (told R wd) out C))) (some (.ref D)) (some (.int (dueV R wd out C : Nat))) none none none a14 none a16, ?_, ?_⟩
  · cases ea : aheadT (told R wd) out C with
    | none => exact ⟨_, rfl, rfl, _, rfl, iteF' rfl ⟨kvs6, b6, hS6, hD, _, _, by unfold dueV; rw [ea]; rfl⟩⟩
    | some a =>
      refine ⟨_, rfl, rfl, _, rfl, iteT' rfl ?_⟩
      have ho6 := hS6.same.tup ho
      refine ⟨fun σ H' => H6 = H' ∧ σ = pst p rd y kd (optS wd) (some (.ref o)) a6 (some (.int (C : Nat))) (some (.int (a : Nat))) (some (.ref D)) (some (.int 0)) none none none a14 none (some (.int (wt1 wd out.word : Nat))), ?_, ?_⟩
      · cases wd with
        | none =>
          have e : wt1 none out.word = 1 := if_pos (.inl rfl)
          rw [e]
          exact ⟨_, rfl, rfl, _, rfl, iteT' rfl (iteT ⟨rfl, rfl⟩)⟩
        | some w2 =>
          refine ⟨_, rfl, rfl, _, rfl, iteF' rfl ⟨_, rfl, _, rfl, o, mulL out, _, _, rfl, rfl, ho6, rfl, rfl, _, rfl, ?_⟩⟩
          refine r_dec (fun e => ?_) (fun e => ?_)
          · have e0 : w2 = out.word := by injection e
            have e1 : wt1 (some w2) out.word = 1 := if_pos (.inr (by rw [e0]))
            rw [e1]
            exact ⟨rfl, rfl⟩
          · have e1 : wt1 (some w2) out.word = 0 := if_neg (by
              rintro (h | h)
              · cases h
              · injection h with h
                exact e (by rw [h]; rfl))
            rw [e1]
            exact ⟨rfl, rfl⟩
      rintro σ _ ⟨rfl, rfl⟩
      have hF := hS6.fst gk hR ok hB hO hns1 (by omega)
      refine ⟨_, rfl, _, rfl, _, _, rfl, rfl, _, rfl, .ref D, (restsL R out.rest).length, rfl, .inl ⟨_, SqL.of hD, (List.length_map _).symm⟩, _, 1, rfl, rfl, _, _, rfl, rfl, .inr (by omega), _, rfl, _, rfl, o, mulL out, _, _, rfl, rfl, ho6, rfl, _, rfl, _, rfl, G, rd, s, m, kd, R, _, out.rest, kvs6, wd, rfl, hF, fun n h1 h2 => Lc_small (by omega), by omega, fun H7 kvs7 b7 hK7 => ?_⟩
      refine ⟨_, _, rfl, rfl, kvs7, b6.trans (two_but2 b7), hS6.kn gk b7 hK7, b7.at hD (by simpa using nDk), a14, some (.int (wt1 wd out.word : Nat)), ?_⟩
      unfold dueV
      rw [ea]
      rfl
  rintro σ H7 ⟨kvs7, b7, hS7, hD7, a14', a16, rfl⟩
  have ho7 := hS7.same.tup ho
  -- start
  refine ⟨fun σ H' => H7 = H' ∧ σ = pst p rd y kd (optS wd) (some (.ref o)) a6 (some (.int (C : Nat))) (some (cntV (aheadT (told R wd) out C))) (some (.ref D)) (some (.int (dueV R wd out C : Nat))) (some (.int (C * out.value : Nat))) none none a14' none a16, ?_, ?_⟩
  · exact ⟨_, rfl, _, rfl, o, mulL out, _, _, rfl, rfl, ho7, rfl, _, _, rfl, rfl, .inr (by omega), rfl, rfl⟩
  rintro σ _ ⟨rfl, rfl⟩
  have hCV : 1 ≤ C * out.value := Nat.mul_pos hC0 (by omega)
  have b1000 : (2 : Nat) ^ 110 < 2 ^ 1000 := Nat.pow_lt_pow_right (by decide) (by decide)
  refine ⟨fun σ H' => Same H7 H' ∧ σ = pst p rd y kd (optS wd) (some (.ref o)) a6 (some (.int (C : Nat))) (some (cntV (aheadT (told R wd) out C))) (some (.ref D)) (some (.int (dueV R wd out C : Nat))) (some (.int (C * out.value : Nat))) none none a14' none a16, ?_, ?_⟩
  · refine ⟨_, rfl, _, rfl, _, rfl, _, rfl, o, mulL out, _, _, rfl, rfl, ho7, rfl, _, _, rfl, rfl, _, 1, rfl, rfl, by omega, _, rfl, y, s', m', R, out, 2000, wd, C * out.value, C * out.value + out.value - 1, rfl, hY.same hS7.same, ok, hO, hB, by decide, hCV, by omega, by omega, hwd, fun H8 s8 => ?_⟩
    have e := period_law ok wd hB2 hO hBC
    refine ⟨_, rfl, _, _, rfl, EqS.up (d := 0) (by omega) (.inl ⟨((dueV R wd out C : Nat) : Int), ?_, rfl⟩), fun H9 s9 => ⟨_, rfl, iteF' rfl ⟨s8.trans s9, rfl⟩⟩⟩
    rw [e]
    rfl
  rintro σ H8 ⟨s8, rfl⟩
  have hS8 := hS7.ext s8
  have hD8 := s8 _ _ hD7
  have b8 : But [p, kd] H H8 := b7.trans (But.of s8)
  -- the longest
  refine ⟨fun σ H' => ∃ kvs' a14, But [p, kd] H H' ∧ Sts G H' p L cs kd R (Lc out.value (C :: ns)) kvs' ∧ σ = pst p rd y kd (optS wd) (some (.ref o)) a6 (some (.int (C : Nat))) (some (cntV (aheadT (told R wd) out C))) (some (.ref D)) (some (.int (dueV R wd out C : Nat))) (some (.int (C * out.value : Nat))) (some (.int (((restsL R out.rest).foldl (bstep R) (0, 0)).1 : Nat))) (some (.int (((restsL R out.rest).foldl (bstep R) (0, 0)).2 : Nat))) a14 none a16, ?_, ?_⟩
  · refine ⟨_, rfl, D, rfl, ⟨_, SqL.of hD8⟩, ?_⟩
    refine for_list (xs := (restsL R out.rest).map fun r => V.int (r : Nat)) (fun i σ H' => But [p, kd] H H' ∧ ∃ kvs' a14, Sts G H' p L cs kd R (Lc out.value (C :: ns)) kvs' ∧ H' D = some (.lst ((restsL R out.rest).map fun r => V.int (r : Nat))) ∧ σ = pst p rd y kd (optS wd) (some (.ref o)) a6 (some (.int (C : Nat))) (some (cntV (aheadT (told R wd) out C))) (some (.ref D)) (some (.int (dueV R wd out C : Nat))) (some (.int (C * out.value : Nat))) (some (.int ((((restsL R out.rest).take i).foldl (bstep R) (0, 0)).1 : Nat))) (some (.int ((((restsL R out.rest).take i).foldl (bstep R) (0, 0)).2 : Nat))) a14 none a16)
      ⟨b8, kvs7, a14', hS8, hD8, rfl⟩ (fun i σ H' _ pv => by obtain ⟨_, _, _, _, h, _⟩ := pv; exact SqL.of h) ?_ ?_
    · rintro i x σ H9 hi ⟨b9, kvs9, a14, hS9, hD9, rfl⟩
      rw [List.getElem?_map] at hi
      obtain ⟨r, er, rfl⟩ := Option.map_eq_some_iff.mp hi
      obtain ⟨r1, r2, r3⟩ := rests_le R out.rest r (List.mem_of_getElem? er)
      obtain ⟨l, el⟩ := Option.isSome_iff_exists.mp r3
      have hi' := (List.getElem?_eq_some_iff.mp er).1
      have ef : ((restsL R out.rest).take (i + 1)).foldl (bstep R) (0, 0) = bstep R (((restsL R out.rest).take i).foldl (bstep R) (0, 0)) r := by
        rw [List.take_succ_eq_append_getElem hi', (List.getElem?_eq_some_iff.mp er).2, List.foldl_append]
        rfl
      rw [ef]
      generalize ((restsL R out.rest).take i).foldl (bstep R) (0, 0) = st
      have hr139 : r < 2 ^ 139 := Nat.lt_of_le_of_lt (show r ≤ 300 by omega) (by decide)
      refine ⟨_, rfl, _, _, rfl, rfl, _, rfl, r_dec (fun h40 => ?_) (fun h40 => iteF ?_)⟩
      · have hF := hS9.fst gk hR ok hB hO hns1 (by omega)
        refine ⟨_, rfl, _, rfl, _, rfl, G, rd, s, m, kd, R, _, r, kvs9, rfl, hF.same, gk, hR, ok, hF.kp, Lc_small (by omega), r1, hr139, hF.cl, hF.len, hF.pb, fun H10 v kvs10 b10 hK10 hv10 => ?_⟩
        have hS10 := hS9.kn gk b10 hK10
        rw [el] at hv10
        rcases hv10 with ⟨h, _⟩ | ⟨t, l', e1, rfl, ht⟩
        · cases h
        injection e1 with e1
        subst e1
        refine ⟨.ref t, l.length, rfl, .inr ⟨_, ht.sq, (List.length_map _).symm⟩, _, rfl, _, _, rfl, rfl, _, rfl, r_dec (fun hlt => ?_) (fun hlt => ?_)⟩
        · have hF2 := hS10.fst gk hR ok hB hO hns1 (by omega)
          have es : bstep R st r = (r, l.length) := by
            unfold bstep
            rw [el]
            exact if_pos ⟨by omega, by show st.2 < l.length; omega⟩
          rw [es]
          refine ⟨_, rfl, _, rfl, _, rfl, _, rfl, G, rd, s, m, kd, R, _, r, kvs10, rfl, hF2.same, gk, hR, ok, hF2.kp, Lc_small (by omega), r1, hr139, hF2.cl, hF2.len, hF2.pb, fun H11 v kvs11 b11 hK11 hv11 => ?_⟩
          rw [el] at hv11
          rcases hv11 with ⟨h, _⟩ | ⟨t2, l', e1, rfl, ht2⟩
          · cases h
          injection e1 with e1
          subst e1
          exact ⟨.ref t2, l.length, rfl, .inr ⟨_, ht2.sq, (List.length_map _).symm⟩, (b9.trans (two_but2 b10)).trans (two_but2 b11), kvs11, _, hS10.kn gk b11 hK11, b11.at (b10.at hD9 (by simpa using nDk)) (by simpa using nDk), rfl⟩
        · have es : bstep R st r = st := by
            unfold bstep
            rw [el]
            exact if_neg fun z => hlt (by
              have : st.2 < l.length := z.2
              omega)
          rw [es]
          exact ⟨b9.trans (two_but2 b10), kvs10, _, hS10, b10.at hD9 (by simpa using nDk), rfl⟩
      · have es : bstep R st r = st := by
          unfold bstep
          exact if_neg fun z => h40 (by omega)
        rw [es]
        exact ⟨b9, kvs9, _, hS9, hD9, rfl⟩
    · rintro σ H9 ⟨b9, kvs9, a14, hS9, hD9, rfl⟩
      rw [List.length_map, List.take_length]
      exact ⟨kvs9, a14, b9, hS9, rfl⟩
  rintro σ H9 ⟨kvs9, a14'', b9, hS9, rfl⟩
  rw [fold_bs R out.rest out.rest (Nat.le_refl _), ← bs_min hmr]
  cases ea : aheadT (told R wd) out C with
  | none => exact ⟨_, rfl, rfl, _, rfl, iteT' rfl (q H9 (C :: ns) kvs9 b9 hS9 hns1 (by show ns.length + 1 ≤ _; omega))⟩
  | some a =>
    have ea0 : ∃ a0, aheadT (told R none) out C = some a0 := by
      unfold aheadT at ea ⊢
      by_cases hun : out.un C = true
      · exact ⟨0, if_pos hun⟩
      · rw [if_neg hun] at ea ⊢
        have := told_some R wd C
        rw [ea] at this
        have h2 := told_some R none C
        rw [← this] at h2
        exact Option.isSome_iff_exists.mp h2
    obtain ⟨a0, ea0⟩ := ea0
    refine ⟨_, rfl, rfl, _, rfl, iteF' rfl ?_⟩
    have ho9 := hS9.same.tup ho
    have hmin : min 39 (out.value - 1) < out.value := by omega
    have hbl := bs_le (told R none) out.rest (min 39 (out.value - 1))
    have elong := longest_law ok hB2 hO hBC ea0 (min 39 (out.value - 1)) hmin
    refine ⟨_, rfl, _, rfl, _, rfl, _, rfl, o, mulL out, _, _, rfl, rfl, ho9, rfl, out.value, 1, rfl, rfl, by omega, ((39 : Nat) : Int), _, rfl, ?_⟩
    rw [minN]
    refine ⟨_, _, rfl, rfl, y, s', m', R, out, 2000, C * out.value, C * out.value + min 39 (out.value - 1), rfl, hY.same hS9.same, ok, hO, hB, by decide, hCV, by omega, by omega, fun n h1 h2 => ⟨⟨Lc out.value [n], Lc_self (List.mem_singleton.mpr rfl), Lc_cl ok hB hO ?_, Lc_len (by show 1 ≤ 20; decide), fun x hx => wb_of ok (Lc_lt (ns := [n]) ?_ x hx)⟩, pb_of ok (by omega)⟩, fun H10 t u s10 ht hu => ?_⟩
    · intro n' hn'
      obtain rfl := List.mem_singleton.mp hn'
      omega
    · intro n' hn'
      obtain rfl := List.mem_singleton.mp hn'
      omega
    rw [show C * out.value + min 39 (out.value - 1) + 1 - C * out.value = min 39 (out.value - 1) + 1 by omega, elong] at ht hu
    have hin := bestOf_in (told R none) (C * out.value) (min 39 (out.value - 1) + 1)
    rw [elong] at hin
    have hN := hin.resolve_left (by show ¬ a0 + 1 + _ = 0; omega)
    obtain ⟨hN1, _, hN3⟩ := hN
    revert ht hu hN1 hN3 hbl
    generalize (bs (told R none) out.rest (min 39 (out.value - 1))).1 = bb
    generalize (bs (told R none) out.rest (min 39 (out.value - 1))).2 = sz
    intro hbl ht hu hN1 hN3
    have hN1' : told R none (C * out.value + bb) = some (a0 + 1 + sz) := hN1
    obtain ⟨l, el⟩ : ∃ l, phr R (C * out.value + bb) = some l := by
      have := told_some R none (C * out.value + bb)
      rw [hN1'] at this
      exact Option.isSome_iff_exists.mp this.symm
    have hres : resL R (C * out.value + bb, a0 + 1 + sz) = l := by
      unfold resL
      rw [if_neg (by show ¬ a0 + 1 + sz = 0; omega)]
      show (phr R (C * out.value + bb)).getD [] = l
      rw [el]
      rfl
    rw [hres] at hu
    have hS10 := hS9.ext s10
    have hns2 : ∀ n ∈ (C * out.value + bb) :: C :: ns, n < 2 ^ 139 := fun n hn => by
      rcases List.mem_cons.mp hn with rfl | h
      · omega
      · exact hns1 n h
    have hS10' := hS10.mono (Ly := Lc out.value ((C * out.value + bb) :: C :: ns)) fun a => Lc_mono fun n h => List.mem_cons_of_mem _ h
    have hF := hS10'.fst gk hR ok hB hO hns2 (by show ns.length + 1 + 1 ≤ 20; omega)
    refine ⟨_, rfl, _, rfl, _, rfl, _, _, rfl, rfl, _, rfl, _, rfl, _, rfl, _, _, rfl, rfl, _, rfl, G, rd, s, m, kd, R, _, C * out.value + bb, kvs9, rfl, hF.same, gk, hR, ok, hF.kp, Lc_self (List.mem_cons_self ..), by omega, by omega, hF.cl, hF.len, hF.pb, fun H11 v kvs11 b11 hK11 hv11 => ?_⟩
    rw [el] at hv11
    rcases hv11 with ⟨h, _⟩ | ⟨t2, l', e1, rfl, o2, ho2, ht2⟩
    · cases h
    injection e1 with e1
    subst e1
    have hS11 := hS10'.kn gk b11 hK11
    have hk10 := hS10.kp.at_
    have ht11 := b11.at ht (by simpa using (ne_of ht hk10 (by intro z; cases z)))
    have hu11 := b11.at hu (by simpa using (ne_of hu hk10 (by intro z; cases z)))
    refine ⟨(by show 2 ≤ sizeLine; decide), fun T nT => ?_⟩
    have sT : Same H11 (upd H11 T (.tup [.int (C * out.value + bb : Nat), .ref t2])) := Same.new nT
    refine ⟨_, _, rfl, ?_, fun H12 s12 => ?_⟩
    · refine .inr ⟨t, T, _, _, rfl, rfl, .inl (sT _ _ ht11), .inl upd_same, rfl, (by show 2 ≤ 2000000; decide), fun i x z e1 e2 => ?_⟩
      match i with
      | 0 =>
        cases e1
        cases e2
        exact .inl (.inl ⟨_, rfl, rfl⟩)
      | 1 =>
        cases e1
        cases e2
        refine .inr ⟨u, t2, _, _, rfl, rfl, .inl (sT _ _ hu11), .inr ⟨o2, sT _ _ ht2⟩, rfl, ?_, fun i x z e1 e2 => ?_⟩
        · rw [List.length_map]
          have := phr_len2 ok 139 _ l (by omega) el
          omega
        · rw [List.getElem?_map] at e1 e2
          rw [e1] at e2
          injection e2 with e2
          subst e2
          obtain ⟨zz, _, rfl⟩ := Option.map_eq_some_iff.mp e1
          exact .inr ⟨zz, rfl, rfl⟩
      | i + 2 =>
        simp at e1
    · exact q H12 _ kvs11 (((b9.trans (But.of s10)).trans (two_but2 b11)).trans (But.of (sT.trans s12))) (hS11.ext (sT.trans s12)) hns2 (by show ns.length + 1 + 1 ≤ _; omega)

end
end Sy

/-! part: L15 -/
set_option Elab.async false
set_option linter.all false
set_option maxRecDepth 100000
set_option maxHeartbeats 4000000
namespace Sy
open PySem PySem.Spec PyProof.Rows L2
section
variable {P : Program} {w : World} {K : PySem.W.Frag} {mg : Str → Option Value} {base : Heap}
theorem fst_z : fst1 "zzzzzzzz" = some 122 := by decide +kernel
theorem ok_z : WordOk "zzzzzzzz" := ⟨by decide +kernel, by decide +kernel, by decide +kernel⟩
def withZ (R : Rs) (v : Nat) : Rs := ⟨R.simple ++ [(("zzzzzzzz" : Str), v)], R.mults⟩
theorem withZ_out {R : Rs} {v : Nat} {o : M} (h : IsOut R o) : IsOut (withZ R v) o := ⟨h.at_, h.no⟩
theorem withZ_ok {R : Rs} {v : Nat} (g : Good R) (h1 : 2 ≤ v) : (withZ R v).Ok := by
  have ok := g.ok
  refine ⟨fun p hp => ?_, ok.mv, ok.ml, ok.mr, ok.mc, ?_, ok.mz⟩
  · rcases List.mem_append.mp hp with h | h
    · exact ok.sv p h
    · obtain rfl := List.mem_singleton.mp h
      show 1 ≤ v
      omega
  · show (R.simple ++ [(("zzzzzzzz" : Str), v)]).length ≤ 24
    rw [List.length_append]
    have := g.sz
    show _ + 1 ≤ 24
    omega
theorem withZ_isB {R : Rs} {v : Nat} (g : Good R) (h2 : v ≤ 301) : IsB (withZ R v) 2000 := by
  refine ⟨fun p hp => ?_, g.isB.m⟩
  rcases List.mem_append.mp hp with h | h
  · exact g.isB.s p h
  · obtain rfl := List.mem_singleton.mp h
    show v ≤ 2000
    omega
theorem withZ_valid {R : Rs} {v : Nat} (g : Good R) (h1 : 2 ≤ v) (h2 : v ≤ 301) : Valid (withZ R v) := by
  have hV := g.valid
  refine ⟨fun p hp => ?_, hV.mul, ?_, ?_, hV.mz⟩
  · rcases List.mem_append.mp hp with h | h
    · exact hV.sim p h
    · obtain rfl := List.mem_singleton.mp h
      exact ⟨ok_z, by show 1 ≤ v; omega, by show v ≤ 100000; omega⟩
  · have e : wordsL (withZ R v) = R.simple.map (·.1) ++ ("zzzzzzzz" : Str) :: R.mults.map (·.word) := by
      unfold wordsL withZ
      show (R.simple ++ [(("zzzzzzzz" : Str), v)]).map (·.1) ++ _ = _
      rw [List.map_append, List.append_assoc]
      rfl
    rw [e]
    refine (List.perm_middle.nodup_iff).mpr (List.nodup_cons.mpr ⟨fun hm => g.z _ hm fst_z, hV.nd⟩)
  · show (R.simple ++ [(("zzzzzzzz" : Str), v)]).length ≤ 24
    rw [List.length_append]
    have := g.sz
    show _ + 1 ≤ 24
    omega
theorem withZ_phr {R : Rs} {v : Nat} (g : Good R) (h1 : 2 ≤ v) (n : Nat) : n < v → phr (withZ R v) n = phr R n := by
  induction n using Nat.strongRecOn with
  | ind n ih =>
    intro hn
    rw [phr_eq (withZ_ok g h1), phr_eq g.ok]
    have e : (withZ R v).wordsOf n = R.wordsOf n := by
      unfold Rows.wordsOf withZ
      show ((R.simple ++ [(("zzzzzzzz" : Str), v)]).filter fun p => decide (p.2 = n)).map (·.1) = _
      rw [List.filter_append]
      have : ([(("zzzzzzzz" : Str), v)].filter fun p => decide (p.2 = n)) = [] := by
        have h : ¬ v = n := by omega
        simp [h]
      rw [this, List.append_nil]
    unfold step
    rw [e]
    cases R.wordsOf n with
    | cons w ws => rfl
    | nil =>
      show (R.parts n).findSome? _ = (R.parts n).findSome? _
      refine findSome_congr fun p hp => ?_
      obtain ⟨_, a, b, _⟩ := parts_lt g.ok hp
      exact cmb_congr (ih _ a (by omega)) (ih _ b (by omega))
theorem sums_congr {t u : Nat → Option Nat} : ∀ m, (∀ k, k ≤ m → t k = u k) → sums t m = sums u m
  | 0, _ => rfl
  | m + 1, h => by
    have ih := sums_congr (t := t) (u := u) m fun k hk => h k (by omega)
    have e := h (m + 1) (Nat.le_refl _)
    cases hu : u (m + 1) with
    | none => rw [sums_none hu, sums_none (e.trans hu), ih]
    | some z => rw [sums_some hu, sums_some (e.trans hu), ih]
theorem withZ_sums {R : Rs} {v : Nat} (g : Good R) (h1 : 2 ≤ v) (m : Nat) (hm : m < v) : sums (told (withZ R v) none) m = sums (told R none) m :=
  sums_congr m fun k hk => by
    unfold told
    rw [withZ_phr g h1 k (by omega)]
theorem same_hp {G H : Hp} {p : Addr} (s : Same G H) (gp : G p = none) : Same G (hp p H) := fun a o h => hp_of (s _ _ h) (fun e => by rw [e, gp] at h; cases h)
def sp_law (K : PySem.W.Frag) : Sp := fun vs H Q _ => ∃ (a : Addr) (ns : List Int), vs = [.ref a] ∧ SqL K H a (ns.map V.int) ∧ ns.length < sizeLine ∧ ∀ H', Q (.bl true) H'
theorem mkFn {k : Nat} {ps : List Str} {sp : Sp} {d : He.DefD} {N : List Str} {dv : List V} {kw : List (Str × V)} {fd : FuncData} (F : FunD K d.name d.qual d.params d.body d.scope dv kw (He.fAd K d.at_) fd) (S : FnScope N ps d.scope)
    (len : ∀ vs H Q E, sp vs H Q E → vs.length = ps.length)
    (hbody : ∀ (cdv : Value) (A : Around) (outer : List Env) (s : Shared) (H : Hp) (vs : List V) (Q : VK) (E : XK), Room k (A.deeper (envOfC d.qual d.scope s.heap.objs.size (He.fAd K d.at_) cdv)) → sp vs H Q E →
      ∃ t, PSs (cxOf CX0 P w K mg base N d.qual d.scope (He.fAd K d.at_) cdv A outer s H E).nox d.body t ∧ t { nx := fun _ H' => Q .non H', rt := Q } (L2.start N vs) H) :
    FnOk P w K mg base CX0 (k + 1) (He.fAd K d.at_) fd ps sp := by
  refine F.ok S len fun cdv A outer s H vs Q E hr hsp => ?_
  obtain ⟨t, h, q⟩ := hbody cdv A outer s H vs Q E hr hsp
  exact ⟨t, h.nox, q⟩
theorem law_fn (W : Wd K mg) {fd : FuncData} (F : FunD K d_law.name d_law.qual d_law.params d_law.body d_law.scope [] [] (He.fAd K d_law.at_) fd) : FnOk P w K mg base CX0 143 (He.fAd K d_law.at_) fd ["_law_script"] (sp_law K) := by
  have h_l_pool := ok_l_pool (P := P) (w := w) (base := base) W
  have h_l_take := ok_l_take (P := P) (w := w) (base := base) W
  have h_l_with_outer := ok_l_with_outer (P := P) (w := w) (base := base) W
  have h_l_made := ok_l_made (P := P) (w := w) (base := base) W
  have h_l_some_word := ok_l_some_word (P := P) (w := w) (base := base) W
  have h_l_period_so := ok_l_period_so (P := P) (w := w) (base := base) W
  have h_l_same := ok_l_same (P := P) (w := w) (base := base) W 2
  have h_words_said := ok_words_said (P := P) (w := w) (base := base) W
  refine mkFn (d := d_law) (N := N_law) (ps := ["_law_script"]) F sc_law (fun vs H Q E h => ?_) (fun cdv A outer s0 H vs Q E hr h => ?_)
  · obtain ⟨_, _, rfl, _⟩ := h
    rfl
  obtain ⟨a, ns, rfl, ha, hnl, q⟩ := h
  have hu := hu_of hr
  refine ⟨_, (pss_cons (ps_set (i := 1) sc_law.nd rfl (Or.inl rfl) (pe_callH h_l_pool W.g_l_pool (hr.mono (by omega)) rfl (pa_cons (pv 0) pa_nil)))
      (pss_cons (ps_set (i := 2) sc_law.nd rfl (Or.inl rfl) (pe_callH h_l_with_outer W.g_l_with_outer (hr.mono (by omega)) rfl (pa_cons (pv 1) pa_nil)))
      (pss_mid (ps_if (pt_not (pt_truthK (pe_lc (own := [("_law_row", 11)]) (g := gName 11) rfl sc_law.nd (pi_list (pe_dget hu (pv 2) pe_str (fun _ _ => rfl))) (blkOk_by (own := [("_law_row", 11)]) (N := N_law) (sc := defScope s_law) (by decide +kernel)) (fun _ _ _ _ _ => (pg_name (i := 11) sc_law.nd rfl (Or.inl rfl))) (fun _ _ _ _ _ => (pts_one (pt_cmpR op_isN1 (pe_ix (ix_tupK (K := K) rfl) (pv 11) pe_int (fun _ _ => rfl)) pe_non (nomark _)))) (fun _ _ _ _ _ => (pv 11))))) (pss_one (ps_ret pe_bl)) pss_nil)
      (pss_cons (ps_set (i := 3) sc_law.nd rfl (Or.inl rfl) (pe_callH h_l_made W.g_l_made (hr.mono (by omega)) rfl (pa_cons (pv 1) (pa_cons (pv 2) pa_nil))))
      (pss_cons (ps_set (i := 4) sc_law.nd rfl (Or.inl rfl) pe_dnewK)
      (pss_mid (ps_for PassesOwn.never rfl (pi_range1 rfl W.f_range (pa_cons pe_int pa_nil)) (pg_name (i := 5) sc_law.nd rfl (Or.inl rfl)) (pss_cons (ps_set (i := 10) sc_law.nd rfl (Or.inl rfl) (pe_ix ix_tup (pe_tup (pa_cons pe_non (pa_cons (pe_callH h_l_some_word W.g_l_some_word (hr.mono (by omega)) rfl (pa_cons (pv 1) (pa_cons (pv 2) pa_nil))) pa_nil))) (pe_callH h_l_take W.g_l_take (hr.mono (by omega)) rfl (pa_cons (pv 1) (pa_cons pe_int pa_nil))) (fun _ _ => rfl)))
      (pss_one (ps_if (pt_not (pt_val (pe_callH h_l_period_so W.g_l_period_so (hr.mono (by omega)) rfl (pa_cons (pv 1) (pa_cons (pv 2) (pa_cons (pv 3) (pa_cons (pv 4) (pa_cons (pv 10) pa_nil)))))))) (pss_one (ps_ret pe_bl)) pss_nil))))
      (pss_cons (ps_set (i := 6) sc_law.nd rfl (Or.inl rfl) (pe_op op_nadd pe_int (pe_callH h_l_take W.g_l_take (hr.mono (by omega)) rfl (pa_cons (pv 1) (pa_cons pe_int pa_nil)))))
      (pss_cons (ps_set (i := 7) sc_law.nd rfl (Or.inl rfl) (pe_disp (pps_cons pe_str (pe_op op_cat (pe_dget hu (pv 2) pe_str (fun _ _ => rfl)) (pe_lst (pa_cons (pe_tup (pa_cons pe_str (pa_cons (pv 6) pa_nil))) pa_nil))) (pps_cons pe_str (pe_dget hu (pv 2) pe_str (fun _ _ => rfl)) pps_nil)) rfl rfl (fun z => by cases z) (by decide)))
      (pss_cons (ps_set (i := 8) sc_law.nd rfl (Or.inl rfl) (pe_callH h_l_made W.g_l_made (hr.mono (by omega)) rfl (pa_cons (pv 1) (pa_cons (pv 7) pa_nil))))
      (pss_cons (ps_set (i := 9) sc_law.nd rfl (Or.inl rfl) (pe_op op_nadd pe_int (pe_callH h_l_take W.g_l_take (hr.mono (by omega)) rfl (pa_cons (pv 1) (pa_cons (pe_op op_nsub (pv 6) pe_int) pa_nil)))))
      (pss_one (ps_ret (pe_callH h_l_same W.g_l_same (hr.mono (by omega)) rfl (pa_cons (pe_callH h_words_said W.g_words_said (hr.mono (by omega)) rfl (pa_cons (pv 8) (pa_cons (pv 9) (pa_cons (pe_op op_nsub (pv 6) pe_int) pa_nil)))) (pa_cons (pe_callH h_words_said W.g_words_said (hr.mono (by omega)) rfl (pa_cons (pv 3) (pa_cons (pv 9) (pa_cons (pe_op op_nsub (pv 6) pe_int) pa_nil)))) pa_nil))))))))))))))), ?_⟩
  refine ⟨_, rfl, a, ns, rfl, ha, hnl, fun p L H1 s1 nHp hP1 => ?_⟩
  have hlen : (ns.map cellN).length < sizeLine := by rw [List.length_map]; exact hnl
  generalize ns.map cellN = cs at hP1 hlen
  refine ⟨_, rfl, p, L, cs, rfl, hP1, hlen, fun rd s m H2 R b2 hP2 hR hG => ?_⟩
  obtain ⟨out, hO⟩ := hG.out
  have ok := hG.ok
  -- there is an outer one
  refine ⟨fun σ H' => Same H2 H' ∧ σ = [some (.ref a), some (.ref p), some (.ref rd), none, none, none, none, none, none, none, none, none], ?_, ?_⟩
  · have hR2 := hR.same (hp_same p H2)
    obtain ⟨zs, hz, rz⟩ := hR2.mul
    obtain ⟨j, ej, uj⟩ := hO.at_
    have hjl := (List.getElem?_eq_some_iff.mp ej).1
    refine ⟨_, rfl, rd, _, rfl, hR2.gm, m, rfl, ⟨_, SqL.of hz⟩, fun D nD => ?_⟩
    refine lc_list (xs := zs) (fun i H' => Same H2 H' ∧ ∃ ys, H' D = some (.lst ys) ∧ ys.length ≤ i ∧ (j < i → ys ≠ [])) ⟨Same.new nD, [], upd_same, Nat.le_refl _, fun h => absurd h (Nat.not_lt_zero _)⟩ (fun i H' _ pv => pv.1.seq (SqL.of hz)) ?_ ?_
    · rintro i x H3 hi ⟨s3, ys, hD, hy, hy1⟩
      obtain ⟨mi, em, c, rfl, hc⟩ := rz.get hi
      have hil := (List.getElem?_eq_some_iff.mp em).1
      have hmz := hG.mz
      refine ⟨rfl, _, rfl, c, mulL mi, _, _, rfl, rfl, s3.tup hc, rfl, rfl, _, rfl, ?_⟩
      cases hcc : mi.count with
      | none => exact iteT' rfl ⟨_, rfl, ys, hD, small_lt (by omega), s3.mut nD, _, upd_same, by rw [List.length_append]; show ys.length + 1 ≤ i + 1; omega, fun _ => by simp⟩
      | some k =>
        refine iteF' rfl ⟨s3, ys, hD, by omega, fun h => ?_⟩
        rcases Nat.lt_or_eq_of_le (Nat.le_of_lt_succ h) with z | z
        · exact hy1 z
        · subst z
          rw [ej] at em
          injection em with em
          subst em
          rw [hO.no] at hcc
          cases hcc
    · rintro H3 ⟨s3, ys, hD, hy, hy1⟩
      have hne := hy1 (by rw [rz.1]; exact hjl)
      refine ⟨_, .inl ⟨_, SqL.of hD, rfl⟩, ?_⟩
      cases ys with
      | nil => exact absurd rfl hne
      | cons x ys => exact iteF' rfl ⟨s3, rfl⟩
  rintro σ H3 ⟨s3, rfl⟩
  have hP3 := hP2.same s3
  have hR3 := hR.same (hp_but (But.of s3))
  refine ⟨_, rfl, _, rfl, p, L, rd, s, m, cs, R, out, rfl, hP3, hlen, hR3, hG.valid, hO, fun y H4 s' m' b4 hP4 hY => ?_⟩
  have hR4 := hR3.same (hp_but b4)
  intro kd nkd
  have nkp : kd ≠ p := by obtain ⟨l, e⟩ := hP4.lst; exact (no_in e nkd).symm
  have s5 : Same H4 (upd H4 kd (.dK [])) := Same.new nkd
  have hk5 : upd H4 kd (.dK []) kd = some (.dK []) := upd_same
  have hP5 := hP4.same s5
  -- the base
  have sG : Same (hp p H4) (upd H4 kd (.dK [])) := (hp_same p H4).trans s5
  have gp : hp p H4 p = none := hp_at p H4
  have gk : hp p H4 kd = none := by
    cases e : hp p H4 kd with
    | none => rfl
    | some oo => rw [hp_same _ _ _ _ e] at nkd; cases nkd
  revert s5 hk5 hP5 sG
  generalize upd H4 kd (.dK []) = H5
  intro s5 hk5 hP5 sG
  generalize hp p H4 = G at hR4 hY sG gp gk
  have hS5 : Sts G H5 p L cs kd R (Lc out.value []) [] := ⟨sG, hP5, hk5, ⟨[], rfl, List.nodup_nil, by simp⟩, fun n v hv => by cases hv⟩
  -- three turns
  refine ⟨fun σ H' => ∃ ns' kvs', Sts G H' p L cs kd R (Lc out.value ns') kvs' ∧ ∃ a5 a10, σ = [some (.ref a), some (.ref p), some (.ref rd), some (.ref y), some (.ref kd), a5, none, none, none, none, a10, none], ?_, ?_⟩
  · refine ⟨3, rfl, by decide, by decide, ?_⟩
    refine for_range (n := 3) (fun i σ H' => ∃ ns' kvs', Sts G H' p L cs kd R (Lc out.value ns') kvs' ∧ (∀ n ∈ ns', n < 2 ^ 139) ∧ ns'.length ≤ 2 * i ∧ ∃ a5 a10, σ = [some (.ref a), some (.ref p), some (.ref rd), some (.ref y), some (.ref kd), a5, none, none, none, none, a10, none])
      ⟨[], [], hS5, by simp, Nat.zero_le _, _, _, rfl⟩ ?_ ?_
    · rintro i σ H6 hi ⟨ns6, kvs6, hS6, hn6, hl6, a5, a10, rfl⟩
      have hR6 := hR4.same (same_hp hS6.same gp)
      refine ⟨_, rfl, _, rfl, p, L, rd, s, m, cs, R, rfl, hS6.P, hlen, hR6, hG, fun z H7 b7 hP7 hz => ?_⟩
      have hS7 := hS6.pool gp b7 hP7
      refine ⟨(by show 2 ≤ sizeLine; decide), fun T nT => ?_⟩
      have sT : Same H7 (upd H7 T (.tup [.non, .str z])) := Same.new nT
      have nTp : T ≠ p := by obtain ⟨l, e⟩ := hP7.lst; exact (no_in e nT).symm
      refine ⟨_, rfl, p, L, cs, 2, rfl, hP7.same sT, hlen, by decide, by decide, fun k H8 b8 hP8 hk => ?_⟩
      have hS8 := (hS7.ext sT).pool gp b8 hP8
      obtain ⟨wd, ew, hwd⟩ : ∃ wd : Option Str, ([.non, .str z] : List V)[k]? = some (optS wd) ∧ ∀ z', wd = some z' → z' ∈ wordsL R := by
        match k, hk with
        | 0, _ => exact ⟨none, rfl, fun z' h => by cases h⟩
        | 1, _ => exact ⟨some z, rfl, fun z' h => by injection h with h; rw [← h]; exact hz⟩
      refine ⟨T, _, _, optS wd, rfl, rfl, SqT.of (b8.at upd_same (by simpa using nTp)), atI_nat ew, ?_⟩
      refine ⟨_, rfl, _, rfl, _, rfl, _, rfl, _, rfl, G, p, L, rd, s, m, y, s', m', kd, cs, R, out, ns6, kvs6, wd, rfl, hS8, gp, gk, hlen, hR4, hY, hG, hO, hn6, by omega, hwd, fun H9 ns9 kvs9 b9 hS9 hn9 hl9 => ?_⟩
      exact ⟨_, rfl, iteF' rfl ⟨ns9, kvs9, hS9, hn9, by omega, _, _, rfl⟩⟩
    · rintro σ H6 ⟨ns6, kvs6, hS6, hn6, hl6, a5, a10, rfl⟩
      exact ⟨ns6, kvs6, hS6, _, _, rfl⟩
  rintro σ H6 ⟨ns6, kvs6, hS6, a5, a10, rfl⟩
  refine ⟨_, rfl, p, L, cs, 300, rfl, hS6.P, hlen, by decide, by decide, fun v0 H7 b7 hP7 hv0 => ?_⟩
  have hS7 := hS6.pool gp b7 hP7
  have hR7 := hR4.same hS7.same
  obtain ⟨xs, hx, rx⟩ := hR4.sim
  obtain ⟨zs, hz, rz⟩ := hR4.mul
  refine ⟨2, v0, rfl, rfl, ?_⟩
  generalize hv : 2 + v0 = v
  have hv1 : 2 ≤ v := by omega
  have hv2 : v ≤ 301 := by omega
  -- a simple word more
  refine fun rd2 nrd => ⟨_, rfl, rd, _, rfl, (hR7.same (Same.new nrd)).gs, _, rfl, (by show 2 ≤ sizeLine; decide), fun t nt => ⟨(by show 1 ≤ sizeLine; decide), fun b nb => ?_⟩⟩
  have s8 : Same H7 (upd H7 rd2 (.dK [])) := Same.new nrd
  have s9 := s8.new' nt (o := .tup [.str "zzzzzzzz", .int (v : Nat)])
  have s10 := s9.new' nb (o := .lst [.ref t])
  have hgs : H7 s = some (.lst xs) := hS7.same _ _ hx
  have hsl := hG.sz
  have nrt : rd2 ≠ t := no_in upd_same nt
  have h9 : upd (upd H7 rd2 (.dK [])) t (.tup [.str "zzzzzzzz", .int (v : Nat)]) rd2 = some (.dK []) := by rw [upd_ne nrt, upd_same]
  have nrb : rd2 ≠ b := no_in h9 nb
  have ntb : t ≠ b := no_in upd_same nb
  refine ⟨s, b, xs, [.ref t], rfl, rfl, s10 _ _ hgs, upd_same, small_le (by rw [rx.1]; show _ + 1 ≤ _; omega), fun c nc => ?_⟩
  have s11 := s10.new' nc (o := .lst (xs ++ [.ref t]))
  have h10 : upd (upd (upd H7 rd2 (.dK [])) t (.tup [.str "zzzzzzzz", .int (v : Nat)])) b (.lst [.ref t]) rd2 = some (.dK []) := by rw [upd_ne nrb]; exact h9
  have hrd11 := Same.new nc (o := .lst (xs ++ [.ref t])) _ _ h10
  have ht11 : upd (upd (upd (upd H7 rd2 (.dK [])) t (.tup [.str "zzzzzzzz", .int (v : Nat)])) b (.lst [.ref t])) c (.lst (xs ++ [.ref t])) t = some (.tup [.str "zzzzzzzz", .int (v : Nat)]) := Same.new nc _ _ (Same.new nb _ _ upd_same)
  have hc11 : upd (upd (upd (upd H7 rd2 (.dK [])) t (.tup [.str "zzzzzzzz", .int (v : Nat)])) b (.lst [.ref t])) c (.lst (xs ++ [.ref t])) c = some (.lst (xs ++ [.ref t])) := upd_same
  revert s11 hrd11 ht11 hc11
  generalize upd (upd (upd (upd H7 rd2 (.dK [])) t (.tup [.str "zzzzzzzz", .int (v : Nat)])) b (.lst [.ref t])) c (.lst (xs ++ [.ref t])) = H8
  intro s11 hrd11 ht11 hc11
  refine ⟨_, rfl, rd, _, rfl, (hR7.same s11).gm, hrd11, [(.inr "simple", .ref c), (.inr "multipliers", .ref m)], rfl, (by show 2 ≤ 15; decide), ?_⟩
  rw [mk_rows]
  have sA : Same H7 (upd H8 rd2 (.dK [(.inr "simple", .ref c), (.inr "multipliers", .ref m)])) := s11.mut nrd
  have nrc : rd2 ≠ c := ne_of hrd11 hc11 (by intro z; cases z)
  have nrt' : rd2 ≠ t := ne_of hrd11 ht11 (by intro z; cases z)
  have hrdA : upd H8 rd2 (.dK [(.inr "simple", .ref c), (.inr "multipliers", .ref m)]) rd2 = some (.dK [(.inr "simple", .ref c), (.inr "multipliers", .ref m)]) := upd_same
  have htA : upd H8 rd2 (.dK [(.inr "simple", .ref c), (.inr "multipliers", .ref m)]) t = some (.tup [.str "zzzzzzzz", .int (v : Nat)]) := by rw [upd_ne nrt'.symm]; exact ht11
  have hcA : upd H8 rd2 (.dK [(.inr "simple", .ref c), (.inr "multipliers", .ref m)]) c = some (.lst (xs ++ [.ref t])) := by rw [upd_ne nrc.symm]; exact hc11
  have ncp : c ≠ p := by
    obtain ⟨l, e⟩ := (hS7.P.same s10).lst
    exact (no_in e nc).symm
  have nrp : rd2 ≠ p := by
    obtain ⟨l, e⟩ := hS7.P.lst
    exact (no_in e nrd).symm
  revert sA hrdA htA hcA
  generalize upd H8 rd2 (.dK [(.inr "simple", .ref c), (.inr "multipliers", .ref m)]) = H9
  intro sA hrdA htA hcA
  have hS9 := hS7.ext sA
  have sG9 : Same G (hp p H9) := same_hp hS9.same gp
  have tk9 : TK K H9 (hp p H9) := by
    obtain ⟨l, e⟩ := hS9.P.lst
    exact TK.hide e
  have hRz : RowsAt K (hp p H9) rd2 c m (withZ R v) := by
    refine ⟨hp_of hrdA nrp, ⟨xs ++ [.ref t], hp_of hcA ncp, ?_⟩, ⟨zs, sG9 _ _ hz, rz.imp fun _ _ => MulRow.same sG9⟩⟩
    exact Rel.append (rx.imp fun _ _ => SimRow.same sG9) (Rel.cons ⟨t, rfl, tk9 _ _ (SqT.of htA)⟩ Rel.nil)
  refine ⟨_, rfl, _, rfl, p, L, rd2, c, m, cs, withZ R v, out, rfl, hS9.P, hlen, hRz, withZ_valid hG hv1 hv2, withZ_out hO, fun y2 H10 s2 m2 b10 hP10 hY2 => ?_⟩
  have hS10 := hS9.pool gp b10 hP10
  refine ⟨_, rfl, _, rfl, v, 1, rfl, rfl, by omega, p, L, cs, v - 1, rfl, hP10, hlen, by omega, by omega, fun st H11 b11 hP11 hst => ?_⟩
  have hS11 := hS10.pool gp b11 hP11
  have hY2' := (hY2.same (hp_but b11)).same (hp_same p H11)
  have hY' := hY.same hS11.same
  refine ⟨1, st, rfl, rfl, ?_⟩
  have pb : (302 : Nat) < 2 ^ 1000 := Nat.lt_of_lt_of_le (show 302 < 2 ^ 10 by decide) (Nat.pow_le_pow_right (by decide) (by decide))
  refine ⟨_, rfl, _, rfl, _, rfl, v, 1, rfl, rfl, by omega, y2, s2, m2, withZ R v, out, 2000, 1 + st, v - 1, rfl, hY2', withZ_ok hG hv1, withZ_out hO, withZ_isB hG hv2, by decide, by omega, by omega, by omega, fun H12 s12 => ?_⟩
  refine ⟨_, rfl, _, rfl, _, rfl, v, 1, rfl, rfl, by omega, y, s', m', R, out, 2000, 1 + st, v - 1, rfl, hY'.same s12, ok, hO, hG.isB, by decide, by omega, by omega, by omega, fun H13 s13 => ?_⟩
  refine ⟨_, _, rfl, EqS.up (d := 0) (by omega) (.inl ⟨_, rfl, ?_⟩), fun H14 s14 => q H14⟩
  rw [withZ_sums hG hv1 (v - 1) (by omega), withZ_sums hG hv1 (1 + st - 1) (by omega)]

end
end Sy

/-! part: Hd -/
set_option Elab.async false
set_option linter.all false
set_option maxRecDepth 100000
set_option maxHeartbeats 0
namespace Sy
open PySem PySem.Spec PyProof.Rows L2
abbrev R : PySem.W.OpenRow := PySem.W.OpenLaw.row PySem.Challenge.rw_sayonce_k39_whole_counting
abbrev hk : PySem.W.Hook := He.hookD 6 fa fn
def ob (s : PySem.W.SharedT) : He.AlD := He.obsDG 6 fa fn (HandSHeadRun.getT s)
theorem ob_eq (s : PySem.W.SharedT) : ob s = hk.obs s.abs := He.obsDG_eq (HandSHeadRun.getT_eq s)
theorem run (w : World) : HandSHeadRun.RunEq R (PySem.W.view R.prog [52]) hk ob 6000 names w := by
  intro os
  kernel_rfl
end Sy

/-! part: End -/
set_option Elab.async false
set_option linter.all false
set_option maxRecDepth 100000
set_option maxHeartbeats 0
namespace Sy
open PySem PySem.Spec PyProof.Rows L2
section
variable {P : Program} {w : World} {K : PySem.W.Frag} {mg : Str → Option Value} {base : Heap}
theorem facts {w : World} {K : PySem.W.Frag} {h : Heap} {mg : Str → Option Value} {f : Addr} (X : K.In h) (G : h.Ns mainGlobals mg) (hfa : mg ("law" : Str) = some (.ref f)) (c : He.SaysD fa fn K) :
    ∃ fd : FuncData, (∀ (s : Shared) (v : Value), BindsTo s fd ⟨[v], []⟩ [("_law_script", v)]) ∧ ∀ base : Heap, K.In base → base.Ns mainGlobals mg → FnOk (PySem.Challenge.rw_sayonce_k39_whole_counting).prog w K mg base CX0 143 f fd ["_law_script"] (sp_law K) := by
  have W : Wd K mg := Wd.of X G c
  obtain ⟨fd, F⟩ := c.def_ 61 (d := d_law) rfl
  have F' : FunD K d_law.name d_law.qual d_law.params d_law.body d_law.scope [] [] (He.fAd K d_law.at_) fd := F
  have e := hfa.symm.trans W.g_law
  cases e
  have b := FunD.bindsA (ps := ["_law_script"]) F' fun _ _ _ _ _ _ us hl => match us, hl with | [_], _ => rfl
  exact ⟨fd, fun s v => b s [v] rfl, fun base _ _ => law_fn W F'⟩

end
end Sy
open PySem PySem.W PySem.Calls PyProof.Rows
theorem PySem.Challenge.cw_sayonce_k39_whole_counting_holds : PySem.Challenge.rw_sayonce_k39_whole_counting.Holds := by
  w_on; o_law
  refine HandSHeadRun.head_any (r := OpenLaw.row PySem.Challenge.rw_sayonce_k39_whole_counting) (q := view (OpenLaw.row PySem.Challenge.rw_sayonce_k39_whole_counting).prog [52]) (H := Sy.hk) (ob := Sy.ob) (M := 6000) (loose := Sy.names) (d := HandSHeadRun.topDef (OpenLaw.row PySem.Challenge.rw_sayonce_k39_whole_counting).prog 52) (kwd := []) Sy.ob_eq
    (by kernel_rfl) (fun s => by kernel_rfl) Sy.run (by kernel_rfl) (by kernel_rfl) (by kernel_rfl) (by rfl) (by first | assumption | decide +kernel) (by decide +kernel) ⟨rfl, rfl, rfl, rfl, rfl, by decide +kernel⟩ ?hw ?hc
  case hw => w_witness2
  case hc =>
    refine L2.walk_ofE (l := PySem.Challenge.rw_sayonce_k39_whole_counting) (n := 63) (k := 143) (x := "_law_script") (CX := L2.CX0) rfl (by decide) (by kernel_rfl) ⟨rfl, by decide, by decide⟩ ?F (fun _ _ _ _ z => z)
    intro w mg fa h Y G hmg0
    obtain ⟨K, KX, c⟩ := Y
    have hmg : mg ("law" : PySem.Str) = some (.ref fa) := by
      have e : (HandSHeadRun.topDef (OpenLaw.row PySem.Challenge.rw_sayonce_k39_whole_counting).prog 52).name = ("law" : PySem.Str) := by kernel_rfl
      rw [← e]
      exact hmg0
    obtain ⟨fd, hb, hF⟩ := Sy.facts (w := w) KX G hmg c
    exact ⟨K, fd, Sy.sp_law K, KX, hb, fun H a ns hl _ hS => ⟨a, ns, rfl, hS, Nat.lt_of_le_of_lt hl (by decide), fun _ => rfl⟩, hF⟩
