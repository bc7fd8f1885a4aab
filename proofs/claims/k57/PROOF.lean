import PyProof.Rows.All
import Wide.All
import OpenK.AllK
import Wide.FinOn
import KE.KStateDown
import Lean
import HandS.ForMost
import HandS.Defaults
import HandS.Head0
import HandS.Head1
import HandS.Head2
import HandS.HeadEnd
import HandS.HeadHook1
import HandS.HeadHook2
import KE.KSuper
import KE.KIsAll
import HandS.Codes
import HandS.IsInst
import HandS.TupAny
import HandS.Walk
import HandS.Deep
import KE.GoesMore
import HandS.DictComp
import HandS.OwnEq
import HandS.Records
import PyProof.InstNe
import KE.KDictExact
import KE.KDictPairs
import HandS.Star
import HandS.SortRule
import HandS.Nested
import HandS.Style
import HandS.Flt
import KE.DataMinMax
import PyProof.Rows.StrRev
import PyProof.MaxThree
import HandS.TupMul
import KE.KEqSeq
import HandS.Wide
import HandS.Conv
import PySem.Challenge.RW_anyletter_k57_whole_plain_words_read_thi
set_option Elab.async false
set_option linter.all false
set_option maxRecDepth 100000
set_option maxHeartbeats 4000000
namespace K57
open PySem PySem.Spec PyProof.Rows L2
abbrev prog : Program := PySem.Challenge.pw_anyletter_k57_whole_plain_words_read_thi
def top (i : Nat) : Stmt := prog.main.body.getD i (.Pass ⟨0, 0, 0, 0⟩)
abbrev s_is_integer : Stmt := top 18
abbrev s_is_within : Stmt := top 19
abbrev s_are_integers : Stmt := top 20
abbrev s_are_within : Stmt := top 21
abbrev s_is_word : Stmt := top 22
abbrev s_is_sign : Stmt := top 23
abbrev s_is_text : Stmt := top 24
abbrev s_need_number : Stmt := top 25
abbrev s_need_text : Stmt := top 26
abbrev s_are_words : Stmt := top 32
abbrev s_need_book : Stmt := top 33
abbrev s_need_row : Stmt := top 34
abbrev s_need_copies : Stmt := top 35
abbrev s_text_in : Stmt := top 36
abbrev s_row_in : Stmt := top 37
abbrev s_spelled : Stmt := top 38
abbrev s_read : Stmt := top 39
abbrev s_is_edit : Stmt := top 45
abbrev s_can_be_done : Stmt := top 46
abbrev s_done : Stmt := top 47
abbrev s_behind : Stmt := top 48
abbrev s_fits : Stmt := top 49
abbrev s_need_edits : Stmt := top 50
abbrev s_damaged : Stmt := top 51
abbrev s_plain_words : Stmt := top 74
abbrev s_plain_book : Stmt := top 75
abbrev s_is_truth : Stmt := top 80
abbrev s_are_cells : Stmt := top 81
abbrev s_need_that : Stmt := top 82
abbrev s_parts_of_stand : Stmt := top 84
abbrev s_hear : Stmt := top 86
abbrev s_reckon : Stmt := top 87
abbrev s_do_flagged : Stmt := top 88
abbrev s_go : Stmt := top 89
abbrev s_do_plain : Stmt := top 90
abbrev s_do_here : Stmt := top 91
abbrev s_counted : Stmt := top 92
abbrev s_do_word : Stmt := top 93
abbrev s_need_stand : Stmt := top 94
abbrev s_need_plain_row : Stmt := top 95
abbrev s_need_heard : Stmt := top 96
abbrev s_begun : Stmt := top 97
abbrev s_passed : Stmt := top 98
abbrev s_fixed : Stmt := top 100
abbrev s_begins_of : Stmt := top 104
abbrev s_need_two : Stmt := top 108
abbrev s_counts_to : Stmt := top 109
abbrev s_way_along : Stmt := top 110
abbrev s_least_edits : Stmt := top 111
abbrev s_is_cut : Stmt := top 115
abbrev s_copies_told : Stmt := top 116
abbrev s_best_begins : Stmt := top 117
abbrev s_raised : Stmt := top 118
abbrev s_alone_cost : Stmt := top 119
abbrev s_side_costs : Stmt := top 120
abbrev s_border_cost : Stmt := top 121
abbrev s_triples_of : Stmt := top 123
abbrev s_cheapest : Stmt := top 124
abbrev s_stretch_in : Stmt := top 125
abbrev s_strange_in_prices : Stmt := top 126
abbrev s_price_of : Stmt := top 128
abbrev s_need_asked : Stmt := top 134
abbrev s_moved_on : Stmt := top 136
abbrev s_strange_in_thick : Stmt := top 137
abbrev s_judged_book : Stmt := top 139
abbrev s__law_press : Stmt := top 141
abbrev s__law_turn : Stmt := top 142
abbrev s__law_one_of : Stmt := top 143
abbrev s__law_spelled : Stmt := top 144
abbrev s__law_read : Stmt := top 145
abbrev s__law_is_thick : Stmt := top 146
abbrev s__law_hurt : Stmt := top 147
abbrev s__law_edits : Stmt := top 148
abbrev s__law_aimed : Stmt := top 149
abbrev s__law_cut_up : Stmt := top 150
abbrev s__law_row_right : Stmt := top 151
abbrev s_law : Stmt := top 152
abbrev s_Book_init : Stmt := inClass (top 31) 0
abbrev s_Stand_init : Stmt := inClass (top 83) 0
abbrev s_Stand_eq : Stmt := inClass (top 83) 2
abbrev s_Live_init : Stmt := inClass (top 85) 0
abbrev s_Live_kept : Stmt := inClass (top 85) 1
abbrev s_Paper_init : Stmt := inClass (top 101) 0
abbrev s_Paper_bool : Stmt := inClass (top 101) 1
abbrev s_Denial_bool : Stmt := inClass (top 102) 0
abbrev s_Ways_init : Stmt := inClass (top 107) 0
abbrev s_Strange_init : Stmt := inClass (top 113) 0
abbrev s_Costs_init : Stmt := inClass (top 122) 0
abbrev s_Costs_of : Stmt := inClass (top 122) 1
abbrev s_Costs_over : Stmt := inClass (top 122) 2
abbrev s_Costs_triple : Stmt := inClass (top 122) 3
abbrev s_Thick_init : Stmt := inClass (top 132) 0
abbrev s_Broken_init : Stmt := inClass (top 133) 0
open He in
def mkD (a : Str × Option Str) (n q : Str) (s : Stmt) (dfl : List He.Dv := []) : He.DefD := ⟨a, n, q, defArgs s, defBody s, defScope s, dfl, []⟩
def D_is_integer : He.DefD := mkD ("is_integer", none) "is_integer" "is_integer" s_is_integer
def D_is_within : He.DefD := mkD ("is_within", none) "is_within" "is_within" s_is_within
def D_are_integers : He.DefD := mkD ("are_integers", none) "are_integers" "are_integers" s_are_integers
def D_are_within : He.DefD := mkD ("are_within", none) "are_within" "are_within" s_are_within
def D_is_word : He.DefD := mkD ("is_word", none) "is_word" "is_word" s_is_word
def D_is_sign : He.DefD := mkD ("is_sign", none) "is_sign" "is_sign" s_is_sign
def D_is_text : He.DefD := mkD ("is_text", none) "is_text" "is_text" s_is_text
def D_need_number : He.DefD := mkD ("need_number", none) "need_number" "need_number" s_need_number
def D_need_text : He.DefD := mkD ("need_text", none) "need_text" "need_text" s_need_text [.str "text"]
def D_are_words : He.DefD := mkD ("are_words", none) "are_words" "are_words" s_are_words
def D_need_book : He.DefD := mkD ("need_book", none) "need_book" "need_book" s_need_book [.str "book"]
def D_need_row : He.DefD := mkD ("need_row", none) "need_row" "need_row" s_need_row [.str "row"]
def D_need_copies : He.DefD := mkD ("need_copies", none) "need_copies" "need_copies" s_need_copies
def D_text_in : He.DefD := mkD ("text_in", none) "text_in" "text_in" s_text_in
def D_row_in : He.DefD := mkD ("row_in", none) "row_in" "row_in" s_row_in
def D_spelled : He.DefD := mkD ("spelled", none) "spelled" "spelled" s_spelled
def D_read : He.DefD := mkD ("read", none) "read" "read" s_read
def D_is_edit : He.DefD := mkD ("is_edit", none) "is_edit" "is_edit" s_is_edit
def D_can_be_done : He.DefD := mkD ("can_be_done", none) "can_be_done" "can_be_done" s_can_be_done
def D_done : He.DefD := mkD ("done", none) "done" "done" s_done
def D_behind : He.DefD := mkD ("behind", none) "behind" "behind" s_behind
def D_fits : He.DefD := mkD ("fits", none) "fits" "fits" s_fits
def D_need_edits : He.DefD := mkD ("need_edits", none) "need_edits" "need_edits" s_need_edits
def D_damaged : He.DefD := mkD ("damaged", none) "damaged" "damaged" s_damaged
def D_plain_words : He.DefD := mkD ("plain_words", none) "plain_words" "plain_words" s_plain_words
def D_plain_book : He.DefD := mkD ("plain_book", none) "plain_book" "plain_book" s_plain_book
def D_is_truth : He.DefD := mkD ("is_truth", none) "is_truth" "is_truth" s_is_truth
def D_are_cells : He.DefD := mkD ("are_cells", none) "are_cells" "are_cells" s_are_cells
def D_need_that : He.DefD := mkD ("need_that", none) "need_that" "need_that" s_need_that
def D_parts_of_stand : He.DefD := mkD ("parts_of_stand", none) "parts_of_stand" "parts_of_stand" s_parts_of_stand
def D_hear : He.DefD := mkD ("hear", none) "hear" "hear" s_hear
def D_reckon : He.DefD := mkD ("reckon", none) "reckon" "reckon" s_reckon
def D_do_flagged : He.DefD := mkD ("do_flagged", none) "do_flagged" "do_flagged" s_do_flagged
def D_go : He.DefD := mkD ("go", none) "go" "go" s_go
def D_do_plain : He.DefD := mkD ("do_plain", none) "do_plain" "do_plain" s_do_plain
def D_do_here : He.DefD := mkD ("do_here", none) "do_here" "do_here" s_do_here
def D_counted : He.DefD := mkD ("counted", none) "counted" "counted" s_counted
def D_do_word : He.DefD := mkD ("do_word", none) "do_word" "do_word" s_do_word
def D_need_stand : He.DefD := mkD ("need_stand", none) "need_stand" "need_stand" s_need_stand
def D_need_plain_row : He.DefD := mkD ("need_plain_row", none) "need_plain_row" "need_plain_row" s_need_plain_row
def D_need_heard : He.DefD := mkD ("need_heard", none) "need_heard" "need_heard" s_need_heard
def D_begun : He.DefD := mkD ("begun", none) "begun" "begun" s_begun
def D_passed : He.DefD := mkD ("passed", none) "passed" "passed" s_passed
def D_fixed : He.DefD := mkD ("fixed", none) "fixed" "fixed" s_fixed
def D_begins_of : He.DefD := mkD ("begins_of", none) "begins_of" "begins_of" s_begins_of
def D_need_two : He.DefD := mkD ("need_two", none) "need_two" "need_two" s_need_two
def D_counts_to : He.DefD := mkD ("counts_to", none) "counts_to" "counts_to" s_counts_to
def D_way_along : He.DefD := mkD ("way_along", none) "way_along" "way_along" s_way_along
def D_least_edits : He.DefD := mkD ("least_edits", none) "least_edits" "least_edits" s_least_edits
def D_is_cut : He.DefD := mkD ("is_cut", none) "is_cut" "is_cut" s_is_cut
def D_copies_told : He.DefD := mkD ("copies_told", none) "copies_told" "copies_told" s_copies_told
def D_best_begins : He.DefD := mkD ("best_begins", none) "best_begins" "best_begins" s_best_begins
def D_raised : He.DefD := mkD ("raised", none) "raised" "raised" s_raised
def D_alone_cost : He.DefD := mkD ("alone_cost", none) "alone_cost" "alone_cost" s_alone_cost
def D_side_costs : He.DefD := mkD ("side_costs", none) "side_costs" "side_costs" s_side_costs
def D_border_cost : He.DefD := mkD ("border_cost", none) "border_cost" "border_cost" s_border_cost
def D_triples_of : He.DefD := mkD ("triples_of", none) "triples_of" "triples_of" s_triples_of
def D_cheapest : He.DefD := mkD ("cheapest", none) "cheapest" "cheapest" s_cheapest
def D_stretch_in : He.DefD := mkD ("stretch_in", none) "stretch_in" "stretch_in" s_stretch_in
def D_strange_in_prices : He.DefD := mkD ("strange_in_prices", none) "strange_in" "strange_in" s_strange_in_prices
def D_price_of : He.DefD := mkD ("price_of", none) "price_of" "price_of" s_price_of
def D_need_asked : He.DefD := mkD ("need_asked", none) "need_asked" "need_asked" s_need_asked
def D_moved_on : He.DefD := mkD ("moved_on", none) "moved_on" "moved_on" s_moved_on
def D_strange_in_thick : He.DefD := mkD ("strange_in_thick", none) "strange_in" "strange_in" s_strange_in_thick
def D_judged_book : He.DefD := mkD ("judged_book", none) "judged_book" "judged_book" s_judged_book
def D__law_press : He.DefD := mkD ("_law_press", none) "_law_press" "_law_press" s__law_press
def D__law_turn : He.DefD := mkD ("_law_turn", none) "_law_turn" "_law_turn" s__law_turn
def D__law_one_of : He.DefD := mkD ("_law_one_of", none) "_law_one_of" "_law_one_of" s__law_one_of
def D__law_spelled : He.DefD := mkD ("_law_spelled", none) "_law_spelled" "_law_spelled" s__law_spelled
def D__law_read : He.DefD := mkD ("_law_read", none) "_law_read" "_law_read" s__law_read
def D__law_is_thick : He.DefD := mkD ("_law_is_thick", none) "_law_is_thick" "_law_is_thick" s__law_is_thick
def D__law_hurt : He.DefD := mkD ("_law_hurt", none) "_law_hurt" "_law_hurt" s__law_hurt
def D__law_edits : He.DefD := mkD ("_law_edits", none) "_law_edits" "_law_edits" s__law_edits
def D__law_aimed : He.DefD := mkD ("_law_aimed", none) "_law_aimed" "_law_aimed" s__law_aimed
def D__law_cut_up : He.DefD := mkD ("_law_cut_up", none) "_law_cut_up" "_law_cut_up" s__law_cut_up
def D__law_row_right : He.DefD := mkD ("_law_row_right", none) "_law_row_right" "_law_row_right" s__law_row_right
def D_law : He.DefD := mkD ("law", none) "law" "law" s_law
def D_Book_init : He.DefD := mkD ("Book", some "__init__") "__init__" "Book.__init__" s_Book_init
def D_Stand_init : He.DefD := mkD ("Stand", some "__init__") "__init__" "Stand.__init__" s_Stand_init
def D_Stand_eq : He.DefD := mkD ("Stand", some "__eq__") "__eq__" "Stand.__eq__" s_Stand_eq
def D_Live_init : He.DefD := mkD ("Live", some "__init__") "__init__" "Live.__init__" s_Live_init
def D_Live_kept : He.DefD := mkD ("Live", some "kept") "kept" "Live.kept" s_Live_kept
def D_Paper_init : He.DefD := mkD ("Paper", some "__init__") "__init__" "Paper.__init__" s_Paper_init
def D_Paper_bool : He.DefD := mkD ("Paper", some "__bool__") "__bool__" "Paper.__bool__" s_Paper_bool
def D_Denial_bool : He.DefD := mkD ("Denial", some "__bool__") "__bool__" "Denial.__bool__" s_Denial_bool
def D_Costs_init : He.DefD := mkD ("Costs", some "__init__") "__init__" "Costs.__init__" s_Costs_init
def D_Costs_of : He.DefD := mkD ("Costs", some "of") "of" "Costs.of" s_Costs_of
def D_Costs_over : He.DefD := mkD ("Costs", some "over") "over" "Costs.over" s_Costs_over
def D_Costs_triple : He.DefD := mkD ("Costs", some "triple") "triple" "Costs.triple" s_Costs_triple
def fn : List He.DefD := [D_is_integer, D_is_within, D_are_integers, D_are_within, D_is_word, D_is_sign, D_is_text, D_need_number, D_need_text, D_are_words, D_need_book, D_need_row, D_need_copies, D_text_in, D_row_in, D_spelled, D_read, D_is_edit, D_can_be_done, D_done, D_behind, D_fits, D_need_edits, D_damaged, D_plain_words, D_plain_book, D_is_truth, D_are_cells, D_need_that, D_parts_of_stand, D_hear, D_reckon, D_do_flagged, D_go, D_do_plain, D_do_here, D_counted, D_do_word, D_need_stand, D_need_plain_row, D_need_heard, D_begun, D_passed, D_fixed, D_begins_of, D_need_two, D_counts_to, D_way_along, D_least_edits, D_is_cut, D_copies_told, D_best_begins, D_raised, D_alone_cost, D_side_costs, D_border_cost, D_triples_of, D_cheapest, D_stretch_in, D_strange_in_prices, D_price_of, D_need_asked, D_moved_on, D_strange_in_thick, D_judged_book, D__law_press, D__law_turn, D__law_one_of, D__law_spelled, D__law_read, D__law_is_thick, D__law_hurt, D__law_edits, D__law_aimed, D__law_cut_up, D__law_row_right, D_law, D_Book_init, D_Stand_init, D_Stand_eq, D_Live_init, D_Live_kept, D_Paper_init, D_Paper_bool, D_Denial_bool, D_Costs_init, D_Costs_of, D_Costs_over, D_Costs_triple]
def fa : List He.Fa := [.glo "is_integer",
  .glo "is_within",
  .glo "are_integers",
  .glo "are_within",
  .glo "is_word",
  .glo "is_sign",
  .glo "is_text",
  .glo "need_number",
  .glo "need_text",
  .glo "are_words",
  .glo "need_book",
  .glo "need_row",
  .glo "need_copies",
  .glo "text_in",
  .glo "row_in",
  .glo "spelled",
  .glo "read",
  .glo "is_edit",
  .glo "can_be_done",
  .glo "done",
  .glo "behind",
  .glo "fits",
  .glo "need_edits",
  .glo "damaged",
  .glo "plain_words",
  .glo "plain_book",
  .glo "is_truth",
  .glo "are_cells",
  .glo "need_that",
  .glo "parts_of_stand",
  .glo "hear",
  .glo "reckon",
  .glo "do_flagged",
  .glo "go",
  .glo "do_plain",
  .glo "do_here",
  .glo "counted",
  .glo "do_word",
  .glo "need_stand",
  .glo "need_plain_row",
  .glo "need_heard",
  .glo "begun",
  .glo "passed",
  .glo "fixed",
  .glo "begins_of",
  .glo "need_two",
  .glo "counts_to",
  .glo "way_along",
  .glo "least_edits",
  .glo "is_cut",
  .glo "copies_told",
  .glo "best_begins",
  .glo "raised",
  .glo "alone_cost",
  .glo "side_costs",
  .glo "border_cost",
  .glo "triples_of",
  .glo "cheapest",
  .glo "stretch_in",
  .glo "strange_in_prices",
  .glo "price_of",
  .glo "need_asked",
  .glo "moved_on",
  .glo "strange_in_thick",
  .glo "judged_book",
  .glo "_law_press",
  .glo "_law_turn",
  .glo "_law_one_of",
  .glo "_law_spelled",
  .glo "_law_read",
  .glo "_law_is_thick",
  .glo "_law_hurt",
  .glo "_law_edits",
  .glo "_law_aimed",
  .glo "_law_cut_up",
  .glo "_law_row_right",
  .glo "law",
  .glo "Book",
  .glo "Stand",
  .glo "Live",
  .glo "Paper",
  .glo "Denial",
  .glo "Ways",
  .glo "Strange",
  .glo "Costs",
  .glo "Thick",
  .glo "Broken",
  .free "len",
  .free "isinstance",
  .free "int",
  .free "bool",
  .free "str",
  .free "list",
  .free "tuple",
  .free "all",
  .free "any",
  .free "set",
  .free "sum",
  .free "min",
  .free "max",
  .free "range",
  .free "enumerate",
  .free "sorted",
  .free "dict",
  .free "zip",
  .free "abs",
  .free "super",
  .int "MOST_LETTERS" 12,
  .int "MOST_SIGNS_checks" 200000,
  .int "MOST_WORDS" 40,
  .int "MOST_NUMBERS" 10000,
  .int "MOST_COPIES_books" 12,
  .int "MOST_EDITS_edits" 12,
  .int "OUTSET" 0,
  .int "UPLIFT" 1,
  .int "PREPARE" 3,
  .int "AUGMENT" 4,
  .int "LESSEN" 5,
  .int "MULTIPLY" 6,
  .int "PORTION" 7,
  .int "EXCHANGE" 8,
  .int "INQUIRE" 9,
  .int "PROCLAIM" 10,
  .int "OBTAIN" 11,
  .int "CIPHER" 12,
  .int "NOTHING" 20,
  .int "DUPLICATE" 21,
  .int "DEPOSIT" 22,
  .int "WHETHER" 23,
  .int "NEGATIVE" 24,
  .int "GRANTED" 25,
  .int "JOURNEY" 28,
  .int "FINISH" 29,
  .int "ANYWAY_MODE" 2,
  .int "LAST_WORD" 29,
  .int "EIGHT" 8,
  .int "MOST_SIGNS_ways" 300,
  .int "MOST_COPIES_thick" 12,
  .int "MOST_EDITS_thick" 4,
  .str "LETTERS" "abcdefghijklmnopqrstuvwxyz",
  .str "BLANK" " ",
  .str "SIGNS" "abcdefghijklmnopqrstuvwxyz ",
  .str "LOST" "lost",
  .str "PUT" "put",
  .str "CHANGED" "changed",
  .cls "Book",
  .noat "Book" "words",
  .cls "Stand",
  .noat "Stand" "block",
  .noat "Stand" "room",
  .noat "Stand" "tick",
  .noat "Stand" "flag",
  .noat "Stand" "test",
  .noat "Stand" "mode",
  .noat "Stand" "first",
  .noat "Stand" "second",
  .noat "Stand" "cells",
  .noat "Stand" "heard",
  .noat "Stand" "said",
  .noat "Stand" "is_done",
  .cls "Live",
  .noat "Live" "block",
  .noat "Live" "room",
  .noat "Live" "tick",
  .noat "Live" "flag",
  .noat "Live" "test",
  .noat "Live" "mode",
  .noat "Live" "first",
  .noat "Live" "second",
  .noat "Live" "cells",
  .noat "Live" "heard",
  .noat "Live" "said",
  .noat "Live" "is_done",
  .noat "Live" "numbers",
  .cls "Ways",
  .noat "Ways" "word",
  .noat "Ways" "parts",
  .noat "Ways" "edits",
  .cls "Strange",
  .noat "Strange" "word",
  .noat "Strange" "parts",
  .noat "Strange" "row",
  .noat "Strange" "edits",
  .noat "Strange" "made",
  .cls "Costs",
  .noat "Costs" "words",
  .noat "Costs" "alone",
  .noat "Costs" "ahead",
  .noat "Costs" "behind",
  .cls "Thick",
  .noat "Thick" "word",
  .noat "Thick" "parts",
  .noat "Thick" "price",
  .cls "Broken",
  .noat "Broken" "word",
  .noat "Broken" "parts",
  .noat "Broken" "row",
  .noat "Broken" "edits",
  .mkr "Book",
  .mkr "Stand",
  .mkr "Live",
  .mkr "Costs",
  .mkr "Ways",
  .mkr "Strange",
  .mkr "Thick",
  .mkr "Broken",
  .glo "WORDS",
  .meth "Live" "kept",
  .meth "Costs" "of",
  .meth "Costs" "over",
  .meth "Costs" "triple"]
def wordsDv : List He.Dv := [.str "outset", .str "uplift", .str "advance", .str "prepare", .str "augment", .str "lessen", .str "multiply", .str "portion", .str "exchange", .str "inquire", .str "proclaim", .str "obtain", .str "cipher", .str "single", .str "couple", .str "tripled", .str "quarter", .str "fivefold", .str "hexagon", .str "weekday", .str "nothing", .str "duplicate", .str "deposit", .str "whether", .str "negative", .str "granted", .str "otherwise", .str "anyway", .str "journey", .str "finish"]
/-- isinstance(.., C) may be asked -/
def insB (K : PySem.W.Frag) (x : Str) : Bool :=
  He.eqO (PySem.W.findIn K (.ref (He.ga K x)) "__class__") (some (some (.builtin "object.__class__"))) &&
  (He.eqO (PySem.W.specialIn K (.builtin "object.__class__") "__get__") (some (some (.builtin "getset_descriptor.__get__"))) &&
  (decide (PySem.W.takesIn K (.builtin "object.__class__") = some true) &&
  (decide (PySem.W.mroIn K (He.ga K x) (.type "object") = some true) && decide (PySem.W.kitOne K (.ref (He.ga K x)) (.ref (He.ga K x)) = some true))))
/-- the special method m of the class x is that of the class y -/
def spcB (K : PySem.W.Frag) (x y m : Str) : Bool :=
  He.eqO (PySem.W.findIn K (.ref (He.ga K x)) m) (some (some (.ref (He.ma K (He.ga K y) m)))) && PySem.W.isFn K (.ref (He.ma K (He.ga K y) m))
/-- the class x has object's own != -/
def neB (K : PySem.W.Frag) (x : Str) : Bool := He.eqO (PySem.W.findIn K (.ref (He.ga K x)) "__ne__") (some (some (.builtin "object.__ne__")))
/-- the cell of __class__ in the closure of x.__init__ -/
def cellOf (K : PySem.W.Frag) (x : Str) : Addr := match K.lookup (He.ma K (He.ga K x) "__init__") with
  | some ⟨_, _, .func fd, _⟩ => (match fd.closure with
    | [(_, cc)] => cc
    | _ => 0)
  | _ => 0
abbrev FnX : Type := Option (Str × Str × Arguments × FuncBody × Scope × Addr × List Str × Addr × Value × Value)
def fnX (K : PySem.W.Frag) (x : Str) : FnX := match K.lookup (He.ma K (He.ga K x) "__init__") with
  | some ⟨_, _, .func fd, _⟩ => some (fd.name, fd.qualname, fd.params, fd.body, fd.scope, fd.globals, fd.closure.map (·.1), fd.builtins, fd.defaults, fd.kwdefaults)
  | _ => none
def vInit (q : Str) (s : Stmt) : FnX := some ("__init__", q, defArgs s, .stmts (defBody s), defScope s, mainGlobals, ["__class__"], builtinsNs, .none, .none)
def fx (K : PySem.W.Frag) : List FnX := [fnX K "Ways", fnX K "Strange", fnX K "Thick", fnX K "Broken"]
def fxV : List FnX := [vInit "Ways.__init__" s_Ways_init, vInit "Strange.__init__" s_Strange_init, vInit "Thick.__init__" s_Thick_init, vInit "Broken.__init__" s_Broken_init]
/-- super() in x.__init__ finds Paper's -/
def supB (K : PySem.W.Frag) (x q : Str) : Bool :=
  (PySem.W.keepIn K (.ref (He.ma K (He.ga K x) "__init__")) && ((match K.lookup (He.ma K (He.ga K x) "__init__") with
  | some ⟨_, _, .func fd, _⟩ => PySem.W.codeIn K fd.code q && (match fd.code with
    | .ref cda => (match K.lookup cda with
      | some ⟨_, _, .fields vs, _⟩ => (match vs[2]? with
        | some (Value.str y _) => decide ((prog.main.file : Str) = y)
        | _ => false)
      | _ => false)
    | _ => false)
  | _ => false) &&
  ((match K.lookup (cellOf K x) with
  | some ⟨_, _, .cell (some (.ref D)), _⟩ => decide (D = He.ga K x)
  | _ => false) &&
  ((PySem.W.clsIn K (He.ga K x)).isSome && (decide (PySem.W.mroIn K (He.ga K x) (.ref (He.ga K x)) = some true) &&
  (He.eqO (PySem.W.ks_superIn K (He.ga K x) (He.ga K x) "__init__") (some (some (.ref (He.ma K (He.ga K "Paper") "__init__")))) &&
  (PySem.W.fnIn K (He.ma K (He.ga K "Paper") "__init__") && (decide (PySem.W.typeIn K (.ref (He.ma K (He.ga K "Paper") "__init__")) = some (.type "function")) && He.eqO (PySem.W.nsIn K cStatics "thirdparty.any") (some none)))))))))
/-- more facts of the written part -/
def exs (K : PySem.W.Frag) : List Bool := [He.tupB K "WORDS" wordsDv, insB K "Book", insB K "Stand", spcB K "Stand" "Stand" "__eq__", neB K "Stand",
  spcB K "Strange" "Paper" "__bool__", spcB K "Broken" "Denial" "__bool__",
  supB K "Ways" "Ways.__init__", supB K "Strange" "Strange.__init__", supB K "Thick" "Thick.__init__", supB K "Broken" "Broken.__init__"]
def ex (K : PySem.W.Frag) : Bool := (exs K).all id
end K57
namespace HkE
open PySem PySem.Spec PyProof.Rows L2
abbrev AlE : Type := He.AlD × Bool × List K57.FnX
section
variable (as : List Addr) (fa : List He.Fa) (fn : List He.DefD) (ex : PySem.W.Frag → Bool)
def obsE (g : Addr → Option Obj) : AlE := (He.obsD fa fn (He.frG g as), ex (He.frG g as), K57.fx (He.frG g as))
def valE : AlE := (He.valD fn, true, K57.fxV)
structure SaysE (K : PySem.W.Frag) : Prop where
  d : He.SaysD fa fn K
  e : ex K = true
  x : K57.fx K = K57.fxV
theorem says_of {h : Heap} (e : obsE as fa fn ex h.get? = valE fn) : SaysE fa fn ex (He.frG h.get? as) :=
  ⟨congrArg (fun z : AlE => z.1) e, congrArg (fun z : AlE => z.2.1) e, congrArg (fun z : AlE => z.2.2) e⟩
def hookE : PySem.W.Hook where
  α := AlE
  obs := fun s => obsE as fa fn ex s.heap.get?
  val := fun _ => valE fn
  says := fun _ h => ∃ K : PySem.W.Frag, K.In h ∧ SaysE fa fn ex K
  of := fun _ _ e => ⟨_, He.frG_in, says_of as fa fn ex e⟩
  keeps := fun _ _ _ ⟨K, hK, c⟩ k => ⟨K, PySem.W.Frag.In.keeps hK k, c⟩
theorem obsE_eq {g : Addr → Option Obj} {s : Shared} (h : ∀ a, g a = s.heap.get? a) : obsE as fa fn ex g = (hookE as fa fn ex).obs s := by
  have e : g = s.heap.get? := funext h
  rw [e] <;> rfl
end
end HkE
namespace K57
open PySem PySem.Spec PyProof.Rows L2
def addrs : List Addr := [2, 3, 243, 244, 250, 251, 255, 256, 260, 261, 265, 266, 272, 273, 277, 278, 284, 285, 286, 292, 293, 306, 307, 323, 324, 332, 333, 334, 340, 341, 342, 348, 349, 355, 356, 360, 361, 365, 366, 370, 371, 377, 378, 384, 385, 391, 392, 398, 399, 405, 406, 412, 413, 419, 420, 426, 427, 428, 434, 435, 441, 442, 448, 449, 453, 454, 460, 461, 472, 473, 484, 485, 487, 488, 498, 499, 512, 513, 517, 518, 520, 521, 531, 532, 538, 539, 545, 546, 552, 553, 559, 560, 566, 567, 573, 574, 580, 581, 587, 588, 594, 595, 601, 602, 608, 609, 615, 616, 620, 621, 634, 635, 641, 642, 651, 652, 669, 670, 672, 673, 679, 680, 684, 695, 696, 698, 699, 707, 708, 714, 715, 721, 722, 728, 729, 733, 744, 745, 747, 748, 777, 778, 784, 785, 791, 792, 798, 799, 803, 804, 808, 809, 813, 814, 827, 828, 834, 835, 841, 842, 848, 849, 851, 852, 860, 861, 867, 868, 872, 873, 877, 878, 884, 885, 889, 900, 901, 903, 904, 910, 921, 922, 924, 925, 933, 934, 947, 948, 952, 953, 959, 960, 964, 965, 971, 972, 978, 979, 985, 986, 990, 991, 997, 998, 1004, 1005, 1011, 1012, 1016, 1017, 1021, 1022, 1026, 1027, 1033, 1034]
abbrev hk : PySem.W.Hook := HkE.hookE addrs fa fn ex
def ob (s : PySem.W.SharedT) : HkE.AlE := HkE.obsE addrs fa fn ex (HandSHeadRun.getT s)
theorem ob_eq (s : PySem.W.SharedT) : ob s = hk.obs s.abs := HkE.obsE_eq addrs fa fn ex (HandSHeadRun.getT_eq s)
end K57
set_option Elab.async false
set_option linter.all false
set_option maxRecDepth 100000
set_option maxHeartbeats 0
namespace K57.HR
open PySem PySem.W PySem.Calls PySem.Spec PyProof.Rows L2
def names0 : List PySem.Str := ["LetterError", "BadNumber", "BadText", "BadWord", "BadBook", "BadRow", "BadEdits", "BadMachine", "BadHeard", "Misfit", "TooMany", "LETTERS", "BLANK", "SIGNS", "MOST_LETTERS", "MOST_SIGNS_checks", "is_integer", "is_within", "are_integers", "are_within", "is_word", "is_sign", "is_text", "need_number", "need_text", "MOST_WORDS", "MOST_NUMBERS", "MOST_COPIES_books", "Book", "are_words"]
def names1 : List PySem.Str := ["need_book", "need_row", "need_copies", "text_in", "row_in", "spelled", "read", "LOST", "PUT", "CHANGED", "MOST_EDITS_edits", "is_edit", "can_be_done", "done", "behind", "fits", "need_edits", "damaged", "WORDS", "OUTSET", "UPLIFT", "PREPARE", "AUGMENT", "LESSEN", "MULTIPLY", "PORTION", "EXCHANGE", "INQUIRE", "PROCLAIM", "OBTAIN"]
def names2 : List PySem.Str := ["CIPHER", "NOTHING", "DUPLICATE", "DEPOSIT", "WHETHER", "NEGATIVE", "GRANTED", "JOURNEY", "FINISH", "plain_words", "plain_book", "ANYWAY_MODE", "LAST_WORD", "EIGHT", "is_truth", "are_cells", "need_that", "Stand", "parts_of_stand", "Live", "hear", "reckon", "do_flagged", "go", "do_plain", "do_here", "counted", "do_word", "need_stand", "need_plain_row"]
def names3 : List PySem.Str := ["need_heard", "begun", "passed", "fixed", "Paper", "Denial", "begins_of", "MOST_SIGNS_ways", "Ways", "need_two", "counts_to", "way_along", "least_edits", "Strange", "Alone", "is_cut", "copies_told", "best_begins", "raised", "alone_cost", "side_costs", "border_cost", "Costs", "triples_of", "cheapest", "stretch_in", "strange_in", "strange_in_prices", "price_of", "MOST_COPIES_thick"]
def names4 : List PySem.Str := ["MOST_EDITS_thick", "Thick", "Broken", "need_asked", "emptied", "moved_on", "strange_in_thick", "judged_book", "_law_press", "_law_turn", "_law_one_of", "_law_spelled", "_law_read", "_law_is_thick", "_law_hurt", "_law_edits", "_law_aimed", "_law_cut_up", "_law_row_right"]
def names : List PySem.Str := names0 ++ names1 ++ names2 ++ names3 ++ names4
abbrev R : PySem.W.OpenRow := PySem.W.OpenLaw.row PySem.Challenge.rw_anyletter_k57_whole_plain_words_read_thi
noncomputable abbrev endR (w : World) (os : OsState) : Option PySem.W.SharedT := HandSHeadRun.endF (HandSHeadRun.stepQ (HandSHeadRun.denQ HandSHeadRun.tabQ) R.prog w) 20000 R.prog w os
noncomputable def lk1 (w : World) (s : PySem.W.SharedT) : Bool := HandSHeadRun.looksF R.prog (boot_heap w.params) s.abs
noncomputable def lk2 (s : PySem.W.SharedT) := HandSHeadRun.seenQ (PySem.W.view R.prog [152]) names (importedModules R.prog.main.body) (fun s => PySem.W.xlAt (PySem.W.view R.prog [152]) [] s && PySem.W.recOk R.toRowW.records s) s.abs
theorem run1 (w : World) (os : OsState) : (endR w os).map (fun s => (lk1 w s, lk2 s)) = some (true, PySem.W.openGood (PySem.W.view R.prog [152]) names) := by
  kernel_rfl
theorem run2 (w : World) (os : OsState) : (endR w os).map (fun s => He.obsD fa fn (He.frG (HandSHeadRun.getT s) addrs)) = some (He.valD fn) := by
  kernel_rfl
theorem run3 (w : World) (os : OsState) : (endR w os).map (fun s => (ex (He.frG (HandSHeadRun.getT s) addrs), fx (He.frG (HandSHeadRun.getT s) addrs))) = some (true, fxV) := by
  kernel_rfl
theorem map3 {α β γ δ : Type} {o : Option α} {f : α → β} {g : α → γ} {h : α → δ} {a : β} {b : γ} {c : δ} (h1 : o.map f = some a) (h2 : o.map g = some b) (h3 : o.map h = some c) : o.map (fun s => (f s, g s, h s)) = some (a, b, c) := by
  cases o with
  | none => cases h1
  | some s =>
    cases h1
    cases h2
    cases h3
    rfl
theorem run (w : World) : HandSHeadRun.RunEq R (PySem.W.view R.prog [152]) hk ob 20000 names w := by
  intro os
  have h := map3 (run1 w os) (run2 w os) (run3 w os)
  obtain ⟨s, hs, e⟩ := Option.map_eq_some_iff.mp h
  refine Option.map_eq_some_iff.mpr ⟨s, hs, ?_⟩
  obtain ⟨e1, e2, e3⟩ : _ ∧ _ ∧ _ := by simpa only [Prod.mk.injEq] using e
  have e4 : ob s = (He.valD fn, true, fxV) := by
    show (He.obsD fa fn (He.frG (HandSHeadRun.getT s) addrs), ex (He.frG (HandSHeadRun.getT s) addrs), fx (He.frG (HandSHeadRun.getT s) addrs)) = _
    rw [e2, e3.1, e3.2]
  exact Prod.ext e1.1 (Prod.ext e1.2 e4)
end K57.HR
set_option linter.all false
namespace K57
abbrev T := List Nat
/-! ### alignments -/
inductive Al : T → T → Nat → Prop
  | nil (k : Nat) : Al [] [] k
  | keep {s t : T} {k : Nat} (c : Nat) : Al s t k → Al (c :: s) (c :: t) k
  | lost {s t : T} {k : Nat} (c : Nat) : Al s t k → Al (c :: s) t (k + 1)
  | put {s t : T} {k : Nat} (c : Nat) : Al s t k → Al s (c :: t) (k + 1)
  | chg {s t : T} {k : Nat} (c d : Nat) : Al s t k → Al (c :: s) (d :: t) (k + 1)
theorem Al.mono {s t : T} {k : Nat} (h : Al s t k) : ∀ {j : Nat}, k ≤ j → Al s t j := by
  induction h with
  | nil k => intro j _; exact .nil j
  | keep c _ ih => intro j hj; exact .keep c (ih hj)
  | lost c _ ih => intro j hj; cases j with
    | zero => omega
    | succ j => exact .lost c (ih (by omega))
  | put c _ ih => intro j hj; cases j with
    | zero => omega
    | succ j => exact .put c (ih (by omega))
  | chg c d _ ih => intro j hj; cases j with
    | zero => omega
    | succ j => exact .chg c d (ih (by omega))
theorem Al.refl : ∀ s : T, Al s s 0
  | [] => .nil 0
  | c :: s => .keep c (Al.refl s)
theorem Al.symm {s t : T} {k : Nat} (h : Al s t k) : Al t s k := by
  induction h with
  | nil k => exact .nil k
  | keep c _ ih => exact .keep c ih
  | lost c _ ih => exact .put c ih
  | put c _ ih => exact .lost c ih
  | chg c d _ ih => exact .chg d c ih
theorem Al.zero {s t : T} {k : Nat} (h : Al s t k) : k = 0 → s = t := by
  induction h with
  | nil k => intro _; rfl
  | keep c _ ih => intro e; rw [ih e]
  | lost c _ ih => intro e; omega
  | put c _ ih => intro e; omega
  | chg c d _ ih => intro e; omega
theorem Al.len {s t : T} {k : Nat} (h : Al s t k) : s.length ≤ t.length + k := by
  induction h with
  | nil k => simp
  | keep c _ ih => simp only [List.length_cons]; omega
  | lost c _ ih => simp only [List.length_cons]; omega
  | put c _ ih => simp only [List.length_cons]; omega
  | chg c d _ ih => simp only [List.length_cons]; omega
theorem Al.app {s t s' t' : T} {k j : Nat} (h : Al s t k) (h' : Al s' t' j) : Al (s ++ s') (t ++ t') (k + j) := by
  induction h with
  | nil k => exact h'.mono (by omega)
  | keep c _ ih => exact .keep c ih
  | lost c _ ih => exact (Al.lost c ih).mono (by omega)
  | put c _ ih => exact (Al.put c ih).mono (by omega)
  | chg c d _ ih => exact (Al.chg c d ih).mono (by omega)
theorem Al.splitR {s t : T} {k : Nat} (h : Al s t k) : ∀ {t1 t2 : T}, t = t1 ++ t2 → ∃ s1 s2 k1 k2, s = s1 ++ s2 ∧ k1 + k2 ≤ k ∧ Al s1 t1 k1 ∧ Al s2 t2 k2 := by
  induction h with
  | nil k =>
    intro t1 t2 e
    have e' := e.symm
    rw [List.append_eq_nil_iff] at e'
    obtain ⟨rfl, rfl⟩ := e'
    exact ⟨[], [], 0, k, rfl, by omega, .nil 0, .nil k⟩
  | @keep s t k c h ih =>
    intro t1 t2 e
    cases t1 with
    | nil =>
      rw [List.nil_append] at e
      subst e
      exact ⟨[], c :: s, 0, k, rfl, by omega, .nil 0, .keep c h⟩
    | cons d t1 =>
      rw [List.cons_append] at e
      injection e with e1 e2
      subst e1
      obtain ⟨s1, s2, k1, k2, rfl, hk, a, b⟩ := ih e2
      exact ⟨c :: s1, s2, k1, k2, rfl, hk, .keep c a, b⟩
  | @lost s t k c h ih =>
    intro t1 t2 e
    obtain ⟨s1, s2, k1, k2, rfl, hk, a, b⟩ := ih e
    exact ⟨c :: s1, s2, k1 + 1, k2, rfl, by omega, .lost c a, b⟩
  | @put s t k c h ih =>
    intro t1 t2 e
    cases t1 with
    | nil =>
      rw [List.nil_append] at e
      subst e
      exact ⟨[], s, 0, k + 1, rfl, by omega, .nil 0, .put c h⟩
    | cons d t1 =>
      rw [List.cons_append] at e
      injection e with e1 e2
      subst e1
      obtain ⟨s1, s2, k1, k2, rfl, hk, a, b⟩ := ih e2
      exact ⟨s1, s2, k1 + 1, k2, rfl, by omega, .put c a, b⟩
  | @chg s t k c d h ih =>
    intro t1 t2 e
    cases t1 with
    | nil =>
      rw [List.nil_append] at e
      subst e
      exact ⟨[], c :: s, 0, k + 1, rfl, by omega, .nil 0, .chg c d h⟩
    | cons d' t1 =>
      rw [List.cons_append] at e
      injection e with e1 e2
      subst e1
      obtain ⟨s1, s2, k1, k2, rfl, hk, a, b⟩ := ih e2
      exact ⟨c :: s1, s2, k1 + 1, k2, rfl, by omega, .chg c d a, b⟩
theorem Al.splitL {s1 s2 t : T} {k : Nat} (h : Al (s1 ++ s2) t k) : ∃ t1 t2 k1 k2, t = t1 ++ t2 ∧ k1 + k2 ≤ k ∧ Al s1 t1 k1 ∧ Al s2 t2 k2 := by
  obtain ⟨a, b, k1, k2, e, hk, x, y⟩ := h.symm.splitR rfl
  exact ⟨a, b, k1, k2, e, hk, x.symm, y.symm⟩
/-! ### edits -/
inductive Ed where
  | lost (p : Nat) | put (p c : Nat) | chg (p c : Nat)
def Ed.go (t : T) : Ed → T
  | .lost p => t.take p ++ t.drop (p + 1)
  | .put p c => t.take p ++ c :: t.drop p
  | .chg p c => t.take p ++ c :: t.drop (p + 1)
theorem Al.snocPut {s t : T} {k : Nat} (h : Al s t k) (c : Nat) : Al s (t ++ [c]) (k + 1) := by
  have h2 : Al ([] : T) [c] 1 := .put c (.nil 0)
  have h3 := h.app h2
  rw [List.append_nil] at h3
  exact h3
theorem Al.doLost {s t : T} {k : Nat} (h : Al s t k) : ∀ p : Nat, Al s (t.take p ++ t.drop (p + 1)) (k + 1) := by
  induction h with
  | nil k => intro p; simpa using Al.nil (k + 1)
  | @keep s t k c h ih =>
    intro p
    cases p with
    | zero => simpa using Al.lost c h
    | succ p => simpa using Al.keep c (ih p)
  | @lost s t k c h ih => intro p; exact .lost c (ih p)
  | @put s t k c h ih =>
    intro p
    cases p with
    | zero => simpa using h.mono (j := k + 1 + 1) (by omega)
    | succ p => simpa using Al.put c (ih p)
  | @chg s t k c d h ih =>
    intro p
    cases p with
    | zero => simpa using (Al.lost c h).mono (j := k + 1 + 1) (by omega)
    | succ p => simpa using Al.chg c d (ih p)
theorem Al.doPut {s t : T} {k : Nat} (h : Al s t k) (x : Nat) : ∀ p : Nat, Al s (t.take p ++ x :: t.drop p) (k + 1) := by
  induction h with
  | nil k => intro p; simpa using Al.put x (Al.nil k)
  | @keep s t k c h ih =>
    intro p
    cases p with
    | zero => simpa using Al.put x (Al.keep c h)
    | succ p => simpa using Al.keep c (ih p)
  | @lost s t k c h ih => intro p; exact .lost c (ih p)
  | @put s t k c h ih =>
    intro p
    cases p with
    | zero => simpa using Al.put x (Al.put c h)
    | succ p => simpa using Al.put c (ih p)
  | @chg s t k c d h ih =>
    intro p
    cases p with
    | zero => simpa using Al.put x (Al.chg c d h)
    | succ p => simpa using Al.chg c d (ih p)
theorem Al.doChg {s t : T} {k : Nat} (h : Al s t k) (x : Nat) : ∀ p : Nat, Al s (t.take p ++ x :: t.drop (p + 1)) (k + 1) := by
  induction h with
  | nil k => intro p; simpa using Al.put x (Al.nil k)
  | @keep s t k c h ih =>
    intro p
    cases p with
    | zero => simpa using Al.chg c x h
    | succ p => simpa using Al.keep c (ih p)
  | @lost s t k c h ih => intro p; exact .lost c (ih p)
  | @put s t k c h ih =>
    intro p
    cases p with
    | zero => simpa using (Al.put x h).mono (j := k + 1 + 1) (by omega)
    | succ p => simpa using Al.put c (ih p)
  | @chg s t k c d h ih =>
    intro p
    cases p with
    | zero => simpa using (Al.chg c x h).mono (j := k + 1 + 1) (by omega)
    | succ p => simpa using Al.chg c d (ih p)
theorem Al.edit {s t : T} {k : Nat} (h : Al s t k) : ∀ e : Ed, Al s (e.go t) (k + 1)
  | .lost p => h.doLost p
  | .put p c => h.doPut c p
  | .chg p c => h.doChg c p
def goAll (t : T) (es : List Ed) : T := es.foldl Ed.go t
theorem Al.edits : ∀ (es : List Ed) {s t : T} {k : Nat}, Al s t k → Al s (goAll t es) (k + es.length)
  | [], _, _, _, h => h
  | e :: es, s, t, k, h => by
    have := Al.edits es (h.edit e)
    show Al s (goAll (e.go t) es) _
    rw [List.length_cons, Nat.add_comm es.length 1, ← Nat.add_assoc]
    exact this
/-! ### items between blanks -/
def sp : List T → T
  | [] => []
  | w :: ws => w ++ 32 :: sp ws
theorem sp_app : ∀ a b : List T, sp (a ++ b) = sp a ++ sp b
  | [], _ => rfl
  | w :: a, b => by
    show w ++ 32 :: sp (a ++ b) = (w ++ 32 :: sp a) ++ sp b
    rw [sp_app a b, List.append_assoc, List.cons_append]
abbrev rep {α : Type} (n : Nat) (x : α) : List α := List.replicate n x
theorem sp_end : ∀ ws : List T, sp ws = [] ∨ ∃ X, sp ws = X ++ [32]
  | [] => .inl rfl
  | w :: ws => .inr (by
    rcases sp_end ws with h | ⟨X, h⟩
    · exact ⟨w, by show w ++ 32 :: sp ws = _; rw [h]⟩
    · exact ⟨w ++ 32 :: X, by show w ++ 32 :: sp ws = _; rw [h, List.append_assoc, List.cons_append]⟩)
theorem sp_cut : ∀ (ws : List T), (∀ w ∈ ws, 32 ∉ w) → ∀ {X Z : T}, sp ws = X ++ Z → (X = [] ∨ ∃ X', X = X' ++ [32]) → ∃ ws1 ws2, ws = ws1 ++ ws2 ∧ X = sp ws1 ∧ Z = sp ws2
  | [], _, X, Z, e, _ => by
    have e' : X ++ Z = [] := e.symm
    rw [List.append_eq_nil_iff] at e'
    exact ⟨[], [], rfl, e'.1, e'.2⟩
  | w :: ws, hn, X, Z, e, hX => by
    rcases hX with rfl | ⟨X', rfl⟩
    · exact ⟨[], w :: ws, rfl, rfl, e.symm⟩
    · have e1 : (w ++ [32]) ++ sp ws = (X' ++ [32]) ++ Z := by
        rw [List.append_assoc]; exact e
      rcases List.append_eq_append_iff.mp e1 with ⟨a, h1, h2⟩ | ⟨a, h1, h2⟩
      · -- X' ++ [32] = (w ++ [32]) ++ a, sp ws = a ++ Z
        have ha : a = [] ∨ ∃ a', a = a' ++ [32] := by
          rcases List.eq_nil_or_concat a with h | ⟨a', x, h⟩ <;> try rw [List.concat_eq_append] at h
          · exact .inl h
          · refine .inr ⟨a', ?_⟩
            rw [h, ← List.append_assoc] at h1
            have := List.append_inj_right' h1 rfl
            rw [h]
            injection this with q _
            rw [q]
        obtain ⟨ws1, ws2, rfl, e3, e4⟩ := sp_cut ws (fun v hv => hn v (List.mem_cons_of_mem _ hv)) h2 ha
        refine ⟨w :: ws1, ws2, rfl, ?_, e4⟩
        rw [h1, e3, List.append_assoc]
        rfl
      · -- w ++ [32] = (X' ++ [32]) ++ a, Z = a ++ sp ws
        rcases List.eq_nil_or_concat a with h | ⟨a', x, h⟩ <;> try rw [List.concat_eq_append] at h
        · subst h
          rw [List.append_nil] at h1
          refine ⟨[w], ws, rfl, ?_, ?_⟩
          · rw [← h1]; rfl
          · rw [h2]; rfl
        · exfalso
          subst h
          rw [← List.append_assoc] at h1
          have h3 := List.append_inj_left' h1 rfl
          refine hn w List.mem_cons_self ?_
          rw [h3]
          simp
/-- a word at the head -/
theorem sp_word {v : T} (hv : 32 ∉ v) : ∀ (ws : List T), (∀ w ∈ ws, 32 ∉ w) → ∀ {Y : T}, sp ws = v ++ 32 :: Y → ∃ ws2, ws = v :: ws2 ∧ Y = sp ws2
  | [], _, Y, e => by simp [sp] at e
  | w :: ws, hn, Y, e => by
    have e1 : (w ++ [32]) ++ sp ws = (v ++ [32]) ++ Y := by
      rw [List.append_assoc, List.append_assoc]; exact e
    have hw := hn w List.mem_cons_self
    have key : ∀ {a b c : T}, 32 ∉ b → b ++ [32] = (a ++ [32]) ++ c → c = [] := by
      intro a b c hb h
      rcases List.eq_nil_or_concat c with h0 | ⟨c', x, h0⟩ <;> try rw [List.concat_eq_append] at h0
      · exact h0
      · exfalso
        subst h0
        rw [← List.append_assoc] at h
        have h3 := List.append_inj_left' h rfl
        refine hb ?_
        rw [h3]
        simp
    rcases List.append_eq_append_iff.mp e1 with ⟨a, h1, h2⟩ | ⟨a, h1, h2⟩
    · have := key hv h1
      subst this
      rw [List.append_nil] at h1
      have := List.append_inj_left' h1 rfl
      subst this
      exact ⟨ws, rfl, h2.symm⟩
    · have := key hw h1
      subst this
      rw [List.append_nil] at h1
      have := List.append_inj_left' h1 rfl
      subst this
      exact ⟨ws, rfl, h2⟩
/-! ### the copy that stays -/
theorem sp_rep_succ (n : Nat) (v : T) : sp (rep (n + 1) v) = (v ++ [32]) ++ sp (rep n v) := by
  show v ++ 32 :: sp (rep n v) = _
  rw [List.append_assoc]; rfl
theorem surv_core (v s2 : T) : ∀ (n : Nat) (t : T) (b : Nat) (d : Bool), 2 * b + 1 + (if d = true then 1 else 0) ≤ n → Al (sp (rep n v) ++ s2) t b →
    ∃ i X Y c1 c2, i < n ∧ t = X ++ ((v ++ [32]) ++ Y) ∧ ((X = [] ∧ d = false) ∨ ∃ X', X = X' ++ [32]) ∧ Al (sp (rep i v)) X c1 ∧ Al (sp (rep (n - 1 - i) v) ++ s2) Y c2 ∧ c1 + c2 ≤ b
  | 0, t, b, d, hn, _ => by omega
  | n + 1, t, b, d, hn, h => by
    rw [sp_rep_succ, List.append_assoc] at h
    obtain ⟨t1, t2, a, b', rfl, hab, h1, h2⟩ := h.splitL
    by_cases ha : a = 0
    · have e := h1.zero ha
      subst e
      cases d with
      | false => exact ⟨0, [], t2, 0, b', by omega, rfl, .inl ⟨rfl, rfl⟩, .nil 0, by simpa using h2, by omega⟩
      | true =>
        simp only [if_true] at hn
        obtain ⟨i, X, Y, c1, c2, hi, e, hX, x1, x2, hc⟩ := surv_core v s2 n t2 b' false (by simp; omega) h2
        refine ⟨i + 1, (v ++ [32]) ++ X, Y, a + c1, c2, by omega, by rw [e, List.append_assoc (v ++ [32])], .inr ?_, ?_, ?_, by omega⟩
        · rcases hX with ⟨rfl, _⟩ | ⟨X', rfl⟩
          · exact ⟨v, by rw [List.append_nil]⟩
          · exact ⟨(v ++ [32]) ++ X', by rw [List.append_assoc (v ++ [32])]⟩
        · rw [sp_rep_succ]; exact h1.app x1
        · rw [show n + 1 - 1 - (i + 1) = n - 1 - i by omega]; exact x2
    · have hb : b' + 1 ≤ b := by omega
      obtain ⟨i, X, Y, c1, c2, hi, e, hX, x1, x2, hc⟩ := surv_core v s2 n t2 b' true (by cases d <;> simp_all <;> omega) h2
      refine ⟨i + 1, t1 ++ X, Y, a + c1, c2, by omega, by rw [e, List.append_assoc t1], .inr ?_, ?_, ?_, by omega⟩
      · rcases hX with ⟨_, z⟩ | ⟨X', rfl⟩
        · cases z
        · exact ⟨t1 ++ X', by rw [List.append_assoc]⟩
      · rw [sp_rep_succ]; exact h1.app x1
      · rw [show n + 1 - 1 - (i + 1) = n - 1 - i by omega]; exact x2
theorem surv {us1 us2 ws : List T} {v : T} {n k : Nat} (hv : 32 ∉ v) (hw : ∀ w ∈ ws, 32 ∉ w) (hn : 2 * k + 1 ≤ n) (h : Al (sp (us1 ++ (rep n v ++ us2))) (sp ws) k) :
    ∃ i ws1 ws2 k1 k2, i < n ∧ ws = ws1 ++ v :: ws2 ∧ k1 ≤ k ∧ k2 ≤ k ∧ Al (sp (us1 ++ rep i v)) (sp ws1) k1 ∧ Al (sp (rep (n - 1 - i) v ++ us2)) (sp ws2) k2 := by
  rw [sp_app, sp_app] at h
  obtain ⟨t0, t', a, b, e, hab, h1, h2⟩ := h.splitL
  have main : ∃ i X Y c1 c2, i < n ∧ t' = X ++ ((v ++ [32]) ++ Y) ∧ (t0 ++ X = [] ∨ ∃ X', t0 ++ X = X' ++ [32]) ∧ Al (sp (rep i v)) X c1 ∧ Al (sp (rep (n - 1 - i) v) ++ sp us2) Y c2 ∧ c1 + c2 ≤ b := by
    by_cases ha : a = 0
    · obtain ⟨i, X, Y, c1, c2, hi, e, hX, x1, x2, hc⟩ := surv_core v (sp us2) n t' b false (by simp; omega) h2
      refine ⟨i, X, Y, c1, c2, hi, e, ?_, x1, x2, hc⟩
      rcases hX with ⟨rfl, _⟩ | ⟨X', rfl⟩
      · rw [List.append_nil, ← h1.zero ha]; exact sp_end us1
      · exact .inr ⟨t0 ++ X', by rw [List.append_assoc]⟩
    · obtain ⟨i, X, Y, c1, c2, hi, e, hX, x1, x2, hc⟩ := surv_core v (sp us2) n t' b true (by simp; omega) h2
      refine ⟨i, X, Y, c1, c2, hi, e, ?_, x1, x2, hc⟩
      rcases hX with ⟨_, z⟩ | ⟨X', rfl⟩
      · cases z
      · exact .inr ⟨t0 ++ X', by rw [List.append_assoc]⟩
  obtain ⟨i, X, Y, c1, c2, hi, e2, hX, x1, x2, hc⟩ := main
  have e3 : sp ws = (t0 ++ X) ++ ((v ++ [32]) ++ Y) := by rw [e, e2, List.append_assoc t0]
  obtain ⟨ws1, w2, rfl, q1, q2⟩ := sp_cut ws hw e3 hX
  obtain ⟨ws2, rfl, q3⟩ := sp_word hv w2 (fun w hm => hw w (List.mem_append_right _ hm)) (Y := Y) (by rw [← q2, List.append_assoc]; rfl)
  refine ⟨i, ws1, ws2, a + c1, c2, hi, rfl, by omega, by omega, ?_, ?_⟩
  · rw [sp_app, ← q1]; exact h1.app x1
  · rw [sp_app, ← q3]; exact x2
/-! ### prices -/
def ahd (P : T) : Nat := if P = [] ∨ P.getLast? = some 32 then 0 else 1
def bhd (R : T) : Nat := if R.head? = some 32 then 0 else 1
def Price1 (u w : T) : Prop := ∀ (a : Nat) (P S R : T) (k : Nat), sp (rep a u) = P ++ (S ++ R) → Al S w k → 4 ≤ k + ahd P + bhd R
def Price2 (u v w : T) : Prop := ∀ (a b : Nat) (P S R : T) (k : Nat), sp (rep a u ++ rep b v) = P ++ (S ++ R) → Al S w k → 4 ≤ k + ahd P + bhd R
theorem ahd_le {P t : T} {k : Nat} (h : Al P t k) (ht : t = [] ∨ ∃ X, t = X ++ [32]) : ahd P ≤ k := by
  unfold ahd
  split
  · omega
  · rename_i hp
    by_cases hk : k = 0
    · exfalso
      have e := h.zero hk
      subst e
      rcases ht with rfl | ⟨X, rfl⟩
      · exact hp (.inl rfl)
      · exact hp (.inr (by simp))
    · omega
theorem bhd_le {R t : T} {k : Nat} (h : Al R (32 :: t) k) : bhd R ≤ k := by
  unfold bhd
  split
  · omega
  · rename_i hp
    by_cases hk : k = 0
    · exfalso
      have e := h.zero hk
      subst e
      exact hp rfl
    · omega
theorem item {s : T} {W1 W2 : List T} {w : T} {k : Nat} (h : Al s (sp (W1 ++ w :: W2)) k) :
    ∃ P S R p k0 r, s = P ++ (S ++ R) ∧ p + k0 + r ≤ k ∧ Al P (sp W1) p ∧ Al S w k0 ∧ Al R (32 :: sp W2) r := by
  rw [sp_app] at h
  obtain ⟨P, s2, p, j, rfl, hk, h1, h2⟩ := h.splitR rfl
  obtain ⟨S, R, k0, r, rfl, hj, h3, h4⟩ := h2.splitR (t1 := w) (t2 := 32 :: sp W2) rfl
  exact ⟨P, S, R, p, k0, r, rfl, by omega, h1, h3, h4⟩
theorem pairwise_of {α : Type} {R : α → α → Prop} : ∀ (l : List α), (∀ l1 a l2 b l3, l = l1 ++ a :: (l2 ++ b :: l3) → R a b) → l.Pairwise R
  | [], _ => .nil
  | a :: l, h => by
    refine .cons (fun b hb => ?_) (pairwise_of l fun l1 c l2 d l3 e => h (a :: l1) c l2 d l3 (by rw [e]; rfl))
    obtain ⟨l2, l3, rfl⟩ := List.append_of_mem hb
    exact h [] a l2 b l3 rfl
theorem two_of {α : Type} {u v : α} (huv : u ≠ v) : ∀ (l : List α), (∀ x ∈ l, x = u ∨ x = v) → l.Pairwise (fun a b => ¬ (a = v ∧ b = u)) → ∃ x y, l = rep x u ++ rep y v
  | [], _, _ => ⟨0, 0, rfl⟩
  | a :: l, h, p => by
    cases p with
    | cons p1 p2 =>
      obtain ⟨x, y, e⟩ := two_of huv l (fun z hz => h z (List.mem_cons_of_mem _ hz)) p2
      rcases h a List.mem_cons_self with rfl | rfl
      · exact ⟨x + 1, y, by rw [e]; rfl⟩
      · refine ⟨0, y + 1, ?_⟩
        have : x = 0 := by
          cases x with
          | zero => rfl
          | succ x =>
            exfalso
            exact p1 u (by rw [e]; exact List.mem_append_left _ List.mem_cons_self) ⟨rfl, rfl⟩
        subst this
        rw [e]; rfl
structure Book (B : T → Bool) : Prop where
  nb : ∀ w, B w = true → 32 ∉ w
  ne : ∀ w, B w = true → w ≠ []
  p1 : ∀ u w, B u = true → B w = true → w ≠ u → Price1 u w
  p2 : ∀ u v w, B u = true → B v = true → B w = true → w ≠ u → w ≠ v → Price2 u v w
theorem bhd_sp_rep {v : T} (hv : 32 ∉ v) (hn : v ≠ []) (b : Nat) : bhd (sp (rep b v)) = 1 := by
  cases b with
  | zero => rfl
  | succ b =>
    cases v with
    | nil => exact absurd rfl hn
    | cons c v =>
      unfold bhd
      rw [if_neg]
      show ¬ (some c = some 32)
      intro e
      injection e with e
      exact hv (by rw [e]; exact List.mem_cons_self)
theorem bhd_app {A B : T} (h : A ≠ []) : bhd (A ++ B) = bhd A := by
  cases A with
  | nil => exact absurd rfl h
  | cons a A => rfl
theorem ahd_app {A B : T} (h : B ≠ []) : ahd (A ++ B) = ahd B := by
  unfold ahd
  rw [List.getLast?_append]
  cases hb : B.getLast? with
  | none => exact absurd (List.getLast?_eq_none_iff.mp hb) h
  | some z => simp [h]
theorem two {B : T → Bool} (hB : Book B) {u v : T} (hu : B u = true) (hv : B v = true) {a b k : Nat} (hk : k ≤ 3) {ws : List T} (h : Al (sp (rep a u ++ rep b v)) (sp ws) k) :
    ∃ x y, ws.filter B = rep x u ++ rep y v := by
  have h1 : ∀ w ∈ ws.filter B, w = u ∨ w = v := by
    intro w hw
    rw [List.mem_filter] at hw
    obtain ⟨W1, W2, e⟩ := List.append_of_mem hw.1
    by_cases e1 : w = u
    · exact .inl e1
    by_cases e2 : w = v
    · exact .inr e2
    exfalso
    rw [e] at h
    obtain ⟨P, S, R, p, k0, r, es, hc, x1, x2, x3⟩ := item h
    have := hB.p2 u v w hu hv hw.2 e1 e2 a b P S R k0 es x2
    have := ahd_le x1 (sp_end W1)
    have := bhd_le x3
    omega
  by_cases huv : u = v
  · subst huv
    refine ⟨(ws.filter B).length, 0, ?_⟩
    show _ = rep _ u ++ []
    rw [List.append_nil]
    exact List.eq_replicate_of_mem fun w hw => (h1 w hw).elim id id
  · refine two_of huv _ h1 (List.Pairwise.filter _ (pairwise_of ws fun W1 x W2 y W3 e => ?_))
    rintro ⟨rfl, rfl⟩
    have e' : ws = (W1 ++ x :: W2) ++ y :: W3 := by rw [e]; simp
    rw [e'] at h
    obtain ⟨P', S', R', p', k0', r', es', hc', x1', x2', x3'⟩ := item h
    obtain ⟨P, S, Rm, p, k0, rm, es, hc, x1, x2, x3⟩ := item x1'
    have es2 : sp (rep a y) ++ sp (rep b x) = (P ++ S) ++ (Rm ++ (S' ++ R')) := by
      rw [← sp_app, es', es]; simp
    rcases List.append_eq_append_iff.mp es2 with ⟨c, q1, q2⟩ | ⟨c, q1, q2⟩
    · -- P ++ S = sp (rep a y) ++ c
      by_cases hc0 : c = []
      · subst hc0
        rw [List.append_nil] at q1
        have hp := hB.p1 y x hu hv (Ne.symm huv) a P S [] k0 (by rw [← q1]; simp) x2
        have := ahd_le x1 (sp_end W1)
        have : bhd [] = 1 := rfl
        have hb : 1 ≤ rm + r' := by
          by_cases hrm : rm = 0
          · have := x3.zero hrm
            rw [this] at q2
            have hh := bhd_sp_rep (hB.nb x hv) (hB.ne x hv) b
            rw [List.nil_append] at q2
            rw [q2] at hh
            simp [bhd] at hh
          · omega
        omega
      · have q3 : P' = sp (rep a y) ++ (c ++ Rm) := by rw [es, ← List.append_assoc P, q1, List.append_assoc]
        have hp := hB.p1 x y hv hu huv b (c ++ Rm) S' R' k0' (by rw [q2]; simp) x2'
        have e3 : ahd P' = ahd (c ++ Rm) := by
          rw [q3]
          exact ahd_app (by intro z; rw [List.append_eq_nil_iff] at z; exact hc0 z.1)
        have := ahd_le x1' (sp_end _)
        have := bhd_le x3'
        omega
    · -- sp (rep a y) = (P ++ S) ++ c
      have hp := hB.p1 y x hu hv (Ne.symm huv) a P S c k0 (by rw [q1]; simp) x2
      have := ahd_le x1 (sp_end W1)
      have hb : bhd c ≤ rm := by
        by_cases hrm : rm = 0
        · have e5 := x3.zero hrm
          by_cases hc0 : c = []
          · subst hc0
            rw [List.nil_append, e5] at q2
            have hh := bhd_sp_rep (hB.nb x hv) (hB.ne x hv) b
            rw [← q2] at hh
            simp [bhd] at hh
          · have e6 : bhd (c ++ sp (rep b x)) = bhd c := bhd_app hc0
            rw [← q2, e5] at e6
            rw [← e6]
            simp [bhd]
        · unfold bhd; split <;> omega
      omega
/-! ### read thickly -/
inductive Th {α : Type} : List α → List α → Prop
  | nil : Th [] []
  | cons (u : α) (n : Nat) {r l : List α} : Th r l → Th (u :: r) (rep (n + 1) u ++ l)
theorem Th.map {α β : Type} (f : α → β) {r l : List α} (h : Th r l) : Th (r.map f) (l.map f) := by
  induction h with
  | nil => exact .nil
  | cons u n _ ih =>
    rw [List.map_cons, List.map_append, List.map_replicate]
    exact .cons (f u) n ih
theorem rep_add {α : Type} (a b : Nat) (u : α) : rep a u ++ rep b u = rep (a + b) u := by simp [List.replicate_append_replicate]
theorem chain {B : T → Bool} (hB : Book B) {c : Nat} : ∀ (rest : List T), (∀ w ∈ rest, B w = true) → ∀ {u : T} {a k : Nat} {ws : List T}, B u = true → k ≤ 3 → 2 * k + 1 ≤ c → (∀ w ∈ ws, 32 ∉ w) →
    Al (sp (rep a u ++ rest.flatMap (rep c))) (sp ws) k → ∃ x l, Th rest l ∧ ws.filter B = rep x u ++ l
  | [], _, u, a, k, ws, hu, hk, hc, hw, h => by
    have h' : Al (sp (rep a u ++ rep 0 u)) (sp ws) k := h
    obtain ⟨x, y, e⟩ := two hB hu hu hk h'
    exact ⟨x + y, [], .nil, by rw [e, rep_add, List.append_nil]⟩
  | v :: rest, hr, u, a, k, ws, hu, hk, hc, hw, h => by
    have hv := hr v List.mem_cons_self
    have h' : Al (sp (rep a u ++ (rep c v ++ rest.flatMap (rep c)))) (sp ws) k := h
    obtain ⟨i, ws1, ws2, k1, k2, hi, rfl, hk1, hk2, a1, a2⟩ := surv (hB.nb v hv) hw hc h'
    obtain ⟨x, y, e1⟩ := two hB hu hv (by omega) a1
    obtain ⟨z, l, hl, e2⟩ := chain hB rest (fun w q => hr w (List.mem_cons_of_mem _ q)) hv (by omega) (by omega) (fun w q => hw w (by simp [q])) a2
    refine ⟨x, rep (y + 1 + z - 1 + 1) v ++ l, .cons v _ hl, ?_⟩
    rw [List.filter_append, List.filter_cons, if_pos hv, e1, e2, List.append_assoc, show y + 1 + z - 1 + 1 = y + (1 + z) by omega, ← rep_add y, ← rep_add 1]
    simp
theorem chain0 {B : T → Bool} (hB : Book B) {c k : Nat} {row ws : List T} (hr : ∀ w ∈ row, B w = true) (h0 : row ≠ []) (hk : k ≤ 3) (hc : 2 * k + 1 ≤ c) (hw : ∀ w ∈ ws, 32 ∉ w)
    (h : Al (sp (row.flatMap (rep c))) (sp ws) k) : Th row (ws.filter B) := by
  cases row with
  | nil => exact absurd rfl h0
  | cons u rest =>
    obtain ⟨x, l, hl, e⟩ := chain hB (u :: rest) hr (u := u) (a := 0) (hr u List.mem_cons_self) hk hc hw h
    cases hl with
    | cons _ n hl' =>
      rw [e, ← List.append_assoc, rep_add, show x + (n + 1) = (x + n) + 1 by omega]
      exact .cons u _ hl'
end K57
set_option linter.all false
namespace K57
/-! ### the program's costs -/
def mn (a b : Nat) : Nat := a - (a - b)
theorem mn_l (a b : Nat) : mn a b ≤ a := by unfold mn; omega
theorem mn_r (a b : Nat) : mn a b ≤ b := by unfold mn; omega
theorem mn_eq (a b : Nat) : mn a b = min a b := by unfold mn; omega
def neq (c x : Nat) : Nat := match Nat.beq c x with | true => 0 | false => 1
theorem neq_self (c : Nat) : neq c c = 0 := by unfold neq; rw [Nat.beq_refl]
theorem neq_le (c x : Nat) : neq c x ≤ 1 := by unfold neq; split <;> omega
theorem neq_ite (c x : Nat) : neq c x = if c = x then 0 else 1 := by
  by_cases h : c = x
  · rw [if_pos h, h, neq_self]
  · unfold neq; rw [if_neg h]; cases hb : Nat.beq c x with
    | true => exact absurd (Nat.eq_of_beq_eq_true hb) h
    | false => rfl
def cell (c x l d u : Nat) : Nat := mn (mn (l + 1) (u + 1)) (d + neq c x)
def stepRow (c : Nat) : T → Nat → Nat → List Nat → List Nat
  | x :: xs, l, d, u :: rest => cell c x l d u :: stepRow c xs (cell c x l d u) u rest
  | _, _, _, _ => []
def row0 (f : Nat) : T → List Nat
  | [] => [f]
  | _ :: xs => f :: row0 (f + 1) xs
def nextRow (f c : Nat) (w : T) : List Nat → List Nat
  | d :: rest => mn f (d + 1) :: stepRow c w (mn f (d + 1)) d rest
  | [] => []
def cut (c : Nat) : Nat := neq c 32
def run (w : T) : T → List Nat → List Nat
  | [], r => r
  | c :: t, r => run w t (nextRow (cut c) c w r)
def lastOf : List Nat → Nat
  | [] => 0
  | [a] => a
  | _ :: r => lastOf r
def joinB : List T → T
  | [] => []
  | [a] => a
  | a :: r => a ++ 32 :: joinB r
def copiesTold (u w : T) : Nat := (2 * w.length + 1) / (u.length + 1) + 2
def textC (u w : T) : T := joinB (rep (copiesTold u w) u)
def rows (w P : T) : List Nat := run w P (row0 0 w)
theorem row0_len : ∀ (f : Nat) (w : T), (row0 f w).length = w.length + 1
  | _, [] => rfl
  | f, _ :: xs => by show (row0 (f + 1) xs).length + 1 = _; rw [row0_len (f + 1) xs]; rfl
theorem stepRow_len (c : Nat) : ∀ (xs : T) (l d : Nat) (rest : List Nat), rest.length = xs.length → (stepRow c xs l d rest).length = xs.length
  | [], _, _, _, _ => rfl
  | x :: xs, l, d, [], h => by simp at h
  | x :: xs, l, d, u :: rest, h => by
    show (stepRow c xs (cell c x l d u) u rest).length + 1 = _
    rw [stepRow_len c xs _ u rest (by simpa using h)]; rfl
theorem nextRow_len (f c : Nat) (w : T) {r : List Nat} (h : r.length = w.length + 1) : (nextRow f c w r).length = w.length + 1 := by
  cases r with
  | nil => simp at h
  | cons d rest =>
    show (stepRow c w _ d rest).length + 1 = _
    rw [stepRow_len c w _ d rest (by simpa using h)]
theorem run_snoc (w : T) : ∀ (P : T) (c : Nat) (r : List Nat), run w (P ++ [c]) r = nextRow (cut c) c w (run w P r)
  | [], c, r => rfl
  | p :: P, c, r => run_snoc w P c (nextRow (cut p) p w r)
theorem rows_snoc (w P : T) (c : Nat) : rows w (P ++ [c]) = nextRow (cut c) c w (rows w P) := run_snoc w P c _
theorem rows_len (w : T) : ∀ (P : T) (r : List Nat), r.length = w.length + 1 → (run w P r).length = w.length + 1
  | [], r, h => h
  | c :: P, r, h => rows_len w P _ (nextRow_len _ c w h)
abbrev g (r : List Nat) (m : Nat) : Nat := r.getD m 0
theorem step_le (c : Nat) : ∀ (xs : T) (l d : Nat) (rest : List Nat), rest.length = xs.length → ∀ (m x : Nat), xs[m]? = some x →
    g (l :: stepRow c xs l d rest) (m + 1) ≤ g (l :: stepRow c xs l d rest) m + 1 ∧ g (l :: stepRow c xs l d rest) (m + 1) ≤ g (d :: rest) (m + 1) + 1 ∧ g (l :: stepRow c xs l d rest) (m + 1) ≤ g (d :: rest) m + neq c x
  | [], _, _, _, _, m, x, h => by simp at h
  | y :: xs, l, d, [], h, _, _, _ => by simp at h
  | y :: xs, l, d, u :: rest, h, 0, x, hx => by
    simp only [List.getElem?_cons_zero, Option.some.injEq] at hx
    subst hx
    show cell c y l d u ≤ l + 1 ∧ cell c y l d u ≤ u + 1 ∧ cell c y l d u ≤ d + neq c y
    unfold cell
    have h1 := mn_l (mn (l + 1) (u + 1)) (d + neq c y)
    have h2 := mn_r (mn (l + 1) (u + 1)) (d + neq c y)
    have h3 := mn_l (l + 1) (u + 1)
    have h4 := mn_r (l + 1) (u + 1)
    omega
  | y :: xs, l, d, u :: rest, h, m + 1, x, hx => by
    have := step_le c xs (cell c y l d u) u rest (by simpa using h) m x (by simpa using hx)
    exact this
theorem next_le {w : T} {f c : Nat} {r : List Nat} (h : r.length = w.length + 1) :
    g (nextRow f c w r) 0 ≤ f ∧ g (nextRow f c w r) 0 ≤ g r 0 + 1 ∧ ∀ (m x : Nat), w[m]? = some x →
      g (nextRow f c w r) (m + 1) ≤ g (nextRow f c w r) m + 1 ∧ g (nextRow f c w r) (m + 1) ≤ g r (m + 1) + 1 ∧ g (nextRow f c w r) (m + 1) ≤ g r m + neq c x := by
  cases r with
  | nil => simp at h
  | cons d rest =>
    refine ⟨mn_l _ _, mn_r _ _, fun m x hx => ?_⟩
    exact step_le c w (mn f (d + 1)) d rest (by simpa using h) m x hx
theorem row0_le : ∀ (w : T) (f m x : Nat), w[m]? = some x → g (row0 f w) (m + 1) ≤ g (row0 f w) m + 1
  | [], _, m, x, h => by simp at h
  | y :: w, f, 0, x, _ => by cases w <;> exact Nat.le_refl _
  | y :: w, f, m + 1, x, h => row0_le w (f + 1) m x (by simpa using h)
theorem rows_in (w : T) (P : T) : ∀ (m x : Nat), w[m]? = some x → g (rows w P) (m + 1) ≤ g (rows w P) m + 1 := by
  rcases List.eq_nil_or_concat P with rfl | ⟨P', c, rfl⟩
  · exact row0_le w 0
  · intro m x h
    rw [List.concat_eq_append, rows_snoc]
    exact ((next_le (rows_len w P' _ (row0_len 0 w))).2.2 m x h).1
theorem cut_ahd (P : T) (c : Nat) : cut c = ahd (P ++ [c]) := by
  unfold cut ahd
  rw [neq_ite]
  simp
theorem rows_0 (w P : T) : g (rows w P) 0 ≤ ahd P := by
  rcases List.eq_nil_or_concat P with rfl | ⟨P', c, rfl⟩
  · cases w <;> exact Nat.zero_le _
  · rw [List.concat_eq_append, rows_snoc, ← cut_ahd]
    exact (next_le (rows_len w P' _ (row0_len 0 w))).1
theorem Al.reverse {s t : T} {k : Nat} (h : Al s t k) : Al s.reverse t.reverse k := by
  induction h with
  | nil k => exact .nil k
  | keep c _ ih => rw [List.reverse_cons, List.reverse_cons]; exact ih.app (.keep c (.nil 0))
  | lost c _ ih =>
    rw [List.reverse_cons]
    have := ih.app (Al.lost c (.nil 0))
    rw [List.append_nil] at this
    exact this
  | put c _ ih =>
    rw [List.reverse_cons]
    have := ih.app (Al.put c (.nil 0))
    rw [List.append_nil] at this
    exact this
  | chg c d _ ih => rw [List.reverse_cons, List.reverse_cons]; exact ih.app (.chg c d (.nil 0))
theorem snd_row (w : T) {s t : T} {k : Nat} (h : Al s t k) : ∀ (P : T), (∃ y, w = t.reverse ++ y) → g (rows w (P ++ s.reverse)) t.length ≤ k + ahd P := by
  have at_ : ∀ (t y : T) (c : Nat), w = (c :: t).reverse ++ y → w[t.length]? = some c := by
    intro t y c e
    rw [e, List.reverse_cons, List.append_assoc, List.getElem?_append_right (by simp)]
    simp
  induction h with
  | nil k => intro P _; rw [List.reverse_nil, List.append_nil]; exact Nat.le_trans (rows_0 w P) (by omega)
  | @keep s t k c h ih =>
    rintro P ⟨y, e⟩
    have i1 := ih P ⟨c :: y, by rw [e]; simp⟩
    have i2 := ((next_le (f := cut c) (c := c) (rows_len w (P ++ s.reverse) _ (row0_len 0 w))).2.2 _ _ (at_ t y c e)).2.2
    rw [List.reverse_cons, ← List.append_assoc, rows_snoc, List.length_cons]
    rw [neq_self] at i2
    unfold rows at i1 ⊢
    omega
  | @lost s t k c h ih =>
    rintro P ⟨y, e⟩
    have i1 := ih P ⟨y, e⟩
    have nx := next_le (f := cut c) (c := c) (rows_len w (P ++ s.reverse) _ (row0_len 0 w))
    rw [List.reverse_cons, ← List.append_assoc, rows_snoc]
    unfold rows at i1 ⊢
    cases t with
    | nil =>
      have := nx.2.1
      simp only [List.length_nil] at i1 ⊢
      omega
    | cons d t =>
      have := (nx.2.2 _ _ (at_ t y d e)).2.1
      simp only [List.length_cons] at i1 ⊢
      omega
  | @put s t k c h ih =>
    rintro P ⟨y, e⟩
    have i1 := ih P ⟨c :: y, by rw [e]; simp⟩
    have i2 := rows_in w (P ++ s.reverse) _ _ (at_ t y c e)
    rw [List.length_cons]
    omega
  | @chg s t k c d h ih =>
    rintro P ⟨y, e⟩
    have i1 := ih P ⟨d :: y, by rw [e]; simp⟩
    have i2 := ((next_le (f := cut c) (c := c) (rows_len w (P ++ s.reverse) _ (row0_len 0 w))).2.2 _ _ (at_ t y d e)).2.2
    have := neq_le c d
    rw [List.reverse_cons, ← List.append_assoc, rows_snoc, List.length_cons]
    unfold rows at i1 ⊢
    omega
/-- a begin x of the word, made of what ends here -/
theorem sound {w x y S P : T} {k : Nat} (hw : w = x ++ y) (h : Al S x k) : g (rows w (P ++ S)) x.length ≤ k + ahd P := by
  have := snd_row w h.reverse P ⟨y, by rw [List.reverse_reverse]; exact hw⟩
  rw [List.reverse_reverse, List.length_reverse] at this
  exact this
theorem lastOf_g : ∀ (r : List Nat) (n : Nat), r.length = n + 1 → lastOf r = g r n
  | [], n, h => by simp at h
  | [a], n, h => by
    have : n = 0 := by simpa using h.symm
    subst this; rfl
  | a :: b :: r, n, h => by
    cases n with
    | zero => simp at h
    | succ n => exact lastOf_g (b :: r) n (by simpa using h)
/-! ### windows -/
def beh (R : T) : Nat := if R = [] ∨ R.head? = some 32 then 0 else 1
theorem beh_rev (R : T) : ahd R.reverse = beh R := by
  unfold ahd beh
  simp
theorem joinB_sp : ∀ (n : Nat) (u : T), sp (rep (n + 1) u) = joinB (rep (n + 1) u) ++ [32]
  | 0, u => rfl
  | n + 1, u => by
    have := joinB_sp n u
    show u ++ 32 :: sp (rep (n + 1) u) = (u ++ 32 :: joinB (rep (n + 1) u)) ++ [32]
    rw [this]; simp
theorem sp_rep_add (a b : Nat) (u : T) : sp (rep (a + b) u) = sp (rep a u) ++ sp (rep b u) := by rw [← rep_add, sp_app]
theorem win {a C : Nat} {u X R : T} (hC : 1 ≤ C) (h : sp (rep a u) = X ++ R) (hl : X.length ≤ (joinB (rep C u)).length) : ∃ R2, joinB (rep C u) = X ++ R2 ∧ beh R2 ≤ bhd R := by
  obtain ⟨C, rfl⟩ : ∃ D, C = D + 1 := ⟨C - 1, by omega⟩
  have hJ := joinB_sp C u
  rcases Nat.lt_or_ge (C + 1) a with hlt | hge
  · obtain ⟨e, rfl⟩ : ∃ e, a = (C + 1) + e := ⟨a - (C + 1), by omega⟩
    rw [sp_rep_add, hJ, List.append_assoc] at h
    rcases List.append_eq_append_iff.mp h with ⟨z, q1, q2⟩ | ⟨z, q1, q2⟩
    · have : z = [] := by
        have := congrArg List.length q1
        rw [List.length_append] at this
        exact List.eq_nil_of_length_eq_zero (by omega)
      subst this
      exact ⟨[], by rw [q1]; simp, Nat.zero_le _⟩
    · refine ⟨z, q1, ?_⟩
      cases z with
      | nil => exact Nat.zero_le _
      | cons c z =>
        rw [q2]
        unfold beh bhd
        simp
  · obtain ⟨e, he⟩ : ∃ e, C + 1 = a + e := ⟨C + 1 - a, by omega⟩
    have h2 : joinB (rep (C + 1) u) ++ [32] = X ++ (R ++ sp (rep e u)) := by rw [← hJ, he, sp_rep_add, h, List.append_assoc]
    rcases List.append_eq_append_iff.mp h2 with ⟨z, q1, q2⟩ | ⟨z, q1, q2⟩
    · have : z = [] := by
        have := congrArg List.length q1
        rw [List.length_append] at this
        exact List.eq_nil_of_length_eq_zero (by omega)
      subst this
      exact ⟨[], by rw [q1]; simp, Nat.zero_le _⟩
    · refine ⟨z, q1, ?_⟩
      cases z with
      | nil => exact Nat.zero_le _
      | cons c z =>
        cases R with
        | nil => unfold beh; show (if _ then 0 else 1) ≤ 1; split <;> omega
        | cons r R =>
          simp only [List.cons_append, List.cons.injEq] at q2
          obtain ⟨rfl, _⟩ := q2
          unfold beh bhd
          simp
theorem joinB_len (u : T) : ∀ n : Nat, (joinB (rep (n + 1) u)).length + 1 = (n + 1) * (u.length + 1)
  | 0 => by show u.length + 1 = _; omega
  | n + 1 => by
    have := joinB_len u n
    show (u ++ 32 :: joinB (rep (n + 1) u)).length + 1 = _
    rw [List.length_append, List.length_cons, Nat.succ_mul (n + 1), ← this]
    omega
theorem textC_len (u w : T) : 2 * w.length + u.length + 2 ≤ (textC u w).length := by
  have h := joinB_len u ((2 * w.length + 1) / (u.length + 1) + 1)
  have h2 := Nat.div_add_mod (2 * w.length + 1) (u.length + 1)
  have h3 := Nat.mod_lt (2 * w.length + 1) (show 0 < u.length + 1 by omega)
  unfold textC copiesTold
  rw [Nat.add_mul, Nat.add_mul, Nat.mul_comm ((2 * w.length + 1) / (u.length + 1))] at h
  generalize (u.length + 1) * ((2 * w.length + 1) / (u.length + 1)) = q at *
  simp only [Nat.one_mul] at h
  have e : (joinB (rep ((2 * w.length + 1) / (u.length + 1) + 1 + 1) u)).length = (joinB (rep ((2 * w.length + 1) / (u.length + 1) + 2) u)).length := rfl
  omega
theorem copies_pos (u w : T) : 2 ≤ copiesTold u w := Nat.le_add_left 2 _
theorem textC_win {a : Nat} {u w X R : T} (h : sp (rep a u) = X ++ R) (hl : X.length ≤ 2 * w.length + u.length + 2) : ∃ R2, textC u w = X ++ R2 ∧ beh R2 ≤ bhd R :=
  win (Nat.le_trans (by decide) (copies_pos u w)) h (Nat.le_trans hl (textC_len u w))
/-- where in the copy it begins -/
theorem phase {u : T} : ∀ (a : Nat) (P Z : T), sp (rep a u) = P ++ Z → ∃ b P2, sp (rep b u) = P2 ++ Z ∧ P2.length ≤ u.length ∧ ahd P2 ≤ ahd P
  | 0, P, Z, h => by
    have e : P ++ Z = [] := h.symm
    rw [List.append_eq_nil_iff] at e
    obtain ⟨rfl, rfl⟩ := e
    exact ⟨0, [], rfl, Nat.zero_le _, Nat.le_refl _⟩
  | a + 1, P, Z, h => by
    by_cases hP : P.length ≤ u.length
    · exact ⟨a + 1, P, h, hP, Nat.le_refl _⟩
    · rw [sp_rep_succ] at h
      rcases List.append_eq_append_iff.mp h with ⟨z, q1, q2⟩ | ⟨z, q1, q2⟩
      · -- P = (u ++ [32]) ++ z
        obtain ⟨b, P2, x1, x2, x3⟩ := phase a z Z q2
        refine ⟨b, P2, x1, x2, Nat.le_trans x3 ?_⟩
        cases z with
        | nil => exact Nat.zero_le _
        | cons c z => rw [q1, ahd_app (by simp)]; exact Nat.le_refl _
      · have : z = [] := by
          have := congrArg List.length q1
          rw [List.length_append, List.length_append] at this
          exact List.eq_nil_of_length_eq_zero (by simp at this; omega)
        subst this
        rw [List.append_nil] at q1
        exact ⟨a, [], by rw [q2]; rfl, Nat.zero_le _, Nat.zero_le _⟩
/-! ### the look at the book, and what follows -/
def leAll : List Nat → List Nat → Bool
  | a :: r, b :: q => match Nat.ble a b with
    | true => leAll r q
    | false => false
  | [], [] => true
  | _, _ => false
theorem leAll_g : ∀ {r q : List Nat}, leAll r q = true → ∀ m, g r m ≤ g q m
  | [], [], _, m => Nat.le_refl _
  | a :: r, b :: q, h, m => by
    unfold leAll at h
    cases hb : Nat.ble a b with
    | false => rw [hb] at h; cases h
    | true =>
      rw [hb] at h
      cases m with
      | zero => exact Nat.le_of_ble_eq_true hb
      | succ m => exact leAll_g (show leAll r q = true from h) m
  | [], b :: q, h, m => by cases h
  | a :: r, [], h, m => by cases h
def okRun (w : T) (LA : List Nat) : T → List Nat → Bool
  | [], r => match Nat.ble 4 (lastOf r) with
    | true => leAll LA r
    | false => false
  | c :: t, r => match Nat.ble 4 (lastOf r + cut c) with
    | true => okRun w LA t (nextRow (cut c) c w r)
    | false => false
theorem okRun_end {w : T} {LA : List Nat} : ∀ {t r : List Nat}, okRun w LA t r = true → leAll LA (run w t r) = true
  | [], r, h => by
    unfold okRun at h
    cases hb : Nat.ble 4 (lastOf r) with
    | false => rw [hb] at h; cases h
    | true => rw [hb] at h; exact h
  | c :: t, r, h => by
    unfold okRun at h
    cases hb : Nat.ble 4 (lastOf r + cut c) with
    | false => rw [hb] at h; cases h
    | true => rw [hb] at h; exact okRun_end (t := t) h
theorem okRun_at {w : T} {LA : List Nat} : ∀ {t1 t2 r : List Nat}, okRun w LA (t1 ++ t2) r = true → 4 ≤ lastOf (run w t1 r) + beh t2
  | [], [], r, h => by
    have h : okRun w LA [] r = true := h
    unfold okRun at h
    cases hb : Nat.ble 4 (lastOf r) with
    | false => rw [hb] at h; cases h
    | true => exact Nat.le_trans (Nat.le_of_ble_eq_true hb) (Nat.le_add_right _ _)
  | [], c :: t, r, h => by
    have h : okRun w LA (c :: t) r = true := h
    unfold okRun at h
    cases hb : Nat.ble 4 (lastOf r + cut c) with
    | false => rw [hb] at h; cases h
    | true =>
      have := Nat.le_of_ble_eq_true hb
      have e : beh (c :: t) = cut c := by
        unfold beh cut
        rw [neq_ite]
        simp
      show 4 ≤ lastOf r + beh (c :: t)
      rw [e]
      exact this
  | c :: t1, t2, r, h => by
    have h : okRun w LA (c :: (t1 ++ t2)) r = true := h
    unfold okRun at h
    cases hb : Nat.ble 4 (lastOf r + cut c) with
    | false => rw [hb] at h; cases h
    | true => rw [hb] at h; exact okRun_at (t1 := t1) h
def sumsOk (LA LB : List Nat) : Nat → Nat → Bool
  | 0, n => match Nat.ble 4 (g LA 0 + 1 + g LB n) with
    | true => (match n with
      | 0 => true
      | n' + 1 => Nat.ble 4 (g LA 0 + 1 + g LB n'))
    | false => false
  | i + 1, n => match Nat.ble 4 (g LA (i + 1) + 1 + g LB n) with
    | true => (match n with
      | 0 => sumsOk LA LB i (n + 1)
      | n' + 1 => match Nat.ble 4 (g LA (i + 1) + 1 + g LB n') with
        | true => sumsOk LA LB i (n + 1)
        | false => false)
    | false => false
theorem sums_at {LA LB : List Nat} : ∀ {i n : Nat}, sumsOk LA LB i n = true → ∀ j m, j ≤ i → (j + m = i + n ∨ j + m + 1 = i + n) → 4 ≤ g LA j + 1 + g LB m
  | 0, n, h, j, m, hj, e => by
    have : j = 0 := by omega
    subst this
    unfold sumsOk at h
    cases hb : Nat.ble 4 (g LA 0 + 1 + g LB n) with
    | false => rw [hb] at h; cases h
    | true =>
      rw [hb] at h
      rcases e with e | e
      · rw [show m = n by omega]; exact Nat.le_of_ble_eq_true hb
      · obtain rfl : n = m + 1 := by omega
        exact Nat.le_of_ble_eq_true h
  | i + 1, n, h, j, m, hj, e => by
    unfold sumsOk at h
    cases hb : Nat.ble 4 (g LA (i + 1) + 1 + g LB n) with
    | false => rw [hb] at h; cases h
    | true =>
      rw [hb] at h
      have hr : sumsOk LA LB i (n + 1) = true ∧ ∀ n', n = n' + 1 → 4 ≤ g LA (i + 1) + 1 + g LB n' := by
        cases n with
        | zero => exact ⟨h, fun n' z => by omega⟩
        | succ n' =>
          have h : (match Nat.ble 4 (g LA (i + 1) + 1 + g LB n') with | true => sumsOk LA LB i (n' + 1 + 1) | false => false) = true := h
          cases hc : Nat.ble 4 (g LA (i + 1) + 1 + g LB n') with
          | false => rw [hc] at h; cases h
          | true =>
            rw [hc] at h
            exact ⟨h, fun k z => by
              obtain rfl : k = n' := by omega
              exact Nat.le_of_ble_eq_true hc⟩
      by_cases hji : j = i + 1
      · subst hji
        rcases e with e | e
        · rw [show m = n by omega]; exact Nat.le_of_ble_eq_true hb
        · exact hr.2 m (by omega)
      · exact sums_at hr.1 j m (by omega) (by omega)
/-- one pair of words -/
structure PairOk (u w : T) (LA LB : List Nat) : Prop where
  al : okRun w LA (textC u w) (row0 0 w) = true
  bh : leAll LB (rows w.reverse (textC u.reverse w.reverse)) = true
theorem price1_of {u w : T} {LA LB : List Nat} (h : PairOk u w LA LB) (hw : w ≠ []) : Price1 u w := by
  intro a P S R k e hal
  have hw1 : 1 ≤ w.length := List.length_pos_iff.mpr hw
  by_cases hbig : 4 ≤ k + ahd P + bhd R
  · exact hbig
  exfalso
  have hlen := hal.len
  obtain ⟨b, P2, e2, l2, a2⟩ := phase a P (S ++ R) e
  obtain ⟨R2, e3, b3⟩ := textC_win (w := w) (X := P2 ++ S) (R := R) (by rw [e2, List.append_assoc]) (by rw [List.length_append]; omega)
  have h1 := h.al
  rw [e3] at h1
  have h2 := okRun_at h1
  have h3 := sound (w := w) (x := w) (y := []) (P := P2) (by simp) hal
  rw [lastOf_g _ w.length (rows_len w _ _ (row0_len 0 w))] at h2
  have h4 : g (run w (P2 ++ S) (row0 0 w)) w.length = g (rows w (P2 ++ S)) w.length := rfl
  omega
theorem blank_far {y : T} {j : Nat} (h : Al [32] y j) (hy : 32 ∉ y) : y.length ≤ j ∧ 1 ≤ j := by
  generalize hs : ([32] : T) = s at h
  induction h with
  | nil k => cases hs
  | keep c _ _ => injection hs with q _; subst q; exact absurd List.mem_cons_self hy
  | @lost s t k c h _ =>
    injection hs with _ q
    subst q
    have := h.symm.len
    simp at this
    omega
  | @put s t k c h ih =>
    have := ih (fun z => hy (List.mem_cons_of_mem _ z)) hs
    simp only [List.length_cons]
    omega
  | @chg s t k c d h _ =>
    injection hs with _ q
    subst q
    have := h.symm.len
    simp at this
    simp only [List.length_cons]
    omega
theorem border {S x : T} {k : Nat} (h : Al (S ++ [32]) x k) (hx : 32 ∉ x) : ∃ p q j, x = p ++ q ∧ q.length ≤ 1 ∧ Al S p j ∧ j + 1 ≤ k := by
  obtain ⟨p, y, k1, k2, rfl, hk, a, b⟩ := h.splitL
  have hb := blank_far b (fun z => hx (List.mem_append_right _ z))
  by_cases hy : y.length ≤ 1
  · exact ⟨p, y, k1, rfl, hy, a, by omega⟩
  · rcases List.eq_nil_or_concat y with rfl | ⟨y1, c, rfl⟩
    · simp at hy
    · rw [List.concat_eq_append] at hb ⊢
      have put : ∀ (z : T) (s t : T) (n : Nat), Al s t n → Al s (t ++ z) (n + z.length) := by
        intro z
        induction z with
        | nil => intro s t n h; rw [List.append_nil]; exact h
        | cons d z ih =>
          intro s t n h
          have := ih s (t ++ [d]) (n + 1) (h.snocPut d)
          rw [List.append_assoc] at this
          rw [List.length_cons, show n + (z.length + 1) = n + 1 + z.length by omega]
          exact this
      refine ⟨p ++ y1, [c], k1 + y1.length, by rw [List.append_assoc], by simp, put y1 _ _ _ a, ?_⟩
      rw [List.length_append, List.length_singleton] at hb
      omega
theorem rev_sp : ∀ (a : Nat) (u P S : T), sp (rep a u) = P ++ (S ++ [32]) → sp (rep a u.reverse) = S.reverse ++ (P.reverse ++ [32]) := by
  intro a u P S h
  cases a with
  | zero =>
    have h2 := congrArg List.length h
    simp [sp] at h2
  | succ n =>
    rw [joinB_sp, ← List.append_assoc] at h
    have h1 := List.append_inj_left' h rfl
    rw [joinB_sp]
    have hrev : ∀ m, joinB (rep (m + 1) u.reverse) = (joinB (rep (m + 1) u)).reverse := by
      intro m
      induction m with
      | zero => rfl
      | succ m ih =>
        show u.reverse ++ 32 :: joinB (rep (m + 1) u.reverse) = (joinB (rep (m + 1 + 1) u)).reverse
        rw [ih]
        have e1 : joinB (rep (m + 1 + 1) u) = joinB (rep (m + 1) u) ++ (32 :: u) := by
          clear ih h1 h
          induction m with
          | zero => rfl
          | succ m ih =>
            show u ++ 32 :: joinB (rep (m + 1 + 1) u) = (u ++ 32 :: joinB (rep (m + 1) u)) ++ (32 :: u)
            rw [ih]; simp
        rw [e1]; simp
    rw [hrev n, h1, List.reverse_append, List.append_assoc]
theorem ahd_bhd (P : T) : bhd (P.reverse ++ [32]) = ahd P := by
  unfold bhd ahd
  rcases List.eq_nil_or_concat P with rfl | ⟨P', c, rfl⟩
  · rfl
  · rw [List.concat_eq_append]; simp
theorem sideA_le {u w x y P S LA LB : T} {a k : Nat} (h : PairOk u w LA LB) (hw : w = x ++ y) (e : sp (rep a u) = P ++ (S ++ [32])) (hal : Al S x k) (hk : k ≤ 3) (h1 : 1 ≤ w.length) : g LA x.length ≤ k + ahd P := by
  have hlen := hal.len
  have hxw : x.length ≤ w.length := by rw [hw, List.length_append]; omega
  obtain ⟨R2, e3, b3⟩ := textC_win (w := w.reverse) (rev_sp a u P S e) (by rw [List.length_reverse, List.length_reverse, List.length_reverse]; omega)
  have e4 : textC u w = R2.reverse ++ S := by
    have q := rev_sp (copiesTold u w) u.reverse
    have hc : copiesTold u.reverse w.reverse = copiesTold u w := by unfold copiesTold; rw [List.length_reverse, List.length_reverse]
    have hn : copiesTold u w = copiesTold u w - 1 + 1 := by have := copies_pos u w; omega
    have q1 := rev_sp (copiesTold u w) u.reverse [] (joinB (rep (copiesTold u w) u.reverse)) (by rw [List.nil_append, hn]; exact joinB_sp _ _)
    rw [List.reverse_reverse, hn, joinB_sp, ← hn] at q1
    have q2 := List.append_inj_left' q1 rfl
    unfold textC at e3 ⊢
    rw [hc] at e3
    rw [q2, e3]; simp
  have h2 := leAll_g (okRun_end h.al) x.length
  have h3 := sound (P := R2.reverse) hw hal
  rw [← e4, beh_rev] at h3
  rw [ahd_bhd] at b3
  have h4 : g (run w (textC u w) (row0 0 w)) x.length = g (rows w (textC u w)) x.length := rfl
  omega
theorem sideB_le {v w x y S R LA LB : T} {b k : Nat} (h : PairOk v w LA LB) (hw : w = x ++ y) (e : sp (rep b v) = S ++ R) (hal : Al S y k) (hk : k ≤ 3) (h1 : 1 ≤ w.length) : g LB y.length ≤ k + bhd R := by
  have hlen := hal.len
  have hyw : y.length ≤ w.length := by rw [hw, List.length_append]; omega
  obtain ⟨R2, e3, b3⟩ := textC_win (w := w) e (by omega)
  have e4 : textC v.reverse w.reverse = R2.reverse ++ S.reverse := by
    have hc : copiesTold v.reverse w.reverse = copiesTold v w := by unfold copiesTold; rw [List.length_reverse, List.length_reverse]
    have hn : copiesTold v w = copiesTold v w - 1 + 1 := by have := copies_pos v w; omega
    have q1 := rev_sp (copiesTold v w) v [] (joinB (rep (copiesTold v w) v)) (by rw [List.nil_append, hn]; exact joinB_sp _ _)
    rw [hn, joinB_sp, ← hn] at q1
    have q2 := List.append_inj_left' q1 rfl
    unfold textC at e3 ⊢
    rw [hc, q2, e3]; simp
  have h2 := leAll_g h.bh y.length
  have h3 := sound (w := w.reverse) (x := y.reverse) (y := x.reverse) (P := R2.reverse) (by rw [hw]; simp) hal.reverse
  rw [← e4, beh_rev, List.length_reverse] at h3
  omega
theorem price2_of {u v w LA LB : T} (hu : PairOk u w LA LB) (hv : PairOk v w LA LB) (hs : sumsOk LA LB w.length 0 = true) (hw : w ≠ []) (hb : 32 ∉ w) (hvb : 32 ∉ v) (hvn : v ≠ []) : Price2 u v w := by
  intro a b P S R k e hal
  have hw1 : 1 ≤ w.length := List.length_pos_iff.mpr hw
  by_cases hbig : 4 ≤ k + ahd P + bhd R
  · exact hbig
  exfalso
  rw [sp_app] at e
  rcases List.append_eq_append_iff.mp e with ⟨z, q1, q2⟩ | ⟨z, q1, q2⟩
  · -- P = sp u.. ++ z : all in v
    have := price1_of hv hw b z S R k (by rw [q2]) hal
    have : ahd z ≤ ahd P := by
      cases z with
      | nil => exact Nat.zero_le _
      | cons c z => rw [q1, ahd_app (by simp)]; exact Nat.le_refl _
    omega
  · -- sp u.. = P ++ z ; S ++ R = z ++ sp v..
    rcases List.append_eq_append_iff.mp q2 with ⟨y, r1, r2⟩ | ⟨y, r1, r2⟩
    · -- z = S ++ y, R = y ++ sp v
      have := price1_of hu hw a P S y k (by rw [q1, r1]) hal
      have : bhd y ≤ bhd R := by
        cases y with
        | nil =>
          rw [List.nil_append] at r2
          rw [r2, bhd_sp_rep hvb hvn]
          exact Nat.le_refl _
        | cons c y => rw [r2, bhd_app (by simp)]; exact Nat.le_refl _
      omega
    · -- S = z ++ y, sp v = y ++ R
      by_cases hz : z = []
      · subst hz
        rw [List.append_nil] at q1
        rw [List.nil_append] at r1
        subst r1
        have := price1_of hv hw b [] S R k (by rw [r2]; rfl) hal
        have : ahd [] = 0 := rfl
        omega
      · rw [r1] at hal
        obtain ⟨w1, w2, k1, k2, hwe, hk, a1, a2⟩ := hal.splitL
        obtain ⟨z', rfl⟩ : ∃ z', z = z' ++ [32] := by
          rcases List.eq_nil_or_concat z with h0 | ⟨z', c, h0⟩
          · exact absurd h0 hz
          · rw [List.concat_eq_append] at h0
            refine ⟨z', ?_⟩
            rcases sp_end (rep a u) with h | ⟨X, h⟩
            · rw [h] at q1
              have := congrArg List.length q1
              rw [h0] at this
              simp at this
            · rw [h, h0, ← List.append_assoc] at q1
              have := List.append_inj_right' q1 rfl
              rw [h0, this]
        obtain ⟨p, q, j, rfl, hq, a3, hj⟩ := border a1 (fun m => hb (by rw [hwe]; exact List.mem_append_left _ m))
        have s1 := sideA_le hu (x := p) (y := q ++ w2) (by rw [hwe, List.append_assoc]) q1 a3 (by omega) hw1
        have s2 := sideB_le hv (x := p ++ q) (y := w2) hwe r2 a2 (by omega) hw1
        have hl : p.length + q.length + w2.length = w.length := by rw [hwe, List.length_append, List.length_append]
        have s3 := sums_at hs p.length w2.length (by omega) (by omega)
        omega
end K57
set_option linter.all false
namespace K57
def book : List T := [[111, 117, 116, 115, 101, 116], [117, 112, 108, 105, 102, 116], [97, 100, 118, 97, 110, 99, 101], [112, 114, 101, 112, 97, 114, 101], [97, 117, 103, 109, 101, 110, 116], [108, 101, 115, 115, 101, 110], [109, 117, 108, 116, 105, 112, 108, 121], [112, 111, 114, 116, 105, 111, 110], [101, 120, 99, 104, 97, 110, 103, 101], [105, 110, 113, 117, 105, 114, 101], [112, 114, 111, 99, 108, 97, 105, 109], [111, 98, 116, 97, 105, 110], [99, 105, 112, 104, 101, 114], [115, 105, 110, 103, 108, 101], [99, 111, 117, 112, 108, 101], [116, 114, 105, 112, 108, 101, 100], [113, 117, 97, 114, 116, 101, 114], [102, 105, 118, 101, 102, 111, 108, 100], [104, 101, 120, 97, 103, 111, 110], [119, 101, 101, 107, 100, 97, 121], [110, 111, 116, 104, 105, 110, 103], [100, 117, 112, 108, 105, 99, 97, 116, 101], [100, 101, 112, 111, 115, 105, 116], [119, 104, 101, 116, 104, 101, 114], [110, 101, 103, 97, 116, 105, 118, 101], [103, 114, 97, 110, 116, 101, 100], [111, 116, 104, 101, 114, 119, 105, 115, 101], [97, 110, 121, 119, 97, 121], [106, 111, 117, 114, 110, 101, 121], [102, 105, 110, 105, 115, 104]]
def okPair (w LA LB u : T) : Bool := match u == w with
  | true => true
  | false => match okRun w LA (textC u w) (row0 0 w) with
    | true => leAll LB (rows w.reverse (textC u.reverse w.reverse))
    | false => false
def okWord (w LA LB : T) : Bool := match sumsOk LA LB w.length 0 with
  | true => book.all (okPair w LA LB)
  | false => false
theorem pair_of {w LA LB u : T} (h : okPair w LA LB u = true) (hne : w ≠ u) : PairOk u w LA LB := by
  unfold okPair at h
  have : (u == w) = false := by simp [Ne.symm hne]
  rw [this] at h
  dsimp only at h
  cases h1 : okRun w LA (textC u w) (row0 0 w) with
  | false => rw [h1] at h; cases h
  | true => rw [h1] at h; exact ⟨h1, h⟩
theorem word_of {w LA LB : T} (h : okWord w LA LB = true) : sumsOk LA LB w.length 0 = true ∧ ∀ u ∈ book, w ≠ u → PairOk u w LA LB := by
  unfold okWord at h
  cases h1 : sumsOk LA LB w.length 0 with
  | false => rw [h1] at h; cases h
  | true =>
    rw [h1] at h
    exact ⟨rfl, fun u hu hne => pair_of (List.all_eq_true.mp h u hu) hne⟩
theorem ok0 : okWord [111, 117, 116, 115, 101, 116] [1, 2, 2, 3, 4, 3, 4] [1, 1, 2, 3, 3, 4, 4] = true := by decide +kernel
theorem ok1 : okWord [117, 112, 108, 105, 102, 116] [1, 2, 3, 2, 2, 3, 4] [1, 1, 2, 3, 4, 4, 4] = true := by decide +kernel
theorem ok2 : okWord [97, 100, 118, 97, 110, 99, 101] [1, 2, 2, 3, 4, 4, 5, 5] [1, 1, 2, 2, 3, 4, 4, 5] = true := by decide +kernel
theorem ok3 : okWord [112, 114, 101, 112, 97, 114, 101] [1, 2, 2, 2, 3, 4, 4, 5] [1, 1, 2, 3, 3, 4, 5, 5] = true := by decide +kernel
theorem ok4 : okWord [97, 117, 103, 109, 101, 110, 116] [1, 2, 2, 3, 3, 3, 4, 4] [1, 1, 2, 3, 3, 3, 4, 4] = true := by decide +kernel
theorem ok5 : okWord [108, 101, 115, 115, 101, 110] [1, 2, 1, 2, 3, 4, 4] [1, 1, 2, 2, 3, 4, 4] = true := by decide +kernel
theorem ok6 : okWord [109, 117, 108, 116, 105, 112, 108, 121] [1, 1, 2, 3, 3, 4, 5, 5, 6] [1, 2, 2, 3, 3, 3, 4, 5, 6] = true := by decide +kernel
theorem ok7 : okWord [112, 111, 114, 116, 105, 111, 110] [1, 2, 3, 3, 3, 4, 4, 4] [1, 1, 2, 2, 3, 4, 3, 4] = true := by decide +kernel
theorem ok8 : okWord [101, 120, 99, 104, 97, 110, 103, 101] [1, 1, 2, 3, 4, 5, 4, 4, 5] [1, 2, 2, 2, 3, 3, 4, 4, 5] = true := by decide +kernel
theorem ok9 : okWord [105, 110, 113, 117, 105, 114, 101] [1, 2, 1, 2, 3, 4, 5, 5] [1, 1, 2, 2, 3, 3, 4, 5] = true := by decide +kernel
theorem ok10 : okWord [112, 114, 111, 99, 108, 97, 105, 109] [1, 2, 2, 3, 4, 5, 5, 5, 5] [1, 1, 2, 3, 4, 4, 3, 4, 5] = true := by decide +kernel
theorem ok11 : okWord [111, 98, 116, 97, 105, 110] [1, 2, 2, 3, 4, 4, 4] [1, 1, 1, 2, 3, 4, 4] = true := by decide +kernel
theorem ok12 : okWord [99, 105, 112, 104, 101, 114] [1, 2, 2, 3, 3, 3, 4] [1, 2, 2, 2, 3, 3, 4] = true := by decide +kernel
theorem ok13 : okWord [115, 105, 110, 103, 108, 101] [1, 2, 2, 2, 2, 3, 4] [1, 1, 1, 2, 3, 4, 4] = true := by decide +kernel
theorem ok14 : okWord [99, 111, 117, 112, 108, 101] [1, 2, 2, 3, 4, 5, 4] [1, 1, 1, 2, 2, 3, 4] = true := by decide +kernel
theorem ok15 : okWord [116, 114, 105, 112, 108, 101, 100] [1, 1, 2, 3, 3, 3, 3, 4] [1, 1, 2, 2, 3, 3, 3, 4] = true := by decide +kernel
theorem ok16 : okWord [113, 117, 97, 114, 116, 101, 114] [1, 2, 3, 4, 3, 3, 3, 4] [1, 2, 2, 2, 3, 4, 4, 4] = true := by decide +kernel
theorem ok17 : okWord [102, 105, 118, 101, 102, 111, 108, 100] [1, 2, 2, 3, 2, 3, 4, 5, 6] [1, 1, 2, 3, 4, 5, 5, 6, 6] = true := by decide +kernel
theorem ok18 : okWord [104, 101, 120, 97, 103, 111, 110] [1, 1, 2, 2, 3, 4, 5, 5] [1, 1, 2, 3, 3, 4, 4, 5] = true := by decide +kernel
theorem ok19 : okWord [119, 101, 101, 107, 100, 97, 121] [1, 2, 2, 3, 4, 4, 5, 5] [1, 2, 2, 3, 4, 4, 4, 5] = true := by decide +kernel
theorem ok20 : okWord [110, 111, 116, 104, 105, 110, 103] [1, 1, 2, 2, 3, 4, 3, 4] [1, 1, 2, 2, 2, 3, 3, 4] = true := by decide +kernel
theorem ok21 : okWord [100, 117, 112, 108, 105, 99, 97, 116, 101] [1, 1, 2, 3, 3, 3, 3, 3, 3, 4] [1, 1, 2, 3, 4, 4, 4, 4, 3, 4] = true := by decide +kernel
theorem ok22 : okWord [100, 101, 112, 111, 115, 105, 116] [1, 1, 2, 3, 4, 5, 5, 5] [1, 1, 2, 2, 3, 3, 4, 5] = true := by decide +kernel
theorem ok23 : okWord [119, 104, 101, 116, 104, 101, 114] [1, 2, 2, 3, 3, 4, 5, 4] [1, 2, 2, 2, 2, 2, 3, 4] = true := by decide +kernel
theorem ok24 : okWord [110, 101, 103, 97, 116, 105, 118, 101] [1, 1, 2, 2, 3, 4, 5, 5, 6] [1, 1, 2, 2, 2, 3, 4, 5, 6] = true := by decide +kernel
theorem ok25 : okWord [103, 114, 97, 110, 116, 101, 100] [1, 1, 2, 3, 3, 3, 4, 4] [1, 1, 2, 3, 3, 4, 4, 4] = true := by decide +kernel
theorem ok26 : okWord [111, 116, 104, 101, 114, 119, 105, 115, 101] [1, 2, 2, 3, 3, 2, 3, 4, 5, 6] [1, 1, 2, 3, 3, 4, 4, 5, 6, 6] = true := by decide +kernel
theorem ok27 : okWord [97, 110, 121, 119, 97, 121] [1, 2, 2, 2, 3, 4, 5] [1, 2, 2, 3, 4, 4, 5] = true := by decide +kernel
theorem ok28 : okWord [106, 111, 117, 114, 110, 101, 121] [1, 2, 3, 3, 4, 4, 3, 4] [1, 2, 2, 2, 3, 4, 3, 4] = true := by decide +kernel
theorem ok29 : okWord [102, 105, 110, 105, 115, 104] [1, 2, 2, 2, 3, 4, 4] [1, 1, 2, 3, 3, 4, 4] = true := by decide +kernel
theorem words_ok : ∀ w ∈ book, ∃ LA LB, okWord w LA LB = true := by
  intro w hw
  simp only [book, List.mem_cons, List.not_mem_nil, or_false] at hw
  rcases hw with rfl | rfl | rfl | rfl | rfl | rfl | rfl | rfl | rfl | rfl | rfl | rfl | rfl | rfl | rfl | rfl | rfl | rfl | rfl | rfl | rfl | rfl | rfl | rfl | rfl | rfl | rfl | rfl | rfl | rfl
  · exact ⟨_, _, ok0⟩
  · exact ⟨_, _, ok1⟩
  · exact ⟨_, _, ok2⟩
  · exact ⟨_, _, ok3⟩
  · exact ⟨_, _, ok4⟩
  · exact ⟨_, _, ok5⟩
  · exact ⟨_, _, ok6⟩
  · exact ⟨_, _, ok7⟩
  · exact ⟨_, _, ok8⟩
  · exact ⟨_, _, ok9⟩
  · exact ⟨_, _, ok10⟩
  · exact ⟨_, _, ok11⟩
  · exact ⟨_, _, ok12⟩
  · exact ⟨_, _, ok13⟩
  · exact ⟨_, _, ok14⟩
  · exact ⟨_, _, ok15⟩
  · exact ⟨_, _, ok16⟩
  · exact ⟨_, _, ok17⟩
  · exact ⟨_, _, ok18⟩
  · exact ⟨_, _, ok19⟩
  · exact ⟨_, _, ok20⟩
  · exact ⟨_, _, ok21⟩
  · exact ⟨_, _, ok22⟩
  · exact ⟨_, _, ok23⟩
  · exact ⟨_, _, ok24⟩
  · exact ⟨_, _, ok25⟩
  · exact ⟨_, _, ok26⟩
  · exact ⟨_, _, ok27⟩
  · exact ⟨_, _, ok28⟩
  · exact ⟨_, _, ok29⟩
def inBook (w : T) : Bool := book.contains w
theorem inBook_mem {w : T} : inBook w = true ↔ w ∈ book := by unfold inBook; exact List.contains_iff_mem
theorem book_nb : ∀ w ∈ book, 32 ∉ w := by decide +kernel
theorem book_ne : ∀ w ∈ book, w ≠ [] := by decide +kernel
theorem the_book : Book inBook where
  nb := fun w h => book_nb w (inBook_mem.mp h)
  ne := fun w h => book_ne w (inBook_mem.mp h)
  p1 := fun u w hu hw hne => by
    obtain ⟨LA, LB, h⟩ := words_ok w (inBook_mem.mp hw)
    exact price1_of ((word_of h).2 u (inBook_mem.mp hu) hne) (book_ne w (inBook_mem.mp hw))
  p2 := fun u v w hu hv hw h1 h2 => by
    obtain ⟨LA, LB, h⟩ := words_ok w (inBook_mem.mp hw)
    exact price2_of ((word_of h).2 u (inBook_mem.mp hu) h1) ((word_of h).2 v (inBook_mem.mp hv) h2) (word_of h).1 (book_ne w (inBook_mem.mp hw)) (book_nb w (inBook_mem.mp hw)) (book_nb v (inBook_mem.mp hv)) (book_ne v (inBook_mem.mp hv))
end K57
set_option Elab.async false
set_option linter.all false
set_option maxRecDepth 100000
/-! the texts of rows, what is read of a text: plain -/
namespace K57
/-- the n-th word -/
def wd (n : Nat) : T := book.getD n []
/-- the items of a row with k copies of each word; its text -/
def rowIts (ns : List Nat) (k : Nat) : List T := ns.flatMap fun n => rep k (wd n)
def txt (ns : List Nat) (k : Nat) : T := joinB (rowIts ns k)
/-- the items of a text -/
def splB : T → T → List T
  | acc, [] => [acc]
  | acc, c :: r => if c = 32 then acc :: splB [] r else splB (acc ++ [c]) r
def its (l : T) : List T := splB [] l
def told (l : T) : List Nat := ((its l).filter inBook).map book.idxOf
theorem pre1 {c : Nat} {r : T} : TL.pre [32] (c :: r) = decide (c = 32) := by
  by_cases h : c = 32
  · subst h; simp [TL.pre]
  · have : ¬ 32 = c := fun e => h e.symm
    simp [TL.pre, h, this]
theorem spl_eq : ∀ (l acc : T), TL.spl [32] 0 acc l = splB acc l
  | [], acc => rfl
  | c :: r, acc => by
    show (if TL.pre [32] (c :: r) = true then acc :: TL.spl [32] ([32].length - 1) [] r else TL.spl [32] 0 (acc ++ [c]) r) = if c = 32 then acc :: splB [] r else splB (acc ++ [c]) r
    rw [pre1]
    by_cases h : c = 32
    · rw [if_pos (decide_eq_true h), if_pos h]
      exact congrArg _ (spl_eq r [])
    · rw [if_neg (by simp [h]), if_neg h]
      exact spl_eq r _
theorem joinL_eq : ∀ ws : List T, TL.joinL [32] ws = joinB ws
  | [] => rfl
  | [a] => rfl
  | a :: b :: r => by
    show a ++ ([32] ++ TL.joinL [32] (b :: r)) = a ++ 32 :: joinB (b :: r)
    rw [joinL_eq (b :: r)] <;> rfl
theorem splB_sp : ∀ (l acc : T), sp (splB acc l) = acc ++ l ++ [32]
  | [], acc => by simp [splB, sp]
  | c :: r, acc => by
    unfold splB
    by_cases h : c = 32
    · rw [if_pos h]
      show acc ++ 32 :: sp (splB [] r) = _
      rw [splB_sp r [], h]
      simp
    · rw [if_neg h, splB_sp r]
      simp
theorem its_sp (l : T) : sp (its l) = l ++ [32] := splB_sp l []
theorem splB_nb : ∀ (l acc : T), 32 ∉ acc → ∀ w ∈ splB acc l, 32 ∉ w
  | [], acc, ha => by
    intro w hw
    rw [show w = acc by simpa [splB] using hw]
    exact ha
  | c :: r, acc, ha => by
    intro w hw
    unfold splB at hw
    by_cases h : c = 32
    · rw [if_pos h] at hw
      rcases List.mem_cons.mp hw with e | e
      · rw [e]; exact ha
      · exact splB_nb r [] (by simp) w e
    · rw [if_neg h] at hw
      refine splB_nb r _ ?_ w hw
      simp only [List.mem_append, List.mem_singleton, not_or]
      exact ⟨ha, fun e => h e.symm⟩
theorem its_nb (l : T) : ∀ w ∈ its l, 32 ∉ w := splB_nb l [] (by simp)
theorem splB_len : ∀ (l acc : T), (splB acc l).length ≤ l.length + 1
  | [], acc => by simp [splB]
  | c :: r, acc => by
    unfold splB
    by_cases h : c = 32
    · rw [if_pos h]
      have := splB_len r []
      simp only [List.length_cons]
      omega
    · rw [if_neg h]
      have := splB_len r (acc ++ [c])
      simp only [List.length_cons]
      omega
theorem its_len (l : T) : (its l).length ≤ l.length + 1 := splB_len l []
theorem joinB_sp2 : ∀ {ws : List T}, ws ≠ [] → joinB ws ++ [32] = sp ws
  | [], h => absurd rfl h
  | [a], _ => rfl
  | a :: b :: r, _ => by
    show a ++ 32 :: joinB (b :: r) ++ [32] = a ++ 32 :: sp (b :: r)
    rw [← joinB_sp2 (List.cons_ne_nil b r), List.append_assoc, List.cons_append]
theorem wd_mem {n : Nat} (h : n < 30) : wd n ∈ book := by
  unfold wd
  have hl : n < book.length := by rw [show book.length = 30 by decide +kernel]; exact h
  rw [List.getD_eq_getElem?_getD, List.getElem?_eq_getElem hl]
  exact List.getElem_mem hl
theorem wd_in {n : Nat} (h : n < 30) : inBook (wd n) = true := inBook_mem.mpr (wd_mem h)
theorem num_wd {n : Nat} (h : n < 30) : book.idxOf (wd n) = n := by
  have e : (List.range 30).all (fun n => decide (book.idxOf (wd n) = n)) = true := by decide +kernel
  exact of_decide_eq_true (List.all_eq_true.mp e n (List.mem_range.mpr h))
theorem told_lt (l : T) : ∀ n ∈ told l, n < 30 := by
  intro n hn
  obtain ⟨w, hw, rfl⟩ := List.mem_map.mp hn
  have hb : w ∈ book := inBook_mem.mp (List.mem_filter.mp hw).2
  have := List.idxOf_lt_length_of_mem hb
  rwa [show book.length = 30 by decide +kernel] at this
theorem rowIts_eq (ns : List Nat) (k : Nat) : rowIts ns k = (ns.map wd).flatMap (rep k) := by
  unfold rowIts
  rw [List.flatMap_map]
theorem rowIts_ne {ns : List Nat} {k : Nat} (h : ns ≠ []) (hk : 0 < k) : rowIts ns k ≠ [] := by
  cases ns with
  | nil => exact absurd rfl h
  | cons n r =>
    cases k with
    | zero => omega
    | succ k => simp [rowIts, List.replicate_succ]
/-- THE PLAIN LAW: behind at most three edits each row is read thickly -/
theorem row_thick {ns : List Nat} {k c : Nat} {l : T} (hn : ∀ n ∈ ns, n < 30) (h0 : ns ≠ []) (hk : k ≤ 3) (hc : 2 * k + 1 ≤ c) (h : Al (txt ns c) l k) : Th ns (told l) := by
  have h := h.app (Al.refl [32])
  rw [Nat.add_zero] at h
  have e1 : txt ns c ++ [32] = sp ((ns.map wd).flatMap (rep c)) := by
    unfold txt
    rw [joinB_sp2 (rowIts_ne (k := c) h0 (by omega)), rowIts_eq]
  rw [e1, ← its_sp l] at h
  have t := chain0 the_book (row := ns.map wd) (ws := its l) (c := c) (k := k) (fun w hw => by
    obtain ⟨n, hn', rfl⟩ := List.mem_map.mp hw
    exact wd_in (hn n hn')) (by simpa using h0) hk hc (its_nb l) h
  have t2 := t.map book.idxOf
  rw [List.map_map] at t2
  have e2 : ns.map (book.idxOf ∘ wd) = ns := by
    conv => rhs; rw [← List.map_id ns]
    exact List.map_congr_left fun n h => num_wd (hn n h)
  rw [e2] at t2
  exact t2
end K57
set_option Elab.async false
set_option linter.all false
set_option maxRecDepth 100000
set_option maxHeartbeats 4000000
namespace K57
open PySem PySem.Spec PyProof.Rows L2
/-! ### heaps: I what stands for good, H the heap -/
structure Adv (I H I2 H2 : Hp) : Prop where
  ii : Same I I2
  ih : Same I2 H2
  hh : Same H H2
  cl : ∀ a, H a ≠ none → I a = none → I2 a = none
theorem same_new {H : Hp} {p : Addr} {o : HO} (h : H p = none) : Same H (upd H p o) := fun b x e => by
  rw [upd_ne (ne_of_none e h)]
  exact e
section
variable {I H I1 H1 I2 H2 I3 H3 : Hp} {p l : Addr} {o : HO}
theorem Adv.refl (h : Same I H) : Adv I H I H := ⟨Same.refl I, h, Same.refl H, fun _ _ h => h⟩
theorem Adv.trans (a : Adv I H I1 H1) (b : Adv I1 H1 I2 H2) : Adv I H I2 H2 := by
  refine ⟨a.ii.trans b.ii, b.ih, a.hh.trans b.hh, fun x hx hi => b.cl x ?_ (a.cl x hx hi)⟩
  cases h : H x with
  | none => exact absurd h hx
  | some o => rw [a.hh x o h]; simp
/-- only what does not matter was made -/
theorem Adv.grow (a : Adv I H I1 H1) (h : Same H1 H2) : Adv I H I1 H2 := ⟨a.ii, a.ih.trans h, a.hh.trans h, a.cl⟩
theorem Adv.free (a : Adv I H I1 H1) (h : H1 p = none) : I1 p = none := a.ih.free h
theorem Adv.free0 (a : Adv I H I1 H1) (h : H1 p = none) : H p = none := a.hh.free h
/-- a new object, for good -/
theorem Adv.new (a : Adv I H I1 H1) (h : H1 p = none) : Adv I H (upd I1 p o) (upd H1 p o) := by
  refine ⟨a.ii.trans (same_new (a.free h)), fun b u e => ?_, a.hh.trans (same_new h), fun x hx hi => ?_⟩
  · by_cases hb : b = p
    · subst hb; rw [upd_same] at e ⊢; exact e
    · rw [upd_ne hb] at e ⊢; exact a.ih b u e
  · have hne : x ≠ p := by
      rintro rfl
      exact hx (a.free0 h)
    rw [upd_ne hne]
    exact a.cl x hx hi
/-- a new object that will change -/
theorem Adv.alloc (a : Adv I H I1 H1) (h : H1 p = none) : Adv I H I1 (upd H1 p o) := a.grow (same_new h)
/-- an object of one's own changes -/
theorem Adv.mut (a : Adv I H I1 H1) (h0 : H l = none) (h1 : I1 l = none) : Adv I H I1 (upd H1 l o) := by
  refine ⟨a.ii, fun b u e => ?_, fun b u e => ?_, a.cl⟩
  · rw [upd_ne (ne_of_none e h1)]; exact a.ih b u e
  · rw [upd_ne (ne_of_none e h0)]; exact a.hh b u e
/-- it changes no more -/
theorem Adv.freeze (a : Adv I H I1 H1) (h : H1 l = some o) (h0 : H l = none) (h1 : I1 l = none) : Adv I H (upd I1 l o) H1 := by
  refine ⟨a.ii.trans (same_new h1), fun b u e => ?_, a.hh, fun x hx hi => ?_⟩
  · by_cases hb : b = l
    · subst hb; rw [upd_same] at e; rw [h]; exact e
    · rw [upd_ne hb] at e; exact a.ih b u e
  · have hne : x ≠ l := by
      rintro rfl
      exact hx h0
    rw [upd_ne hne]
    exact a.cl x hx hi
/-- an object of the caller's own stays its own -/
theorem Adv.own (a : Adv I H I1 H1) (h : H l = some o) (h0 : I l = none) : H1 l = some o ∧ I1 l = none :=
  ⟨a.hh l o h, a.cl l (by rw [h]; simp) h0⟩
end
theorem same_upd2 {I H : Hp} {p : Addr} {o : HO} (h : Same I H) (hp : H p = none) : Same (upd I p o) (upd H p o) := fun b u e => by
  by_cases hb : b = p
  · subst hb; rw [upd_same] at e ⊢; exact e
  · rw [upd_ne hb] at e ⊢; exact h b u e
/-! ### data -/
theorem rd_mono {I I2 : Hp} {a : Addr} {u : HO} (e : Same I I2) (h : Rd I a u) : Rd I2 a u := by
  rcases h with h | ⟨o, h⟩
  · exact .inl (e a _ h)
  · exact .inr ⟨o, e a _ h⟩
theorem sql_mono {K : PySem.W.Frag} {I I2 : Hp} {a : Addr} {xs : List V} (e : Same I I2) (h : SqL K I a xs) : SqL K I2 a xs := h.elim (fun h => .inl (rd_mono e h)) .inr
theorem sqt_mono {K : PySem.W.Frag} {I I2 : Hp} {a : Addr} {xs : List V} (e : Same I I2) (h : SqT K I a xs) : SqT K I2 a xs := h.elim (fun h => .inl (rd_mono e h)) .inr
mutual
theorem _root_.L2.Dp.mono {K : PySem.W.Frag} {I I2 : Hp} (e : Same I I2) : ∀ {v : V} {d : PyData}, Dp K I v d → Dp K I2 v d
  | _, _, .non => .non
  | _, _, .bl b => .bl b
  | _, _, .int i => .int i
  | _, _, .str x => .str x
  | _, _, .lst h hs => .lst (sql_mono e h) (L2.DpAll.mono e hs)
  | _, _, .tup h hs => .tup (sqt_mono e h) (L2.DpAll.mono e hs)
theorem _root_.L2.DpAll.mono {K : PySem.W.Frag} {I I2 : Hp} (e : Same I I2) : ∀ {vs : List V} {ds : List PyData}, DpAll K I vs ds → DpAll K I2 vs ds
  | _, _, .nil => .nil
  | _, _, .cons h hs => .cons (L2.Dp.mono e h) (L2.DpAll.mono e hs)
end
section
variable {K : PySem.W.Frag} {I : Hp} {v : V} {vs : List V} {d : PyData} {ds : List PyData}
theorem dp_int {i : Int} (h : Dp K I v (.int i)) : v = .int i := by cases h; rfl
theorem dp_bl {b : Bool} (h : Dp K I v (.bool b)) : v = .bl b := by cases h; rfl
theorem dp_str {x : Str} (h : Dp K I v (.str x)) : v = .str x := by cases h; rfl
theorem dp_non (h : Dp K I v .none) : v = .non := by cases h; rfl
theorem dp_lst (h : Dp K I v (.list ds)) : ∃ a xs, v = .ref a ∧ SqL K I a xs ∧ DpAll K I xs ds := by cases h with | lst h1 h2 => exact ⟨_, _, rfl, h1, h2⟩
theorem dp_tup (h : Dp K I v (.tuple ds)) : ∃ a xs, v = .ref a ∧ SqT K I a xs ∧ DpAll K I xs ds := by cases h with | tup h1 h2 => exact ⟨_, _, rfl, h1, h2⟩
theorem _root_.L2.DpAll.length : ∀ {vs : List V} {ds : List PyData}, DpAll K I vs ds → vs.length = ds.length
  | _, _, .nil => rfl
  | _, _, .cons _ h => congrArg Nat.succ (L2.DpAll.length h)
theorem _root_.L2.DpAll.at : ∀ {vs : List V} {ds : List PyData} {i : Nat} {x : V}, DpAll K I vs ds → vs[i]? = some x → ∃ d, ds[i]? = some d ∧ Dp K I x d
  | _, _, i, x, .nil, h => by simp at h
  | _, _, 0, x, .cons h _, e => by
    simp only [List.getElem?_cons_zero, Option.some.injEq] at e
    subst e
    exact ⟨_, rfl, h⟩
  | _, _, i + 1, x, .cons _ hs, e => by
    obtain ⟨d, h1, h2⟩ := L2.DpAll.at (i := i) hs (by simpa using e)
    exact ⟨d, by simpa using h1, h2⟩
theorem _root_.L2.DpAll.at' : ∀ {vs : List V} {ds : List PyData} {i : Nat} {d : PyData}, DpAll K I vs ds → ds[i]? = some d → ∃ x, vs[i]? = some x ∧ Dp K I x d
  | _, _, i, x, .nil, h => by simp at h
  | _, _, 0, x, .cons h _, e => by
    simp only [List.getElem?_cons_zero, Option.some.injEq] at e
    subst e
    exact ⟨_, rfl, h⟩
  | _, _, i + 1, x, .cons _ hs, e => by
    obtain ⟨d, h1, h2⟩ := L2.DpAll.at' (i := i) hs (by simpa using e)
    exact ⟨d, by simpa using h1, h2⟩
theorem _root_.L2.DpAll.app : ∀ {vs us : List V} {ds es : List PyData}, DpAll K I vs ds → DpAll K I us es → DpAll K I (vs ++ us) (ds ++ es)
  | _, _, _, _, .nil, h => h
  | _, _, _, _, .cons a b, h => .cons a (L2.DpAll.app b h)
theorem _root_.L2.DpAll.take : ∀ {vs : List V} {ds : List PyData} (n : Nat), DpAll K I vs ds → DpAll K I (vs.take n) (ds.take n)
  | _, _, 0, _ => .nil
  | _, _, _ + 1, .nil => .nil
  | _, _, n + 1, .cons a b => .cons a (L2.DpAll.take n b)
theorem _root_.L2.DpAll.drop : ∀ {vs : List V} {ds : List PyData} (n : Nat), DpAll K I vs ds → DpAll K I (vs.drop n) (ds.drop n)
  | _, _, 0, h => h
  | _, _, _ + 1, .nil => .nil
  | _, _, n + 1, .cons _ b => L2.DpAll.drop n b
theorem dpAll_ints : ∀ (ns : List Int), DpAll K I (ns.map V.int) (ns.map PyData.int)
  | [] => .nil
  | n :: ns => .cons (.int n) (dpAll_ints ns)
theorem dpAll_ints_eq : ∀ {vs : List V} {ns : List Int}, DpAll K I vs (ns.map PyData.int) → vs = ns.map V.int
  | [], [], _ => rfl
  | _ :: _, [], h => by cases h
  | [], _ :: _, h => by cases h
  | v :: vs, n :: ns, h => by
    cases h with
    | cons a b => rw [dp_int a, dpAll_ints_eq b]; rfl
theorem dpAll_strs : ∀ (xs : List Str), DpAll K I (xs.map V.str) (xs.map PyData.str)
  | [] => .nil
  | n :: ns => .cons (.str n) (dpAll_strs ns)
theorem dpAll_strs_eq : ∀ {vs : List V} {ns : List Str}, DpAll K I vs (ns.map PyData.str) → vs = ns.map V.str
  | [], [], _ => rfl
  | _ :: _, [], h => by cases h
  | [], _ :: _, h => by cases h
  | v :: vs, n :: ns, h => by
    cases h with
    | cons a b => rw [dp_str a, dpAll_strs_eq b]; rfl
end
/-- a list or a tuple of these -/
def Sq (K : PySem.W.Frag) (I : Hp) (a : Addr) (xs : List V) : Prop := SqL K I a xs ∨ SqT K I a xs
theorem Sq.mono {K : PySem.W.Frag} {I I2 : Hp} {a : Addr} {xs : List V} (e : Same I I2) (h : Sq K I a xs) : Sq K I2 a xs := h.elim (fun h => .inl (sql_mono e h)) fun h => .inr (sqt_mono e h)
/-! ### what is handed back -/
/-- a flat value -/
abbrev RetF (v : V) (H : Hp) (Q : VK) : Prop := ∀ H2, Same H H2 → Q v H2
/-- what P says of the lasting part -/
abbrev Ret (I H : Hp) (Q : VK) (P : V → Hp → Prop) : Prop := ∀ v I2 H2, Adv I H I2 H2 → P v I2 → Q v H2
/-! ### rules: of two readings either will do -/
section
variable {X : Cx}
theorem _root_.L2.PI.alt {tg it : Expr} {w1 w2 : TI} (a : PI X tg it w1) (b : PI X tg it w2) : PI X tg it (fun σ H R => w1 σ H R ∨ w2 σ H R) :=
  ⟨fun pins s σ H R I h => h.elim (a.run pins s σ H R I) (b.run pins s σ H R I)⟩
theorem _root_.L2.PE.alt {e : Expr} {t1 t2 : TE} (a : PE X e t1) (b : PE X e t2) : PE X e (fun σ H Q => t1 σ H Q ∨ t2 σ H Q) :=
  ⟨fun pins s σ H Q I h => h.elim (a.run pins s σ H Q I) (b.run pins s σ H Q I)⟩
end
end K57
set_option Elab.async false
set_option linter.all false
set_option maxRecDepth 100000
set_option maxHeartbeats 4000000
namespace K57
open PySem PySem.Spec PyProof.Rows L2
/-- what the top has left, as the walks ask it -/
structure Tx (K : PySem.W.Frag) (mg : Str → Option Value) : Prop where
  says : HkE.SaysE fa fn ex K
  hg : ∃ h : Heap, K.In h ∧ h.Ns mainGlobals mg
section
variable {K : PySem.W.Frag} {mg : Str → Option Value}
theorem Tx.glo (T : Tx K mg) {x : Str} (c : (He.Fa.glo x).ok K = true) : mg x = some (.ref (He.ga K x)) := let ⟨_, X, G⟩ := T.hg; He.glo_ok X G c
theorem Tx.free (T : Tx K mg) {x : Str} (c : (He.Fa.free x).ok K = true) : mg x = none := let ⟨_, X, G⟩ := T.hg; He.free_ok X G c
theorem Tx.int (T : Tx K mg) {x : Str} {i : Int} (c : (He.Fa.int x i).ok K = true) : ∃ u, mg x = some u ∧ RelV (.int i) u := by
  obtain ⟨_, X, G⟩ := T.hg
  obtain ⟨t, e⟩ := He.int_ok X G c
  exact ⟨_, e, t, rfl⟩
theorem Tx.str (T : Tx K mg) {x y : Str} (c : (He.Fa.str x y).ok K = true) : ∃ u, mg x = some u ∧ RelV (.str y) u := by
  obtain ⟨_, X, G⟩ := T.hg
  obtain ⟨t, e⟩ := He.str_ok X G c
  exact ⟨_, e, t, rfl⟩
theorem Tx.m_is_integer (T : Tx K mg) : mg "is_integer" = some (.ref (He.ga K "is_integer")) := T.glo (T.says.d.fact 0 (f := .glo "is_integer"))
theorem Tx.m_is_within (T : Tx K mg) : mg "is_within" = some (.ref (He.ga K "is_within")) := T.glo (T.says.d.fact 1 (f := .glo "is_within"))
theorem Tx.m_are_integers (T : Tx K mg) : mg "are_integers" = some (.ref (He.ga K "are_integers")) := T.glo (T.says.d.fact 2 (f := .glo "are_integers"))
theorem Tx.m_are_within (T : Tx K mg) : mg "are_within" = some (.ref (He.ga K "are_within")) := T.glo (T.says.d.fact 3 (f := .glo "are_within"))
theorem Tx.m_is_word (T : Tx K mg) : mg "is_word" = some (.ref (He.ga K "is_word")) := T.glo (T.says.d.fact 4 (f := .glo "is_word"))
theorem Tx.m_is_sign (T : Tx K mg) : mg "is_sign" = some (.ref (He.ga K "is_sign")) := T.glo (T.says.d.fact 5 (f := .glo "is_sign"))
theorem Tx.m_is_text (T : Tx K mg) : mg "is_text" = some (.ref (He.ga K "is_text")) := T.glo (T.says.d.fact 6 (f := .glo "is_text"))
theorem Tx.m_need_number (T : Tx K mg) : mg "need_number" = some (.ref (He.ga K "need_number")) := T.glo (T.says.d.fact 7 (f := .glo "need_number"))
theorem Tx.m_need_text (T : Tx K mg) : mg "need_text" = some (.ref (He.ga K "need_text")) := T.glo (T.says.d.fact 8 (f := .glo "need_text"))
theorem Tx.m_are_words (T : Tx K mg) : mg "are_words" = some (.ref (He.ga K "are_words")) := T.glo (T.says.d.fact 9 (f := .glo "are_words"))
theorem Tx.m_need_book (T : Tx K mg) : mg "need_book" = some (.ref (He.ga K "need_book")) := T.glo (T.says.d.fact 10 (f := .glo "need_book"))
theorem Tx.m_need_row (T : Tx K mg) : mg "need_row" = some (.ref (He.ga K "need_row")) := T.glo (T.says.d.fact 11 (f := .glo "need_row"))
theorem Tx.m_need_copies (T : Tx K mg) : mg "need_copies" = some (.ref (He.ga K "need_copies")) := T.glo (T.says.d.fact 12 (f := .glo "need_copies"))
theorem Tx.m_text_in (T : Tx K mg) : mg "text_in" = some (.ref (He.ga K "text_in")) := T.glo (T.says.d.fact 13 (f := .glo "text_in"))
theorem Tx.m_row_in (T : Tx K mg) : mg "row_in" = some (.ref (He.ga K "row_in")) := T.glo (T.says.d.fact 14 (f := .glo "row_in"))
theorem Tx.m_spelled (T : Tx K mg) : mg "spelled" = some (.ref (He.ga K "spelled")) := T.glo (T.says.d.fact 15 (f := .glo "spelled"))
theorem Tx.m_read (T : Tx K mg) : mg "read" = some (.ref (He.ga K "read")) := T.glo (T.says.d.fact 16 (f := .glo "read"))
theorem Tx.m_is_edit (T : Tx K mg) : mg "is_edit" = some (.ref (He.ga K "is_edit")) := T.glo (T.says.d.fact 17 (f := .glo "is_edit"))
theorem Tx.m_can_be_done (T : Tx K mg) : mg "can_be_done" = some (.ref (He.ga K "can_be_done")) := T.glo (T.says.d.fact 18 (f := .glo "can_be_done"))
theorem Tx.m_done (T : Tx K mg) : mg "done" = some (.ref (He.ga K "done")) := T.glo (T.says.d.fact 19 (f := .glo "done"))
theorem Tx.m_behind (T : Tx K mg) : mg "behind" = some (.ref (He.ga K "behind")) := T.glo (T.says.d.fact 20 (f := .glo "behind"))
theorem Tx.m_fits (T : Tx K mg) : mg "fits" = some (.ref (He.ga K "fits")) := T.glo (T.says.d.fact 21 (f := .glo "fits"))
theorem Tx.m_need_edits (T : Tx K mg) : mg "need_edits" = some (.ref (He.ga K "need_edits")) := T.glo (T.says.d.fact 22 (f := .glo "need_edits"))
theorem Tx.m_damaged (T : Tx K mg) : mg "damaged" = some (.ref (He.ga K "damaged")) := T.glo (T.says.d.fact 23 (f := .glo "damaged"))
theorem Tx.m_plain_words (T : Tx K mg) : mg "plain_words" = some (.ref (He.ga K "plain_words")) := T.glo (T.says.d.fact 24 (f := .glo "plain_words"))
theorem Tx.m_plain_book (T : Tx K mg) : mg "plain_book" = some (.ref (He.ga K "plain_book")) := T.glo (T.says.d.fact 25 (f := .glo "plain_book"))
theorem Tx.m_is_truth (T : Tx K mg) : mg "is_truth" = some (.ref (He.ga K "is_truth")) := T.glo (T.says.d.fact 26 (f := .glo "is_truth"))
theorem Tx.m_are_cells (T : Tx K mg) : mg "are_cells" = some (.ref (He.ga K "are_cells")) := T.glo (T.says.d.fact 27 (f := .glo "are_cells"))
theorem Tx.m_need_that (T : Tx K mg) : mg "need_that" = some (.ref (He.ga K "need_that")) := T.glo (T.says.d.fact 28 (f := .glo "need_that"))
theorem Tx.m_parts_of_stand (T : Tx K mg) : mg "parts_of_stand" = some (.ref (He.ga K "parts_of_stand")) := T.glo (T.says.d.fact 29 (f := .glo "parts_of_stand"))
theorem Tx.m_hear (T : Tx K mg) : mg "hear" = some (.ref (He.ga K "hear")) := T.glo (T.says.d.fact 30 (f := .glo "hear"))
theorem Tx.m_reckon (T : Tx K mg) : mg "reckon" = some (.ref (He.ga K "reckon")) := T.glo (T.says.d.fact 31 (f := .glo "reckon"))
theorem Tx.m_do_flagged (T : Tx K mg) : mg "do_flagged" = some (.ref (He.ga K "do_flagged")) := T.glo (T.says.d.fact 32 (f := .glo "do_flagged"))
theorem Tx.m_go (T : Tx K mg) : mg "go" = some (.ref (He.ga K "go")) := T.glo (T.says.d.fact 33 (f := .glo "go"))
theorem Tx.m_do_plain (T : Tx K mg) : mg "do_plain" = some (.ref (He.ga K "do_plain")) := T.glo (T.says.d.fact 34 (f := .glo "do_plain"))
theorem Tx.m_do_here (T : Tx K mg) : mg "do_here" = some (.ref (He.ga K "do_here")) := T.glo (T.says.d.fact 35 (f := .glo "do_here"))
theorem Tx.m_counted (T : Tx K mg) : mg "counted" = some (.ref (He.ga K "counted")) := T.glo (T.says.d.fact 36 (f := .glo "counted"))
theorem Tx.m_do_word (T : Tx K mg) : mg "do_word" = some (.ref (He.ga K "do_word")) := T.glo (T.says.d.fact 37 (f := .glo "do_word"))
theorem Tx.m_need_stand (T : Tx K mg) : mg "need_stand" = some (.ref (He.ga K "need_stand")) := T.glo (T.says.d.fact 38 (f := .glo "need_stand"))
theorem Tx.m_need_plain_row (T : Tx K mg) : mg "need_plain_row" = some (.ref (He.ga K "need_plain_row")) := T.glo (T.says.d.fact 39 (f := .glo "need_plain_row"))
theorem Tx.m_need_heard (T : Tx K mg) : mg "need_heard" = some (.ref (He.ga K "need_heard")) := T.glo (T.says.d.fact 40 (f := .glo "need_heard"))
theorem Tx.m_begun (T : Tx K mg) : mg "begun" = some (.ref (He.ga K "begun")) := T.glo (T.says.d.fact 41 (f := .glo "begun"))
theorem Tx.m_passed (T : Tx K mg) : mg "passed" = some (.ref (He.ga K "passed")) := T.glo (T.says.d.fact 42 (f := .glo "passed"))
theorem Tx.m_fixed (T : Tx K mg) : mg "fixed" = some (.ref (He.ga K "fixed")) := T.glo (T.says.d.fact 43 (f := .glo "fixed"))
theorem Tx.m_begins_of (T : Tx K mg) : mg "begins_of" = some (.ref (He.ga K "begins_of")) := T.glo (T.says.d.fact 44 (f := .glo "begins_of"))
theorem Tx.m_need_two (T : Tx K mg) : mg "need_two" = some (.ref (He.ga K "need_two")) := T.glo (T.says.d.fact 45 (f := .glo "need_two"))
theorem Tx.m_counts_to (T : Tx K mg) : mg "counts_to" = some (.ref (He.ga K "counts_to")) := T.glo (T.says.d.fact 46 (f := .glo "counts_to"))
theorem Tx.m_way_along (T : Tx K mg) : mg "way_along" = some (.ref (He.ga K "way_along")) := T.glo (T.says.d.fact 47 (f := .glo "way_along"))
theorem Tx.m_least_edits (T : Tx K mg) : mg "least_edits" = some (.ref (He.ga K "least_edits")) := T.glo (T.says.d.fact 48 (f := .glo "least_edits"))
theorem Tx.m_is_cut (T : Tx K mg) : mg "is_cut" = some (.ref (He.ga K "is_cut")) := T.glo (T.says.d.fact 49 (f := .glo "is_cut"))
theorem Tx.m_copies_told (T : Tx K mg) : mg "copies_told" = some (.ref (He.ga K "copies_told")) := T.glo (T.says.d.fact 50 (f := .glo "copies_told"))
theorem Tx.m_best_begins (T : Tx K mg) : mg "best_begins" = some (.ref (He.ga K "best_begins")) := T.glo (T.says.d.fact 51 (f := .glo "best_begins"))
theorem Tx.m_raised (T : Tx K mg) : mg "raised" = some (.ref (He.ga K "raised")) := T.glo (T.says.d.fact 52 (f := .glo "raised"))
theorem Tx.m_alone_cost (T : Tx K mg) : mg "alone_cost" = some (.ref (He.ga K "alone_cost")) := T.glo (T.says.d.fact 53 (f := .glo "alone_cost"))
theorem Tx.m_side_costs (T : Tx K mg) : mg "side_costs" = some (.ref (He.ga K "side_costs")) := T.glo (T.says.d.fact 54 (f := .glo "side_costs"))
theorem Tx.m_border_cost (T : Tx K mg) : mg "border_cost" = some (.ref (He.ga K "border_cost")) := T.glo (T.says.d.fact 55 (f := .glo "border_cost"))
theorem Tx.m_triples_of (T : Tx K mg) : mg "triples_of" = some (.ref (He.ga K "triples_of")) := T.glo (T.says.d.fact 56 (f := .glo "triples_of"))
theorem Tx.m_cheapest (T : Tx K mg) : mg "cheapest" = some (.ref (He.ga K "cheapest")) := T.glo (T.says.d.fact 57 (f := .glo "cheapest"))
theorem Tx.m_stretch_in (T : Tx K mg) : mg "stretch_in" = some (.ref (He.ga K "stretch_in")) := T.glo (T.says.d.fact 58 (f := .glo "stretch_in"))
theorem Tx.m_strange_in_prices (T : Tx K mg) : mg "strange_in_prices" = some (.ref (He.ga K "strange_in_prices")) := T.glo (T.says.d.fact 59 (f := .glo "strange_in_prices"))
theorem Tx.m_price_of (T : Tx K mg) : mg "price_of" = some (.ref (He.ga K "price_of")) := T.glo (T.says.d.fact 60 (f := .glo "price_of"))
theorem Tx.m_need_asked (T : Tx K mg) : mg "need_asked" = some (.ref (He.ga K "need_asked")) := T.glo (T.says.d.fact 61 (f := .glo "need_asked"))
theorem Tx.m_moved_on (T : Tx K mg) : mg "moved_on" = some (.ref (He.ga K "moved_on")) := T.glo (T.says.d.fact 62 (f := .glo "moved_on"))
theorem Tx.m_strange_in_thick (T : Tx K mg) : mg "strange_in_thick" = some (.ref (He.ga K "strange_in_thick")) := T.glo (T.says.d.fact 63 (f := .glo "strange_in_thick"))
theorem Tx.m_judged_book (T : Tx K mg) : mg "judged_book" = some (.ref (He.ga K "judged_book")) := T.glo (T.says.d.fact 64 (f := .glo "judged_book"))
theorem Tx.m__law_press (T : Tx K mg) : mg "_law_press" = some (.ref (He.ga K "_law_press")) := T.glo (T.says.d.fact 65 (f := .glo "_law_press"))
theorem Tx.m__law_turn (T : Tx K mg) : mg "_law_turn" = some (.ref (He.ga K "_law_turn")) := T.glo (T.says.d.fact 66 (f := .glo "_law_turn"))
theorem Tx.m__law_one_of (T : Tx K mg) : mg "_law_one_of" = some (.ref (He.ga K "_law_one_of")) := T.glo (T.says.d.fact 67 (f := .glo "_law_one_of"))
theorem Tx.m__law_spelled (T : Tx K mg) : mg "_law_spelled" = some (.ref (He.ga K "_law_spelled")) := T.glo (T.says.d.fact 68 (f := .glo "_law_spelled"))
theorem Tx.m__law_read (T : Tx K mg) : mg "_law_read" = some (.ref (He.ga K "_law_read")) := T.glo (T.says.d.fact 69 (f := .glo "_law_read"))
theorem Tx.m__law_is_thick (T : Tx K mg) : mg "_law_is_thick" = some (.ref (He.ga K "_law_is_thick")) := T.glo (T.says.d.fact 70 (f := .glo "_law_is_thick"))
theorem Tx.m__law_hurt (T : Tx K mg) : mg "_law_hurt" = some (.ref (He.ga K "_law_hurt")) := T.glo (T.says.d.fact 71 (f := .glo "_law_hurt"))
theorem Tx.m__law_edits (T : Tx K mg) : mg "_law_edits" = some (.ref (He.ga K "_law_edits")) := T.glo (T.says.d.fact 72 (f := .glo "_law_edits"))
theorem Tx.m__law_aimed (T : Tx K mg) : mg "_law_aimed" = some (.ref (He.ga K "_law_aimed")) := T.glo (T.says.d.fact 73 (f := .glo "_law_aimed"))
theorem Tx.m__law_cut_up (T : Tx K mg) : mg "_law_cut_up" = some (.ref (He.ga K "_law_cut_up")) := T.glo (T.says.d.fact 74 (f := .glo "_law_cut_up"))
theorem Tx.m__law_row_right (T : Tx K mg) : mg "_law_row_right" = some (.ref (He.ga K "_law_row_right")) := T.glo (T.says.d.fact 75 (f := .glo "_law_row_right"))
theorem Tx.m_law (T : Tx K mg) : mg "law" = some (.ref (He.ga K "law")) := T.glo (T.says.d.fact 76 (f := .glo "law"))
theorem Tx.c_Book (T : Tx K mg) : ∃ u, mg "Book" = some u ∧ RelV (.ref (He.ga K "Book")) u := ⟨_, T.glo (T.says.d.fact 77 (f := .glo "Book")), rfl⟩
theorem Tx.m_Book (T : Tx K mg) : mg "Book" = some (.ref (He.ga K "Book")) := T.glo (T.says.d.fact 77 (f := .glo "Book"))
theorem Tx.c_Stand (T : Tx K mg) : ∃ u, mg "Stand" = some u ∧ RelV (.ref (He.ga K "Stand")) u := ⟨_, T.glo (T.says.d.fact 78 (f := .glo "Stand")), rfl⟩
theorem Tx.m_Stand (T : Tx K mg) : mg "Stand" = some (.ref (He.ga K "Stand")) := T.glo (T.says.d.fact 78 (f := .glo "Stand"))
theorem Tx.c_Live (T : Tx K mg) : ∃ u, mg "Live" = some u ∧ RelV (.ref (He.ga K "Live")) u := ⟨_, T.glo (T.says.d.fact 79 (f := .glo "Live")), rfl⟩
theorem Tx.m_Live (T : Tx K mg) : mg "Live" = some (.ref (He.ga K "Live")) := T.glo (T.says.d.fact 79 (f := .glo "Live"))
theorem Tx.c_Paper (T : Tx K mg) : ∃ u, mg "Paper" = some u ∧ RelV (.ref (He.ga K "Paper")) u := ⟨_, T.glo (T.says.d.fact 80 (f := .glo "Paper")), rfl⟩
theorem Tx.m_Paper (T : Tx K mg) : mg "Paper" = some (.ref (He.ga K "Paper")) := T.glo (T.says.d.fact 80 (f := .glo "Paper"))
theorem Tx.c_Denial (T : Tx K mg) : ∃ u, mg "Denial" = some u ∧ RelV (.ref (He.ga K "Denial")) u := ⟨_, T.glo (T.says.d.fact 81 (f := .glo "Denial")), rfl⟩
theorem Tx.m_Denial (T : Tx K mg) : mg "Denial" = some (.ref (He.ga K "Denial")) := T.glo (T.says.d.fact 81 (f := .glo "Denial"))
theorem Tx.c_Ways (T : Tx K mg) : ∃ u, mg "Ways" = some u ∧ RelV (.ref (He.ga K "Ways")) u := ⟨_, T.glo (T.says.d.fact 82 (f := .glo "Ways")), rfl⟩
theorem Tx.m_Ways (T : Tx K mg) : mg "Ways" = some (.ref (He.ga K "Ways")) := T.glo (T.says.d.fact 82 (f := .glo "Ways"))
theorem Tx.c_Strange (T : Tx K mg) : ∃ u, mg "Strange" = some u ∧ RelV (.ref (He.ga K "Strange")) u := ⟨_, T.glo (T.says.d.fact 83 (f := .glo "Strange")), rfl⟩
theorem Tx.m_Strange (T : Tx K mg) : mg "Strange" = some (.ref (He.ga K "Strange")) := T.glo (T.says.d.fact 83 (f := .glo "Strange"))
theorem Tx.c_Costs (T : Tx K mg) : ∃ u, mg "Costs" = some u ∧ RelV (.ref (He.ga K "Costs")) u := ⟨_, T.glo (T.says.d.fact 84 (f := .glo "Costs")), rfl⟩
theorem Tx.m_Costs (T : Tx K mg) : mg "Costs" = some (.ref (He.ga K "Costs")) := T.glo (T.says.d.fact 84 (f := .glo "Costs"))
theorem Tx.c_Thick (T : Tx K mg) : ∃ u, mg "Thick" = some u ∧ RelV (.ref (He.ga K "Thick")) u := ⟨_, T.glo (T.says.d.fact 85 (f := .glo "Thick")), rfl⟩
theorem Tx.m_Thick (T : Tx K mg) : mg "Thick" = some (.ref (He.ga K "Thick")) := T.glo (T.says.d.fact 85 (f := .glo "Thick"))
theorem Tx.c_Broken (T : Tx K mg) : ∃ u, mg "Broken" = some u ∧ RelV (.ref (He.ga K "Broken")) u := ⟨_, T.glo (T.says.d.fact 86 (f := .glo "Broken")), rfl⟩
theorem Tx.m_Broken (T : Tx K mg) : mg "Broken" = some (.ref (He.ga K "Broken")) := T.glo (T.says.d.fact 86 (f := .glo "Broken"))
theorem Tx.f_len (T : Tx K mg) : mg "len" = none := T.free (T.says.d.fact 87 (f := .free "len"))
theorem Tx.f_isinstance (T : Tx K mg) : mg "isinstance" = none := T.free (T.says.d.fact 88 (f := .free "isinstance"))
theorem Tx.f_int (T : Tx K mg) : mg "int" = none := T.free (T.says.d.fact 89 (f := .free "int"))
theorem Tx.f_bool (T : Tx K mg) : mg "bool" = none := T.free (T.says.d.fact 90 (f := .free "bool"))
theorem Tx.f_str (T : Tx K mg) : mg "str" = none := T.free (T.says.d.fact 91 (f := .free "str"))
theorem Tx.f_list (T : Tx K mg) : mg "list" = none := T.free (T.says.d.fact 92 (f := .free "list"))
theorem Tx.f_tuple (T : Tx K mg) : mg "tuple" = none := T.free (T.says.d.fact 93 (f := .free "tuple"))
theorem Tx.f_all (T : Tx K mg) : mg "all" = none := T.free (T.says.d.fact 94 (f := .free "all"))
theorem Tx.f_any (T : Tx K mg) : mg "any" = none := T.free (T.says.d.fact 95 (f := .free "any"))
theorem Tx.f_set (T : Tx K mg) : mg "set" = none := T.free (T.says.d.fact 96 (f := .free "set"))
theorem Tx.f_sum (T : Tx K mg) : mg "sum" = none := T.free (T.says.d.fact 97 (f := .free "sum"))
theorem Tx.f_min (T : Tx K mg) : mg "min" = none := T.free (T.says.d.fact 98 (f := .free "min"))
theorem Tx.f_max (T : Tx K mg) : mg "max" = none := T.free (T.says.d.fact 99 (f := .free "max"))
theorem Tx.f_range (T : Tx K mg) : mg "range" = none := T.free (T.says.d.fact 100 (f := .free "range"))
theorem Tx.f_enumerate (T : Tx K mg) : mg "enumerate" = none := T.free (T.says.d.fact 101 (f := .free "enumerate"))
theorem Tx.f_sorted (T : Tx K mg) : mg "sorted" = none := T.free (T.says.d.fact 102 (f := .free "sorted"))
theorem Tx.f_dict (T : Tx K mg) : mg "dict" = none := T.free (T.says.d.fact 103 (f := .free "dict"))
theorem Tx.f_zip (T : Tx K mg) : mg "zip" = none := T.free (T.says.d.fact 104 (f := .free "zip"))
theorem Tx.f_abs (T : Tx K mg) : mg "abs" = none := T.free (T.says.d.fact 105 (f := .free "abs"))
theorem Tx.f_super (T : Tx K mg) : mg "super" = none := T.free (T.says.d.fact 106 (f := .free "super"))
theorem Tx.g_MOST_LETTERS (T : Tx K mg) : ∃ u, mg "MOST_LETTERS" = some u ∧ RelV (.int 12) u := T.int (T.says.d.fact 107 (f := .int "MOST_LETTERS" 12))
theorem Tx.g_MOST_SIGNS_checks (T : Tx K mg) : ∃ u, mg "MOST_SIGNS_checks" = some u ∧ RelV (.int 200000) u := T.int (T.says.d.fact 108 (f := .int "MOST_SIGNS_checks" 200000))
theorem Tx.g_MOST_WORDS (T : Tx K mg) : ∃ u, mg "MOST_WORDS" = some u ∧ RelV (.int 40) u := T.int (T.says.d.fact 109 (f := .int "MOST_WORDS" 40))
theorem Tx.g_MOST_NUMBERS (T : Tx K mg) : ∃ u, mg "MOST_NUMBERS" = some u ∧ RelV (.int 10000) u := T.int (T.says.d.fact 110 (f := .int "MOST_NUMBERS" 10000))
theorem Tx.g_MOST_COPIES_books (T : Tx K mg) : ∃ u, mg "MOST_COPIES_books" = some u ∧ RelV (.int 12) u := T.int (T.says.d.fact 111 (f := .int "MOST_COPIES_books" 12))
theorem Tx.g_MOST_EDITS_edits (T : Tx K mg) : ∃ u, mg "MOST_EDITS_edits" = some u ∧ RelV (.int 12) u := T.int (T.says.d.fact 112 (f := .int "MOST_EDITS_edits" 12))
theorem Tx.g_OUTSET (T : Tx K mg) : ∃ u, mg "OUTSET" = some u ∧ RelV (.int 0) u := T.int (T.says.d.fact 113 (f := .int "OUTSET" 0))
theorem Tx.g_UPLIFT (T : Tx K mg) : ∃ u, mg "UPLIFT" = some u ∧ RelV (.int 1) u := T.int (T.says.d.fact 114 (f := .int "UPLIFT" 1))
theorem Tx.g_PREPARE (T : Tx K mg) : ∃ u, mg "PREPARE" = some u ∧ RelV (.int 3) u := T.int (T.says.d.fact 115 (f := .int "PREPARE" 3))
theorem Tx.g_AUGMENT (T : Tx K mg) : ∃ u, mg "AUGMENT" = some u ∧ RelV (.int 4) u := T.int (T.says.d.fact 116 (f := .int "AUGMENT" 4))
theorem Tx.g_LESSEN (T : Tx K mg) : ∃ u, mg "LESSEN" = some u ∧ RelV (.int 5) u := T.int (T.says.d.fact 117 (f := .int "LESSEN" 5))
theorem Tx.g_MULTIPLY (T : Tx K mg) : ∃ u, mg "MULTIPLY" = some u ∧ RelV (.int 6) u := T.int (T.says.d.fact 118 (f := .int "MULTIPLY" 6))
theorem Tx.g_PORTION (T : Tx K mg) : ∃ u, mg "PORTION" = some u ∧ RelV (.int 7) u := T.int (T.says.d.fact 119 (f := .int "PORTION" 7))
theorem Tx.g_EXCHANGE (T : Tx K mg) : ∃ u, mg "EXCHANGE" = some u ∧ RelV (.int 8) u := T.int (T.says.d.fact 120 (f := .int "EXCHANGE" 8))
theorem Tx.g_INQUIRE (T : Tx K mg) : ∃ u, mg "INQUIRE" = some u ∧ RelV (.int 9) u := T.int (T.says.d.fact 121 (f := .int "INQUIRE" 9))
theorem Tx.g_PROCLAIM (T : Tx K mg) : ∃ u, mg "PROCLAIM" = some u ∧ RelV (.int 10) u := T.int (T.says.d.fact 122 (f := .int "PROCLAIM" 10))
theorem Tx.g_OBTAIN (T : Tx K mg) : ∃ u, mg "OBTAIN" = some u ∧ RelV (.int 11) u := T.int (T.says.d.fact 123 (f := .int "OBTAIN" 11))
theorem Tx.g_CIPHER (T : Tx K mg) : ∃ u, mg "CIPHER" = some u ∧ RelV (.int 12) u := T.int (T.says.d.fact 124 (f := .int "CIPHER" 12))
theorem Tx.g_NOTHING (T : Tx K mg) : ∃ u, mg "NOTHING" = some u ∧ RelV (.int 20) u := T.int (T.says.d.fact 125 (f := .int "NOTHING" 20))
theorem Tx.g_DUPLICATE (T : Tx K mg) : ∃ u, mg "DUPLICATE" = some u ∧ RelV (.int 21) u := T.int (T.says.d.fact 126 (f := .int "DUPLICATE" 21))
theorem Tx.g_DEPOSIT (T : Tx K mg) : ∃ u, mg "DEPOSIT" = some u ∧ RelV (.int 22) u := T.int (T.says.d.fact 127 (f := .int "DEPOSIT" 22))
theorem Tx.g_WHETHER (T : Tx K mg) : ∃ u, mg "WHETHER" = some u ∧ RelV (.int 23) u := T.int (T.says.d.fact 128 (f := .int "WHETHER" 23))
theorem Tx.g_NEGATIVE (T : Tx K mg) : ∃ u, mg "NEGATIVE" = some u ∧ RelV (.int 24) u := T.int (T.says.d.fact 129 (f := .int "NEGATIVE" 24))
theorem Tx.g_GRANTED (T : Tx K mg) : ∃ u, mg "GRANTED" = some u ∧ RelV (.int 25) u := T.int (T.says.d.fact 130 (f := .int "GRANTED" 25))
theorem Tx.g_JOURNEY (T : Tx K mg) : ∃ u, mg "JOURNEY" = some u ∧ RelV (.int 28) u := T.int (T.says.d.fact 131 (f := .int "JOURNEY" 28))
theorem Tx.g_FINISH (T : Tx K mg) : ∃ u, mg "FINISH" = some u ∧ RelV (.int 29) u := T.int (T.says.d.fact 132 (f := .int "FINISH" 29))
theorem Tx.g_ANYWAY_MODE (T : Tx K mg) : ∃ u, mg "ANYWAY_MODE" = some u ∧ RelV (.int 2) u := T.int (T.says.d.fact 133 (f := .int "ANYWAY_MODE" 2))
theorem Tx.g_LAST_WORD (T : Tx K mg) : ∃ u, mg "LAST_WORD" = some u ∧ RelV (.int 29) u := T.int (T.says.d.fact 134 (f := .int "LAST_WORD" 29))
theorem Tx.g_EIGHT (T : Tx K mg) : ∃ u, mg "EIGHT" = some u ∧ RelV (.int 8) u := T.int (T.says.d.fact 135 (f := .int "EIGHT" 8))
theorem Tx.g_MOST_SIGNS_ways (T : Tx K mg) : ∃ u, mg "MOST_SIGNS_ways" = some u ∧ RelV (.int 300) u := T.int (T.says.d.fact 136 (f := .int "MOST_SIGNS_ways" 300))
theorem Tx.g_MOST_COPIES_thick (T : Tx K mg) : ∃ u, mg "MOST_COPIES_thick" = some u ∧ RelV (.int 12) u := T.int (T.says.d.fact 137 (f := .int "MOST_COPIES_thick" 12))
theorem Tx.g_MOST_EDITS_thick (T : Tx K mg) : ∃ u, mg "MOST_EDITS_thick" = some u ∧ RelV (.int 4) u := T.int (T.says.d.fact 138 (f := .int "MOST_EDITS_thick" 4))
theorem Tx.g_LETTERS (T : Tx K mg) : ∃ u, mg "LETTERS" = some u ∧ RelV (.str "abcdefghijklmnopqrstuvwxyz") u := T.str (T.says.d.fact 139 (f := .str "LETTERS" "abcdefghijklmnopqrstuvwxyz"))
theorem Tx.g_BLANK (T : Tx K mg) : ∃ u, mg "BLANK" = some u ∧ RelV (.str " ") u := T.str (T.says.d.fact 140 (f := .str "BLANK" " "))
theorem Tx.g_SIGNS (T : Tx K mg) : ∃ u, mg "SIGNS" = some u ∧ RelV (.str "abcdefghijklmnopqrstuvwxyz ") u := T.str (T.says.d.fact 141 (f := .str "SIGNS" "abcdefghijklmnopqrstuvwxyz "))
theorem Tx.g_LOST (T : Tx K mg) : ∃ u, mg "LOST" = some u ∧ RelV (.str "lost") u := T.str (T.says.d.fact 142 (f := .str "LOST" "lost"))
theorem Tx.g_PUT (T : Tx K mg) : ∃ u, mg "PUT" = some u ∧ RelV (.str "put") u := T.str (T.says.d.fact 143 (f := .str "PUT" "put"))
theorem Tx.g_CHANGED (T : Tx K mg) : ∃ u, mg "CHANGED" = some u ∧ RelV (.str "changed") u := T.str (T.says.d.fact 144 (f := .str "CHANGED" "changed"))
theorem Tx.k_Book (T : Tx K mg) : Cls K (He.ga K "Book") := He.cls_ok (T.says.d.fact 145 (f := .cls "Book"))
theorem Tx.n_Book_words (T : Tx K mg) : NoAttr K (He.ga K "Book") "words" := He.noat_ok (T.says.d.fact 146 (f := .noat "Book" "words"))
theorem Tx.k_Stand (T : Tx K mg) : Cls K (He.ga K "Stand") := He.cls_ok (T.says.d.fact 147 (f := .cls "Stand"))
theorem Tx.n_Stand_block (T : Tx K mg) : NoAttr K (He.ga K "Stand") "block" := He.noat_ok (T.says.d.fact 148 (f := .noat "Stand" "block"))
theorem Tx.n_Stand_room (T : Tx K mg) : NoAttr K (He.ga K "Stand") "room" := He.noat_ok (T.says.d.fact 149 (f := .noat "Stand" "room"))
theorem Tx.n_Stand_tick (T : Tx K mg) : NoAttr K (He.ga K "Stand") "tick" := He.noat_ok (T.says.d.fact 150 (f := .noat "Stand" "tick"))
theorem Tx.n_Stand_flag (T : Tx K mg) : NoAttr K (He.ga K "Stand") "flag" := He.noat_ok (T.says.d.fact 151 (f := .noat "Stand" "flag"))
theorem Tx.n_Stand_test (T : Tx K mg) : NoAttr K (He.ga K "Stand") "test" := He.noat_ok (T.says.d.fact 152 (f := .noat "Stand" "test"))
theorem Tx.n_Stand_mode (T : Tx K mg) : NoAttr K (He.ga K "Stand") "mode" := He.noat_ok (T.says.d.fact 153 (f := .noat "Stand" "mode"))
theorem Tx.n_Stand_first (T : Tx K mg) : NoAttr K (He.ga K "Stand") "first" := He.noat_ok (T.says.d.fact 154 (f := .noat "Stand" "first"))
theorem Tx.n_Stand_second (T : Tx K mg) : NoAttr K (He.ga K "Stand") "second" := He.noat_ok (T.says.d.fact 155 (f := .noat "Stand" "second"))
theorem Tx.n_Stand_cells (T : Tx K mg) : NoAttr K (He.ga K "Stand") "cells" := He.noat_ok (T.says.d.fact 156 (f := .noat "Stand" "cells"))
theorem Tx.n_Stand_heard (T : Tx K mg) : NoAttr K (He.ga K "Stand") "heard" := He.noat_ok (T.says.d.fact 157 (f := .noat "Stand" "heard"))
theorem Tx.n_Stand_said (T : Tx K mg) : NoAttr K (He.ga K "Stand") "said" := He.noat_ok (T.says.d.fact 158 (f := .noat "Stand" "said"))
theorem Tx.n_Stand_is_done (T : Tx K mg) : NoAttr K (He.ga K "Stand") "is_done" := He.noat_ok (T.says.d.fact 159 (f := .noat "Stand" "is_done"))
theorem Tx.k_Live (T : Tx K mg) : Cls K (He.ga K "Live") := He.cls_ok (T.says.d.fact 160 (f := .cls "Live"))
theorem Tx.n_Live_block (T : Tx K mg) : NoAttr K (He.ga K "Live") "block" := He.noat_ok (T.says.d.fact 161 (f := .noat "Live" "block"))
theorem Tx.n_Live_room (T : Tx K mg) : NoAttr K (He.ga K "Live") "room" := He.noat_ok (T.says.d.fact 162 (f := .noat "Live" "room"))
theorem Tx.n_Live_tick (T : Tx K mg) : NoAttr K (He.ga K "Live") "tick" := He.noat_ok (T.says.d.fact 163 (f := .noat "Live" "tick"))
theorem Tx.n_Live_flag (T : Tx K mg) : NoAttr K (He.ga K "Live") "flag" := He.noat_ok (T.says.d.fact 164 (f := .noat "Live" "flag"))
theorem Tx.n_Live_test (T : Tx K mg) : NoAttr K (He.ga K "Live") "test" := He.noat_ok (T.says.d.fact 165 (f := .noat "Live" "test"))
theorem Tx.n_Live_mode (T : Tx K mg) : NoAttr K (He.ga K "Live") "mode" := He.noat_ok (T.says.d.fact 166 (f := .noat "Live" "mode"))
theorem Tx.n_Live_first (T : Tx K mg) : NoAttr K (He.ga K "Live") "first" := He.noat_ok (T.says.d.fact 167 (f := .noat "Live" "first"))
theorem Tx.n_Live_second (T : Tx K mg) : NoAttr K (He.ga K "Live") "second" := He.noat_ok (T.says.d.fact 168 (f := .noat "Live" "second"))
theorem Tx.n_Live_cells (T : Tx K mg) : NoAttr K (He.ga K "Live") "cells" := He.noat_ok (T.says.d.fact 169 (f := .noat "Live" "cells"))
theorem Tx.n_Live_heard (T : Tx K mg) : NoAttr K (He.ga K "Live") "heard" := He.noat_ok (T.says.d.fact 170 (f := .noat "Live" "heard"))
theorem Tx.n_Live_said (T : Tx K mg) : NoAttr K (He.ga K "Live") "said" := He.noat_ok (T.says.d.fact 171 (f := .noat "Live" "said"))
theorem Tx.n_Live_is_done (T : Tx K mg) : NoAttr K (He.ga K "Live") "is_done" := He.noat_ok (T.says.d.fact 172 (f := .noat "Live" "is_done"))
theorem Tx.n_Live_numbers (T : Tx K mg) : NoAttr K (He.ga K "Live") "numbers" := He.noat_ok (T.says.d.fact 173 (f := .noat "Live" "numbers"))
theorem Tx.k_Ways (T : Tx K mg) : Cls K (He.ga K "Ways") := He.cls_ok (T.says.d.fact 174 (f := .cls "Ways"))
theorem Tx.n_Ways_word (T : Tx K mg) : NoAttr K (He.ga K "Ways") "word" := He.noat_ok (T.says.d.fact 175 (f := .noat "Ways" "word"))
theorem Tx.n_Ways_parts (T : Tx K mg) : NoAttr K (He.ga K "Ways") "parts" := He.noat_ok (T.says.d.fact 176 (f := .noat "Ways" "parts"))
theorem Tx.n_Ways_edits (T : Tx K mg) : NoAttr K (He.ga K "Ways") "edits" := He.noat_ok (T.says.d.fact 177 (f := .noat "Ways" "edits"))
theorem Tx.k_Strange (T : Tx K mg) : Cls K (He.ga K "Strange") := He.cls_ok (T.says.d.fact 178 (f := .cls "Strange"))
theorem Tx.n_Strange_word (T : Tx K mg) : NoAttr K (He.ga K "Strange") "word" := He.noat_ok (T.says.d.fact 179 (f := .noat "Strange" "word"))
theorem Tx.n_Strange_parts (T : Tx K mg) : NoAttr K (He.ga K "Strange") "parts" := He.noat_ok (T.says.d.fact 180 (f := .noat "Strange" "parts"))
theorem Tx.n_Strange_row (T : Tx K mg) : NoAttr K (He.ga K "Strange") "row" := He.noat_ok (T.says.d.fact 181 (f := .noat "Strange" "row"))
theorem Tx.n_Strange_edits (T : Tx K mg) : NoAttr K (He.ga K "Strange") "edits" := He.noat_ok (T.says.d.fact 182 (f := .noat "Strange" "edits"))
theorem Tx.n_Strange_made (T : Tx K mg) : NoAttr K (He.ga K "Strange") "made" := He.noat_ok (T.says.d.fact 183 (f := .noat "Strange" "made"))
theorem Tx.k_Costs (T : Tx K mg) : Cls K (He.ga K "Costs") := He.cls_ok (T.says.d.fact 184 (f := .cls "Costs"))
theorem Tx.n_Costs_words (T : Tx K mg) : NoAttr K (He.ga K "Costs") "words" := He.noat_ok (T.says.d.fact 185 (f := .noat "Costs" "words"))
theorem Tx.n_Costs_alone (T : Tx K mg) : NoAttr K (He.ga K "Costs") "alone" := He.noat_ok (T.says.d.fact 186 (f := .noat "Costs" "alone"))
theorem Tx.n_Costs_ahead (T : Tx K mg) : NoAttr K (He.ga K "Costs") "ahead" := He.noat_ok (T.says.d.fact 187 (f := .noat "Costs" "ahead"))
theorem Tx.n_Costs_behind (T : Tx K mg) : NoAttr K (He.ga K "Costs") "behind" := He.noat_ok (T.says.d.fact 188 (f := .noat "Costs" "behind"))
theorem Tx.k_Thick (T : Tx K mg) : Cls K (He.ga K "Thick") := He.cls_ok (T.says.d.fact 189 (f := .cls "Thick"))
theorem Tx.n_Thick_word (T : Tx K mg) : NoAttr K (He.ga K "Thick") "word" := He.noat_ok (T.says.d.fact 190 (f := .noat "Thick" "word"))
theorem Tx.n_Thick_parts (T : Tx K mg) : NoAttr K (He.ga K "Thick") "parts" := He.noat_ok (T.says.d.fact 191 (f := .noat "Thick" "parts"))
theorem Tx.n_Thick_price (T : Tx K mg) : NoAttr K (He.ga K "Thick") "price" := He.noat_ok (T.says.d.fact 192 (f := .noat "Thick" "price"))
theorem Tx.k_Broken (T : Tx K mg) : Cls K (He.ga K "Broken") := He.cls_ok (T.says.d.fact 193 (f := .cls "Broken"))
theorem Tx.n_Broken_word (T : Tx K mg) : NoAttr K (He.ga K "Broken") "word" := He.noat_ok (T.says.d.fact 194 (f := .noat "Broken" "word"))
theorem Tx.n_Broken_parts (T : Tx K mg) : NoAttr K (He.ga K "Broken") "parts" := He.noat_ok (T.says.d.fact 195 (f := .noat "Broken" "parts"))
theorem Tx.n_Broken_row (T : Tx K mg) : NoAttr K (He.ga K "Broken") "row" := He.noat_ok (T.says.d.fact 196 (f := .noat "Broken" "row"))
theorem Tx.n_Broken_edits (T : Tx K mg) : NoAttr K (He.ga K "Broken") "edits" := He.noat_ok (T.says.d.fact 197 (f := .noat "Broken" "edits"))
theorem Tx.mk_Book (T : Tx K mg) : Mk K (He.ga K "Book") (He.ma K (He.ga K "Book") "__init__") := He.mkr_ok (T.says.d.fact 198 (f := .mkr "Book"))
theorem Tx.mk_Stand (T : Tx K mg) : Mk K (He.ga K "Stand") (He.ma K (He.ga K "Stand") "__init__") := He.mkr_ok (T.says.d.fact 199 (f := .mkr "Stand"))
theorem Tx.mk_Live (T : Tx K mg) : Mk K (He.ga K "Live") (He.ma K (He.ga K "Live") "__init__") := He.mkr_ok (T.says.d.fact 200 (f := .mkr "Live"))
theorem Tx.mk_Costs (T : Tx K mg) : Mk K (He.ga K "Costs") (He.ma K (He.ga K "Costs") "__init__") := He.mkr_ok (T.says.d.fact 201 (f := .mkr "Costs"))
theorem Tx.mk_Ways (T : Tx K mg) : Mk K (He.ga K "Ways") (He.ma K (He.ga K "Ways") "__init__") := He.mkr_ok (T.says.d.fact 202 (f := .mkr "Ways"))
theorem Tx.mk_Strange (T : Tx K mg) : Mk K (He.ga K "Strange") (He.ma K (He.ga K "Strange") "__init__") := He.mkr_ok (T.says.d.fact 203 (f := .mkr "Strange"))
theorem Tx.mk_Thick (T : Tx K mg) : Mk K (He.ga K "Thick") (He.ma K (He.ga K "Thick") "__init__") := He.mkr_ok (T.says.d.fact 204 (f := .mkr "Thick"))
theorem Tx.mk_Broken (T : Tx K mg) : Mk K (He.ga K "Broken") (He.ma K (He.ga K "Broken") "__init__") := He.mkr_ok (T.says.d.fact 205 (f := .mkr "Broken"))
theorem Tx.m_WORDS (T : Tx K mg) : mg "WORDS" = some (.ref (He.ga K "WORDS")) := T.glo (T.says.d.fact 206 (f := .glo "WORDS"))
theorem Tx.me_Live_kept (T : Tx K mg) : Meth K (He.ga K "Live") "kept" (He.ma K (He.ga K "Live") "kept") := He.meth_ok (T.says.d.fact 207 (f := .meth "Live" "kept"))
theorem Tx.me_Costs_of (T : Tx K mg) : Meth K (He.ga K "Costs") "of" (He.ma K (He.ga K "Costs") "of") := He.meth_ok (T.says.d.fact 208 (f := .meth "Costs" "of"))
theorem Tx.me_Costs_over (T : Tx K mg) : Meth K (He.ga K "Costs") "over" (He.ma K (He.ga K "Costs") "over") := He.meth_ok (T.says.d.fact 209 (f := .meth "Costs" "over"))
theorem Tx.me_Costs_triple (T : Tx K mg) : Meth K (He.ga K "Costs") "triple" (He.ma K (He.ga K "Costs") "triple") := He.meth_ok (T.says.d.fact 210 (f := .meth "Costs" "triple"))
theorem Tx.g_WORDS (T : Tx K mg) : ∃ u, mg "WORDS" = some u ∧ RelV (.ref (He.ga K "WORDS")) u := ⟨_, T.glo (T.says.d.fact 206 (f := .glo "WORDS")), rfl⟩
theorem Tx.ex (T : Tx K mg) (i : Nat) {b : Bool} (h : (exs K)[i]? = some b := by rfl) : b = true := List.all_eq_true.mp (show (exs K).all id = true from T.says.e) b (List.mem_of_getElem? h)
theorem Tx.words (T : Tx K mg) (H : Hp) : SqT K H (He.ga K "WORDS") (wordsDv.map (He.Dv.v K)) := He.tupB_ok (T.ex 0 (b := He.tupB K "WORDS" wordsDv)) H
theorem insB_ok {x : Str} (h : insB K x = true) (c : Cls K (He.ga K x)) : C8.InsC K (He.ga K x) := by
  obtain ⟨h1, h⟩ := He.ba h
  obtain ⟨h2, h⟩ := He.ba h
  obtain ⟨h3, h⟩ := He.ba h
  obtain ⟨h4, h5⟩ := He.ba h
  exact ⟨c, He.eqO_ok h1, He.eqO_ok h2, of_decide_eq_true h3, of_decide_eq_true h4, of_decide_eq_true h5⟩
theorem Tx.i_Book (T : Tx K mg) : C8.InsC K (He.ga K "Book") := insB_ok (T.ex 1 (b := insB K "Book")) T.k_Book
theorem Tx.i_Stand (T : Tx K mg) : C8.InsC K (He.ga K "Stand") := insB_ok (T.ex 2 (b := insB K "Stand")) T.k_Stand
theorem spcB_ok {x y m : Str} (h : spcB K x y m = true) : PySem.W.findIn K (.ref (He.ga K x)) m = some (some (.ref (He.ma K (He.ga K y) m))) ∧ PySem.W.isFn K (.ref (He.ma K (He.ga K y) m)) = true :=
  ⟨He.eqO_ok (He.ba h).1, (He.ba h).2⟩
theorem Tx.q_Stand (T : Tx K mg) : PySem.W.findIn K (.ref (He.ga K "Stand")) "__eq__" = some (some (.ref (He.ma K (He.ga K "Stand") "__eq__"))) ∧ PySem.W.isFn K (.ref (He.ma K (He.ga K "Stand") "__eq__")) = true := spcB_ok (T.ex 3 (b := spcB K "Stand" "Stand" "__eq__"))
theorem Tx.ne_Stand (T : Tx K mg) : PySem.W.findIn K (.ref (He.ga K "Stand")) "__ne__" = some (some (.builtin "object.__ne__")) := He.eqO_ok (T.ex 4 (b := neB K "Stand"))
theorem Tx.b_Strange (T : Tx K mg) : PySem.W.findIn K (.ref (He.ga K "Strange")) "__bool__" = some (some (.ref (He.ma K (He.ga K "Paper") "__bool__"))) ∧ PySem.W.isFn K (.ref (He.ma K (He.ga K "Paper") "__bool__")) = true := spcB_ok (T.ex 5 (b := spcB K "Strange" "Paper" "__bool__"))
theorem Tx.b_Broken (T : Tx K mg) : PySem.W.findIn K (.ref (He.ga K "Broken")) "__bool__" = some (some (.ref (He.ma K (He.ga K "Denial") "__bool__"))) ∧ PySem.W.isFn K (.ref (He.ma K (He.ga K "Denial") "__bool__")) = true := spcB_ok (T.ex 6 (b := spcB K "Broken" "Denial" "__bool__"))
theorem Tx.d_is_integer (T : Tx K mg) : ∃ fd, He.DefD.name D_is_integer = D_is_integer.name ∧ FunD K D_is_integer.name D_is_integer.qual D_is_integer.params D_is_integer.body D_is_integer.scope (D_is_integer.dvs K) (D_is_integer.kws K) (He.fAd K D_is_integer.at_) fd := by
  obtain ⟨fd, F⟩ := T.says.d.def_ 0 (d := D_is_integer)
  exact ⟨fd, rfl, F⟩
theorem Tx.d_is_within (T : Tx K mg) : ∃ fd, He.DefD.name D_is_within = D_is_within.name ∧ FunD K D_is_within.name D_is_within.qual D_is_within.params D_is_within.body D_is_within.scope (D_is_within.dvs K) (D_is_within.kws K) (He.fAd K D_is_within.at_) fd := by
  obtain ⟨fd, F⟩ := T.says.d.def_ 1 (d := D_is_within)
  exact ⟨fd, rfl, F⟩
theorem Tx.d_are_integers (T : Tx K mg) : ∃ fd, He.DefD.name D_are_integers = D_are_integers.name ∧ FunD K D_are_integers.name D_are_integers.qual D_are_integers.params D_are_integers.body D_are_integers.scope (D_are_integers.dvs K) (D_are_integers.kws K) (He.fAd K D_are_integers.at_) fd := by
  obtain ⟨fd, F⟩ := T.says.d.def_ 2 (d := D_are_integers)
  exact ⟨fd, rfl, F⟩
theorem Tx.d_are_within (T : Tx K mg) : ∃ fd, He.DefD.name D_are_within = D_are_within.name ∧ FunD K D_are_within.name D_are_within.qual D_are_within.params D_are_within.body D_are_within.scope (D_are_within.dvs K) (D_are_within.kws K) (He.fAd K D_are_within.at_) fd := by
  obtain ⟨fd, F⟩ := T.says.d.def_ 3 (d := D_are_within)
  exact ⟨fd, rfl, F⟩
theorem Tx.d_is_word (T : Tx K mg) : ∃ fd, He.DefD.name D_is_word = D_is_word.name ∧ FunD K D_is_word.name D_is_word.qual D_is_word.params D_is_word.body D_is_word.scope (D_is_word.dvs K) (D_is_word.kws K) (He.fAd K D_is_word.at_) fd := by
  obtain ⟨fd, F⟩ := T.says.d.def_ 4 (d := D_is_word)
  exact ⟨fd, rfl, F⟩
theorem Tx.d_is_sign (T : Tx K mg) : ∃ fd, He.DefD.name D_is_sign = D_is_sign.name ∧ FunD K D_is_sign.name D_is_sign.qual D_is_sign.params D_is_sign.body D_is_sign.scope (D_is_sign.dvs K) (D_is_sign.kws K) (He.fAd K D_is_sign.at_) fd := by
  obtain ⟨fd, F⟩ := T.says.d.def_ 5 (d := D_is_sign)
  exact ⟨fd, rfl, F⟩
theorem Tx.d_is_text (T : Tx K mg) : ∃ fd, He.DefD.name D_is_text = D_is_text.name ∧ FunD K D_is_text.name D_is_text.qual D_is_text.params D_is_text.body D_is_text.scope (D_is_text.dvs K) (D_is_text.kws K) (He.fAd K D_is_text.at_) fd := by
  obtain ⟨fd, F⟩ := T.says.d.def_ 6 (d := D_is_text)
  exact ⟨fd, rfl, F⟩
theorem Tx.d_need_number (T : Tx K mg) : ∃ fd, He.DefD.name D_need_number = D_need_number.name ∧ FunD K D_need_number.name D_need_number.qual D_need_number.params D_need_number.body D_need_number.scope (D_need_number.dvs K) (D_need_number.kws K) (He.fAd K D_need_number.at_) fd := by
  obtain ⟨fd, F⟩ := T.says.d.def_ 7 (d := D_need_number)
  exact ⟨fd, rfl, F⟩
theorem Tx.d_need_text (T : Tx K mg) : ∃ fd, He.DefD.name D_need_text = D_need_text.name ∧ FunD K D_need_text.name D_need_text.qual D_need_text.params D_need_text.body D_need_text.scope (D_need_text.dvs K) (D_need_text.kws K) (He.fAd K D_need_text.at_) fd := by
  obtain ⟨fd, F⟩ := T.says.d.def_ 8 (d := D_need_text)
  exact ⟨fd, rfl, F⟩
theorem Tx.d_are_words (T : Tx K mg) : ∃ fd, He.DefD.name D_are_words = D_are_words.name ∧ FunD K D_are_words.name D_are_words.qual D_are_words.params D_are_words.body D_are_words.scope (D_are_words.dvs K) (D_are_words.kws K) (He.fAd K D_are_words.at_) fd := by
  obtain ⟨fd, F⟩ := T.says.d.def_ 9 (d := D_are_words)
  exact ⟨fd, rfl, F⟩
theorem Tx.d_need_book (T : Tx K mg) : ∃ fd, He.DefD.name D_need_book = D_need_book.name ∧ FunD K D_need_book.name D_need_book.qual D_need_book.params D_need_book.body D_need_book.scope (D_need_book.dvs K) (D_need_book.kws K) (He.fAd K D_need_book.at_) fd := by
  obtain ⟨fd, F⟩ := T.says.d.def_ 10 (d := D_need_book)
  exact ⟨fd, rfl, F⟩
theorem Tx.d_need_row (T : Tx K mg) : ∃ fd, He.DefD.name D_need_row = D_need_row.name ∧ FunD K D_need_row.name D_need_row.qual D_need_row.params D_need_row.body D_need_row.scope (D_need_row.dvs K) (D_need_row.kws K) (He.fAd K D_need_row.at_) fd := by
  obtain ⟨fd, F⟩ := T.says.d.def_ 11 (d := D_need_row)
  exact ⟨fd, rfl, F⟩
theorem Tx.d_need_copies (T : Tx K mg) : ∃ fd, He.DefD.name D_need_copies = D_need_copies.name ∧ FunD K D_need_copies.name D_need_copies.qual D_need_copies.params D_need_copies.body D_need_copies.scope (D_need_copies.dvs K) (D_need_copies.kws K) (He.fAd K D_need_copies.at_) fd := by
  obtain ⟨fd, F⟩ := T.says.d.def_ 12 (d := D_need_copies)
  exact ⟨fd, rfl, F⟩
theorem Tx.d_text_in (T : Tx K mg) : ∃ fd, He.DefD.name D_text_in = D_text_in.name ∧ FunD K D_text_in.name D_text_in.qual D_text_in.params D_text_in.body D_text_in.scope (D_text_in.dvs K) (D_text_in.kws K) (He.fAd K D_text_in.at_) fd := by
  obtain ⟨fd, F⟩ := T.says.d.def_ 13 (d := D_text_in)
  exact ⟨fd, rfl, F⟩
theorem Tx.d_row_in (T : Tx K mg) : ∃ fd, He.DefD.name D_row_in = D_row_in.name ∧ FunD K D_row_in.name D_row_in.qual D_row_in.params D_row_in.body D_row_in.scope (D_row_in.dvs K) (D_row_in.kws K) (He.fAd K D_row_in.at_) fd := by
  obtain ⟨fd, F⟩ := T.says.d.def_ 14 (d := D_row_in)
  exact ⟨fd, rfl, F⟩
theorem Tx.d_spelled (T : Tx K mg) : ∃ fd, He.DefD.name D_spelled = D_spelled.name ∧ FunD K D_spelled.name D_spelled.qual D_spelled.params D_spelled.body D_spelled.scope (D_spelled.dvs K) (D_spelled.kws K) (He.fAd K D_spelled.at_) fd := by
  obtain ⟨fd, F⟩ := T.says.d.def_ 15 (d := D_spelled)
  exact ⟨fd, rfl, F⟩
theorem Tx.d_read (T : Tx K mg) : ∃ fd, He.DefD.name D_read = D_read.name ∧ FunD K D_read.name D_read.qual D_read.params D_read.body D_read.scope (D_read.dvs K) (D_read.kws K) (He.fAd K D_read.at_) fd := by
  obtain ⟨fd, F⟩ := T.says.d.def_ 16 (d := D_read)
  exact ⟨fd, rfl, F⟩
theorem Tx.d_is_edit (T : Tx K mg) : ∃ fd, He.DefD.name D_is_edit = D_is_edit.name ∧ FunD K D_is_edit.name D_is_edit.qual D_is_edit.params D_is_edit.body D_is_edit.scope (D_is_edit.dvs K) (D_is_edit.kws K) (He.fAd K D_is_edit.at_) fd := by
  obtain ⟨fd, F⟩ := T.says.d.def_ 17 (d := D_is_edit)
  exact ⟨fd, rfl, F⟩
theorem Tx.d_can_be_done (T : Tx K mg) : ∃ fd, He.DefD.name D_can_be_done = D_can_be_done.name ∧ FunD K D_can_be_done.name D_can_be_done.qual D_can_be_done.params D_can_be_done.body D_can_be_done.scope (D_can_be_done.dvs K) (D_can_be_done.kws K) (He.fAd K D_can_be_done.at_) fd := by
  obtain ⟨fd, F⟩ := T.says.d.def_ 18 (d := D_can_be_done)
  exact ⟨fd, rfl, F⟩
theorem Tx.d_done (T : Tx K mg) : ∃ fd, He.DefD.name D_done = D_done.name ∧ FunD K D_done.name D_done.qual D_done.params D_done.body D_done.scope (D_done.dvs K) (D_done.kws K) (He.fAd K D_done.at_) fd := by
  obtain ⟨fd, F⟩ := T.says.d.def_ 19 (d := D_done)
  exact ⟨fd, rfl, F⟩
theorem Tx.d_behind (T : Tx K mg) : ∃ fd, He.DefD.name D_behind = D_behind.name ∧ FunD K D_behind.name D_behind.qual D_behind.params D_behind.body D_behind.scope (D_behind.dvs K) (D_behind.kws K) (He.fAd K D_behind.at_) fd := by
  obtain ⟨fd, F⟩ := T.says.d.def_ 20 (d := D_behind)
  exact ⟨fd, rfl, F⟩
theorem Tx.d_fits (T : Tx K mg) : ∃ fd, He.DefD.name D_fits = D_fits.name ∧ FunD K D_fits.name D_fits.qual D_fits.params D_fits.body D_fits.scope (D_fits.dvs K) (D_fits.kws K) (He.fAd K D_fits.at_) fd := by
  obtain ⟨fd, F⟩ := T.says.d.def_ 21 (d := D_fits)
  exact ⟨fd, rfl, F⟩
theorem Tx.d_need_edits (T : Tx K mg) : ∃ fd, He.DefD.name D_need_edits = D_need_edits.name ∧ FunD K D_need_edits.name D_need_edits.qual D_need_edits.params D_need_edits.body D_need_edits.scope (D_need_edits.dvs K) (D_need_edits.kws K) (He.fAd K D_need_edits.at_) fd := by
  obtain ⟨fd, F⟩ := T.says.d.def_ 22 (d := D_need_edits)
  exact ⟨fd, rfl, F⟩
theorem Tx.d_damaged (T : Tx K mg) : ∃ fd, He.DefD.name D_damaged = D_damaged.name ∧ FunD K D_damaged.name D_damaged.qual D_damaged.params D_damaged.body D_damaged.scope (D_damaged.dvs K) (D_damaged.kws K) (He.fAd K D_damaged.at_) fd := by
  obtain ⟨fd, F⟩ := T.says.d.def_ 23 (d := D_damaged)
  exact ⟨fd, rfl, F⟩
theorem Tx.d_plain_words (T : Tx K mg) : ∃ fd, He.DefD.name D_plain_words = D_plain_words.name ∧ FunD K D_plain_words.name D_plain_words.qual D_plain_words.params D_plain_words.body D_plain_words.scope (D_plain_words.dvs K) (D_plain_words.kws K) (He.fAd K D_plain_words.at_) fd := by
  obtain ⟨fd, F⟩ := T.says.d.def_ 24 (d := D_plain_words)
  exact ⟨fd, rfl, F⟩
theorem Tx.d_plain_book (T : Tx K mg) : ∃ fd, He.DefD.name D_plain_book = D_plain_book.name ∧ FunD K D_plain_book.name D_plain_book.qual D_plain_book.params D_plain_book.body D_plain_book.scope (D_plain_book.dvs K) (D_plain_book.kws K) (He.fAd K D_plain_book.at_) fd := by
  obtain ⟨fd, F⟩ := T.says.d.def_ 25 (d := D_plain_book)
  exact ⟨fd, rfl, F⟩
theorem Tx.d_is_truth (T : Tx K mg) : ∃ fd, He.DefD.name D_is_truth = D_is_truth.name ∧ FunD K D_is_truth.name D_is_truth.qual D_is_truth.params D_is_truth.body D_is_truth.scope (D_is_truth.dvs K) (D_is_truth.kws K) (He.fAd K D_is_truth.at_) fd := by
  obtain ⟨fd, F⟩ := T.says.d.def_ 26 (d := D_is_truth)
  exact ⟨fd, rfl, F⟩
theorem Tx.d_are_cells (T : Tx K mg) : ∃ fd, He.DefD.name D_are_cells = D_are_cells.name ∧ FunD K D_are_cells.name D_are_cells.qual D_are_cells.params D_are_cells.body D_are_cells.scope (D_are_cells.dvs K) (D_are_cells.kws K) (He.fAd K D_are_cells.at_) fd := by
  obtain ⟨fd, F⟩ := T.says.d.def_ 27 (d := D_are_cells)
  exact ⟨fd, rfl, F⟩
theorem Tx.d_need_that (T : Tx K mg) : ∃ fd, He.DefD.name D_need_that = D_need_that.name ∧ FunD K D_need_that.name D_need_that.qual D_need_that.params D_need_that.body D_need_that.scope (D_need_that.dvs K) (D_need_that.kws K) (He.fAd K D_need_that.at_) fd := by
  obtain ⟨fd, F⟩ := T.says.d.def_ 28 (d := D_need_that)
  exact ⟨fd, rfl, F⟩
theorem Tx.d_parts_of_stand (T : Tx K mg) : ∃ fd, He.DefD.name D_parts_of_stand = D_parts_of_stand.name ∧ FunD K D_parts_of_stand.name D_parts_of_stand.qual D_parts_of_stand.params D_parts_of_stand.body D_parts_of_stand.scope (D_parts_of_stand.dvs K) (D_parts_of_stand.kws K) (He.fAd K D_parts_of_stand.at_) fd := by
  obtain ⟨fd, F⟩ := T.says.d.def_ 29 (d := D_parts_of_stand)
  exact ⟨fd, rfl, F⟩
theorem Tx.d_hear (T : Tx K mg) : ∃ fd, He.DefD.name D_hear = D_hear.name ∧ FunD K D_hear.name D_hear.qual D_hear.params D_hear.body D_hear.scope (D_hear.dvs K) (D_hear.kws K) (He.fAd K D_hear.at_) fd := by
  obtain ⟨fd, F⟩ := T.says.d.def_ 30 (d := D_hear)
  exact ⟨fd, rfl, F⟩
theorem Tx.d_reckon (T : Tx K mg) : ∃ fd, He.DefD.name D_reckon = D_reckon.name ∧ FunD K D_reckon.name D_reckon.qual D_reckon.params D_reckon.body D_reckon.scope (D_reckon.dvs K) (D_reckon.kws K) (He.fAd K D_reckon.at_) fd := by
  obtain ⟨fd, F⟩ := T.says.d.def_ 31 (d := D_reckon)
  exact ⟨fd, rfl, F⟩
theorem Tx.d_do_flagged (T : Tx K mg) : ∃ fd, He.DefD.name D_do_flagged = D_do_flagged.name ∧ FunD K D_do_flagged.name D_do_flagged.qual D_do_flagged.params D_do_flagged.body D_do_flagged.scope (D_do_flagged.dvs K) (D_do_flagged.kws K) (He.fAd K D_do_flagged.at_) fd := by
  obtain ⟨fd, F⟩ := T.says.d.def_ 32 (d := D_do_flagged)
  exact ⟨fd, rfl, F⟩
theorem Tx.d_go (T : Tx K mg) : ∃ fd, He.DefD.name D_go = D_go.name ∧ FunD K D_go.name D_go.qual D_go.params D_go.body D_go.scope (D_go.dvs K) (D_go.kws K) (He.fAd K D_go.at_) fd := by
  obtain ⟨fd, F⟩ := T.says.d.def_ 33 (d := D_go)
  exact ⟨fd, rfl, F⟩
theorem Tx.d_do_plain (T : Tx K mg) : ∃ fd, He.DefD.name D_do_plain = D_do_plain.name ∧ FunD K D_do_plain.name D_do_plain.qual D_do_plain.params D_do_plain.body D_do_plain.scope (D_do_plain.dvs K) (D_do_plain.kws K) (He.fAd K D_do_plain.at_) fd := by
  obtain ⟨fd, F⟩ := T.says.d.def_ 34 (d := D_do_plain)
  exact ⟨fd, rfl, F⟩
theorem Tx.d_do_here (T : Tx K mg) : ∃ fd, He.DefD.name D_do_here = D_do_here.name ∧ FunD K D_do_here.name D_do_here.qual D_do_here.params D_do_here.body D_do_here.scope (D_do_here.dvs K) (D_do_here.kws K) (He.fAd K D_do_here.at_) fd := by
  obtain ⟨fd, F⟩ := T.says.d.def_ 35 (d := D_do_here)
  exact ⟨fd, rfl, F⟩
theorem Tx.d_counted (T : Tx K mg) : ∃ fd, He.DefD.name D_counted = D_counted.name ∧ FunD K D_counted.name D_counted.qual D_counted.params D_counted.body D_counted.scope (D_counted.dvs K) (D_counted.kws K) (He.fAd K D_counted.at_) fd := by
  obtain ⟨fd, F⟩ := T.says.d.def_ 36 (d := D_counted)
  exact ⟨fd, rfl, F⟩
theorem Tx.d_do_word (T : Tx K mg) : ∃ fd, He.DefD.name D_do_word = D_do_word.name ∧ FunD K D_do_word.name D_do_word.qual D_do_word.params D_do_word.body D_do_word.scope (D_do_word.dvs K) (D_do_word.kws K) (He.fAd K D_do_word.at_) fd := by
  obtain ⟨fd, F⟩ := T.says.d.def_ 37 (d := D_do_word)
  exact ⟨fd, rfl, F⟩
theorem Tx.d_need_stand (T : Tx K mg) : ∃ fd, He.DefD.name D_need_stand = D_need_stand.name ∧ FunD K D_need_stand.name D_need_stand.qual D_need_stand.params D_need_stand.body D_need_stand.scope (D_need_stand.dvs K) (D_need_stand.kws K) (He.fAd K D_need_stand.at_) fd := by
  obtain ⟨fd, F⟩ := T.says.d.def_ 38 (d := D_need_stand)
  exact ⟨fd, rfl, F⟩
theorem Tx.d_need_plain_row (T : Tx K mg) : ∃ fd, He.DefD.name D_need_plain_row = D_need_plain_row.name ∧ FunD K D_need_plain_row.name D_need_plain_row.qual D_need_plain_row.params D_need_plain_row.body D_need_plain_row.scope (D_need_plain_row.dvs K) (D_need_plain_row.kws K) (He.fAd K D_need_plain_row.at_) fd := by
  obtain ⟨fd, F⟩ := T.says.d.def_ 39 (d := D_need_plain_row)
  exact ⟨fd, rfl, F⟩
theorem Tx.d_need_heard (T : Tx K mg) : ∃ fd, He.DefD.name D_need_heard = D_need_heard.name ∧ FunD K D_need_heard.name D_need_heard.qual D_need_heard.params D_need_heard.body D_need_heard.scope (D_need_heard.dvs K) (D_need_heard.kws K) (He.fAd K D_need_heard.at_) fd := by
  obtain ⟨fd, F⟩ := T.says.d.def_ 40 (d := D_need_heard)
  exact ⟨fd, rfl, F⟩
theorem Tx.d_begun (T : Tx K mg) : ∃ fd, He.DefD.name D_begun = D_begun.name ∧ FunD K D_begun.name D_begun.qual D_begun.params D_begun.body D_begun.scope (D_begun.dvs K) (D_begun.kws K) (He.fAd K D_begun.at_) fd := by
  obtain ⟨fd, F⟩ := T.says.d.def_ 41 (d := D_begun)
  exact ⟨fd, rfl, F⟩
theorem Tx.d_passed (T : Tx K mg) : ∃ fd, He.DefD.name D_passed = D_passed.name ∧ FunD K D_passed.name D_passed.qual D_passed.params D_passed.body D_passed.scope (D_passed.dvs K) (D_passed.kws K) (He.fAd K D_passed.at_) fd := by
  obtain ⟨fd, F⟩ := T.says.d.def_ 42 (d := D_passed)
  exact ⟨fd, rfl, F⟩
theorem Tx.d_fixed (T : Tx K mg) : ∃ fd, He.DefD.name D_fixed = D_fixed.name ∧ FunD K D_fixed.name D_fixed.qual D_fixed.params D_fixed.body D_fixed.scope (D_fixed.dvs K) (D_fixed.kws K) (He.fAd K D_fixed.at_) fd := by
  obtain ⟨fd, F⟩ := T.says.d.def_ 43 (d := D_fixed)
  exact ⟨fd, rfl, F⟩
theorem Tx.d_begins_of (T : Tx K mg) : ∃ fd, He.DefD.name D_begins_of = D_begins_of.name ∧ FunD K D_begins_of.name D_begins_of.qual D_begins_of.params D_begins_of.body D_begins_of.scope (D_begins_of.dvs K) (D_begins_of.kws K) (He.fAd K D_begins_of.at_) fd := by
  obtain ⟨fd, F⟩ := T.says.d.def_ 44 (d := D_begins_of)
  exact ⟨fd, rfl, F⟩
theorem Tx.d_need_two (T : Tx K mg) : ∃ fd, He.DefD.name D_need_two = D_need_two.name ∧ FunD K D_need_two.name D_need_two.qual D_need_two.params D_need_two.body D_need_two.scope (D_need_two.dvs K) (D_need_two.kws K) (He.fAd K D_need_two.at_) fd := by
  obtain ⟨fd, F⟩ := T.says.d.def_ 45 (d := D_need_two)
  exact ⟨fd, rfl, F⟩
theorem Tx.d_counts_to (T : Tx K mg) : ∃ fd, He.DefD.name D_counts_to = D_counts_to.name ∧ FunD K D_counts_to.name D_counts_to.qual D_counts_to.params D_counts_to.body D_counts_to.scope (D_counts_to.dvs K) (D_counts_to.kws K) (He.fAd K D_counts_to.at_) fd := by
  obtain ⟨fd, F⟩ := T.says.d.def_ 46 (d := D_counts_to)
  exact ⟨fd, rfl, F⟩
theorem Tx.d_way_along (T : Tx K mg) : ∃ fd, He.DefD.name D_way_along = D_way_along.name ∧ FunD K D_way_along.name D_way_along.qual D_way_along.params D_way_along.body D_way_along.scope (D_way_along.dvs K) (D_way_along.kws K) (He.fAd K D_way_along.at_) fd := by
  obtain ⟨fd, F⟩ := T.says.d.def_ 47 (d := D_way_along)
  exact ⟨fd, rfl, F⟩
theorem Tx.d_least_edits (T : Tx K mg) : ∃ fd, He.DefD.name D_least_edits = D_least_edits.name ∧ FunD K D_least_edits.name D_least_edits.qual D_least_edits.params D_least_edits.body D_least_edits.scope (D_least_edits.dvs K) (D_least_edits.kws K) (He.fAd K D_least_edits.at_) fd := by
  obtain ⟨fd, F⟩ := T.says.d.def_ 48 (d := D_least_edits)
  exact ⟨fd, rfl, F⟩
theorem Tx.d_is_cut (T : Tx K mg) : ∃ fd, He.DefD.name D_is_cut = D_is_cut.name ∧ FunD K D_is_cut.name D_is_cut.qual D_is_cut.params D_is_cut.body D_is_cut.scope (D_is_cut.dvs K) (D_is_cut.kws K) (He.fAd K D_is_cut.at_) fd := by
  obtain ⟨fd, F⟩ := T.says.d.def_ 49 (d := D_is_cut)
  exact ⟨fd, rfl, F⟩
theorem Tx.d_copies_told (T : Tx K mg) : ∃ fd, He.DefD.name D_copies_told = D_copies_told.name ∧ FunD K D_copies_told.name D_copies_told.qual D_copies_told.params D_copies_told.body D_copies_told.scope (D_copies_told.dvs K) (D_copies_told.kws K) (He.fAd K D_copies_told.at_) fd := by
  obtain ⟨fd, F⟩ := T.says.d.def_ 50 (d := D_copies_told)
  exact ⟨fd, rfl, F⟩
theorem Tx.d_best_begins (T : Tx K mg) : ∃ fd, He.DefD.name D_best_begins = D_best_begins.name ∧ FunD K D_best_begins.name D_best_begins.qual D_best_begins.params D_best_begins.body D_best_begins.scope (D_best_begins.dvs K) (D_best_begins.kws K) (He.fAd K D_best_begins.at_) fd := by
  obtain ⟨fd, F⟩ := T.says.d.def_ 51 (d := D_best_begins)
  exact ⟨fd, rfl, F⟩
theorem Tx.d_raised (T : Tx K mg) : ∃ fd, He.DefD.name D_raised = D_raised.name ∧ FunD K D_raised.name D_raised.qual D_raised.params D_raised.body D_raised.scope (D_raised.dvs K) (D_raised.kws K) (He.fAd K D_raised.at_) fd := by
  obtain ⟨fd, F⟩ := T.says.d.def_ 52 (d := D_raised)
  exact ⟨fd, rfl, F⟩
theorem Tx.d_alone_cost (T : Tx K mg) : ∃ fd, He.DefD.name D_alone_cost = D_alone_cost.name ∧ FunD K D_alone_cost.name D_alone_cost.qual D_alone_cost.params D_alone_cost.body D_alone_cost.scope (D_alone_cost.dvs K) (D_alone_cost.kws K) (He.fAd K D_alone_cost.at_) fd := by
  obtain ⟨fd, F⟩ := T.says.d.def_ 53 (d := D_alone_cost)
  exact ⟨fd, rfl, F⟩
theorem Tx.d_side_costs (T : Tx K mg) : ∃ fd, He.DefD.name D_side_costs = D_side_costs.name ∧ FunD K D_side_costs.name D_side_costs.qual D_side_costs.params D_side_costs.body D_side_costs.scope (D_side_costs.dvs K) (D_side_costs.kws K) (He.fAd K D_side_costs.at_) fd := by
  obtain ⟨fd, F⟩ := T.says.d.def_ 54 (d := D_side_costs)
  exact ⟨fd, rfl, F⟩
theorem Tx.d_border_cost (T : Tx K mg) : ∃ fd, He.DefD.name D_border_cost = D_border_cost.name ∧ FunD K D_border_cost.name D_border_cost.qual D_border_cost.params D_border_cost.body D_border_cost.scope (D_border_cost.dvs K) (D_border_cost.kws K) (He.fAd K D_border_cost.at_) fd := by
  obtain ⟨fd, F⟩ := T.says.d.def_ 55 (d := D_border_cost)
  exact ⟨fd, rfl, F⟩
theorem Tx.d_triples_of (T : Tx K mg) : ∃ fd, He.DefD.name D_triples_of = D_triples_of.name ∧ FunD K D_triples_of.name D_triples_of.qual D_triples_of.params D_triples_of.body D_triples_of.scope (D_triples_of.dvs K) (D_triples_of.kws K) (He.fAd K D_triples_of.at_) fd := by
  obtain ⟨fd, F⟩ := T.says.d.def_ 56 (d := D_triples_of)
  exact ⟨fd, rfl, F⟩
theorem Tx.d_cheapest (T : Tx K mg) : ∃ fd, He.DefD.name D_cheapest = D_cheapest.name ∧ FunD K D_cheapest.name D_cheapest.qual D_cheapest.params D_cheapest.body D_cheapest.scope (D_cheapest.dvs K) (D_cheapest.kws K) (He.fAd K D_cheapest.at_) fd := by
  obtain ⟨fd, F⟩ := T.says.d.def_ 57 (d := D_cheapest)
  exact ⟨fd, rfl, F⟩
theorem Tx.d_stretch_in (T : Tx K mg) : ∃ fd, He.DefD.name D_stretch_in = D_stretch_in.name ∧ FunD K D_stretch_in.name D_stretch_in.qual D_stretch_in.params D_stretch_in.body D_stretch_in.scope (D_stretch_in.dvs K) (D_stretch_in.kws K) (He.fAd K D_stretch_in.at_) fd := by
  obtain ⟨fd, F⟩ := T.says.d.def_ 58 (d := D_stretch_in)
  exact ⟨fd, rfl, F⟩
theorem Tx.d_strange_in_prices (T : Tx K mg) : ∃ fd, He.DefD.name D_strange_in_prices = D_strange_in_prices.name ∧ FunD K D_strange_in_prices.name D_strange_in_prices.qual D_strange_in_prices.params D_strange_in_prices.body D_strange_in_prices.scope (D_strange_in_prices.dvs K) (D_strange_in_prices.kws K) (He.fAd K D_strange_in_prices.at_) fd := by
  obtain ⟨fd, F⟩ := T.says.d.def_ 59 (d := D_strange_in_prices)
  exact ⟨fd, rfl, F⟩
theorem Tx.d_price_of (T : Tx K mg) : ∃ fd, He.DefD.name D_price_of = D_price_of.name ∧ FunD K D_price_of.name D_price_of.qual D_price_of.params D_price_of.body D_price_of.scope (D_price_of.dvs K) (D_price_of.kws K) (He.fAd K D_price_of.at_) fd := by
  obtain ⟨fd, F⟩ := T.says.d.def_ 60 (d := D_price_of)
  exact ⟨fd, rfl, F⟩
theorem Tx.d_need_asked (T : Tx K mg) : ∃ fd, He.DefD.name D_need_asked = D_need_asked.name ∧ FunD K D_need_asked.name D_need_asked.qual D_need_asked.params D_need_asked.body D_need_asked.scope (D_need_asked.dvs K) (D_need_asked.kws K) (He.fAd K D_need_asked.at_) fd := by
  obtain ⟨fd, F⟩ := T.says.d.def_ 61 (d := D_need_asked)
  exact ⟨fd, rfl, F⟩
theorem Tx.d_moved_on (T : Tx K mg) : ∃ fd, He.DefD.name D_moved_on = D_moved_on.name ∧ FunD K D_moved_on.name D_moved_on.qual D_moved_on.params D_moved_on.body D_moved_on.scope (D_moved_on.dvs K) (D_moved_on.kws K) (He.fAd K D_moved_on.at_) fd := by
  obtain ⟨fd, F⟩ := T.says.d.def_ 62 (d := D_moved_on)
  exact ⟨fd, rfl, F⟩
theorem Tx.d_strange_in_thick (T : Tx K mg) : ∃ fd, He.DefD.name D_strange_in_thick = D_strange_in_thick.name ∧ FunD K D_strange_in_thick.name D_strange_in_thick.qual D_strange_in_thick.params D_strange_in_thick.body D_strange_in_thick.scope (D_strange_in_thick.dvs K) (D_strange_in_thick.kws K) (He.fAd K D_strange_in_thick.at_) fd := by
  obtain ⟨fd, F⟩ := T.says.d.def_ 63 (d := D_strange_in_thick)
  exact ⟨fd, rfl, F⟩
theorem Tx.d_judged_book (T : Tx K mg) : ∃ fd, He.DefD.name D_judged_book = D_judged_book.name ∧ FunD K D_judged_book.name D_judged_book.qual D_judged_book.params D_judged_book.body D_judged_book.scope (D_judged_book.dvs K) (D_judged_book.kws K) (He.fAd K D_judged_book.at_) fd := by
  obtain ⟨fd, F⟩ := T.says.d.def_ 64 (d := D_judged_book)
  exact ⟨fd, rfl, F⟩
theorem Tx.d__law_press (T : Tx K mg) : ∃ fd, He.DefD.name D__law_press = D__law_press.name ∧ FunD K D__law_press.name D__law_press.qual D__law_press.params D__law_press.body D__law_press.scope (D__law_press.dvs K) (D__law_press.kws K) (He.fAd K D__law_press.at_) fd := by
  obtain ⟨fd, F⟩ := T.says.d.def_ 65 (d := D__law_press)
  exact ⟨fd, rfl, F⟩
theorem Tx.d__law_turn (T : Tx K mg) : ∃ fd, He.DefD.name D__law_turn = D__law_turn.name ∧ FunD K D__law_turn.name D__law_turn.qual D__law_turn.params D__law_turn.body D__law_turn.scope (D__law_turn.dvs K) (D__law_turn.kws K) (He.fAd K D__law_turn.at_) fd := by
  obtain ⟨fd, F⟩ := T.says.d.def_ 66 (d := D__law_turn)
  exact ⟨fd, rfl, F⟩
theorem Tx.d__law_one_of (T : Tx K mg) : ∃ fd, He.DefD.name D__law_one_of = D__law_one_of.name ∧ FunD K D__law_one_of.name D__law_one_of.qual D__law_one_of.params D__law_one_of.body D__law_one_of.scope (D__law_one_of.dvs K) (D__law_one_of.kws K) (He.fAd K D__law_one_of.at_) fd := by
  obtain ⟨fd, F⟩ := T.says.d.def_ 67 (d := D__law_one_of)
  exact ⟨fd, rfl, F⟩
theorem Tx.d__law_spelled (T : Tx K mg) : ∃ fd, He.DefD.name D__law_spelled = D__law_spelled.name ∧ FunD K D__law_spelled.name D__law_spelled.qual D__law_spelled.params D__law_spelled.body D__law_spelled.scope (D__law_spelled.dvs K) (D__law_spelled.kws K) (He.fAd K D__law_spelled.at_) fd := by
  obtain ⟨fd, F⟩ := T.says.d.def_ 68 (d := D__law_spelled)
  exact ⟨fd, rfl, F⟩
theorem Tx.d__law_read (T : Tx K mg) : ∃ fd, He.DefD.name D__law_read = D__law_read.name ∧ FunD K D__law_read.name D__law_read.qual D__law_read.params D__law_read.body D__law_read.scope (D__law_read.dvs K) (D__law_read.kws K) (He.fAd K D__law_read.at_) fd := by
  obtain ⟨fd, F⟩ := T.says.d.def_ 69 (d := D__law_read)
  exact ⟨fd, rfl, F⟩
theorem Tx.d__law_is_thick (T : Tx K mg) : ∃ fd, He.DefD.name D__law_is_thick = D__law_is_thick.name ∧ FunD K D__law_is_thick.name D__law_is_thick.qual D__law_is_thick.params D__law_is_thick.body D__law_is_thick.scope (D__law_is_thick.dvs K) (D__law_is_thick.kws K) (He.fAd K D__law_is_thick.at_) fd := by
  obtain ⟨fd, F⟩ := T.says.d.def_ 70 (d := D__law_is_thick)
  exact ⟨fd, rfl, F⟩
theorem Tx.d__law_hurt (T : Tx K mg) : ∃ fd, He.DefD.name D__law_hurt = D__law_hurt.name ∧ FunD K D__law_hurt.name D__law_hurt.qual D__law_hurt.params D__law_hurt.body D__law_hurt.scope (D__law_hurt.dvs K) (D__law_hurt.kws K) (He.fAd K D__law_hurt.at_) fd := by
  obtain ⟨fd, F⟩ := T.says.d.def_ 71 (d := D__law_hurt)
  exact ⟨fd, rfl, F⟩
theorem Tx.d__law_edits (T : Tx K mg) : ∃ fd, He.DefD.name D__law_edits = D__law_edits.name ∧ FunD K D__law_edits.name D__law_edits.qual D__law_edits.params D__law_edits.body D__law_edits.scope (D__law_edits.dvs K) (D__law_edits.kws K) (He.fAd K D__law_edits.at_) fd := by
  obtain ⟨fd, F⟩ := T.says.d.def_ 72 (d := D__law_edits)
  exact ⟨fd, rfl, F⟩
theorem Tx.d__law_aimed (T : Tx K mg) : ∃ fd, He.DefD.name D__law_aimed = D__law_aimed.name ∧ FunD K D__law_aimed.name D__law_aimed.qual D__law_aimed.params D__law_aimed.body D__law_aimed.scope (D__law_aimed.dvs K) (D__law_aimed.kws K) (He.fAd K D__law_aimed.at_) fd := by
  obtain ⟨fd, F⟩ := T.says.d.def_ 73 (d := D__law_aimed)
  exact ⟨fd, rfl, F⟩
theorem Tx.d__law_cut_up (T : Tx K mg) : ∃ fd, He.DefD.name D__law_cut_up = D__law_cut_up.name ∧ FunD K D__law_cut_up.name D__law_cut_up.qual D__law_cut_up.params D__law_cut_up.body D__law_cut_up.scope (D__law_cut_up.dvs K) (D__law_cut_up.kws K) (He.fAd K D__law_cut_up.at_) fd := by
  obtain ⟨fd, F⟩ := T.says.d.def_ 74 (d := D__law_cut_up)
  exact ⟨fd, rfl, F⟩
theorem Tx.d__law_row_right (T : Tx K mg) : ∃ fd, He.DefD.name D__law_row_right = D__law_row_right.name ∧ FunD K D__law_row_right.name D__law_row_right.qual D__law_row_right.params D__law_row_right.body D__law_row_right.scope (D__law_row_right.dvs K) (D__law_row_right.kws K) (He.fAd K D__law_row_right.at_) fd := by
  obtain ⟨fd, F⟩ := T.says.d.def_ 75 (d := D__law_row_right)
  exact ⟨fd, rfl, F⟩
theorem Tx.d_law (T : Tx K mg) : ∃ fd, He.DefD.name D_law = D_law.name ∧ FunD K D_law.name D_law.qual D_law.params D_law.body D_law.scope (D_law.dvs K) (D_law.kws K) (He.fAd K D_law.at_) fd := by
  obtain ⟨fd, F⟩ := T.says.d.def_ 76 (d := D_law)
  exact ⟨fd, rfl, F⟩
theorem Tx.d_Book_init (T : Tx K mg) : ∃ fd, He.DefD.name D_Book_init = D_Book_init.name ∧ FunD K D_Book_init.name D_Book_init.qual D_Book_init.params D_Book_init.body D_Book_init.scope (D_Book_init.dvs K) (D_Book_init.kws K) (He.fAd K D_Book_init.at_) fd := by
  obtain ⟨fd, F⟩ := T.says.d.def_ 77 (d := D_Book_init)
  exact ⟨fd, rfl, F⟩
theorem Tx.d_Stand_init (T : Tx K mg) : ∃ fd, He.DefD.name D_Stand_init = D_Stand_init.name ∧ FunD K D_Stand_init.name D_Stand_init.qual D_Stand_init.params D_Stand_init.body D_Stand_init.scope (D_Stand_init.dvs K) (D_Stand_init.kws K) (He.fAd K D_Stand_init.at_) fd := by
  obtain ⟨fd, F⟩ := T.says.d.def_ 78 (d := D_Stand_init)
  exact ⟨fd, rfl, F⟩
theorem Tx.d_Stand_eq (T : Tx K mg) : ∃ fd, He.DefD.name D_Stand_eq = D_Stand_eq.name ∧ FunD K D_Stand_eq.name D_Stand_eq.qual D_Stand_eq.params D_Stand_eq.body D_Stand_eq.scope (D_Stand_eq.dvs K) (D_Stand_eq.kws K) (He.fAd K D_Stand_eq.at_) fd := by
  obtain ⟨fd, F⟩ := T.says.d.def_ 79 (d := D_Stand_eq)
  exact ⟨fd, rfl, F⟩
theorem Tx.d_Live_init (T : Tx K mg) : ∃ fd, He.DefD.name D_Live_init = D_Live_init.name ∧ FunD K D_Live_init.name D_Live_init.qual D_Live_init.params D_Live_init.body D_Live_init.scope (D_Live_init.dvs K) (D_Live_init.kws K) (He.fAd K D_Live_init.at_) fd := by
  obtain ⟨fd, F⟩ := T.says.d.def_ 80 (d := D_Live_init)
  exact ⟨fd, rfl, F⟩
theorem Tx.d_Live_kept (T : Tx K mg) : ∃ fd, He.DefD.name D_Live_kept = D_Live_kept.name ∧ FunD K D_Live_kept.name D_Live_kept.qual D_Live_kept.params D_Live_kept.body D_Live_kept.scope (D_Live_kept.dvs K) (D_Live_kept.kws K) (He.fAd K D_Live_kept.at_) fd := by
  obtain ⟨fd, F⟩ := T.says.d.def_ 81 (d := D_Live_kept)
  exact ⟨fd, rfl, F⟩
theorem Tx.d_Paper_init (T : Tx K mg) : ∃ fd, He.DefD.name D_Paper_init = D_Paper_init.name ∧ FunD K D_Paper_init.name D_Paper_init.qual D_Paper_init.params D_Paper_init.body D_Paper_init.scope (D_Paper_init.dvs K) (D_Paper_init.kws K) (He.fAd K D_Paper_init.at_) fd := by
  obtain ⟨fd, F⟩ := T.says.d.def_ 82 (d := D_Paper_init)
  exact ⟨fd, rfl, F⟩
theorem Tx.d_Paper_bool (T : Tx K mg) : ∃ fd, He.DefD.name D_Paper_bool = D_Paper_bool.name ∧ FunD K D_Paper_bool.name D_Paper_bool.qual D_Paper_bool.params D_Paper_bool.body D_Paper_bool.scope (D_Paper_bool.dvs K) (D_Paper_bool.kws K) (He.fAd K D_Paper_bool.at_) fd := by
  obtain ⟨fd, F⟩ := T.says.d.def_ 83 (d := D_Paper_bool)
  exact ⟨fd, rfl, F⟩
theorem Tx.d_Denial_bool (T : Tx K mg) : ∃ fd, He.DefD.name D_Denial_bool = D_Denial_bool.name ∧ FunD K D_Denial_bool.name D_Denial_bool.qual D_Denial_bool.params D_Denial_bool.body D_Denial_bool.scope (D_Denial_bool.dvs K) (D_Denial_bool.kws K) (He.fAd K D_Denial_bool.at_) fd := by
  obtain ⟨fd, F⟩ := T.says.d.def_ 84 (d := D_Denial_bool)
  exact ⟨fd, rfl, F⟩
theorem Tx.d_Costs_init (T : Tx K mg) : ∃ fd, He.DefD.name D_Costs_init = D_Costs_init.name ∧ FunD K D_Costs_init.name D_Costs_init.qual D_Costs_init.params D_Costs_init.body D_Costs_init.scope (D_Costs_init.dvs K) (D_Costs_init.kws K) (He.fAd K D_Costs_init.at_) fd := by
  obtain ⟨fd, F⟩ := T.says.d.def_ 85 (d := D_Costs_init)
  exact ⟨fd, rfl, F⟩
theorem Tx.d_Costs_of (T : Tx K mg) : ∃ fd, He.DefD.name D_Costs_of = D_Costs_of.name ∧ FunD K D_Costs_of.name D_Costs_of.qual D_Costs_of.params D_Costs_of.body D_Costs_of.scope (D_Costs_of.dvs K) (D_Costs_of.kws K) (He.fAd K D_Costs_of.at_) fd := by
  obtain ⟨fd, F⟩ := T.says.d.def_ 86 (d := D_Costs_of)
  exact ⟨fd, rfl, F⟩
theorem Tx.d_Costs_over (T : Tx K mg) : ∃ fd, He.DefD.name D_Costs_over = D_Costs_over.name ∧ FunD K D_Costs_over.name D_Costs_over.qual D_Costs_over.params D_Costs_over.body D_Costs_over.scope (D_Costs_over.dvs K) (D_Costs_over.kws K) (He.fAd K D_Costs_over.at_) fd := by
  obtain ⟨fd, F⟩ := T.says.d.def_ 87 (d := D_Costs_over)
  exact ⟨fd, rfl, F⟩
theorem Tx.d_Costs_triple (T : Tx K mg) : ∃ fd, He.DefD.name D_Costs_triple = D_Costs_triple.name ∧ FunD K D_Costs_triple.name D_Costs_triple.qual D_Costs_triple.params D_Costs_triple.body D_Costs_triple.scope (D_Costs_triple.dvs K) (D_Costs_triple.kws K) (He.fAd K D_Costs_triple.at_) fd := by
  obtain ⟨fd, F⟩ := T.says.d.def_ 88 (d := D_Costs_triple)
  exact ⟨fd, rfl, F⟩
end
theorem bb_len : bootBuiltins "len" = some (.builtin "len") := by decide +kernel
theorem bb_isinstance : bootBuiltins "isinstance" = some (.builtin "isinstance") := by decide +kernel
theorem bb_int : bootBuiltins "int" = some (.type "int") := by decide +kernel
theorem bb_bool : bootBuiltins "bool" = some (.type "bool") := by decide +kernel
theorem bb_str : bootBuiltins "str" = some (.type "str") := by decide +kernel
theorem bb_list : bootBuiltins "list" = some (.type "list") := by decide +kernel
theorem bb_tuple : bootBuiltins "tuple" = some (.type "tuple") := by decide +kernel
theorem bb_all : bootBuiltins "all" = some (.builtin "all") := by decide +kernel
theorem bb_any : bootBuiltins "any" = some (.builtin "any") := by decide +kernel
theorem bb_set : bootBuiltins "set" = some (.type "set") := by decide +kernel
theorem bb_sum : bootBuiltins "sum" = some (.builtin "sum") := by decide +kernel
theorem bb_min : bootBuiltins "min" = some (.builtin "min") := by decide +kernel
theorem bb_max : bootBuiltins "max" = some (.builtin "max") := by decide +kernel
theorem bb_range : bootBuiltins "range" = some (.type "range") := by decide +kernel
theorem bb_enumerate : bootBuiltins "enumerate" = some (.type "enumerate") := by decide +kernel
theorem bb_sorted : bootBuiltins "sorted" = some (.builtin "sorted") := by decide +kernel
theorem bb_dict : bootBuiltins "dict" = some (.type "dict") := by decide +kernel
theorem bb_zip : bootBuiltins "zip" = some (.type "zip") := by decide +kernel
theorem bb_abs : bootBuiltins "abs" = some (.builtin "abs") := by decide +kernel
theorem bb_super : bootBuiltins "super" = some (.type "super") := by decide +kernel
/-! ### a def, under its name -/
section
variable {P : Program} {w : World} {K : PySem.W.Frag} {mg : Str → Option Value} {base : Heap}
theorem mkCal {x : Str} {D : He.DefD} {N ps : List Str} {k : Nat} {sp : Sp} {f : Addr} {dvs : List V} {xdvs : List V} {xkws : List (Str × V)}
    (F : ∃ fd, D.name = D.name ∧ FunD K D.name D.qual D.params D.body D.scope xdvs xkws f fd) (hm : mg x = some (.ref f)) (hB : ∀ fd, FunD K D.name D.qual D.params D.body D.scope xdvs xkws f fd → ∃ ds, Vals dvs ds ∧ Binds K fd ps ds)
    (S : FnScope N ps D.scope) (len : ∀ vs H Q E, sp vs H Q E → vs.length = ps.length)
    (hbody : ∀ (cdv : Value) (A : Around) (outer : List Env) (s : Shared) (H : Hp) (vs : List V) (Q : VK) (E : XK), Room k (A.deeper (envOfC D.qual D.scope s.heap.objs.size f cdv)) → sp vs H Q E →
      ∃ t, PSs (cxOf CX0 P w K mg base N D.qual D.scope f cdv A outer s H E).nox D.body t ∧ t { nx := fun _ H' => Q .non H', rt := Q } (start N vs) H) : C8.Cal P w K mg base (k + 1) x sp dvs := by
  obtain ⟨fd, _, F⟩ := F
  obtain ⟨ds, hd, hb⟩ := hB fd F
  refine ⟨f, fd, ps, ds, F.ok S len fun cdv A outer s H vs Q E hr h => ?_, hm, F.kp, hb, hd⟩
  obtain ⟨t, a, b⟩ := hbody cdv A outer s H vs Q E hr h
  exact ⟨t, a.nox, b⟩
end
section
variable {P : Program} {w : World} {K : PySem.W.Frag} {mg : Str → Option Value} {base : Heap}
theorem mkMak {x : Str} {C : Addr} {D : He.DefD} {N ps : List Str} {k : Nat} {sp : Sp} {f : Addr} {ds : List Value} {dvs : List V} {xdvs : List V} {xkws : List (Str × V)} (M : Mk K C f)
    (F : ∃ fd, D.name = D.name ∧ FunD K D.name D.qual D.params D.body D.scope xdvs xkws f fd) (hm : mg x = some (.ref C)) (hd : Vals dvs ds) (hb : ∀ fd, FunD K D.name D.qual D.params D.body D.scope xdvs xkws f fd → Binds K fd ps ds)
    (S : FnScope N ps D.scope) (len : ∀ vs H Q E, sp vs H Q E → vs.length = ps.length)
    (hbody : ∀ (cdv : Value) (A : Around) (outer : List Env) (s : Shared) (H : Hp) (vs : List V) (Q : VK) (E : XK), Room k (A.deeper (envOfC D.qual D.scope s.heap.objs.size f cdv)) → sp vs H Q E →
      ∃ t, PSs (cxOf CX0 P w K mg base N D.qual D.scope f cdv A outer s H E).nox D.body t ∧ t { nx := fun _ H' => Q .non H', rt := Q } (start N vs) H) : C8.Mak P w K mg base (k + 1) x C sp dvs := by
  obtain ⟨fd, _, F⟩ := F
  refine ⟨f, fd, ps, ds, M, F.ok S len fun cdv A outer s H vs Q E hr h => ?_, hm, hb fd F, hd⟩
  obtain ⟨t, a, b⟩ := hbody cdv A outer s H vs Q E hr h
  exact ⟨t, a.nox, b⟩
theorem mkMet {m : Str} {C : Addr} {D : He.DefD} {N ps : List Str} {k : Nat} {sp : Sp} {f : Addr} {xdvs : List V} {xkws : List (Str × V)} (c : Cls K C) (me : Meth K C m f)
    (F : ∃ fd, D.name = D.name ∧ FunD K D.name D.qual D.params D.body D.scope xdvs xkws f fd) (hb : ∀ fd, FunD K D.name D.qual D.params D.body D.scope xdvs xkws f fd → Binds K fd ps [])
    (S : FnScope N ps D.scope) (len : ∀ vs H Q E, sp vs H Q E → vs.length = ps.length)
    (hbody : ∀ (cdv : Value) (A : Around) (outer : List Env) (s : Shared) (H : Hp) (vs : List V) (Q : VK) (E : XK), Room k (A.deeper (envOfC D.qual D.scope s.heap.objs.size f cdv)) → sp vs H Q E →
      ∃ t, PSs (cxOf CX0 P w K mg base N D.qual D.scope f cdv A outer s H E).nox D.body t ∧ t { nx := fun _ H' => Q .non H', rt := Q } (start N vs) H) : C8.Met P w K mg base (k + 1) C m sp [] := by
  obtain ⟨fd, _, F⟩ := F
  refine ⟨f, fd, ps, [], c, me, F.ok S len fun cdv A outer s H vs Q E hr h => ?_, hb fd F, .nil⟩
  obtain ⟨t, a, b⟩ := hbody cdv A outer s H vs Q E hr h
  exact ⟨t, a.nox, b⟩
theorem mkFnOk {D : He.DefD} {N ps : List Str} {k : Nat} {sp : Sp} {f : Addr} {xdvs : List V} {xkws : List (Str × V)} {fd : FuncData}
    (F : FunD K D.name D.qual D.params D.body D.scope xdvs xkws f fd)
    (S : FnScope N ps D.scope) (len : ∀ vs H Q E, sp vs H Q E → vs.length = ps.length)
    (hbody : ∀ (cdv : Value) (A : Around) (outer : List Env) (s : Shared) (H : Hp) (vs : List V) (Q : VK) (E : XK), Room k (A.deeper (envOfC D.qual D.scope s.heap.objs.size f cdv)) → sp vs H Q E →
      ∃ t, PSs (cxOf CX0 P w K mg base N D.qual D.scope f cdv A outer s H E).nox D.body t ∧ t { nx := fun _ H' => Q .non H', rt := Q } (start N vs) H) : FnOk P w K mg base CX0 (k + 1) f fd ps sp := by
  refine F.ok S len fun cdv A outer s H vs Q E hr h => ?_
  obtain ⟨t, a, b⟩ := hbody cdv A outer s H vs Q E hr h
  exact ⟨t, a.nox, b⟩
end
section
variable {X : Cx} {k j : Nat} {x : Str} {sp : Sp} {dvs : List V} {p pos : Pos}
theorem pe_c0 (c : C8.Cal X.prog X.w X.K X.mg X.base k x sp dvs) (hr : Room j X.A) (hk : k ≤ j) (hg : Gl X x) (hdb : (x == ("__debug__" : Str)) = false := by decide) :
    PE X (.Call (.Name x p) [] [] pos) (tCall sp dvs C8.E0 tNil) := by
  obtain ⟨f, fd, ps, ds, F, hm, kp, b, d⟩ := c.ex
  exact pe_call0 F (hr.mono hk) hg hm kp b d C8.pass0 hdb
theorem pi_seq {X : Cx} {tg l : Expr} {tl : TE} (hl : PE X l tl) : PI X tg l (fun σ H R => iList X.K tl σ H R ∨ iTup X.K tl σ H R) := PI.alt (pi_list hl) (pi_tup hl)
end
end K57
set_option Elab.async false
set_option linter.all false
set_option maxRecDepth 100000
set_option maxHeartbeats 4000000
namespace K57
open PySem PySem.Spec PyProof.Rows L2
theorem lt_line {n : Nat} (h : n < 1000000) : n < sizeLine := Nat.lt_of_lt_of_le h (by decide)
theorem le_line {n : Nat} (h : n ≤ 1000000) : n ≤ sizeLine := Nat.le_trans h (by decide)
/-- the i-th, i below n, of those that p lets -/
def given {α : Type} (n : Nat) (p : Nat → Bool) (f : Nat → α) : List α := ((List.range n).filter p).map f
theorem given_yes {α : Type} {n : Nat} {p : Nat → Bool} {f : Nat → α} (h : p n = true) : given (n + 1) p f = given n p f ++ [f n] := by
  unfold given
  rw [List.range_succ, List.filter_append, List.map_append]
  simp [h]
theorem given_no {α : Type} {n : Nat} {p : Nat → Bool} {f : Nat → α} (h : p n = false) : given (n + 1) p f = given n p f := by
  unfold given
  rw [List.range_succ, List.filter_append, List.map_append]
  simp [h]
theorem given_len {α : Type} (n : Nat) (p : Nat → Bool) (f : Nat → α) : (given n p f).length ≤ n := by
  unfold given
  rw [List.length_map]
  have h := List.length_filter_le p (List.range n)
  rwa [List.length_range] at h
theorem given_all {α : Type} (n : Nat) (f : Nat → α) : given n (fun _ => true) f = (List.range n).map f := by
  unfold given
  rw [List.filter_eq_self.mpr (fun _ _ => rfl)]
theorem range_getD {α : Type} (d : α) (l : List α) : (List.range l.length).map (fun i => l.getD i d) = l := by
  apply List.ext_getElem
  · simp
  · intro i h1 h2
    simp at h1
    simp [h1]
/-- over a list: filter, then map -/
theorem given_list {α β : Type} (d : α) (q : α → Bool) (f : α → β) (l : List α) : given l.length (fun i => q (l.getD i d)) (fun i => f (l.getD i d)) = (l.filter q).map f := by
  have h := range_getD d l
  unfold given
  conv => rhs; rw [← h, List.filter_map, List.map_map]
  rfl
theorem map_getD {α β : Type} (d : α) (f : α → β) (l : List α) : (List.range l.length).map (fun i => f (l.getD i d)) = l.map f := by
  conv => rhs; rw [← range_getD d l, List.map_map]
  rfl
/-- every one of the values says this of the lasting part -/
def AllP (P : Nat → V → Hp → Prop) (I : Hp) : List Nat → List V → Prop
  | [], [] => True
  | i :: is, v :: vs => P i v I ∧ AllP P I is vs
  | _, _ => False
section
variable {K : PySem.W.Frag} {J : It} {n : Nat} {G : Hp → Prop} {Yv : Nat → V → Prop} {te : TE} {tt : TT} {vs : List Nat} {j j2 : Nat} {σ : L2.St} {H1 I1 : Hp} {Qd : Hp → Prop}
/-- a comprehension over what is walked without a trace, one name its target: a list of data -/
theorem lc_data {D : Addr} (hD : H1 D = none) (w : Walk J n G (fun i H x H' => H' = H ∧ Yv i x)) (hI : Same I1 H1) (p : Nat → Bool) (d : Nat → PyData) (hn : n < 1000000) (hG : ∀ H, Same H1 H → G H)
    (hw : ∀ x, wipe ((wipe σ vs).set j (some x)) vs = wipe σ vs)
    (ht : ∀ i x I H, i < n → Adv I1 H1 I H → Yv i x → ∀ Qt : Bool → Hp → Prop, (∀ H3, Same H H3 → Qt (p i) H3) → tt ((wipe σ vs).set j (some x)) H Qt)
    (he : ∀ i x I H, i < n → p i = true → Adv I1 H1 I H → Yv i x → ∀ Qe : VK, (∀ y I2 H2, Adv I H I2 H2 → Dp K I2 y (d i) → Qe y H2) → te ((wipe σ vs).set j (some x)) H Qe)
    (hd : ∀ I2 H2, Adv I1 H1 I2 H2 → Dp K I2 (.ref D) (.list (given n p d)) → Qd H2) :
    ∃ W : Nat → Nat → Hp → Prop, (∃ m, W 0 m (upd H1 D (.lst []))) ∧ ∀ i m H, W i m H →
      (J.stop i H ∧ Qd H) ∨ (J.go i H ∧ ∃ Nx : Hp → Prop, (∀ H', Nx H' → ∃ m', m' < m ∧ W (i + 1) m' H') ∧ ∀ x H', J.yld i H x H' → gName j x (wipe σ vs) H' fun σ2 H2 => wipe σ2 vs = wipe σ vs ∧ tt σ2 H2 fun b H3 =>
        if b = true then te σ2 H3 fun y H4 => ∃ acc, H4 D = some (.lst acc) ∧ acc.length < sizeLine ∧ Nx (upd H4 D (.lst (acc ++ [y]))) else Nx H3) := by
  refine lc_it w (Qd := Qd) (fun i H => ∃ I ys, Adv I1 H1 I H ∧ I D = none ∧ H D = some (.lst ys) ∧ DpAll K I ys (given i p d)) ?_ ?_ ?_ ?_
  · exact ⟨I1, [], (Adv.refl hI).alloc hD, hI.free hD, upd_same, .nil⟩
  · rintro i H _ ⟨I, ys, a, _⟩
    exact hG H a.hh
  · rintro i x H H' hi ⟨I, ys, a, hf, hy, hds⟩ ⟨rfl, hx⟩
    refine ⟨hw x, ht i x I H' hi a hx _ fun H3 s3 => ?_⟩
    have a3 : Adv I1 H1 I H3 := a.grow s3
    cases hp : p i with
    | true =>
      refine iteT ?_
      refine he i x I H3 hi hp a3 hx _ fun y I4 H4 a4 hy4 => ?_
      have o4 := a4.own (s3 D _ hy) hf
      refine ⟨ys, o4.1, lt_line ?_, I4, ys ++ [y], (a3.trans a4).mut hD o4.2, o4.2, upd_same, ?_⟩
      · have := given_len i p d
        rw [hds.length]
        omega
      · rw [given_yes hp]
        exact (hds.mono a4.ii).app (.cons hy4 .nil)
    | false =>
      refine iteF ?_
      refine ⟨I, ys, a3, hf, s3 D _ hy, ?_⟩
      rw [given_no hp]
      exact hds
  · rintro H ⟨I, ys, a, hf, hy, hds⟩
    have a2 := a.freeze hy hD hf
    exact hd _ H a2 (.lst (.inl (.inl upd_same)) (hds.mono (same_new hf)))
/-- .. flat values -/
theorem lc_flat {D : Addr} (hD : H1 D = none) (w : Walk J n G (fun i H x H' => H' = H ∧ Yv i x)) (p : Nat → Bool) (f : Nat → V) (hn : n < 1000000) (hG : ∀ H, Same H1 H → G H)
    (hw : ∀ x, wipe ((wipe σ vs).set j (some x)) vs = wipe σ vs)
    (ht : ∀ i x H, i < n → Same H1 H → Yv i x → ∀ Qt : Bool → Hp → Prop, (∀ H3, Same H H3 → Qt (p i) H3) → tt ((wipe σ vs).set j (some x)) H Qt)
    (he : ∀ i x H, i < n → p i = true → Same H1 H → Yv i x → ∀ Qe : VK, (∀ H2, Same H H2 → Qe (f i) H2) → te ((wipe σ vs).set j (some x)) H Qe)
    (hd : ∀ H2, Same H1 H2 → H2 D = some (.lst (given n p f)) → Qd H2) :
    ∃ W : Nat → Nat → Hp → Prop, (∃ m, W 0 m (upd H1 D (.lst []))) ∧ ∀ i m H, W i m H →
      (J.stop i H ∧ Qd H) ∨ (J.go i H ∧ ∃ Nx : Hp → Prop, (∀ H', Nx H' → ∃ m', m' < m ∧ W (i + 1) m' H') ∧ ∀ x H', J.yld i H x H' → gName j x (wipe σ vs) H' fun σ2 H2 => wipe σ2 vs = wipe σ vs ∧ tt σ2 H2 fun b H3 =>
        if b = true then te σ2 H3 fun y H4 => ∃ acc, H4 D = some (.lst acc) ∧ acc.length < sizeLine ∧ Nx (upd H4 D (.lst (acc ++ [y]))) else Nx H3) := by
  refine lc_it w (Qd := Qd) (fun i H => Same H1 H ∧ H D = some (.lst (given i p f))) ?_ ?_ ?_ ?_
  · exact ⟨same_new hD, upd_same⟩
  · rintro i H _ ⟨a, _⟩
    exact hG H a
  · rintro i x H H' hi ⟨a, hy⟩ ⟨rfl, hx⟩
    refine ⟨hw x, ht i x H' hi a hx _ fun H3 s3 => ?_⟩
    cases hp : p i with
    | true =>
      refine iteT ?_
      refine he i x H3 hi hp (a.trans s3) hx _ fun H4 s4 => ?_
      refine ⟨_, s4 D _ (s3 D _ hy), lt_line (by have := given_len i p f; omega), fun b u e => ?_, ?_⟩
      · rw [upd_ne (ne_of_none e hD)]
        exact s4 b u (s3 b u (a b u e))
      · rw [given_yes hp]
        exact upd_same
    | false =>
      refine iteF ⟨a.trans s3, ?_⟩
      rw [given_no hp]
      exact s3 D _ hy
  · rintro H ⟨a, hy⟩
    exact hd H a hy
/-- no test -/
theorem yes_ok {σ2 : L2.St} {H : Hp} {Qt : Bool → Hp → Prop} (h : ∀ H3, Same H H3 → Qt true H3) : tYes σ2 H Qt := h H (Same.refl H)
end
/-- any walk: Pv by the turn and the heap -/
theorem walkW {J : It} {n : Nat} {G : Hp → Prop} {Y : Nat → Hp → V → Hp → Prop} {H0 : Hp} {Out : Hp → Prop} {Tn : (Hp → Prop) → V → Hp → Prop} (w : Walk J n G Y) (Pv : Nat → Hp → Prop) (h0 : Pv 0 H0) (hG : ∀ i H, i ≤ n → Pv i H → G H)
    (ht : ∀ i H x H', i < n → Pv i H → Y i H x H' → Tn (Pv (i + 1)) x H') (hd : ∀ H, Pv n H → Out H) :
    ∃ W : Nat → Nat → Hp → Prop, (∃ m, W 0 m H0) ∧ ∀ i m H, W i m H → (J.stop i H ∧ Out H) ∨ (J.go i H ∧ ∃ Nx : Hp → Prop, (∀ H', Nx H' → ∃ m', m' < m ∧ W (i + 1) m' H') ∧ ∀ x H', J.yld i H x H' → Tn Nx x H') := by
  refine ⟨fun i m H => m = n - i ∧ i ≤ n ∧ Pv i H, ⟨n, by simp, Nat.zero_le _, h0⟩, ?_⟩
  rintro i m H ⟨rfl, hi, p⟩
  have q := hG i H hi p
  by_cases hlt : i < n
  · exact .inr ⟨w.goes i H hlt q, Pv (i + 1), fun H' p' => ⟨n - (i + 1), by omega, rfl, hlt, p'⟩, fun x H' y => ht i H x H' hlt p (w.yields i H x H' hlt q y)⟩
  · have e : i = n := by omega
    subst e
    exact .inl ⟨w.stops H q, hd H p⟩
/-- a list or a tuple, walked -/
theorem w_list {K : PySem.W.Frag} {a : Addr} {xs : List V} : Walk (Itl K a) xs.length (fun H => SqL K H a xs) (fun i H x H' => H' = H ∧ xs[i]? = some x) := walk_list
theorem w_tup {K : PySem.W.Frag} {a : Addr} {xs : List V} : Walk (Itt K a) xs.length (fun H => SqT K H a xs) (fun i H x H' => H' = H ∧ xs[i]? = some x) := walk_tup
theorem w_str {z : Str} : Walk (Its z) z.cps.size (fun _ => True) (fun i H v H' => H' = H ∧ ∃ c, z.cps[i]? = some c ∧ v = .str ⟨#[c]⟩) := walk_str
theorem w_range {lo : Int} {n : Nat} : Walk (Itr lo n) n (fun _ => True) (fun i H x H' => H' = H ∧ x = .int (lo + i)) := walk_range
/-- e.f, the fragment told apart (for blocks) -/
theorem pe_fldK {X : Cx} {K : PySem.W.Frag} {e : Expr} {f : Str} {pos : Pos} {ta : TE} (hK : X.K = K) (he : PE X e ta) (hb : attributeBase e f X.env (eval e X.env) = eval e X.env) : PE X (.Attribute e f pos) (tFld K ta f) := hK ▸ pe_fld he hb
section
variable {X : Cx} {K : PySem.W.Frag}
theorem ix_listK (hK : X.K = K) : IxR X (rIxL K) := hK ▸ ix_list
theorem ix_tupK (hK : X.K = K) : IxR X (rIxT K) := hK ▸ ix_tup
theorem sl_listK (hK : X.K = K) : SlR X (rSlL K) := hK ▸ sl_list
theorem op_in_seqK (hK : X.K = K) : OpR X (compareOp .In) (rIn K false) := hK ▸ op_in_seq
theorem op_notIn_seqK (hK : X.K = K) : OpR X (compareOp .NotIn) (rIn K true) := hK ▸ op_notIn_seq
theorem op_eqDK (hK : X.K = K) (hu : X.A.units + 64 < cLine) : OpR X (compareOp .Eq) (rEqD K) := hK ▸ op_eqD hu
theorem op_neDK (hK : X.K = K) (hu : X.A.units + 64 < cLine) : OpR X (compareOp .NotEq) (rNeD K) := hK ▸ op_neD hu
theorem call_len_seqK (hK : X.K = K) : CallR X (.builtin "len") (fun xs H Q => ∃ p ys, xs = [.ref p] ∧ (SqL K H p ys ∨ SqT K H p ys) ∧ Q (.int ys.length) H) := hK ▸ call_len_seq
theorem pg_tupK {ts : List Expr} {k n : Nat} {pos : Pos} {t : TGs} (hK : X.K = K) (hc : X.calm = true) (ht : PGs X ts t) (hn : (assignEach ts X.env).length = n := by rfl) (hst : (assignEach ts X.env).findIdx? (·.1) = none := by rfl) : PG X (.Tuple ts k pos) (gTup K n t) := hK ▸ pg_tup hc ht hn hst
theorem mt_indexK (hK : X.K = K) : MtR X "list.index" (rIndex K) := hK ▸ mt_index
theorem pe_bmK {o e : Expr} {es : List Expr} {to : TE} {t : TA} {name : Str} {apos cpos : Pos} {T id : String} {r : V → List V → Hp → VK → Prop} (hK : X.K = K) (pa : PlainAttrs T) (slot : Slot T name id) (hty : typeOf (.builtin id) = pure (.type "method_descriptor")) (hm : MtR X id r) (ho : PE X o to) (ha : PA X (e :: es) t)
    (hbase : attributeBase o name X.env (eval o X.env) = eval o X.env := by rfl)
    (hfew : ((backTo cpos (starEach (e :: es) X.env)).all (fun x => !x.1) && (backToKw cpos (keywordEach [] X.env)).all (fun x => x.1.isSome)
      && decide ((e :: es).length + ([] : List Keyword).length + (if ([] : List Keyword).isEmpty then 0 else 1) < 30)) = true := by rfl)
    (hline : (apos.endLine == cpos.line) = true := by rfl) (hs : starEach (e :: es) X.env = (false, eval e X.env) :: starEach es X.env := by rfl) (hplain : (backTo cpos (starEach es X.env)).any (·.1) = false := by rfl) :
    PE X (.Call (.Attribute o name apos) (e :: es) [] cpos) (tBM K T r to t) := hK ▸ pe_bm pa slot hty hm ho ha hbase hfew hline hs hplain
theorem call_tuple_ofK (hK : X.K = K) : CallR X (.type "tuple") (fun xs H Q => ∃ p ys, xs = [.ref p] ∧ ((SqL K H p ys ∧ ∀ l, H l = none → Q (.ref l) (upd H l (.tup ys))) ∨ (SqT K H p ys ∧ Q (.ref p) H))) := hK ▸ call_tuple_of
theorem call_list_ofK (hK : X.K = K) : CallR X (.type "list") (fun xs H Q => ∃ p ys, xs = [.ref p] ∧ (SqL K H p ys ∨ SqT K H p ys) ∧ ∀ l, H l = none → Q (.ref l) (upd H l (.lst ys))) := hK ▸ call_list_of
theorem op_catAK (hK : X.K = K) : OpR X (binaryOp .Add) (rCatA K) := hK ▸ op_catA
theorem sl_tupAK (hK : X.K = K) : SlR X (rSlA K) := hK ▸ sl_tupA
theorem pi_listK {tg l : Expr} {tl : TE} (hK : X.K = K) (hl : PE X l tl) : PI X tg l (iList K tl) := hK ▸ pi_list hl
theorem pi_tupK {tg l : Expr} {tl : TE} (hK : X.K = K) (hl : PE X l tl) : PI X tg l (iTup K tl) := hK ▸ pi_tup hl
end
theorem rt (n : String) : RelV (.ty n) (Value.type n) := rfl
/-! ### isinstance's answers -/
theorem k_ii {K : PySem.W.Frag} : PySem.W.kitOne K (.type "int") (.type "int") = some true := kit_ty (by decide +kernel)
theorem k_ib {K : PySem.W.Frag} : PySem.W.kitOne K (.type "int") (.type "bool") = some false := kit_ty (by decide +kernel)
theorem k_bb {K : PySem.W.Frag} : PySem.W.kitOne K (.type "bool") (.type "bool") = some true := kit_ty (by decide +kernel)
theorem k_ss {K : PySem.W.Frag} : PySem.W.kitOne K (.type "str") (.type "str") = some true := kit_ty (by decide +kernel)
theorem k_ll {K : PySem.W.Frag} : PySem.W.kitOne K (.type "list") (.type "list") = some true := kit_ty (by decide +kernel)
theorem k_tl {K : PySem.W.Frag} : PySem.W.kitOne K (.type "tuple") (.type "list") = some false := kit_ty (by decide +kernel)
theorem k_tt {K : PySem.W.Frag} : PySem.W.kitOne K (.type "tuple") (.type "tuple") = some true := kit_ty (by decide +kernel)
theorem k_any_l {K : PySem.W.Frag} : PySem.W.kitAny K (.type "list") [.type "list", .type "tuple"] = some true := kitAny_cons k_ll (fun h => Bool.noConfusion h) fun _ => rfl
theorem k_any_t {K : PySem.W.Frag} : PySem.W.kitAny K (.type "tuple") [.type "list", .type "tuple"] = some true :=
  kitAny_cons k_tl (fun _ => kitAny_cons k_tt (fun h => Bool.noConfusion h) fun _ => rfl) fun h => Bool.noConfusion h
theorem sql_ty {K : PySem.W.Frag} {H : Hp} {a : Addr} {xs : List V} (h : SqL K H a xs) : TyX K H (.ref a) (.type "list") := by
  rcases h with (h | ⟨o, h⟩) | ⟨o, its, n, h, c, _⟩
  · exact .base (.lst h)
  · exact .base (.frz h)
  · exact .kList h c
theorem sqt_ty {K : PySem.W.Frag} {H : Hp} {a : Addr} {xs : List V} (h : SqT K H a xs) : TyX K H (.ref a) (.type "tuple") := by
  rcases h with (h | ⟨o, h⟩) | ⟨o, its, n, h, c, _⟩
  · exact .base (.tup h)
  · exact .fTuple h
  · exact .kTuple h c
theorem sq_isi {K : PySem.W.Frag} {H : Hp} {a : Addr} {xs : List V} (h : Sq K H a xs) : ∃ t, TyX K H (.ref a) t ∧ PySem.W.kitAny K t [.type "list", .type "tuple"] = some true := by
  rcases h with h | h
  · exact ⟨_, sql_ty h, k_any_l⟩
  · exact ⟨_, sqt_ty h, k_any_t⟩
/-- all([True, ..]) -/
theorem all_true {K : PySem.W.Frag} {D : Addr} {H : Hp} {n : Nat} {Q : VK} (h : H D = some (.lst (given n (fun _ => true) (fun _ => .bl true)))) (q : Q (.bl true) H) : rAll K [.ref D] H Q := by
  refine ⟨D, (List.range n).map fun _ => true, rfl, .inl (.inl ?_), ?_⟩
  · rw [h, given_all, List.map_map]; rfl
  · have : ((List.range n).map fun _ => true).all id = true := by simp
    rw [this]
    exact q
theorem all_trueN {K : PySem.W.Frag} {D : Addr} {H : Hp} {n : Nat} {σ : L2.St} {Q : VK} (h : H D = some (.lst (given n (fun _ => true) (fun _ => .bl true)))) (q : Q (.bl true) H) : tNil σ H fun xs H2 => rAll K (V.ref D :: xs) H2 Q := all_true h q
theorem at_int {ns : List Int} {i : Nat} {x : V} (h : (ns.map V.int)[i]? = some x) : ∃ z, ns[i]? = some z ∧ x = .int z := by
  rw [List.getElem?_map] at h
  cases hz : ns[i]? with
  | none => rw [hz] at h; cases h
  | some z => rw [hz] at h; cases h; exact ⟨z, rfl, rfl⟩
end K57
set_option Elab.async false
set_option linter.all false
set_option maxRecDepth 100000
set_option maxHeartbeats 4000000
/-! len(set(t)), t a tuple of unlike texts -/
namespace K57
open PySem PySem.Spec L2
section
variable {prog : Program} {w : World} {A : Around} {E : Value → Shared → Prop} {R : Result → Shared → Prop}
/-- the members after i of the keys -/
def memb (ks : List Str) (i : Nat) : Str → Bool := fun k => decide (k ∈ ks.take i)
theorem memb_next {ks : List Str} {i : Nat} (hi : i < ks.length) (k : Str) : (memb ks i k || decide (k = ks[i])) = memb ks (i + 1) k := by
  unfold memb
  have e : ks.take (i + 1) = ks.take i ++ [ks[i]] := by
    rw [List.take_add_one, List.getElem?_eq_getElem hi]
    rfl
  rw [e]
  rw [← Bool.decide_or]
  refine decide_eq_decide.mpr ?_
  rw [List.mem_append, List.mem_singleton]
theorem memb_no {ks : List Str} (hn : ks.Nodup) {i : Nat} (hi : i < ks.length) : memb ks i ks[i] = false := by
  unfold memb
  refine decide_eq_false fun h => ?_
  obtain ⟨j, hj⟩ := List.mem_iff_getElem?.mp h
  rw [List.getElem?_take] at hj
  by_cases hji : j < i
  · rw [if_pos hji] at hj
    obtain ⟨hjl, ej⟩ := List.getElem?_eq_some_iff.mp hj
    have := (List.getElem_inj hn).mp ej
    omega
  · rw [if_neg hji] at hj
    cases hj
theorem upd_loop {I : Addr} {fp wr : List Addr} {G : Array GenState → Array GenState → Prop} {P : Nat → Value → Prop} {St : Nat → Shared → Prop} {ks : List Str} (hn : ks.Nodup)
    (W : WalksS prog w A.in1 I fp wr G ks.length P St) (S : Addr) (hS : S ∉ fp) (hv : ∀ i v, P i v → ∃ x t, ks[i]? = some x ∧ v = .str x t) (hb : ks.length + 1 < scanBound) :
    ∀ (k i : Nat) (s : Shared), i + k = ks.length → St i s → s.heap.SetOf (strKind prog w) S (memb ks i) i →
      (∀ s', Moved (S :: wr) G s s' → s'.heap.SetOf (strKind prog w) S (memb ks ks.length) ks.length → R (.ok (.ret .none)) s') →
      codeAny (model prog w) A (.builtin "set.update.loop" ⟨[.ref S, .ref I], []⟩) R s := by
  have hSw : S ∉ wr := fun h => hS (W.sub _ h)
  have hsub : ∀ b ∈ wr, b ∈ S :: wr := fun b h => List.mem_cons_of_mem _ h
  intro k
  induction k with
  | zero =>
    intro i s hk hst hso hR
    obtain rfl : i = ks.length := by omega
    refine codeAny_builtin PyProof.Rows.F.entry_set_update_loop ?_
    rw [Around.under_plainId PyProof.Rows.F.plain_set_update_loop _]
    show wpAny _ A.in1 (pyNext (.ref I) >>= _) _ _ s
    refine wpAny_bind (W.done s _ _ hst fun s' hm => ?_)
    show wpAny _ A.in1 (ret Value.none) _ _ s'
    refine wpAny_pure (hR s' (hm.mono hsub) ?_)
    obtain ⟨o, es, ep, t, ho, more⟩ := hso
    exact ⟨o, es, ep, t, hm.heap S _ hSw ho, more⟩
  | succ k ih =>
    intro i s hk hst hso hR
    have hlt : i < ks.length := by omega
    refine codeAny_builtin PyProof.Rows.F.entry_set_update_loop ?_
    rw [Around.under_plainId PyProof.Rows.F.plain_set_update_loop _]
    show wpAny _ A.in1 (pyNext (.ref I) >>= _) _ _ s
    refine wpAny_bind (W.item i s _ _ hlt hst fun v s' hP hst' hm => ?_)
    obtain ⟨x, t, hx, rfl⟩ := hv i v hP
    have ex : ks[i] = x := by
      rw [List.getElem?_eq_getElem hlt] at hx
      exact Option.some.inj hx
    have hso' : s'.heap.SetOf (strKind prog w) S (memb ks i) i := by
      obtain ⟨o, es, ep, tb, ho, more⟩ := hso
      exact ⟨o, es, ep, tb, hm.heap S _ hSw ho, more⟩
    show wpAny _ A.in1 (holding [Value.str x t] (setAdd S (.str x t)) >>= _) _ _ s'
    refine wpAny_bind (wpAny_holding ?_)
    unfold setAdd
    refine wpAny_holding ?_
    have his : (strKind prog w).is x (.str x t) = true := by simp [strKind, Value.isStrOf]
    refine wpAny_bind ((strKind prog w).pyHash (k := x) his ?_)
    refine wpAny_setAddHashed_of (knd := strKind prog w) (s := { s' with toks := s'.toks + 1 }) his rfl hso' (by omega) fun h' hsb hS2 => ?_
    have hSi : h'.SetOf (strKind prog w) S (memb ks (i + 1)) (i + 1) := by
      refine PyProof.Rows.SetOf_congr hS2 (fun k' => ?_) ?_
      · rw [← memb_next hlt k', ex]
      · rw [← ex, memb_no hn hlt]
        try rfl
    refine wpAny_pure ⟨plainId_quiet PyProof.Rows.F.plain_set_update_loop _, ih (i + 1) _ (by omega) (W.frame _ s' _ _ hst' (Nat.le_succ _) fun b hb' o e => ?_) hSi fun s2 hm2 hS3 => ?_⟩
    · rw [hsb.2 b (fun q : b = S => hS (by rw [← q]; exact hb'))]; exact e
    · refine hR s2 (Moved.trans W.gtrans ((hm.mono hsub).then_heap (Nat.le_succ _) fun b o hb' e => ?_) hm2) hS3
      rw [hsb.2 b (fun q : b = S => hb' (by rw [q]; exact List.mem_cons_self))]; exact e
variable {s : Shared}
theorem code_new_set (a : Value) {Q₁ : Value → Shared → Prop}
    (h : ∀ led : Bool, Q₁ (.ref s.heap.objs.size) { s with heap := s.heap.push { cls := .type "set", dict := none, data := .set #[] 0 (.fresh 0 0 led) } }) :
    codeAny (model prog w) A (.call (.builtin "set.__new__") ⟨[.type "set", a], []⟩) (wants Q₁ E) s := PySem.code_set_new_1 a h
theorem call_set_texts {l : Addr} {items : Array Value} {ks : List Str} {Q : Value → Shared → Prop} (hh : A.handled = none) (hl : s.heap.IsTuple l items) (hsz : items.size = ks.length)
    (hi : ∀ (i : Nat) (v : Value), items[i]? = some v → ∃ x t, ks[i]? = some x ∧ v = .str x t) (hn : ks.Nodup) (hb : ks.length + 1 < scanBound)
    (h : ∀ (h' : Heap) (tk : Nat), h'.SetOf (strKind prog w) s.heap.objs.size (memb ks ks.length) ks.length → (∀ b o, s.heap.get? b = some o → h'.get? b = some o) → Q (.ref s.heap.objs.size) { s with heap := h', toks := tk }) :
    wpAny (model prog w) A (call (.type "set") [.ref l]) Q E s := by
  obtain ⟨c, tl, hmro⟩ := PySem.F.called_set.mro
  have hmade := PySem.F.called_set.made
  have hsub := PySem.F.called_set.sub
  refine wpAny_call (codeAny_of_tree ?_)
  show wpAny _ _ (callAny (.type "set") _) _ _ _
  refine wpAny_pure ⟨Code.quiet_builtin _ (by decide +kernel), codeAny_builtin PySem.F.entry_type_call ?_⟩
  rw [Around.under_plain (weight_type_call_type "set" [.ref l] []) rfl]
  have h1 := PySem.F.called_set.notType
  have h2 := PySem.F.called_set.canCreate
  have hct := PySem.F.typeCall_set_1 (.ref l)
  repeat (any_goals (first | assumption | wp_step))
  refine codeAny_mono (code_new_set (.ref l) (E := E) (Q₁ := fun obj s₁ => ∃ led : Bool, obj = .ref s.heap.objs.size ∧ s₁ = { s with heap := s.heap.push { cls := .type "set", dict := none, data := .set #[] 0 (.fresh 0 0 led) } }) fun led => ⟨led, rfl, rfl⟩) fun r s₁ hr => ?_
  cases r with
  | error e => exact hr
  | ok fl =>
    cases fl with
    | ret obj =>
      obtain ⟨led, rfl, rfl⟩ := hr
      generalize hN : ({ cls := .type "set", dict := none, data := .set #[] 0 (.fresh 0 0 led) } : Obj) = N
      have hS : (s.heap.push N).get? s.heap.objs.size = some N := Heap.get?_push_size _ (by rw [← hN]; rfl)
      have hT : Shared.TypeIs { s with heap := s.heap.push N } (.ref s.heap.objs.size) "set" := ⟨_, hS, by rw [← hN]⟩
      have hli := PySem.F.called_set.init.lookup
      have hbi := PySem.F.called_set.init.bind (.ref s.heap.objs.size)
      repeat (any_goals (first | assumption | wp_step))
      refine codeAny_mono (codeAny_call_builtin (R := wants (fun r s₂ => r = .none ∧ ∃ h' tk, s₂ = { s with heap := h', toks := tk } ∧
          h'.SetOf (strKind prog w) s.heap.objs.size (memb ks ks.length) ks.length ∧ (∀ b o, s.heap.get? b = some o → h'.get? b = some o)) E) PySem.F.called_set.init.plain PySem.F.entry_set_init (check_set_init_1 hT ?_)) fun r₂ s₂ hr₂ => ?_
      · obtain ⟨ol, hol, hcl, nl, hdl⟩ := hl
        obtain ⟨ocls, odict, odata, oslots⟩ := ol
        simp only at hcl hdl
        subst hcl; subst hdl
        have hol' : (s.heap.push N).get? l = some { cls := .type "tuple", dict := odict, data := .seq items nl, slots := oslots } := Heap.get?_push_of_some _ hol
        have hsls := PySem.F.sub_tuple_set
        have hslf := PySem.F.sub_tuple_frozenset
        have hne : (Value.type "tuple" == Value.type "dict") = false := by decide
        have hl1 : (s.heap.push N).IsTuple l items := ⟨_, hol', rfl, nl, rfl⟩
        unfold Builtin.«set.__init__» noKeywords Builtin.Frozenset.updateFrom
        generalize hPI : pyIter = PI
        subst hN
        wp_walk
        subst hPI
        refine wpAny_pyIter_tuple hl1 ?_
        refine wpAny_bind (wpAny_runValue ?_)
        have hlS : l < s.heap.objs.size := Heap.lt_size hol
        have hh3 : A.in1.in1.in1.handled = none := by simp [hh]
        have hneI : l ≠ (s.heap.push { cls := .type "set", dict := none, data := .set #[] 0 (.fresh 0 0 led) }).objs.size := by
          rw [Heap.size_push]; exact Nat.ne_of_lt (Nat.lt_succ_of_lt hlS)
        have hSf : s.heap.objs.size ∉ [(s.heap.push { cls := .type "set", dict := none, data := .set #[] 0 (.fresh 0 0 led) }).objs.size, l] := by
          rw [Heap.size_push]; simp only [List.mem_cons, List.mem_singleton, List.not_mem_nil, or_false, not_or]
          exact ⟨Nat.ne_of_lt (Nat.lt_succ_self _), Nat.ne_of_gt hlS⟩
        refine upd_loop hn (hsz ▸ (Walks.tuple hh3 _ l hneI items).toS) s.heap.objs.size hSf hi hb ks.length 0 _ (by omega) ⟨⟨_, Heap.get?_push_size _ rfl, rfl, rfl⟩, (hl1.push _)⟩ ?hS0 ?hR
        case hS0 =>
          have hget : ((s.heap.push { cls := .type "set", dict := none, data := .set #[] 0 (.fresh 0 0 led) }).push { cls := .type "tuple_iterator", data := .fields #[.ref l, .int 0 0] }).get? s.heap.objs.size
              = some { cls := .type "set", dict := none, data := .set #[] 0 (.fresh 0 0 led) } := Heap.get?_push_of_some _ hS
          exact PyProof.Rows.SetOf_congr ((PyProof.Rows.setObjOf_fresh (knd := strKind prog w) led).setOf hget (by unfold scanBound; omega)) (fun k => by simp [memb]) rfl
        case hR =>
          intro s' hm hS'
          obtain ⟨h', g', d', tk', os'⟩ := s'
          have eg : g' = s.gens := hm.gens
          have ed : d' = s.drawn := hm.drawn
          have eo : os' = s.os := hm.os
          subst eg; subst ed; subst eo
          show wpAny _ _ _ _ _ _
          refine wpAny_pure ?_
          show wpAny _ _ (ret Value.none) _ _ _
          refine wpAny_pure ⟨rfl, h', tk', rfl, hS', fun b o e => ?_⟩
          have hb0 : b < s.heap.objs.size := Heap.lt_size e
          have hb1 : b ≠ s.heap.objs.size := Nat.ne_of_lt hb0
          have hb2 : b ≠ (s.heap.push { cls := .type "set", dict := none, data := .set #[] 0 (.fresh 0 0 led) }).objs.size := by
            rw [Heap.size_push]; exact Nat.ne_of_lt (Nat.lt_succ_of_lt hb0)
          exact hm.heap b o (by simp only [List.mem_cons, List.mem_singleton, List.not_mem_nil, or_false, not_or]; exact ⟨hb1, hb2⟩) (Heap.get?_push_of_some _ (Heap.get?_push_of_some _ e))
      · cases r₂ with
        | error e => exact hr₂
        | ok fl₂ =>
          cases fl₂ with
          | ret r =>
            obtain ⟨rfl, h', tk, rfl, hS', hk'⟩ := hr₂
            repeat (any_goals (first | assumption | wp_step))
            exact h _ _ hS' hk'
          | _ => exact hr₂.elim
    | _ => exact hr.elim
end
section
open PyProof.Rows
variable {X : Cx}
/-- len(set(xs)), xs a tuple of unlike texts -/
def tLenSetT (K : PySem.W.Frag) (ta : TE) : TE := fun σ H Q => ta σ H fun x H1 => ∃ l, ∃ ks : List Str, x = .ref l ∧ SqT K H1 l (ks.map V.str) ∧ ks.Nodup ∧ ks.length < 4000 ∧ Q (.int ks.length) H1
theorem vals_texts : ∀ {ks : List Str} {us : List Value}, Vals (ks.map V.str) us → us.length = ks.length ∧ ∀ (i : Nat) (v : Value), us[i]? = some v → ∃ x t, ks[i]? = some x ∧ v = .str x t
  | [], _, .nil => ⟨rfl, fun i v h => by simp at h⟩
  | y :: ys, _, .cons r t => by
    obtain ⟨k, rfl⟩ := r
    obtain ⟨h1, h2⟩ := vals_texts t
    refine ⟨congrArg Nat.succ h1, fun i v h => ?_⟩
    cases i with
    | zero =>
      simp only [List.getElem?_cons_zero, Option.some.injEq] at h
      exact ⟨y, k, rfl, h.symm⟩
    | succ i => exact h2 i v (by simpa using h)
theorem pe_lenSetT {a : Expr} {ta : TE} {p p2 q pos : Pos} (hg : Gl X "len") (hm : X.mg "len" = none) (hg2 : Gl X "set") (hm2 : X.mg "set" = none) (ha : PE X a ta) (hc : X.calm = true := by rfl)
    (na : starEach [a] X.env = (false, eval a X.env) :: starEach [] X.env := by rfl) : PE X (.Call (.Name "len" p) [.Call (.Name "set" p2) [a] [] q] [] pos) (tLenSetT X.K ta) := by
  refine ⟨fun pins s σ H Q I h => ?_⟩
  refine Call_ (ld_blt I hg hm boot_len ?_)
  refine PyProof.Rows.callWith_builtin1 (PyProof.Rows.args_cons ?_ rfl) rfl rfl
  refine Call_ (ld_blt I hg2 hm2 boot_set ?_)
  refine PyProof.Rows.callWith_type1 (PyProof.Rows.args_cons (thn (ha.run pins s σ H _ I h) fun v s1 ⟨x, H1, I1, r1, q1⟩ => PyProof.Rows.args_nil ?_) na) na rfl
  obtain ⟨l, ks, rfl, hq, hn, h1, q1⟩ := q1
  cases r1
  obtain ⟨its, r, pl, hz⟩ := I1.tuple hq
  obtain ⟨e1, e2⟩ := vals_texts r
  refine call_set_texts (I1.ok.hd hc) pl (by rw [List.size_toArray]; exact e1) (fun i v hv => e2 i v (by simpa using hv)) hn (by unfold scanBound; omega) fun h' tk hS hk => ?_
  refine PyProof.Rows.args_nil ?_
  obtain ⟨o, es, ep, t, ho, hex, hd, _, _, _, hf, hsz⟩ := hS
  have I2 : Inv X pins σ H1 { s1 with heap := h', toks := tk } := I1.kept fun b o e => hk b o e
  exact call_len_set ho hex hd hf (by rw [hsz]; omega) ⟨.int ks.length, H1, I2.tok _, ⟨_, by rw [hsz]⟩, q1⟩
end
end K57
set_option Elab.async false
set_option linter.all false
set_option maxRecDepth 100000
set_option maxHeartbeats 4000000
/-! enumerate of a tuple, of a text -/
namespace K57
open PySem PySem.Spec PyProof.Rows L2
theorem meets_enum1 {v : Value} {o : Obj} {G : Heap → Prop} (B : Begins v o G) :
    Meets (Builtin.«enumerate.__new__» ⟨[.type "enumerate", v], []⟩) (fun _ R s => G s.heap ∧
      R (.ok (.ret (.ref (s.heap.push o).objs.size))) { s with heap := (s.heap.push o).push { cls := .type "enumerate", data := .fields #[.none, .bool false, .ref s.heap.objs.size, rawInt 0, .none, .none] } }) :=
  .of_wp fun prog w A R s h => by
    obtain ⟨hp, g, d, tk, os⟩ := s
    obtain ⟨h1, h⟩ := h
    have hsub := sub_enumerate
    have q1 : ∀ {A' : Around} {E : Value → Shared → Prop} {Q : Value → Shared → Prop}, Q (.ref hp.objs.size) ⟨hp.push o, g, d, tk, os⟩ → wpAny (model prog w) A' (pyIter v) Q E ⟨hp, g, d, tk, os⟩ :=
      fun q => B.iter prog w _ _ ⟨hp, g, d, tk, os⟩ _ h1 q
    wp_walk using q1
    refine wpAny_stack_any fun st => wpAny_pure ?_
    split
    · rename_i c _ _ _ _ _
      cases (c == Value.type "enumerate")
      · wp_walk using q1
        exact ⟨_, rfl, h⟩
      · wp_walk using q1
        exact ⟨_, rfl, h⟩
    · wp_walk using q1
      exact ⟨_, rfl, h⟩
section
variable {prog : Program} {w : World} {A : Around} {E : Value → Shared → Prop} {s : Shared}
theorem call_enum1 {v : Value} {o : Obj} {G : Heap → Prop} {Q : Value → Shared → Prop} (B : Begins v o G) (h1 : G s.heap)
    (h : ∀ h', IsEnum h' (s.heap.objs.size + 1) s.heap.objs.size 0 .none → h'.get? s.heap.objs.size = some o → (∀ b o, s.heap.get? b = some o → h'.get? b = some o) → Q (.ref (s.heap.objs.size + 1)) { s with heap := h' }) :
    wpAny (model prog w) A (call (.type "enumerate") [v]) Q E s := by
  refine callType_new F.called_enumerate (by decide) (F.typeCall_enumerate_1 _) (F.newCall_enumerate_1 _) (fun obj => F.args_object_init_2 obj _) F.entry_enumerate_new (meets_enum1 B) ⟨h1, ?_⟩
  have hz : (s.heap.push o).objs.size = s.heap.objs.size + 1 := Heap.size_push ..
  show _ ∧ _
  rw [hz]
  have he : IsEnum ((s.heap.push o).push { cls := .type "enumerate", data := .fields #[.none, .bool false, .ref s.heap.objs.size, rawInt 0, .none, .none] }) (s.heap.objs.size + 1) s.heap.objs.size 0 .none := by
    have := Heap.get?_push_size (s.heap.push o) (o := { cls := .type "enumerate", data := .fields #[.none, .bool false, .ref s.heap.objs.size, rawInt 0, .none, .none] }) rfl
    rw [hz] at this
    exact this
  exact ⟨⟨_, he, rfl⟩, h _ he (Heap.get?_push_of_some _ (Heap.get?_push_size _ B.free)) fun b o x => Heap.get?_push_of_some _ (Heap.get?_push_of_some _ x)⟩
end
/-- the tuple at a, each item in a new pair -/
def Itet (K : PySem.W.Frag) (a : Addr) : It :=
  ⟨fun i H => ∃ (xs : List V) (x : V), SqT K H a xs ∧ xs[i]? = some x, fun i H v H' => ∃ T x, v = .ref T ∧ H T = none ∧ H' = upd H T (.tup [.int (i : Nat), x]) ∧ ∀ xs, SqT K H a xs → xs[i]? = some x, fun i H => ∃ xs : List V, SqT K H a xs ∧ xs.length = i⟩
/-- the text x, each sign in a new pair -/
def Ites (z : Str) : It :=
  ⟨fun i _ => i < z.cps.size, fun i H v H' => ∃ T c, v = .ref T ∧ H T = none ∧ z.cps[i]? = some c ∧ H' = upd H T (.tup [.int (i : Nat), .str ⟨#[c]⟩]), fun i _ => i = z.cps.size⟩
theorem turn_enumT {P : Program} {w : World} {K : PySem.W.Frag} {elts : List Expr} {kk : Nat} {tpos : Pos} (a e it : Addr) :
    Turn P w K (.Tuple elts kk tpos) (Itet K a) [e, it] e (fun i h => (∃ old, IsEnum h e it ((i : Nat) : Int) old) ∧ h.IsTupleIter it a i ∧ e ≠ it) where
  mem := by simp
  obj := fun i h st b hb => by
    obtain ⟨⟨old, he⟩, ⟨o, ho, hc, hd⟩, _⟩ := st
    have e' : b = e ∨ b = it := by simpa using hb
    rcases e' with z | z
    · rw [z]; exact ⟨_, he, fun v q => nomatch q⟩
    · rw [z]; exact ⟨o, ho, fun v q => by rw [hd] at q; cases q⟩
  keep := fun i h h' st k => let ⟨⟨old, he⟩, hi, hne⟩ := st; ⟨⟨old, k e (by simp) _ he⟩, hi.at fun o q => k it (by simp) o q, hne⟩
  item := by
    intro X hP hw hK hc i pins s σ H E I hf st hg
    subst hP hw hK
    obtain ⟨⟨old, he⟩, hit, hne⟩ := st
    obtain ⟨xs, x, hq, hx⟩ := hg
    obtain ⟨its, rv, p, hz⟩ := I.tuple hq
    obtain ⟨u, hu, ru⟩ := rv.get hx
    have hea : e ≠ a := fun z => by
      obtain ⟨o, ho, hoc, _⟩ := p
      rw [← z, he] at ho
      cases ho
      exact absurd hoc (by simp)
    have hia : a ≠ it := fun z => by
      obtain ⟨o, ho, hoc, _⟩ := p
      obtain ⟨o2, ho2, hoc2, _⟩ := hit
      rw [z, ho2] at ho
      cases ho
      rw [hoc] at hoc2
      exact absurd hoc2 (by simp)
    have hel : e < s.heap.objs.size := Heap.lt_size he
    have hil : it < s.heap.objs.size := by obtain ⟨_, q, _⟩ := hit; exact Heap.lt_size q
    have hlt : i < its.toArray.size := by
      rw [List.size_toArray]
      exact (List.getElem?_eq_some_iff.mp hu).1
    refine wpAny_pyNext_enum_itemD (Draws.tuple (by simp [I.ok.hd hc]) it a hia its.toArray) he ⟨hit, p⟩ hlt hne (by simp [hne, hea]) fun y h' tk hy ho hit' hT hsz hk => ?_
    obtain rfl : u = y := by
      have hy' : its[i]? = some y := by simpa using hy
      rw [hu] at hy'
      exact Option.some.inj hy'
    refine ⟨_, rfl, wpAny_letOwnedTupleGo_enum (s := { s with heap := h', toks := tk + 1 }) ho fun h'' he' sb => ?_⟩
    have hT2 : h''.get? s.heap.objs.size = some { cls := .type "tuple", data := .seq #[.int i tk, u] } := (sb.2 _ (Nat.ne_of_gt hel)).trans hT
    have new : ObjOk X.prog X.w (upd H s.heap.objs.size (.tup [.int (i : Nat), x])) h'' s.heap.objs.size (.tup [.int (i : Nat), x]) :=
      ⟨by show 2 ≤ sizeLine; decide, [.int i tk, u], .cons ⟨_, rfl⟩ (.cons ru .nil), ⟨_, hT2, rfl, _, rfl⟩⟩
    have I1 : Inv X pins σ (upd H s.heap.objs.size (.tup [.int (i : Nat), x])) { s with heap := h'', toks := tk + 1 } :=
      I.turnedNew (ch := [e, it]) (fun b ob hb q => (sb.2 b (fun z => hb (by simp [z]))).trans (hk b ob (fun z => hb (by simp [z])) (fun z => hb (by simp [z])) q)) hf (Nat.le_refl _) new
    refine ⟨.ref s.heap.objs.size, _, I1, rfl, ⟨_, x, rfl, I.hok.fresh (Nat.le_refl _), rfl, fun ys hy => by rw [I.tuple_inj hy hq]; exact hx⟩, ⟨⟨u, ?_⟩, hit'.1.at fun o q => (sb.2 it (Ne.symm hne)).trans q, hne⟩, fun b hb => ?_⟩
    · have e1 : ((i + 1 : Nat) : Int) = (i : Int) + 1 := by omega
      rw [e1]; exact he'
    · have hb' : b < s.heap.objs.size := by
        have e' : b = e ∨ b = it := by simpa using hb
        rcases e' with z | z
        · rw [z]; exact hel
        · rw [z]; exact hil
      rw [upd_ne (Nat.ne_of_lt hb')]
      exact (hf b hb).1
  done := by
    intro X hP hw hK hc i pins s σ H E I hf st hg
    subst hP hw hK
    obtain ⟨⟨old, he⟩, hit, hne⟩ := st
    obtain ⟨xs, hq, hx⟩ := hg
    obtain ⟨its, rv, p, hz⟩ := I.tuple hq
    obtain ⟨f0, f1, f2, f3, f4, f5⟩ := hf it (by simp)
    have hia : a ≠ it := fun z => by
      obtain ⟨o, ho, hoc, _⟩ := p
      obtain ⟨o2, ho2, hoc2, _⟩ := hit
      rw [z, ho2] at ho
      cases ho
      rw [hoc] at hoc2
      exact absurd hoc2 (by simp)
    have hl := rv.length
    have hi2 : i = its.toArray.size := by rw [List.size_toArray]; omega
    subst hi2
    exact wpAny_pyNext_enum_endD (Draws.tuple (by simp [I.ok.hd hc]) it a hia its.toArray) he ⟨hit, p⟩ fun h' eb => ⟨rfl, I.turned (t' := s.toks) (fun b o hb q => eb b o hb q) f0 f1 f3 f4 f5⟩
  self := fun A i s Q E st h => let ⟨⟨_, he⟩, _⟩ := st; wpAny_pyIter_enum he h
theorem turn_enumS {P : Program} {w : World} {K : PySem.W.Frag} {elts : List Expr} {kk : Nat} {tpos : Pos} (z : Str) (t : Tok) (e it : Addr) :
    Turn P w K (.Tuple elts kk tpos) (Ites z) [e, it] e (fun i h => (∃ old, IsEnum h e it ((i : Nat) : Int) old) ∧ h.IsStrIter it (strIterType z) z t i ∧ e ≠ it) where
  mem := by simp
  obj := fun i h st b hb => by
    obtain ⟨⟨old, he⟩, ⟨o, ho, hc, hd⟩, _⟩ := st
    have e' : b = e ∨ b = it := by simpa using hb
    rcases e' with z | z
    · rw [z]; exact ⟨_, he, fun v q => nomatch q⟩
    · rw [z]; exact ⟨o, ho, fun v q => by rw [hd] at q; cases q⟩
  keep := fun i h h' st k => by
    obtain ⟨⟨old, he⟩, ⟨o, ho, hc, hd⟩, hne⟩ := st
    exact ⟨⟨old, k e (by simp) _ he⟩, ⟨o, k it (by simp) o ho, hc, hd⟩, hne⟩
  item := by
    intro X hP hw hK hc i pins s σ H E I hf st hg
    subst hP hw hK
    obtain ⟨⟨old, he⟩, hit, hne⟩ := st
    have hel : e < s.heap.objs.size := Heap.lt_size he
    have hil : it < s.heap.objs.size := by obtain ⟨_, q, _⟩ := hit; exact Heap.lt_size q
    refine wpAny_pyNext_enum_itemD (Draws.text (by simp [I.ok.hd hc]) it z t) he hit hg hne (by simp [hne]) fun y h' tk hy ho hit' hT hsz hk => ?_
    obtain ⟨c, v, hcx, rfl⟩ := hy
    refine ⟨_, rfl, wpAny_letOwnedTupleGo_enum (s := { s with heap := h', toks := tk + 1 }) ho fun h'' he' sb => ?_⟩
    have hT2 : h''.get? s.heap.objs.size = some { cls := .type "tuple", data := .seq #[.int i tk, .str ⟨#[c]⟩ v] } := (sb.2 _ (Nat.ne_of_gt hel)).trans hT
    have new : ObjOk X.prog X.w (upd H s.heap.objs.size (.tup [.int (i : Nat), .str ⟨#[c]⟩])) h'' s.heap.objs.size (.tup [.int (i : Nat), .str ⟨#[c]⟩]) :=
      ⟨by show 2 ≤ sizeLine; decide, [.int i tk, .str ⟨#[c]⟩ v], .cons ⟨_, rfl⟩ (.cons ⟨_, rfl⟩ .nil), ⟨_, hT2, rfl, _, rfl⟩⟩
    have I1 : Inv X pins σ (upd H s.heap.objs.size (.tup [.int (i : Nat), .str ⟨#[c]⟩])) { s with heap := h'', toks := tk + 1 } :=
      I.turnedNew (ch := [e, it]) (fun b ob hb q => (sb.2 b (fun z => hb (by simp [z]))).trans (hk b ob (fun z => hb (by simp [z])) (fun z => hb (by simp [z])) q)) hf (Nat.le_refl _) new
    refine ⟨.ref s.heap.objs.size, _, I1, rfl, ⟨_, c, rfl, I.hok.fresh (Nat.le_refl _), hcx, rfl⟩, ⟨⟨.str ⟨#[c]⟩ v, ?_⟩, ?_, hne⟩, fun b hb => ?_⟩
    · have e1 : ((i + 1 : Nat) : Int) = (i : Int) + 1 := by omega
      rw [e1]; exact he'
    · obtain ⟨o, ho2, hc2, hd2⟩ := hit'
      exact ⟨o, (sb.2 it (Ne.symm hne)).trans ho2, hc2, hd2⟩
    · have hb' : b < s.heap.objs.size := by
        have e' : b = e ∨ b = it := by simpa using hb
        rcases e' with z | z
        · rw [z]; exact hel
        · rw [z]; exact hil
      rw [upd_ne (Nat.ne_of_lt hb')]
      exact (hf b hb).1
  done := by
    intro X hP hw hK hc i pins s σ H E I hf st hg
    subst hP hw hK
    obtain ⟨⟨old, he⟩, hit, hne⟩ := st
    obtain ⟨f0, f1, f2, f3, f4, f5⟩ := hf it (by simp)
    have hi2 : i = z.cps.size := hg
    subst hi2
    exact wpAny_pyNext_enum_endD (Draws.text (by simp [I.ok.hd hc]) it z t) he hit fun h' eb => ⟨rfl, I.turned (t' := s.toks) (fun b o hb q => eb b o hb q) f0 f1 f3 f4 f5⟩
  self := fun A i s Q E st h => let ⟨⟨_, he⟩, _⟩ := st; wpAny_pyIter_enum he h
def iEnumT (K : PySem.W.Frag) (te : TE) : TI := fun σ H R => te σ H fun x H1 => ∃ a xs, x = .ref a ∧ SqT K H1 a xs ∧ R (Itet K a) H1
def iEnumS (te : TE) : TI := fun σ H R => te σ H fun x H1 => ∃ z, x = .str z ∧ R (Ites z) H1
section
variable {X : Cx} {e : Expr} {te : TE} {p pos tpos : Pos} {elts : List Expr} {kk : Nat}
theorem enum_le {n b : Nat} (e : b = n + 1 ∨ b = n) : n ≤ b := by omega
theorem pi_enumT (hg : Gl X "enumerate") (hm : X.mg "enumerate" = none) (he : PE X e te) (hs : starEach [e] X.env = (false, eval e X.env) :: starEach [] X.env := by rfl) :
    PI X (.Tuple elts kk tpos) (.Call (.Name "enumerate" p) [e] [] pos) (iEnumT X.K te) := by
  refine ⟨fun pins s σ H R I h => ?_⟩
  refine Call_ (ld_blt I hg hm boot_enumerate (PyProof.Rows.callWith_type1 (args_cons (thn (he.run pins s σ H _ I h) fun u s1 ⟨v, H1, I1, r1, q1⟩ => args_nil ?_) hs) hs rfl))
  obtain ⟨a, xs, ev, hq, q⟩ := q1
  subst ev
  obtain rfl : u = Value.ref a := r1
  obtain ⟨its, rv, p', hz⟩ := I1.tuple hq
  refine call_enum1 (begins_tuple a its.toArray) p' fun h' he hit hk => wpAny_pyIter_enum he ?_
  have I2 : Inv X pins σ H1 { s1 with heap := h' } := I1.kept (t' := s1.toks) hk
  refine ⟨s1.heap.objs.size + 1, [s1.heap.objs.size + 1, s1.heap.objs.size], _, _, H1, rfl, I2, turn_enumT a (s1.heap.objs.size + 1) s1.heap.objs.size, ⟨⟨.none, he⟩, ⟨_, hit, rfl, rfl⟩, Nat.succ_ne_self _⟩, fun b hb => ?_, q⟩
  have hle : s1.heap.objs.size ≤ b := enum_le (by simpa using hb)
  exact I1.fpOk hle (I1.hok.fresh hle)
theorem pi_enumS (hg : Gl X "enumerate") (hm : X.mg "enumerate" = none) (he : PE X e te) (hs : starEach [e] X.env = (false, eval e X.env) :: starEach [] X.env := by rfl) :
    PI X (.Tuple elts kk tpos) (.Call (.Name "enumerate" p) [e] [] pos) (iEnumS te) := by
  refine ⟨fun pins s σ H R I h => ?_⟩
  refine Call_ (ld_blt I hg hm boot_enumerate (PyProof.Rows.callWith_type1 (args_cons (thn (he.run pins s σ H _ I h) fun u s1 ⟨v, H1, I1, r1, q1⟩ => args_nil ?_) hs) hs rfl))
  obtain ⟨z, ev, q⟩ := q1
  subst ev
  obtain ⟨t, rfl⟩ : ∃ t, u = Value.str z t := r1
  refine call_enum1 (begins_text z t) trivial fun h' he hit hk => wpAny_pyIter_enum he ?_
  have I2 : Inv X pins σ H1 { s1 with heap := h' } := I1.kept (t' := s1.toks) hk
  refine ⟨s1.heap.objs.size + 1, [s1.heap.objs.size + 1, s1.heap.objs.size], _, _, H1, rfl, I2, turn_enumS z t (s1.heap.objs.size + 1) s1.heap.objs.size, ⟨⟨.none, he⟩, ⟨_, hit, rfl, rfl⟩, Nat.succ_ne_self _⟩, fun b hb => ?_, q⟩
  have hle : s1.heap.objs.size ≤ b := enum_le (by simpa using hb)
  exact I1.fpOk hle (I1.hok.fresh hle)
end
theorem w_enumT {K : PySem.W.Frag} {a : Addr} {xs : List V} : Walk (Itet K a) xs.length (fun H => SqT K H a xs) (fun i H v H' => ∃ T x, v = .ref T ∧ H T = none ∧ H' = upd H T (.tup [.int (i : Nat), x]) ∧ xs[i]? = some x) :=
  ⟨fun i H hi q => ⟨xs, xs[i], q, by simp [hi]⟩, fun H q => ⟨xs, q, rfl⟩, fun i H v H' hi q ⟨T, x, a, b, c, d⟩ => ⟨T, x, a, b, c, d xs q⟩⟩
theorem w_enumS {z : Str} : Walk (Ites z) z.cps.size (fun _ => True) (fun i H v H' => ∃ T c, v = .ref T ∧ H T = none ∧ H' = upd H T (.tup [.int (i : Nat), .str ⟨#[c]⟩]) ∧ z.cps[i]? = some c) :=
  ⟨fun i H hi q => hi, fun H q => rfl, fun i H v H' hi q ⟨T, c, a, b, d, e⟩ => ⟨T, c, a, b, e, d⟩⟩
theorem w_enum {K : PySem.W.Frag} {a : Addr} {xs : List V} : Walk (Ite K a) xs.length (fun H => SqL K H a xs) (fun i H v H' => ∃ T x, v = .ref T ∧ H T = none ∧ H' = upd H T (.tup [.int (i : Nat), x]) ∧ xs[i]? = some x) :=
  ⟨fun i H hi q => ⟨xs, xs[i], q, by simp [hi]⟩, fun H q => ⟨xs, q, Nat.le_refl _⟩, fun i H v H' hi q ⟨T, x, a, b, c, d⟩ => ⟨T, x, a, b, c, d xs q⟩⟩
end K57
set_option Elab.async false
set_option linter.all false
set_option maxRecDepth 100000
set_option maxHeartbeats 4000000
namespace K57
open PySem PySem.Spec PyProof.Rows L2
theorem vals_get : ∀ {xs : List V} {us : List Value}, us.length = xs.length → (∀ (j : Nat) (u : Value), us[j]? = some u → ∃ x, xs[j]? = some x ∧ RelV x u) → Vals xs us
  | [], [], _, _ => .nil
  | [], _ :: _, h, _ => by cases h
  | _ :: _, [], h, _ => by cases h
  | x :: xs, u :: us, h, hg => by
    obtain ⟨y, hy, ry⟩ := hg 0 u rfl
    simp only [List.getElem?_cons_zero, Option.some.injEq] at hy
    subst hy
    exact .cons ry (vals_get (Nat.succ.inj h) fun j v hv => by
      obtain ⟨z, hz, rz⟩ := hg (j + 1) v (by simpa using hv)
      exact ⟨z, by simpa using hz, rz⟩)
section
variable {X : Cx}
/-- list(text): its signs -/
theorem call_list_txt (hc : X.calm = true) : CallR X (.type "list") (fun xs H Q => ∃ z : Str, xs = [.str z] ∧ z.cps.size ≤ sizeLine ∧ ∀ p, H p = none → Q (.ref p) (upd H p (.lst (z.cps.toList.map fun c => .str ⟨#[c]⟩)))) := by
  intro pins s σ H xs us Q I r h
  obtain ⟨z, rfl, hz, q⟩ := h
  obtain ⟨u, rfl, t, rfl⟩ := vals1 r
  refine PySem.call_list_str (I.ok.hd hc) z t (hn := hz) fun h' tk acc c' hk hS hacc => ?_
  have rv : Vals (z.cps.toList.map fun c => V.str ⟨#[c]⟩) acc.toList := by
    refine vals_get (by rw [Array.length_toList, hacc.1, List.length_map, Array.length_toList]) fun j v hv => ?_
    obtain ⟨c, w, h1, rfl⟩ := hacc.2 j v (by rw [← Array.getElem?_toList]; exact hv)
    exact ⟨.str ⟨#[c]⟩, by rw [List.getElem?_map, Array.getElem?_toList, h1] <;> rfl, w, rfl⟩
  exact ⟨.ref _, upd H s.heap.objs.size (.lst (z.cps.toList.map fun c => .str ⟨#[c]⟩)), I.laid (t' := tk) hk (Nat.le_refl _) ⟨by rw [List.length_map, Array.length_toList]; exact hz, acc.toList, c', rv, by simpa using hS⟩, rfl, q _ (I.hok.fresh (Nat.le_refl _))⟩
end
/-! ### the press -/
/-- all but p stays -/
def SB (p : Addr) (H H2 : Hp) : Prop := ∀ b u, b ≠ p → H b = some u → H2 b = some u
theorem SB.refl (p : Addr) (H : Hp) : SB p H H := fun _ _ _ h => h
theorem SB.trans {p : Addr} {H H1 H2 : Hp} (a : SB p H H1) (b : SB p H1 H2) : SB p H H2 := fun x u h e => b x u h (a x u h e)
theorem _root_.L2.Same.sb {p : Addr} {H H2 : Hp} (a : Same H H2) : SB p H H2 := fun x u _ e => a x u e
theorem SB.upd (p : Addr) (H : Hp) (o : HO) : SB p H (upd H p o) := fun x u h e => by rw [upd_ne h]; exact e
/-- the press at p, its cells at c, with b turns left -/
def Press (H : Hp) (p c : Addr) (b : Nat) : Prop := ∃ (n r : Int) (cs : List Int), c ≠ p ∧ H p = some (.lst [.ref c, .int n, .int r]) ∧ H c = some (.lst (cs.map V.int)) ∧ 0 ≤ n ∧ n + b ≤ 1000000 ∧ cs.length ≤ 100
section
variable {H H2 : Hp} {p c D : Addr} {b : Nat} {o : HO}
theorem Press.same (h : Press H p c b) (s : Same H H2) : Press H2 p c b :=
  let ⟨n, r, cs, h1, h2, h3, h4⟩ := h; ⟨n, r, cs, h1, s p _ h2, s c _ h3, h4⟩
theorem Press.le {k : Nat} (h : Press H p c b) (l : k ≤ b) : Press H p c k :=
  let ⟨n, r, cs, h1, h2, h3, h4, h5, h6⟩ := h; ⟨n, r, cs, h1, h2, h3, h4, by omega, h6⟩
theorem Press.new (h : Press H p c b) (hD : H D = none) : D ≠ p ∧ D ≠ c :=
  let ⟨_, _, _, _, h2, h3, _⟩ := h; ⟨fun e => (by rw [e, h2] at hD; cases hD), fun e => (by rw [e, h3] at hD; cases hD)⟩
/-- something of one's own changes -/
theorem Press.mut (h : Press H p c b) (hp : D ≠ p ∧ D ≠ c) : Press (upd H D o) p c b :=
  let ⟨n, r, cs, h1, h2, h3, h4⟩ := h; ⟨n, r, cs, h1, by rw [upd_ne (Ne.symm hp.1)]; exact h2, by rw [upd_ne (Ne.symm hp.2)]; exact h3, h4⟩
end
end K57
set_option Elab.async false
set_option linter.all false
set_option maxRecDepth 100000
set_option maxHeartbeats 4000000
/-! o.f as a target; // by any great divisor; != and the truth of own instances -/
namespace K57
open PySem PySem.Spec PyProof.Rows L2
section
variable {X : Cx} {o : Expr} {f : Str} {pos : Pos} {to : TE}
/-- o.f as a target -/
def gAttr (K : PySem.W.Frag) (to : TE) (f : Str) : TG := fun v σ H Q => to σ H fun x H1 => ∃ a C dx fs, x = .ref a ∧ H1 a = some (.ins C dx fs) ∧ Cls K C ∧ NoAttr K C f ∧ fs.length < 1000 ∧ Q σ (upd H1 a (.ins C dx (putF f v fs)))
theorem pg_attr {K : PySem.W.Frag} (hK : X.K = K) (ho : PE X o to) : PG X (.Attribute o f pos) (gAttr K to f) := by
  refine ⟨fun pins s σ H v u Q I r h => ?_⟩
  subst hK
  rw [arm_assign_Attribute]
  refine wpAny_bind (wpAny_holding (thn (ho.run pins s σ H _ I h) fun ov s1 ⟨x, H1, I1, r1, a, C, dx, fs, ex, ea, c, n, l, q⟩ => ?_))
  subst ex
  obtain rfl : ov = Value.ref a := r1
  refine wpAny_bind (wpAny_standAt (wpAny_bind (wpAny_holding (setattr_ok I1 ea c n l r fun s2 I2 => ?_))))
  exact wpAny_release ⟨σ, _, I2, q⟩
/-- // by a divisor of either sign below 2 ^ 9000 -/
def CDivX (_ j : Int) : Prop := j ≠ 0 ∧ j.natAbs.log2 < 9000
theorem op_fdivX : OpR X (binaryOp .FloorDiv) (rI CDivX fun i j => .int (i.fdiv j)) := opI fun _ _ _ _ _ _ _ hc q => floordiv_int hc.1 q (.inl (PyProof.noPylong_of_log2 hc.2))
end
/-! ### != of own instances -/
theorem slot_obj_ne : Slot "object" "__ne__" "object.__ne__" :=
  .of (owner := "object") (n := "__ne__") (by rw [typeLookup_type, builtinLookup_eq_fast]; kernel_rfl) (by decide +kernel) (by decide +kernel) (by decide +kernel)
    (by first | exact .inl (by decide +kernel) | exact .inr (by decide +kernel)) (by rw [isSubtype_type]; kernel_rfl)
section
open PySem.W
variable {prog : Program} {w : World} {A : Around} {E : Value → Shared → Prop} {s : Shared} {K : Frag} {x y C f : Addr} {ox oy : Obj} {od od' : Option Obj}
theorem objNe (hu : A.units < cLine) (X : K.In s.heap) (I : InstAt s.heap x ox C od) (heq : findIn K (.ref C) "__eq__" = some (some (.ref f))) (hf : isFn K (.ref f) = true) {Q : Fin → Shared → Prop}
    (hcall : wpAny (model prog w) A (call (.ref f) [.ref x, .ref y]) (fun v s' => ∃ b, v = .bool b ∧ Q (.done (.ret (.bool (!b)))) s') E s) :
    wpAny (model prog w) A (Builtin.«object.__ne__» ⟨[.ref x, .ref y], []⟩) Q E s := by
  unfold Builtin.«object.__ne__»
  repeat (first
    | with_reducible refine wpAny_cRoomFor hu ?_
    | (refine wpAny_bind (m := callSpecialIfBound? (.ref x) (Str.ofString "__eq__") [.ref y])
        (ifBound_K X I heq hf (wpAny_mono hcall (fun r s' hr => by
          obtain ⟨b, rfl, hq⟩ := hr
          repeat (first | exact hq | exact wpAny_pure hq | exact wpAny_truthy_bool hq | (refine wpAny_bind (m := truthy (.bool _)) (wpAny_truthy_bool ?_)) | wp_step)) fun _ _ e => e)))
    | wp_step)
theorem ne_ins (hu : A.units + 1 < cLine) (X : K.In s.heap) (I : InstAt s.heap x ox C od) (J : InstAt s.heap y oy C od') (hne : findIn K (.ref C) "__ne__" = some (some (.builtin "object.__ne__")))
    (heq : findIn K (.ref C) "__eq__" = some (some (.ref f))) (hf : isFn K (.ref f) = true) (hsub : mroIn K C (.type "object") = some true) {Q : Value → Shared → Prop}
    (hcall : wpAny (model prog w) A.in1 (call (.ref f) [.ref x, .ref y]) (fun v s' => ∃ b, v = .bool b ∧ Q (.bool (!b)) s') E s) :
    wpAny (model prog w) A (richCompare .NotEq (.ref x) (.ref y)) Q E s := by
  have one : wpAny (model prog w) A (tryCompare (.ref x) "__ne__" (.ref y)) (fun r s' => ∃ b, r = some (.bool b) ∧ Q (.bool b) s') E s := by
    unfold tryCompare
    have inner : wpAny (model prog w) A (call (.builtin "object.__ne__") [.ref x, .ref y]) (fun v s' => ∃ b, v = .bool b ∧ Q (.bool b) s') E s := by
      refine wpAny_call (codeAny_call_builtin slot_obj_ne.plain PySem.F.cmpEntry_ne ?_)
      refine check_slot PySem.F.cmpKind_ne PySem.F.cmpSplit_ne (I.type.andThen (looks_mroIn X hsub)) (PySem.F.cmpArgs_ne _ _) ?_
      refine objNe (by exact hu) X I heq hf (wpAny_mono hcall (fun v s' hv => ?_) fun _ _ e => e)
      obtain ⟨b, rfl, hq⟩ := hv
      exact ⟨b, rfl, _, rfl, hq⟩
    have fin : wpAny (model prog w) A (call (.builtin "object.__ne__") ([.ref x] ++ [.ref y]) >>= fun v => pure (some v)) (fun r s' => ∃ b, r = some (.bool b) ∧ Q (.bool b) s') E s :=
      wpAny_bind (wpAny_mono inner (fun v s' ⟨b, e, q⟩ => wpAny_pure ⟨b, by rw [e], q⟩) fun _ _ h' => h')
    have got : wpAny (model prog w) A (callSpecialIfBound? (.ref x) "__ne__" [.ref y]) (fun r s' => ∃ b, r = some (.bool b) ∧ Q (.bool b) s') E s := by
      simp only [callSpecialIfBound?, bindSpecialIfBound?]
      refine wpAny_holding (wpAny_bind (wpAny_bind (wpAny_bind (I.type.here ((looks_findIn X hne).here ?_)))))
      refine wpAny_bind (wpAny_askSetting (wpAny_ite ?_))
      split
      · exact wpAny_bind (wpAny_of_eq (slot_obj_ne.bind _) (wpAny_pure (by exact fin)))
      · exact wpAny_tryCatch (wpAny_bind (wpAny_of_eq (slot_obj_ne.bind _) (wpAny_pure (by exact fin))))
    refine wpAny_bind (wpAny_mono got (fun r s' hr => ?_) fun _ _ h' => h')
    obtain ⟨b, rfl, hq⟩ := hr
    exact wpAny_pure ⟨b, rfl, hq⟩
  unfold richCompare
  simp only [oneThing_ref]
  refine wpAny_holding (wpAny_bind (wpAny_cRoomFor (Nat.lt_of_succ_lt hu) ?_))
  rw [cmpInfo_NotEq]
  dsimp only
  refine wpAny_bind (I.type.here (wpAny_bind (J.type.here ?_)))
  rw [show (Value.ref C != Value.ref C) = false from by simp]
  simp only [Bool.false_eq_true, if_false]
  refine wpAny_bind (wpAny_pure ?_)
  simp only [Bool.false_eq_true, if_false]
  refine wpAny_bind (wpAny_mono one (fun r s' hr => ?_) fun _ _ e => e)
  obtain ⟨b, rfl, hq⟩ := hr
  exact wpAny_pure hq
end
section
variable {X : Cx} {n : Nat}
/-- x != y of instances of C: their own == says True -/
def rNeI (C : Addr) (R : Addr → Addr → Hp → Prop) : R2 := fun x y H Q => DIns C R x y H ∧ ∀ H', Ext H H' → Q (.bl false) H'
theorem op_neI {CX : CXT} {C f : Addr} {fd : FuncData} {ps : List Str} {R : Addr → Addr → Hp → Prop} {E : XK} (F : FnOk X.prog X.w X.K X.mg X.base CX n f fd ps (spEq R)) (hr : Room (n + 1) X.A)
    (hne : PySem.W.findIn X.K (.ref C) "__ne__" = some (some (.builtin "object.__ne__"))) (hsub : PySem.W.mroIn X.K C (.type "object") = some true)
    (hs : PySem.W.findIn X.K (.ref C) "__eq__" = some (some (.ref f))) (hf : PySem.W.isFn X.K (.ref f) = true) (hb : Binds X.K fd ps []) (hx : Passes CX X E) : OpR X (compareOp .NotEq) (rNeI C R) := by
  intro pins s σ H x y v u Q I rx ry h
  obtain ⟨⟨a, b, dx, dy, fs, gs, rfl, rfl, ha, hb', hR⟩, q⟩ := h
  cases rx
  cases ry
  obtain ⟨mA, J, _⟩ := ins_get I.hok ha
  obtain ⟨mB, J', _⟩ := ins_get I.hok hb'
  obtain ⟨od, J, _⟩ := J.look
  obtain ⟨od', J', _⟩ := J'.look
  show wpAny (model X.prog X.w) X.A (richCompare .NotEq (.ref a) (.ref b)) (EP X pins σ Q) X.xe s
  refine ne_ins (K := X.K) (hu_of hr) I.kIn J J' hne hs hf hsub ?_
  have hsp : spEq R [.ref a, .ref b] H (fun v H' => v = .bl true ∧ Ext H H') E := ⟨a, b, rfl, hR, fun H' e => ⟨rfl, e⟩⟩
  have e0 : Env0 X.prog X.w X.K X.mg X.base X.A.in1 X.stack s H := by
    have e := I.env0
    exact ⟨by show X.A.in1.frames = _; exact e.frames, e.mod, e.bs, e.bsz, e.funs, e.frf, e.hok, e.bare⟩
  have hl := F.len _ _ _ _ hsp
  have r2 : Vals [V.ref a, V.ref b] [Value.ref a, Value.ref b] := .cons rfl (.cons rfl .nil)
  refine wpAny_call (codeAny_mono (F.run X.A.in1 X.stack s H ⟨[.ref a, .ref b], []⟩ [.ref a, .ref b] [.ref a, .ref b] _ E hr.in1 e0 (by
    have := hb s [.ref a, .ref b] I.kIn (by simpa using hl)
    simpa using this) r2 hsp) fun r s' hq => ?_)
  cases r with
  | error e => exact hx pins σ H s e s' I hq
  | ok fl =>
    cases fl with
    | ret w =>
      obtain ⟨z, H', I', rz, ez, ex⟩ := I.after hq
      subst ez
      cases rz
      exact ⟨true, rfl, .bl false, H', I', rfl, q H' ex⟩
    | next => exact False.elim hq
    | brk => exact False.elim hq
    | cont => exact False.elim hq
/-- the truth of an instance of C with an own __bool__ that says b -/
def spB (b : Bool) : Sp := fun vs H Q _ => ∃ a, vs = [.ref a] ∧ ∀ H', Same H H' → Q (.bl b) H'
theorem tru_ins {CX : CXT} {C f : Addr} {fd : FuncData} {ps : List Str} {b : Bool} {E : XK} (F : FnOk X.prog X.w X.K X.mg X.base CX n f fd ps (spB b)) (hr : Room n X.A)
    (hs : PySem.W.findIn X.K (.ref C) "__bool__" = some (some (.ref f))) (hf : PySem.W.isFn X.K (.ref f) = true) (hb : Binds X.K fd ps []) (hx : Passes CX X E) :
    TruR X (fun x H Q => ∃ a dx fs, x = .ref a ∧ H a = some (.ins C dx fs) ∧ ∀ H', Same H H' → Q b H') := by
  intro pins s σ H x v Q I rx h
  obtain ⟨a, dx, fs, rfl, ha, q⟩ := h
  cases rx
  obtain ⟨mA, J, _⟩ := ins_get I.hok ha
  obtain ⟨od, J, _⟩ := J.look
  obtain ⟨m, hF⟩ := I.fr
  refine PySem.W.truthy_K hF I.ok.mod.kin J hs hf ?_
  have hsp : spB b [.ref a] H (fun v H' => v = .bl b ∧ Same H H') E := ⟨a, rfl, fun H' e => ⟨rfl, e⟩⟩
  have hl := F.len _ _ _ _ hsp
  have r2 : Vals [V.ref a] [Value.ref a] := .cons rfl .nil
  refine wpAny_call (codeAny_mono (F.run X.A X.stack s H ⟨[.ref a], []⟩ [.ref a] [.ref a] _ E hr I.env0 (by
    have := hb s [.ref a] I.kIn (by simpa using hl)
    simpa using this) r2 hsp) fun r s' hq => ?_)
  cases r with
  | error e => exact hx pins σ H s e s' I hq
  | ok fl =>
    cases fl with
    | ret w =>
      obtain ⟨z, H', I', rz, ez, ex⟩ := I.after hq
      subst ez
      cases rz
      exact ⟨H', I', q H' ex⟩
    | next => exact False.elim hq
    | brk => exact False.elim hq
    | cont => exact False.elim hq
end
end K57
set_option Elab.async false
set_option linter.all false
set_option maxRecDepth 100000
set_option maxHeartbeats 4000000
/-! for pair in d.items(): one name is the target -/
namespace K57
open PySem PySem.Spec PyProof.Rows L2
open PySem.W (KdxIt)
section
variable {prog : Program} {w : World} {A : Around} {E : Value → Shared → Prop} {s : Shared}
theorem alive_any {M : Model} {a : Addr} {Q : Option Obj → Shared → Prop} (h : Q (s.heap.get? a) s) : wpAny M A (loadIfAlive a) Q E s := fun _ _ _ => h
/-- the next pair, whatever became of the last one -/
theorem next_pair {it d a : Addr} {f : Bool} {i ep : Nat} {es : Array DictEntry} {ok ov : Value} {Q : Option Value → Shared → Prop} (hit : KdxIt s.heap it d i es.size ep ok ov a f) (hm : s.heap.DictRaw d es ep) (hlt' : i < es.size)
    (hQ : ∀ h' a' f' ok' ov', KdxIt h' it d (i + 1) es.size ep ok' ov' a' f' → h'.get? s.heap.objs.size = some { cls := .type "tuple", data := .seq #[es[i].key, es[i].val] } →
      (∀ b o, b ≠ it → s.heap.get? b = some o → h'.get? b = some o) → Q (some (.ref s.heap.objs.size)) { s with heap := h' }) : wpAny (model prog w) A (pyNext (.ref it)) Q E s := by
  obtain ⟨hp, g, dr, tk, os⟩ := s
  obtain ⟨od, hod, hcd, hdd⟩ := id hm
  have hT : Shared.TypeIs ⟨hp, g, dr, tk, os⟩ (.ref it) "dict_itemiterator" := ⟨_, hit, rfl⟩
  unfold pyNext
  refine wpAny_bind (wpAny_attempt (wpAny_callSpecial?_slot (name := Str.ofString "__next__") hT PySem.F.slot_dict_itemiterator_next
    (wpAny_call_entry PySem.F.slot_dict_itemiterator_next hT PySem.F.entry_dict_itemiterator_next ?_ (PySem.F.args_dict_itemiterator_next_1 _))))
  refine wpAny_bind (wpAny_pure ?_)
  refine wpAny_bind ?_
  refine wpAny_bind ?_
  first | refine wpAny_bind (wpAny_typeNameOfWhole_itemiter hT (wpAny_pure ?_)) | refine wpAny_bind (wpAny_typeNameOf_itemiter hT (wpAny_pure ?_))
  refine wpAny_bind (wpAny_fieldsOf hit rfl ?_)
  simp only [show Builtin.Dict_items.ownsTuple "dict_itemiterator" = true by decide, if_true]
  show wpAny _ _ (if (Value.ref d == Value.none) = true then _ else _) _ _ _
  rw [if_neg (show ¬ ((Value.ref d == Value.none) = true) from Bool.false_ne_true)]
  refine wpAny_bind (wpAny_pure ?_)
  refine wpAny_bind (wpAny_dictEntries hod hdd ?_)
  rw [if_neg (by simp)]
  refine wpAny_bind (wpAny_pure ?_)
  refine wpAny_bind (wpAny_dictEpoch hod hdd ?_)
  rw [if_neg (by simp)]
  refine wpAny_pure ?_
  simp only [show ¬ ((i : Int) < 0) from by omega, if_false, Int.toNat_natCast, Array.getElem?_eq_getElem hlt']
  refine wpAny_bind ?_
  first | refine wpAny_bind (wpAny_typeNameOfWhole_itemiter hT (wpAny_pure ?_)) | refine wpAny_bind (wpAny_typeNameOf_itemiter hT (wpAny_pure ?_))
  refine wpAny_bind (wpAny_isOneOf_itemiter hT ?_)
  show wpAny _ _ (setField (.ref it) 3 (rawInt ((i : Int) + 1)) >>= _) _ _ ⟨hp, g, dr, tk, os⟩
  refine wpAny_bind (wpAny_setField_rec hit (by simp) fun h₁ he₁ hs₁ => ?_)
  replace hs₁ : Heap.SameBut it hp h₁ := hs₁
  replace he₁ : KdxIt h₁ it d (i + 1) es.size ep ok ov a f := by
    have e : ((i + 1 : Nat) : Int) = (i : Int) + 1 := by omega
    unfold KdxIt; rw [e]; simpa [rawInt] using he₁
  have hT₁ : Shared.TypeIs ⟨h₁, g, dr, tk, os⟩ (.ref it) "dict_itemiterator" := ⟨_, he₁, rfl⟩
  refine wpAny_bind (wpAny_holding ?_)
  refine wpAny_bind (wpAny_isOneOf_itemiter hT₁ ?_)
  refine wpAny_bind (wpAny_isOneOf_itemiter hT₁ ?_)
  show wpAny _ _ (Builtin.Dict_items.pairFromOwner (.ref it) 6 es[i].key es[i].val) _ _ ⟨h₁, g, dr, tk, os⟩
  unfold Builtin.Dict_items.pairFromOwner
  refine wpAny_bind (wpAny_newTuple ?_)
  have he₂ : KdxIt (h₁.push { cls := .type "tuple", data := .seq #[es[i].key, es[i].val] }) it d (i + 1) es.size ep ok ov a f := Heap.get?_push_of_some _ he₁
  generalize hh₂ : h₁.push { cls := .type "tuple", data := .seq #[es[i].key, es[i].val] } = h₂ at he₂
  have hz₁ : h₁.objs.size = hp.objs.size := hs₁.1
  have hil : it < hp.objs.size := Heap.lt_size hit
  have ht₂ : h₂.get? hp.objs.size = some { cls := .type "tuple", data := .seq #[es[i].key, es[i].val] } := by rw [← hh₂, ← hz₁]; exact Heap.get?_push_size _ rfl
  have hk₂ : ∀ b o, b ≠ it → hp.get? b = some o → h₂.get? b = some o := fun b o hb e => by rw [← hh₂]; exact Heap.get?_push_of_some _ (hs₁.extBut b o hb e)
  show wpAny _ _ (Builtin.Dict_items.ownedTupleIsFree (.ref it) >>= _) _ _ ⟨h₂, g, dr, tk, os⟩
  rw [hz₁]
  clear hh₂ he₁ hs₁ hT₁ hz₁ h₁
  have fin : ∀ (h₃ : Heap) a' f' ok' ov', KdxIt h₃ it d (i + 1) es.size ep ok' ov' a' f' → Heap.SameBut it h₂ h₃ → Q (some (.ref hp.objs.size)) ⟨h₃, g, dr, tk, os⟩ := fun h₃ a' f' ok' ov' he₃ hs₃ =>
    hQ h₃ a' f' ok' ov' he₃ (by exact hs₃.extBut _ _ (Nat.ne_of_gt hil) ht₂) fun b o hb e => hs₃.extBut b o hb (hk₂ b o hb e)
  refine wpAny_bind ?_
  unfold Builtin.Dict_items.ownedTupleIsFree
  refine wpAny_bind (wpAny_field he₂ rfl (x := rawInt a) rfl ?_)
  show wpAny _ _ (loadIfAlive ((a : Int).toNat) >>= _) _ _ _
  rw [Int.toNat_natCast]
  refine wpAny_bind (alive_any ?_)
  cases hal : (Shared.heap ⟨h₂, g, dr, tk, os⟩).get? a with
  | some oa =>
    simp only [Option.isNone_some, Bool.false_eq_true, if_false]
    refine wpAny_bind (wpAny_field he₂ rfl (x := .bool f) rfl ?_)
    cases f with
    | true =>
      rw [if_neg (show ¬ ((Value.bool true != Value.bool true) = true) from Bool.false_ne_true)]
      refine wpAny_pure ?_
      simp only [Bool.false_eq_true, if_false]
      exact wpAny_pure (wpAny_pure ⟨_, rfl, wpAny_pure (fin h₂ _ _ _ _ he₂ (Heap.SameBut.refl _ _))⟩)
    | false =>
      rw [if_pos (show (Value.bool false != Value.bool true) = true from rfl)]
      refine wpAny_bind (wpAny_setField_rec he₂ (by simp) fun h₃ he₃ hs₃ => ?_)
      replace he₃ : KdxIt h₃ it d (i + 1) es.size ep ok ov a true := he₃
      refine wpAny_pure ?_
      simp only [Bool.false_eq_true, if_false]
      exact wpAny_pure (wpAny_pure ⟨_, rfl, wpAny_pure (fin h₃ _ _ _ _ he₃ hs₃)⟩)
  | none =>
    simp only [Option.isNone_none, if_true]
    refine wpAny_pure ?_
    simp only [if_true]
    refine wpAny_bind (wpAny_field he₂ rfl (x := ok) rfl ?_)
    refine wpAny_bind (wpAny_field he₂ rfl (x := ov) rfl ?_)
    refine wpAny_bind (wpAny_setField_rec he₂ (by simp) fun h₃ he₃ hs₃ => ?_)
    replace hs₃ : Heap.SameBut it h₂ h₃ := hs₃
    replace he₃ : KdxIt h₃ it d (i + 1) es.size ep es[i].key ov a f := he₃
    refine wpAny_bind (wpAny_setField_rec he₃ (by simp) fun h₄ he₄ hs₄ => ?_)
    replace hs₄ : Heap.SameBut it h₃ h₄ := hs₄
    replace he₄ : KdxIt h₄ it d (i + 1) es.size ep es[i].key es[i].val a f := he₄
    refine wpAny_bind (wpAny_setField_rec he₄ (by simp) fun h₅ he₅ hs₅ => ?_)
    replace hs₅ : Heap.SameBut it h₄ h₅ := hs₅
    replace he₅ : KdxIt h₅ it d (i + 1) es.size ep es[i].key es[i].val hp.objs.size f := he₅
    refine wpAny_bind (wpAny_setField_rec he₅ (by simp) fun h₆ he₆ hs₆ => ?_)
    replace hs₆ : Heap.SameBut it h₅ h₆ := hs₆
    replace he₆ : KdxIt h₆ it d (i + 1) es.size ep es[i].key es[i].val hp.objs.size false := he₆
    exact wpAny_bind (wpAny_letGo (wpAny_pure (wpAny_pure ⟨_, rfl, wpAny_pure (fin h₆ _ _ _ _ he₆ (hs₃.trans (hs₄.trans (hs₅.trans hs₆))))⟩)))
end
/-- where the iterator stands -/
def ItAt (h : Heap) (it d : Addr) (i n ep : Nat) : Prop := (∃ ok ov, IsItemIter h it d i n ep ok ov) ∨ ∃ ok ov a f, KdxIt h it d i n ep ok ov a f
section
variable {P : Program} {w : World} {K : PySem.W.Frag} {d : Addr} {o : Obj} {es : Array DictEntry} {ep : Nat}
theorem turn_itemsN {kvs : List (Key × V)} {x : Str} {npos : Pos} (it : Addr) (hod : o.data = .dict es ep) :
    Turn P w K (.Name x npos) (Iti d o kvs) [it] it (fun i h => ItAt h it d i kvs.length ep) where
  mem := by simp
  obj := fun i h st b hb => by
    have e : b = it := by simpa using hb
    subst e
    rcases st with ⟨ok, ov, e⟩ | ⟨ok, ov, a, f, e⟩
    · exact ⟨_, e, fun v z => nomatch z⟩
    · exact ⟨_, e, fun v z => nomatch z⟩
  keep := fun i h h' st k => by
    rcases st with ⟨ok, ov, e⟩ | ⟨ok, ov, a, f, e⟩
    · exact .inl ⟨ok, ov, k it (by simp) _ e⟩
    · exact .inr ⟨ok, ov, a, f, k it (by simp) _ e⟩
  item := by
    intro X hP hw hK hc i pins s σ H E I hf st hg
    subst hP hw hK
    obtain ⟨hd, hi⟩ := hg
    obtain ⟨hs, hgd, hx, es', ep', vs, hdt, hsz, kv, hm⟩ := I.frzK hd
    obtain ⟨rfl, rfl⟩ := dict_ep hod hdt
    obtain ⟨⟨k, v⟩, hkv⟩ : ∃ p, kvs[i]? = some p := ⟨kvs[i], List.getElem?_eq_getElem hi⟩
    obtain ⟨u, hu, ru⟩ := kv_get kv hkv
    have hl : kvs.length = vs.length := Paired.length kv
    obtain ⟨es2, hraw, hsz2, hent⟩ := Heap.DictAt.raw hm
    have hi2 : i < es2.size := by omega
    obtain ⟨hke, hve⟩ := hent i hi2 k u hu
    have hlt : it < s.heap.objs.size := by
      rcases st with ⟨ok, ov, e⟩ | ⟨ok, ov, a, f, e⟩
      · exact Heap.lt_size e
      · exact Heap.lt_size e
    have go : ∀ h', (ItAt h' it d (i + 1) kvs.length ep') → h'.get? s.heap.objs.size = some { cls := .type "tuple", data := .seq #[es2[i].key, es2[i].val] } → (∀ b o, b ≠ it → s.heap.get? b = some o → h'.get? b = some o) →
        ∃ u, some (Value.ref s.heap.objs.size) = some u ∧ wpAny (model X.prog X.w) X.A (letOwnedTupleGo (.Name x npos) (.ref it) u) (fun _ s2 => ∃ x H', Inv X pins σ H' s2 ∧ RelV x u ∧ (Iti d o kvs).yld i H x H' ∧ ItAt s2.heap it d (i + 1) kvs.length ep' ∧ ∀ b ∈ [it], H' b = none) E { s with heap := h' } := by
      intro h' st' hT hk
      have new : ObjOk X.prog X.w (upd H s.heap.objs.size (.tup [kV k, v])) h' s.heap.objs.size (.tup [kV k, v]) :=
        ⟨by show 2 ≤ sizeLine; decide, [es2[i].key, es2[i].val], .cons (relV_key (show keyIs k es2[i].key = true from hke)) (.cons (by rw [hve]; exact ru) .nil), ⟨_, hT, rfl, _, rfl⟩⟩
      have I1 : Inv X pins σ (upd H s.heap.objs.size (.tup [kV k, v])) { s with heap := h' } :=
        I.turnedNew (t' := s.toks) (ch := [it]) (fun b ob hb e => hk b ob (by simpa using hb) e) hf (Nat.le_refl _) new
      refine ⟨_, rfl, ?_⟩
      show wpAny _ _ (pure ()) _ _ _
      refine wpAny_pure ⟨.ref s.heap.objs.size, _, I1, rfl, ⟨_, k, v, hkv, rfl, I.hok.fresh (Nat.le_refl _), rfl⟩, st', fun b hb => ?_⟩
      have e : b = it := by simpa using hb
      rw [e, upd_ne (Nat.ne_of_lt hlt)]
      exact (hf it (by simp)).1
    have hn : kvs.length = es2.size := by omega
    rcases st with ⟨ok, ov, he⟩ | ⟨ok, ov, a, f, he⟩
    · rw [hn] at he
      refine wpAny_pyNext_items_item_raw he hraw hi2 fun h' ho hT hz hk => go h' (by rw [hn]; exact .inr ⟨_, _, _, _, ho⟩) hT hk
    · rw [hn] at he
      refine next_pair he hraw hi2 fun h' a' f' ok' ov' ho hT hk => go h' (by rw [hn]; exact .inr ⟨_, _, _, _, ho⟩) hT hk
  done := by
    intro X hP hw hK hc i pins s σ H E I hf st hg
    subst hP hw hK
    obtain ⟨hd, hi⟩ := hg
    obtain ⟨hs, hgd, hx, es', ep', vs, hdt, hsz, kv, hm⟩ := I.frzK hd
    obtain ⟨rfl, rfl⟩ := dict_ep hod hdt
    obtain ⟨f0, f1, f2, f3, f4, f5⟩ := hf it (by simp)
    have hl : kvs.length = vs.length := Paired.length kv
    obtain ⟨es2, hraw, hsz2, hent⟩ := Heap.DictAt.raw hm
    have hn : kvs.length = es2.size := by omega
    rcases st with ⟨ok, ov, he⟩ | ⟨ok, ov, a, f, he⟩
    · rw [hn] at he
      exact wpAny_pyNext_items_end_raw (I.ok.hd hc) he hraw (by omega) fun h' eb => ⟨rfl, I.turned (t' := s.toks) (fun b ob hb e => eb b ob hb e) f0 f1 f3 f4 f5⟩
    · rw [hn] at he
      exact wpAny_pyNext_items_end_out_raw (I.ok.hd hc) he hraw (by omega) fun h' eb => ⟨rfl, I.turned (t' := s.toks) (fun b ob hb e => eb b ob hb e) f0 f1 f3 f4 f5⟩
  self := fun A i s Q E st h => by
    rcases st with ⟨ok, ov, e⟩ | ⟨ok, ov, a, f, e⟩
    · exact PySem.W.kcp_self e h
    · have hT : s.TypeIs (.ref it) "dict_itemiterator" := ⟨_, e, rfl⟩
      refine wpAny_pyIter_slot hT PySem.F.slot_dict_itemiterator_iter (wpAny_call_entry PySem.F.slot_dict_itemiterator_iter hT PySem.W.kcp_entry ?_ (PySem.F.args_dict_itemiterator_iter_1 _))
      show wpAny _ _ (ret (.ref it)) _ _ s
      exact wpAny_pure ⟨_, rfl, "dict_itemiterator", _, hT, PySem.F.slot_dict_itemiterator_next.lookup, h⟩
end
section
variable {X : Cx} {e : Expr} {td : TE} {apos cpos : Pos}
theorem pi_itemsN {x : Str} {npos : Pos} (he : PE X e td) (hbase : attributeBase e "items" X.env (eval e X.env) = eval e X.env := by rfl) (hline : (apos.endLine == cpos.line) = true := by rfl) :
    PI X (.Name x npos) (.Call (.Attribute e "items" apos) [] [] cpos) (iItems td) := by
  refine ⟨fun pins s σ H R I h => ?_⟩
  refine wpAny_Call_method (T := "dict") (id := "dict.items") hbase rfl hline PySem.F.plainAttrs_dict PySem.F.slot_dict_items PySem.F.type_dict_items (thn (he.run pins s σ H _ I h) fun u s1 ⟨x', H1, I1, rx, d, o, kvs, ex, hd, q⟩ => ?_)
  subst ex
  obtain rfl : u = Value.ref d := rx
  obtain ⟨hs, hgd, hx, es, ep, vs, hdt, hsz, kv, hm⟩ := I1.frzK hd
  have hl : kvs.length = vs.length := Paired.length kv
  refine ⟨hm.dictOf.typeIs, hm.dictOf.mapOf.noDict, ?_⟩
  have I2 : Inv X pins σ H1 { s1 with heap := s1.heap.push { cls := .type "dict_items", data := .fields #[.ref d] } } := I1.kept (t' := s1.toks) fun b ob q => Heap.get?_push_of_some _ q
  have fin : wpAny (model X.prog X.w) X.A (pyIter (.ref s1.heap.objs.size)) (PIE X pins σ (.Name x npos) R) X.xe { s1 with heap := s1.heap.push { cls := .type "dict_items", data := .fields #[.ref d] } } := by
    refine wpAny_pyIter_items (d := d) (knd := mixKind X.prog X.w) ⟨_, Heap.get?_push_size _ rfl, rfl, rfl⟩ (hm.push _) (pi_one (tk := s1.toks) I2 _ (turn_itemsN _ hdt) (.inl ⟨.none, .none, ?_⟩) q)
    rw [hl]
    exact Heap.get?_push_size _ rfl
  show wpAny _ _ (callWith cpos (.builtin "dict.items") [.ref d] [] []) _ X.xe s1
  exact method_meetsIn PySem.F.slot_dict_items PySem.F.entry_dict_items rfl (PySem.evalArgs_none ⟨rfl, hm.dictOf.typeIs, PySem.F.args_dict_items_1 _, _, meets_dict_items (mixKind X.prog X.w) d hs, ⟨vs, hm.dictOf⟩, fin⟩)
end
end K57
set_option Elab.async false
set_option linter.all false
set_option maxRecDepth 100000
set_option maxHeartbeats 4000000
namespace K57
open PySem PySem.Spec PyProof.Rows L2
/-- a tuple whose object has no dict -/
def TzT (H : Hp) (a : Addr) (xs : List V) : Prop := ∃ o, H a = some (.frz o (.tup xs)) ∧ o.cls = .type "tuple" ∧ o.dict = none
theorem TzT.sqt {K : PySem.W.Frag} {H : Hp} {a : Addr} {xs : List V} (h : TzT H a xs) : SqT K H a xs := let ⟨o, h, _⟩ := h; .inl (.inr ⟨o, h⟩)
theorem TzT.mono {H H2 : Hp} {a : Addr} {xs : List V} (h : TzT H a xs) (m : Same H H2) : TzT H2 a xs := let ⟨o, h, r⟩ := h; ⟨o, m a _ h, r⟩
section
variable {X : Cx} {pos : Pos} {K : PySem.W.Frag}
/-- tuple(list), told more -/
theorem call_tuple_ofZ (hK : X.K = K) : CallR X (.type "tuple") (fun xs H Q => ∃ p ys, xs = [.ref p] ∧ SqL K H p ys ∧ ∀ l o, H l = none → o.cls = .type "tuple" → o.dict = none → Q (.ref l) (upd H l (.frz o (.tup ys)))) := by
  subst hK
  intro pins s σ H xs us Q I r h
  obtain ⟨p, ys, rfl, hq, q⟩ := h
  obtain ⟨u, rfl, rx⟩ := vals1 r
  cases rx
  obtain ⟨its, r', pl, hz⟩ := I.list hq
  have hlen := r'.length
  refine call_tuple_list pl.isList (fun h' kp => ?_) (by simp only [List.size_toArray] <;> omega)
  have I1 : Inv X pins σ H { s with heap := h' } := I.kept (t' := s.toks) kp
  have I2 : Inv X pins σ (upd H h'.objs.size (.frz { cls := .type "tuple", data := .seq its.toArray } (.tup ys))) { s with heap := h'.push { cls := .type "tuple", data := .seq its.toArray } } :=
    I1.laid (t' := s.toks) (fun b o e => Heap.get?_push_of_some _ e) (Nat.le_refl _) (show ObjOk X.prog X.w _ _ _ (.frz _ (.tup ys)) from ⟨Heap.get?_push_size _ rfl, hz, its, r', IsTup.new _ _⟩)
  exact ⟨.ref h'.objs.size, _, I2, rfl, q _ _ (I1.hok.fresh (Nat.le_refl _)) rfl rfl⟩
theorem call_dict0T (hcalm : X.calm = true) : CallR X (.type "dict") (fun xs H Q => ∃ a : Addr, xs = [.ref a] ∧ TzT H a [] ∧ ∀ p, H p = none → Q (.ref p) (upd H p (.dK []))) := by
  intro pins s σ H xs us Q I r q
  obtain ⟨a, ex, ⟨o, he, hc, hd⟩, q⟩ := q
  subst ex
  obtain ⟨u, eu, rx⟩ := vals1 r
  subst eu
  cases rx
  obtain ⟨ho, _, its, rv, o2, ho2, _, n, hdat⟩ := I.hok a _ he
  rw [ho] at ho2
  cases ho2
  cases rv
  have hm : (s.heap.objs.size == sysModules) = false := beq_eq_false_iff_ne.mpr (Nat.ne_of_gt I.big)
  refine PySem.call_dict_pairs (knd := mixKind X.prog X.w) (kvs := []) (PairArg.tuple a #[] (fun _ => 0) []) (I.ok.hd hcalm) ⟨⟨o, n, ho, hc, hd, hdat⟩, rfl, fun j k v h => by simp at h⟩ ⟨rfl, fun i key v h => by simp [PairRel] at h⟩ (by simp) fun h' tk hd' hk => ?_
  exact ⟨.ref s.heap.objs.size, upd H s.heap.objs.size (.dK []), I.laid (t' := tk) (fun b o e => hk b o (by simp) e) (Nat.le_refl _) (show ObjOk X.prog X.w _ _ _ (.dK []) from ⟨by simp, hm, [], .nil, hd'⟩), rfl, q _ (I.hok.fresh (Nat.le_refl _))⟩
end
end K57
set_option Elab.async false
set_option linter.all false
set_option maxRecDepth 100000
set_option maxHeartbeats 4000000
namespace K57
open PySem PySem.Spec PyProof.Rows L2 StX
theorem evalArgs_two {M : Model} {A : Around} {E : Value → Shared → Prop} {s : Shared} {f : Value} {x y : Bool × Sem Value} {rest : List (Bool × Sem Value)} {Q : Args → Shared → Prop}
    (h : wpAny M A (spliced (x :: y :: rest)) (fun vs s' => Q ⟨vs, []⟩ s') E s) : wpAny M A (evalArgs f true (x :: y :: rest) []) Q E s := by
  unfold evalArgs
  obtain ⟨b, x⟩ := x
  cases b
  all_goals
    show wpAny M A (spliced ((_, x) :: y :: rest) >>= _) Q E s
    refine wpAny_bind (wpAny_mono h (fun vs s' h' => ?_) fun _ _ x => x)
    refine wpAny_holding ?_
    exact wpAny_bind (wpAny_pure (wpAny_bind (wpAny_pure (wpAny_pure h'))))
section
variable {X : Cx} {CX : CXT} {k : Nat} {f C : Addr} {sp : Sp} {E : XK} {x : Str} {e e2 : Expr} {es : List Expr} {t : TA} {p pos : Pos}
/-- C(*e, e2, ..) -/
theorem pe_makeS (M : Mk X.K C f) (F : FnR X.prog X.w X.K X.mg X.base CX k f sp) (hr : Room (k + 1) X.A) (hg : Gl X x) (hm : X.mg x = some (.ref C)) (hx : Passes CX X E) (ha : PA X (e :: e2 :: es) t) (hdb : (x == ("__debug__" : Str)) = false := by decide)
    (hsh : ∃ a b r, backTo pos (starEach (e :: e2 :: es) X.env) = a :: b :: r := by exact ⟨_, _, _, rfl⟩) (hst : (backTo pos (starEach (e :: e2 :: es) X.env)).any (·.1) = true := by rfl) : PE X (.Call (.Name x p) (e :: e2 :: es) [] pos) (tMakeR C sp E t) := by
  refine ⟨fun pins s σ H Q I h => ?_⟩
  refine wpAny_Call_Name_kw (ld_glob I hg hm ?_ hdb)
  have key : wpAny (model X.prog X.w) X.A (spliced (backTo pos (starEach (e :: e2 :: es) X.env))) (fun vs s₁ => X.K.In s₁.heap ∧ wpAny (model X.prog X.w) X.A (call (.ref C) ([] ++ vs)) (EP X pins σ Q) X.xe s₁) X.xe s :=
    thn (ha.run pos pins s σ H _ I h) fun us s1 ⟨vs, H1, I1, r, q⟩ => ⟨I1.kIn, run_makeR M F hr hx I1 r q⟩
  obtain ⟨a, b, r, eq⟩ := hsh
  show wpAny _ _ (callWith pos (.ref C) [] (backTo pos (starEach (e :: e2 :: es) X.env)) []) _ _ s
  rw [eq] at hst key ⊢
  exact PySem.W.ks_call hst (PySem.W.keeps_K M.kp) (evalArgs_two key)
theorem pe_mkS {sp : Sp} {j : Nat} {dvs : List V} (c : C8.Mak X.prog X.w X.K X.mg X.base k x C sp dvs) (hr : Room j X.A) (hk : k + 1 ≤ j) (hg : Gl X x) (ha : PA X (e :: e2 :: es) t)
    (hdb : (x == ("__debug__" : Str)) = false := by decide)
    (hsh : ∃ a b r, backTo pos (starEach (e :: e2 :: es) X.env) = a :: b :: r := by exact ⟨_, _, _, rfl⟩) (hst : (backTo pos (starEach (e :: e2 :: es) X.env)).any (·.1) = true := by rfl) :
    PE X (.Call (.Name x p) (e :: e2 :: es) [] pos) (tMakeR C (fun vs H Q E => sp (vs ++ dvs) H Q E) C8.E0 t) := by
  obtain ⟨f, fd, ps, ds, M, F, hm, b, d⟩ := c.ex
  exact pe_makeS M (F.raw b d) (hr.mono hk) hg hm C8.pass0 ha hdb hsh hst
theorem cr_sortedPOK {K : PySem.W.Frag} (hK : X.K = K) : CallR X (.builtin "sorted") (rSortedPO K) := hK ▸ cr_sortedPO
end
end K57
set_option Elab.async false
set_option linter.all false
set_option maxRecDepth 100000
set_option maxHeartbeats 4000000
/-! super().__init__(..): the first statement of a method of a class over another -/
namespace K57
open PySem PySem.Spec PyProof.Rows L2
/-- what the written part tells of the method f of the class C, whose super is fP -/
structure SupK (K : PySem.W.Frag) (file : Str) (C f fP : Addr) (q : Str) (params : Arguments) (body : List Stmt) (scope : Scope) (cc cda : Addr) : Prop where
  lk : ∃ oc od doc pm an ct osl, K.lookup f = some ⟨oc, od, .func (PySem.W.fnX "__init__" q params body scope [("__class__", cc)] .none .none doc pm an (.ref cda) ct), osl⟩
  code : PySem.W.codeIn K (.ref cda) q = true
  file_ : ∃ ccl cdd vs ccs tf, K.lookup cda = some ⟨ccl, cdd, .fields vs, ccs⟩ ∧ vs[2]? = some (.str file tf)
  cell : ∃ cl cld csl, K.lookup cc = some ⟨cl, cld, .cell (some (.ref C)), csl⟩
  cls : ∃ cd, PySem.W.clsIn K C = some cd
  mro : PySem.W.mroIn K C (.ref C) = some true
  sup : PySem.W.ks_superIn K C C "__init__" = some (some (.ref fP))
  fn : PySem.W.fnIn K fP = true
  ty : PySem.W.typeIn K (.ref fP) = some (.type "function")
  any : PySem.W.nsIn K cStatics "thirdparty.any" = some none
section
variable {P : Program} {w : World} {K : PySem.W.Frag} {mg : Str → Option Value} {base : Heap}
theorem clsIn_obj {C : Addr} {cd : ClassData} {h : Heap} (X : K.In h) (e : PySem.W.clsIn K C = some cd) : ∃ o, h.get? C = some o ∧ o.data = .cls cd := by
  unfold PySem.W.clsIn at e
  split at e
  · rename_i c d cd' sl ho
    cases e
    exact ⟨_, X _ _ ho, rfl⟩
  · cases e
abbrev supNF (q : Str) (params : Arguments) (body : List Stmt) (scope : Scope) (cc cda : Addr) : NdefX.NF := ⟨"__init__", q, params, body, scope, [("__class__", cc)], cda⟩
theorem fnR_sup {C f fP cc cda : Addr} {q : Str} {params : Arguments} {body rest : List Stmt} {scope : Scope} {N ps : List Str} {k j : Nat} {sp spP : Sp} {ar : Arg} {p0 p1 apos cpos epos : Pos} {e : Expr} {es : List Expr}
    (S : SupK K P.main.file C f fP q params body scope cc cda) (eb : body = .Expr (.Call (.Attribute (.Call (.Name "super" p0) [] [] p1) "__init__" apos) (e :: es) [] cpos) epos :: rest)
    (NS : NdefX.NScope N ps ["__class__"] scope) (har : (params.posonlyargs ++ params.args).head? = some ar) (har0 : ps.head? = some ar.arg) (hself : scope.names.lookup ar.arg = some .local) (hks : scope.names.lookup ("super" : Str) = some .globalImplicit) (hkc : scope.names.lookup ("__class__" : Str) = some .free)
    (htop : (P.main.scope.names.lookup ("super" : Str)).isSome = false) (hmg : mg "super" = none)
    (hb : ∀ (doc pm : Value) (an : Option Addr) (ct : Value) (us : List Value), us.length = ps.length → bindArgs (PySem.W.fnX "__init__" q params body scope [("__class__", cc)] .none .none doc pm an (.ref cda) ct) ⟨us, []⟩ = pure (ps.zip us))
    (FP : FnR P w K mg base CX0 j fP spP) (hjk : j ≤ k)
    (hin : ∀ L, interactive (NdefX.envF (supNF q params body scope cc cda) f L) = false)
    (hsw : ∀ L, swapsWith (.Call (.Attribute (.Call (.Name "super" p0) [] [] p1) "__init__" apos) (e :: es) [] cpos) none epos.line (NdefX.envF (supNF q params body scope cc cda) f L) = pure false)
    (pl : Sem Bool)
    (hev : ∀ L, eval (.Call (.Attribute (.Call (.Name "super" p0) [] [] p1) "__init__" apos) (e :: es) [] cpos) (NdefX.envF (supNF q params body scope cc cda) f L) = (do
      let ov ← attributeBase (.Call (.Name "super" p0) [] [] p1) "__init__" (NdefX.envF (supNF q params body scope cc cda) f L) (eval (.Call (.Name "super" p0) [] [] p1) (NdefX.envF (supNF q params body scope cc cda) f L))
      standAt apos.atName
      let (fn, first) ← holding [ov] (getMethod ov "__init__" pl)
      callWith cpos fn first (backTo cpos (starEach (e :: es) (NdefX.envF (supNF q params body scope cc cda) f L))) []))
    (hst : ∀ L, starEach (e :: es) (NdefX.envF (supNF q params body scope cc cda) f L) = (false, eval e (NdefX.envF (supNF q params body scope cc cda) f L)) :: starEach es (NdefX.envF (supNF q params body scope cc cda) f L))
    (hpl : ∀ L, (backTo cpos (starEach es (NdefX.envF (supNF q params body scope cc cda) f L))).any (·.1) = false)
    (len : ∀ vs H Q E, sp vs H Q E → vs.length = ps.length)
    (hbody : ∀ (A : Around) (outer : List Env) (s : Shared) (H : Hp) (vs : List V) (Q : VK) (E : XK), Room k (A.deeper (NdefX.envF (supNF q params body scope cc cda) f s.heap.objs.size)) → sp vs H Q E →
      ∃ ta t x dx fs vs', PA (NdefX.ncx CX0 P w K mg base N (supNF q params body scope cc cda) f A outer s H E) (e :: es) ta ∧ PSs (NdefX.ncx CX0 P w K mg base N (supNF q params body scope cc cda) f A outer s H E) rest t ∧
        vs = .ref x :: vs' ∧ H x = some (.ins C dx fs) ∧ ta (NdefX.startF N vs [none]) H (fun us H1 => spP (.ref x :: us) H1 (fun _ H2 => t { nx := fun _ H' => Q .non H', rt := Q } (NdefX.startF N vs [none]) H2) E)) :
    FnR P w K mg base CX0 (k + 1) f sp := by
  intro A outer s H us vs Q E hr e0 r hsp
  obtain ⟨oc, od, doc, pm, an, ct, osl, lk⟩ := S.lk
  obtain ⟨ccl, cdd, fvs, ccs, tf, hcode, hvs⟩ := S.file_
  obtain ⟨cl, cld, csl, hcell⟩ := S.cell
  obtain ⟨cdD, hcls⟩ := S.cls
  have KX : K.In s.heap := e0.mod.kin.keeps fun b o e => (e0.bs b o e).1
  have lim : s.heap.NoLimit := e0.mod.nolimit.keeps fun b o e => (e0.bs b o e).1
  have hl := len _ _ _ _ hsp
  have cells : NdefX.CellsAt [("__class__", cc)] ["__class__"] [none] s.heap H := by
    have look : ∀ y c, List.lookup y [(("__class__" : Str), cc)] = some c → y = "__class__" ∧ c = cc := fun y c e => by
      unfold List.lookup at e
      split at e
      · rename_i h
        cases e
        exact ⟨eq_of_beq h, rfl⟩
      · cases e
    refine ⟨rfl, fun y c e => ?_, fun x y c e1 e2 => (look x c e1).1.trans (look y c e2).1.symm, fun i y e => ?_⟩
    · obtain ⟨rfl, rfl⟩ := look y c e
      exact ⟨(e0.bs _ _ (e0.mod.kin _ _ hcell)).2, _, _, KX _ _ hcell, rfl⟩
    · cases i with
      | zero =>
        cases e
        exact ⟨cc, rfl, fun v hv => by cases hv⟩
      | succ i => simp at e
  refine codeAny_call_function hr.depth (KX _ _ lk) rfl NS.co NS.gen rfl (PySem.W.codeRec_of KX S.code) ?_
  rw [hb doc pm an ct us (by rw [← r.length]; exact hl)]
  refine wpAny_pure (wpAny_newFunctionEnv NS.nocell (fun ⟨n, _⟩ hy => NS.par n (List.of_mem_zip hy).1) (fun h₁ hns hsb => ⟨lim.fresh _ hsb, ?_⟩) NS.kind)
  show codeAny _ _ (.func body (NdefX.envF (supNF q params body scope cc cda) f s.heap.objs.size)) _ _
  refine ks_codeAny_funcAt ?_
  have kp : ∀ b o, s.heap.get? b = some o → h₁.get? b = some o := fun b o e => hsb.extBut b o (Nat.ne_of_lt (Heap.lt_size e)) (Heap.get?_push_of_some _ e)
  obtain ⟨ta, t, x, dx, fs, vs', hta, ht, rfl, hx, hq⟩ := hbody A outer s H vs Q E (hr.deeper _) hsp
  have I : Inv (NdefX.ncx CX0 P w K mg base N (supNF q params body scope cc cda) f A outer s H E) [] (NdefX.startF N (.ref x :: vs') [none]) H { s with heap := h₁, toks := s.toks + (ps.zip us).length } := NdefX.inv_startN (F := supNF q params body scope cc cda) NS hr.hd e0 hl r cells hns kp
  have X1 : K.In h₁ := KX.keeps kp
  have hL : ∀ z, z = s.heap.objs.size → NdefX.envF (supNF q params body scope cc cda) f z = NdefX.envF (supNF q params body scope cc cda) f s.heap.objs.size := fun z e => by rw [e]
  have fin : ∀ {σ' : L2.St} {H' : Hp} {v : V} {u : Value} {s' : Shared}, Inv (NdefX.ncx CX0 P w K mg base N (supNF q params body scope cc cda) f A outer s H E) [] σ' H' s' → L2.RelV v u → Q v H' → CE outer P w H s Q u s' :=
    fun {σ' H' v u s'} J rv q => ⟨v, H', J.os, J.bare, J.base, J.hok, rv, q⟩
  obtain ⟨mA, J, _⟩ := ins_get I.hok hx
  obtain ⟨odx, J, _⟩ := J.look
  obtain ⟨oD, hD1, hD2⟩ := clsIn_obj X1 hcls
  obtain ⟨mb, hb1, hb2⟩ := I.mod.blt
  have hself2 : (ps.zip us).reverse.lookup ar.arg = some (.ref x) := by
    cases ps with
    | nil => cases har0
    | cons p0 ps' =>
      cases r with
      | cons r1 r2 =>
        cases r1
        have e1 : p0 = ar.arg := Option.some.inj har0
        have ndP : (p0 :: ps').Nodup := by
          have q := NS.nd.sublist (List.take_sublist ((p0 :: ps').length + 1) N)
          rw [show N.take ((p0 :: ps').length + 1) = (p0 :: ps') ++ (["__class__"] : List Str) from NS.pre] at q
          exact (List.nodup_append.mp q).1
        exact NdefX.zip_look (i := 0) ndP (by rw [e1]; rfl) rfl
  have enc : body = .Expr (.Call (.Attribute (.Call (.Name "super" p0) [] [] p1) "__init__" apos) (e :: es) [] cpos) epos :: rest := eb
  have e5 : execs body (NdefX.envF (supNF q params body scope cc cda) f s.heap.objs.size) = execs (.Expr (.Call (.Attribute (.Call (.Name "super" p0) [] [] p1) "__init__" apos) (e :: es) [] cpos) epos :: rest) (NdefX.envF (supNF q params body scope cc cda) f s.heap.objs.size) := congrArg (fun b => execs b (NdefX.envF (supNF q params body scope cc cda) f s.heap.objs.size)) enc
  rw [e5]
  refine (ks_wpAt_execs_cons (ks_wpAt_Expr_any (ks_wpAt_MethodCall (pl := pl) ?_ (hev _)) (hin _) (hsw _)))
  refine ks_wpAt_super_base hks hkc (by decide) rfl (X1 _ _ lk) rfl har rfl (X1 _ _ hcode) rfl hvs (beq_self_eq_true _) htop ?_
  refine PySem.W.ks_loadName_global NS.kind hks (Calls.loadGlobal_builtin (by rw [show (NdefX.envF (supNF q params body scope cc cda) f s.heap.objs.size).globals = mainGlobals from rfl]; exact I.mod.glob.keeps I.bk) hmg (by rw [show (NdefX.envF (supNF q params body scope cc cda) f s.heap.objs.size).builtins = builtinsNs from rfl]; exact hb1.keeps I.bk) ((hb2 "super" (by decide)).trans (show bootBuiltins "super" = some (.type "super") by decide +kernel)) ⟨rfl, ?_⟩)
  refine wpAny_loadName_free NS.kind hkc rfl ⟨_, X1 _ _ hcell, rfl⟩ ?_
  refine wpAny_loadName_local NS.kind hself hns hself2 ?_
  refine ks_wpAny_isType_cls hD1 hD2 ⟨rfl, ?_⟩
  refine ks_wpAny_call_super hD1 hD2 J.at_ J.cls (fun c e => by have := J.no; unfold PySem.W.notCls at this; rw [e] at this; exact Bool.noConfusion this) (PySem.W.looks_mroIn X1 S.mro) (fun h2 e2 k2 => ?_)
  have I2 := I.kept (t' := s.toks + (ps.zip us).length) (h' := h2) k2
  have X2 : K.In h2 := X1.keeps k2
  have hm := S.sup
  unfold PySem.W.ks_superIn at hm
  rw [hcls] at hm
  obtain ⟨of, hof, hofc⟩ : ∃ of, h2.get? fP = some of ∧ of.cls = .type "function" := by
    have ht' : (K.lookup fP).map (·.cls) = some (.type "function") := S.ty
    cases z : K.lookup fP with
    | none => rw [z] at ht'; cases ht'
    | some of => rw [z] at ht'; exact ⟨of, X2 _ _ z, Option.some.inj ht'⟩
  have hxC : x ≠ C := PySem.W.ks_ne X1 J hcls
  refine ks_wpAny_getMethod_super e2 (PySem.W.looks_opaque X2 S.any) (l₀ := cdD.mro) ?_ rfl X2 hm hof hofc hxC (by decide) ?_
  · exact fun A Q E s k q => wpAny_bind ((PySem.W.looks_clsIn X2 hcls) A _ E s k (wpAny_pure q))
  have mo : (h2.push { cls := .type "method", data := .fields #[.ref fP, .ref x] }).get? h2.objs.size = some (PySem.W.methodObj (.ref fP) (.ref x)) := Heap.get?_push_size _ rfl
  have nm := I2.hok.fresh (Nat.le_refl _)
  have I3 : Inv (NdefX.ncx CX0 P w K mg base N (supNF q params body scope cc cda) f A outer s H E) [] (NdefX.startF N (.ref x :: vs') [none]) H { s with heap := h2.push { cls := .type "method", data := .fields #[.ref fP, .ref x] }, toks := s.toks + (ps.zip us).length + 1 } := I2.kept fun b o q => Heap.get?_push_of_some _ q
  have I4 : Inv (NdefX.ncx CX0 P w K mg base N (supNF q params body scope cc cda) f A outer s H E) [(h2.objs.size, PySem.W.methodObj (.ref fP) (.ref x))] (NdefX.startF N (.ref x :: vs') [none]) H { s with heap := h2.push { cls := .type "method", data := .fields #[.ref fP, .ref x] }, toks := s.toks + (ps.zip us).length + 1 } := I3.pins_of fun p hp => by
    rw [List.mem_singleton.mp hp]
    exact ⟨mo, nm, fun z => Nat.lt_irrefl _ (z ▸ I2.lt), I2.nofs (Nat.le_refl _), fun v z => by cases z⟩
  show wpAny _ _ (callWith cpos (.ref h2.objs.size) [] (backTo cpos (starEach (e :: es) (NdefX.envF (supNF q params body scope cc cda) f s.heap.objs.size))) []) _ _ _
  have hst1 := hst s.heap.objs.size
  have run := hta.run cpos [(h2.objs.size, PySem.W.methodObj (.ref fP) (.ref x))] _ (NdefX.startF N (.ref x :: vs') [none]) H _ I4 hq
  rw [show starEach (e :: es) (NdefX.ncx CX0 P w K mg base N (supNF q params body scope cc cda) f A outer s H E).env = (false, eval e (NdefX.envF (supNF q params body scope cc cda) f s.heap.objs.size)) :: starEach es (NdefX.envF (supNF q params body scope cc cda) f s.heap.objs.size) from hst1] at run
  rw [hst1]
  refine PySem.W.callWith_of (P := PySem.W.MethP K h2.objs.size fP (.ref x)) (by show ((false || (backTo cpos (starEach es (NdefX.envF (supNF q params body scope cc cda) f s.heap.objs.size))).any (·.1)) || false) = false; rw [hpl]; rfl) (PySem.W.keeps_M S.fn) (PySem.Calls.evalArgs_plain ?_)
  refine thn run fun us1 s4 ⟨ws, H4, I5, r5, q5⟩ => ⟨⟨(I5.pin (h2.objs.size, PySem.W.methodObj (.ref fP) (.ref x)) (List.mem_append_right _ (List.mem_singleton.mpr rfl))).1, I5.kIn⟩, ?_⟩
  have mo5 := (I5.pin (h2.objs.size, PySem.W.methodObj (.ref fP) (.ref x)) (List.mem_append_right _ (List.mem_singleton.mpr rfl))).1
  have I6 : Inv (NdefX.ncx CX0 P w K mg base N (supNF q params body scope cc cda) f A outer s H E) [] (NdefX.startF N (.ref x :: vs') [none]) H4 s4 := I5.pins_of fun p hp => absurd hp (by simp)
  refine wpAny_call (ks_codeAny_call_bound mo5 ?_)
  refine codeAny_mono (run_fnR FP (X := NdefX.ncx CX0 P w K mg base N (supNF q params body scope cc cda) f A outer s H E) ((hr.deeper _).mono hjk) C8.pass0 I6 (show Vals (V.ref x :: ws) (Value.ref x :: us1) from .cons rfl r5) q5) fun rr s' hrr => ?_
  cases rr with
  | error e' => exact hrr
  | ok fl =>
    cases fl with
    | next => exact hrr
    | brk => exact hrr
    | cont => exact hrr
    | ret u =>
      obtain ⟨v', H', I7, _, q7⟩ := hrr
      refine wpAt_of_wpAny (wpAny_mono (ht.run [] _ _ _ _ I7 q7) (fun fl s' hs => ?_) fun e s' hs => hs)
      cases fl with
      | ret u =>
        obtain ⟨v, σ', H', J, rv, q⟩ := hs
        exact fin J rv q
      | next =>
        obtain ⟨σ', H', J, q⟩ := hs
        exact fin (v := V.non) (u := Value.none) J rfl q
      | brk =>
        obtain ⟨_, _, _, q⟩ := hs
        exact False.elim q
      | cont =>
        obtain ⟨_, _, _, q⟩ := hs
        exact False.elim q
end
end K57
set_option Elab.async false
set_option linter.all false
set_option maxRecDepth 100000
set_option maxHeartbeats 4000000
/-! the four classes whose __init__ calls super's -/
namespace K57
open PySem PySem.Spec PyProof.Rows L2
section
variable {P : Program} {w : World} {K : PySem.W.Frag} {mg : Str → Option Value} {base : Heap}
theorem sup_ok {x q : Str} {s : Stmt} (hx : fnX K x = vInit q s) (hb : supB K x q = true) : ∃ cc cda, SupK K prog.main.file (He.ga K x) (He.ma K (He.ga K x) "__init__") (He.ma K (He.ga K "Paper") "__init__") q (defArgs s) (defBody s) (defScope s) cc cda := by
  unfold supB at hb
  obtain ⟨_, hb⟩ := He.ba hb
  obtain ⟨h1, hb⟩ := He.ba hb
  obtain ⟨h2, hb⟩ := He.ba hb
  obtain ⟨h3, hb⟩ := He.ba hb
  obtain ⟨h4, hb⟩ := He.ba hb
  obtain ⟨h5, hb⟩ := He.ba hb
  obtain ⟨h6, hb⟩ := He.ba hb
  obtain ⟨h7, h8⟩ := He.ba hb
  cases e : K.lookup (He.ma K (He.ga K x) "__init__") with
  | none => rw [e] at h1; cases h1
  | some o =>
    obtain ⟨oc, od, data, osl⟩ := o
    cases data with
    | func fd =>
      rw [e] at h1
      simp only [] at h1
      obtain ⟨hc, k1⟩ := He.ba h1
      clear h1
      have hf : fnX K x = some (fd.name, fd.qualname, fd.params, fd.body, fd.scope, fd.globals, fd.closure.map (·.1), fd.builtins, fd.defaults, fd.kwdefaults) := by
        unfold fnX; rw [e]
      rw [hf] at hx
      obtain ⟨nm, ql, pr, bd, sc, gl, cl, df, kd, doc, pm, an, cd, ct, bl⟩ := fd
      unfold vInit at hx
      injection hx with hx
      injection hx with x1 hx
      injection hx with x2 hx
      injection hx with x3 hx
      injection hx with x4 hx
      injection hx with x5 hx
      injection hx with x6 hx
      injection hx with x7 hx
      injection hx with x8 hx
      injection hx with x9 x10
      simp only at x1 x2 x3 x4 x5 x6 x7 x8 x9 x10
      subst x1 x2 x3 x4 x5 x6 x8 x9 x10
      obtain ⟨y, cc, rfl⟩ : ∃ y cc, cl = [(y, cc)] := by
        cases cl with
        | nil => cases x7
        | cons p r =>
          cases r with
          | nil => exact ⟨p.1, p.2, rfl⟩
          | cons p2 r => simp at x7
      obtain rfl : y = "__class__" := by simpa using x7
      have ec : cellOf K x = cc := by unfold cellOf; rw [e]
      rw [ec] at h2
      cases cd with
      | ref cda =>
        simp only [] at k1
        cases ed : K.lookup cda with
        | none => rw [ed] at k1; cases k1
        | some od' =>
          obtain ⟨ccl, cdd, dd, ccs⟩ := od'
          rw [ed] at k1
          cases dd with
          | fields vs =>
            simp only [] at k1
            cases ev : vs[2]? with
            | none => rw [ev] at k1; cases k1
            | some v2 =>
              rw [ev] at k1
              cases v2 with
              | str y tf =>
                have hy : prog.main.file = y := of_decide_eq_true k1
                cases ecc : K.lookup cc with
                | none => rw [ecc] at h2; cases h2
                | some occ =>
                  obtain ⟨l1, l2, dcc, l3⟩ := occ
                  rw [ecc] at h2
                  cases dcc with
                  | cell c =>
                    cases c with
                    | none => cases h2
                    | some vc =>
                      cases vc with
                      | ref D =>
                        have hD : D = He.ga K x := of_decide_eq_true h2
                        subst hD
                        exact ⟨cc, cda, ⟨oc, od, doc, pm, an, ct, osl, e⟩, hc, ⟨ccl, cdd, vs, ccs, tf, ed, by rw [ev, hy]⟩, ⟨l1, l2, l3, ecc⟩, Option.isSome_iff_exists.mp h3, of_decide_eq_true h4, He.eqO_ok h5, h6, of_decide_eq_true h7, He.eqO_ok h8⟩
                      | _ => cases h2
                  | _ => cases h2
              | _ => cases k1
          | _ => cases k1
      | _ => cases k1
    | _ => rw [e] at h1; cases h1
abbrev Sup4 (K : PySem.W.Frag) (x q : Str) (s : Stmt) : Prop := ∃ cc cda, SupK K prog.main.file (He.ga K x) (He.ma K (He.ga K x) "__init__") (He.ma K (He.ga K "Paper") "__init__") q (defArgs s) (defBody s) (defScope s) cc cda
theorem Tx.s_Ways (T : Tx K mg) : Sup4 K "Ways" "Ways.__init__" s_Ways_init := sup_ok (K := K) (x := "Ways") (q := "Ways.__init__") (s := s_Ways_init) (List.head_eq_of_cons_eq T.says.x) (T.ex 7 (b := supB K "Ways" "Ways.__init__"))
theorem Tx.s_Strange (T : Tx K mg) : Sup4 K "Strange" "Strange.__init__" s_Strange_init := sup_ok (K := K) (x := "Strange") (q := "Strange.__init__") (s := s_Strange_init) (List.head_eq_of_cons_eq (List.tail_eq_of_cons_eq T.says.x)) (T.ex 8 (b := supB K "Strange" "Strange.__init__"))
theorem Tx.s_Thick (T : Tx K mg) : Sup4 K "Thick" "Thick.__init__" s_Thick_init := sup_ok (K := K) (x := "Thick") (q := "Thick.__init__") (s := s_Thick_init) (List.head_eq_of_cons_eq (List.tail_eq_of_cons_eq (List.tail_eq_of_cons_eq T.says.x))) (T.ex 9 (b := supB K "Thick" "Thick.__init__"))
theorem Tx.s_Broken (T : Tx K mg) : Sup4 K "Broken" "Broken.__init__" s_Broken_init := sup_ok (K := K) (x := "Broken") (q := "Broken.__init__") (s := s_Broken_init) (List.head_eq_of_cons_eq (List.tail_eq_of_cons_eq (List.tail_eq_of_cons_eq (List.tail_eq_of_cons_eq T.says.x)))) (T.ex 10 (b := supB K "Broken" "Broken.__init__"))
end
end K57
set_option Elab.async false
set_option linter.all false
set_option maxRecDepth 100000
set_option maxHeartbeats 4000000
/-! stands as they are laid -/
namespace K57
open PySem PySem.Spec PyProof.Rows L2
structure Sd where
  block : Int
  room : Int
  tick : Bool
  flag : Bool
  test : Bool
  mode : Int
  first : Int
  second : Int
  cells : List (Int × Int)
  heard : Int
  said : List Int
  done : Bool
/-- the fields of a Live -/
def lf (s : Sd) (cd sl nu : Addr) : List (Str × V) := [("block", .int s.block), ("room", .int s.room), ("tick", .bl s.tick), ("flag", .bl s.flag), ("test", .bl s.test), ("mode", .int s.mode), ("first", .int s.first), ("second", .int s.second),
  ("cells", .ref cd), ("heard", .int s.heard), ("said", .ref sl), ("is_done", .bl s.done), ("numbers", .ref nu)]
/-- the fields of a Stand -/
def sf (s : Sd) (ct st : Addr) : List (Str × V) := [("block", .int s.block), ("room", .int s.room), ("tick", .bl s.tick), ("flag", .bl s.flag), ("test", .bl s.test), ("mode", .int s.mode), ("first", .int s.first), ("second", .int s.second),
  ("cells", .ref ct), ("heard", .int s.heard), ("said", .ref st), ("is_done", .bl s.done)]
section
variable (s : Sd) (cd sl nu : Addr)
theorem l_block : (lf s cd sl nu).lookup ("block" : Str) = some (V.int s.block) := by rfl
theorem l_room : (lf s cd sl nu).lookup ("room" : Str) = some (V.int s.room) := by rfl
theorem l_tick : (lf s cd sl nu).lookup ("tick" : Str) = some (V.bl s.tick) := by rfl
theorem l_flag : (lf s cd sl nu).lookup ("flag" : Str) = some (V.bl s.flag) := by rfl
theorem l_test : (lf s cd sl nu).lookup ("test" : Str) = some (V.bl s.test) := by rfl
theorem l_mode : (lf s cd sl nu).lookup ("mode" : Str) = some (V.int s.mode) := by rfl
theorem l_first : (lf s cd sl nu).lookup ("first" : Str) = some (V.int s.first) := by rfl
theorem l_second : (lf s cd sl nu).lookup ("second" : Str) = some (V.int s.second) := by rfl
theorem l_cells : (lf s cd sl nu).lookup ("cells" : Str) = some (V.ref cd) := by rfl
theorem l_heard : (lf s cd sl nu).lookup ("heard" : Str) = some (V.int s.heard) := by rfl
theorem l_said : (lf s cd sl nu).lookup ("said" : Str) = some (V.ref sl) := by rfl
theorem l_done : (lf s cd sl nu).lookup ("is_done" : Str) = some (V.bl s.done) := by rfl
theorem l_numbers : (lf s cd sl nu).lookup ("numbers" : Str) = some (V.ref nu) := by rfl
theorem p_block (i : Int) : putF "block" (V.int i) (lf s cd sl nu) = lf { s with block := i } cd sl nu := by rfl
theorem p_room (i : Int) : putF "room" (V.int i) (lf s cd sl nu) = lf { s with room := i } cd sl nu := by rfl
theorem p_tick (i : Bool) : putF "tick" (V.bl i) (lf s cd sl nu) = lf { s with tick := i } cd sl nu := by rfl
theorem p_flag (i : Bool) : putF "flag" (V.bl i) (lf s cd sl nu) = lf { s with flag := i } cd sl nu := by rfl
theorem p_test (i : Bool) : putF "test" (V.bl i) (lf s cd sl nu) = lf { s with test := i } cd sl nu := by rfl
theorem p_mode (i : Int) : putF "mode" (V.int i) (lf s cd sl nu) = lf { s with mode := i } cd sl nu := by rfl
theorem p_first (i : Int) : putF "first" (V.int i) (lf s cd sl nu) = lf { s with first := i } cd sl nu := by rfl
theorem p_second (i : Int) : putF "second" (V.int i) (lf s cd sl nu) = lf { s with second := i } cd sl nu := by rfl
theorem p_heard (i : Int) : putF "heard" (V.int i) (lf s cd sl nu) = lf { s with heard := i } cd sl nu := by rfl
theorem p_done (i : Bool) : putF "is_done" (V.bl i) (lf s cd sl nu) = lf { s with done := i } cd sl nu := by rfl
end
section
variable (s : Sd) (ct st : Addr)
theorem q_block : (sf s ct st).lookup ("block" : Str) = some (V.int s.block) := by rfl
theorem q_room : (sf s ct st).lookup ("room" : Str) = some (V.int s.room) := by rfl
theorem q_tick : (sf s ct st).lookup ("tick" : Str) = some (V.bl s.tick) := by rfl
theorem q_flag : (sf s ct st).lookup ("flag" : Str) = some (V.bl s.flag) := by rfl
theorem q_test : (sf s ct st).lookup ("test" : Str) = some (V.bl s.test) := by rfl
theorem q_mode : (sf s ct st).lookup ("mode" : Str) = some (V.int s.mode) := by rfl
theorem q_first : (sf s ct st).lookup ("first" : Str) = some (V.int s.first) := by rfl
theorem q_second : (sf s ct st).lookup ("second" : Str) = some (V.int s.second) := by rfl
theorem q_cells : (sf s ct st).lookup ("cells" : Str) = some (V.ref ct) := by rfl
theorem q_heard : (sf s ct st).lookup ("heard" : Str) = some (V.int s.heard) := by rfl
theorem q_said : (sf s ct st).lookup ("said" : Str) = some (V.ref st) := by rfl
theorem q_done : (sf s ct st).lookup ("is_done" : Str) = some (V.bl s.done) := by rfl
end
/-! ### the words' deeds, plain -/
def cGet (cells : List (Int × Int)) (k : Int) : Int := ((cells.find? fun p => decide (p.1 = k)).map (·.2)).getD 0
def cPut (cells : List (Int × Int)) (k v : Int) : List (Int × Int) := if (cells.any fun p => decide (p.1 = k)) = true then cells.map (fun p => if p.1 = k then (p.1, v) else p) else cells ++ [(k, v)]
def hearS (hs : List Int) (s : Sd) : Sd := if s.heard < hs.length then { s with first := hs.getD s.heard.toNat 0, heard := s.heard + 1 } else { s with first := 0 }
def reckonS (s : Sd) (n : Nat) : Sd :=
  if n = 4 then { s with first := s.first + s.second } else if n = 5 then { s with first := s.first - s.second } else if n = 6 then { s with first := s.first * s.second }
  else if n = 7 then { s with first := if s.second = 0 then 0 else s.first.fdiv s.second } else { s with first := s.second, second := s.first }
def flaggedS (hs : List Int) (s : Sd) (n : Nat) : Sd :=
  if n ≤ 8 then reckonS s n else if n = 9 then hearS hs s else if n = 10 then { s with said := s.said ++ [s.first] } else if n = 11 then { s with first := cGet s.cells s.first } else { s with first := 8 * s.first + n - 12 }
def goS (s : Sd) : Sd := if s.mode = 2 ∨ s.test = decide (s.mode = 0) then { s with room := s.first } else s
def plainS (s : Sd) (n : Nat) : Sd :=
  if n = 20 then { s with first := 0 } else if n = 21 then { s with second := s.first } else if n = 22 then { s with cells := cPut s.cells s.second s.first } else if n = 23 then { s with test := decide (s.first = 0) }
  else if n = 24 then { s with test := decide (s.first < 0) } else if n < 28 then { s with mode := (n : Int) - 25 } else if n = 28 then goS s else { s with done := true }
def hereS (hs : List Int) (s : Sd) (n : Nat) : Sd :=
  if n = 3 then { s with flag := true } else if 20 ≤ n then plainS s n else if s.flag = true then flaggedS hs { s with flag := false } n else s
def countedS (s : Sd) (n : Nat) : Sd :=
  if n = 0 then { s with block := -1 } else if n = 1 then { s with tick := true } else if s.tick = true then { s with block := s.block + 1, tick := false } else { s with tick := false }
def wordS (hs : List Int) (s : Sd) (n : Nat) : Sd := if s.done = true then s else if n < 3 then countedS s n else if s.block = s.room then hereS hs s n else s
end K57
set_option Elab.async false
set_option linter.all false
set_option maxRecDepth 100000
set_option maxHeartbeats 4000000
/-! the plain law of stands: a word done twice is done once; a thick reading makes the same stand -/
namespace K57
theorem flagged_keep (hs : List Int) (s : Sd) (n : Nat) : (flaggedS hs s n).flag = s.flag ∧ (flaggedS hs s n).done = s.done ∧ (flaggedS hs s n).block = s.block ∧ (flaggedS hs s n).room = s.room := by
  unfold flaggedS reckonS hearS
  repeat' split
  all_goals exact ⟨rfl, rfl, rfl, rfl⟩
theorem wordS_done {hs : List Int} {s : Sd} (n : Nat) (h : s.done = true) : wordS hs s n = s := by unfold wordS; rw [if_pos h]
theorem wordS_low {hs : List Int} {s : Sd} {n : Nat} (h : s.done = false) (hn : n < 3) : wordS hs s n = countedS s n := by unfold wordS; rw [if_neg (by rw [h]; decide), if_pos hn]
theorem wordS_here {hs : List Int} {s : Sd} {n : Nat} (h : s.done = false) (hn : ¬ n < 3) (hb : s.block = s.room) : wordS hs s n = hereS hs s n := by unfold wordS; rw [if_neg (by rw [h]; decide), if_neg hn, if_pos hb]
theorem wordS_away {hs : List Int} {s : Sd} {n : Nat} (hn : ¬ n < 3) (hb : s.block ≠ s.room) : wordS hs s n = s := by unfold wordS; rw [if_neg hn, if_neg hb]; split <;> rfl
theorem cPut_any (cs : List (Int × Int)) (k v : Int) : ((cPut cs k v).any fun p => decide (p.1 = k)) = true := by
  unfold cPut
  split
  · rename_i h
    rw [List.any_eq_true] at h ⊢
    obtain ⟨p, hp, e⟩ := h
    refine ⟨(p.1, v), List.mem_map.mpr ⟨p, hp, by rw [if_pos (by simpa using e)]⟩, e⟩
  · simp
theorem cPut_twice (cs : List (Int × Int)) (k v : Int) : cPut (cPut cs k v) k v = cPut cs k v := by
  have old : ∀ L : List (Int × Int), (L.any fun p => decide (p.1 = k)) = true → cPut L k v = L.map fun p => if p.1 = k then (p.1, v) else p := fun L h => by unfold cPut; rw [if_pos h]
  rw [old _ (cPut_any cs k v)]
  unfold cPut
  split
  · rw [List.map_map]
    refine List.map_congr_left fun p _ => ?_
    show (if (if p.1 = k then (p.1, v) else p).1 = k then ((if p.1 = k then (p.1, v) else p).1, v) else (if p.1 = k then (p.1, v) else p)) = (if p.1 = k then (p.1, v) else p)
    by_cases e : p.1 = k
    · simp [e]
    · simp [e]
  · rename_i hn
    rw [List.map_append]
    congr 1
    · conv => rhs; rw [← List.map_id cs]
      refine List.map_congr_left fun p hp => ?_
      rw [if_neg]
      · rfl
      · intro e
        apply hn
        rw [List.any_eq_true]
        exact ⟨p, hp, by simpa using e⟩
    · simp
theorem goS_twice (s : Sd) (hs : List Int) (n : Nat) : (goS s).done = s.done := by unfold goS; split <;> rfl
theorem go_go (s : Sd) : goS (goS s) = goS s := by
  by_cases h : s.mode = 2 ∨ s.test = decide (s.mode = 0)
  · have e : goS s = { s with room := s.first } := by unfold goS; rw [if_pos h]
    rw [e]
    unfold goS
    rw [if_pos h]
  · have e : goS s = s := by unfold goS; rw [if_neg h]
    rw [e, e]
theorem word_twice (hs : List Int) (s : Sd) (n : Nat) : wordS hs (wordS hs s n) n = wordS hs s n := by
  cases hd : s.done with
  | true => rw [wordS_done n hd, wordS_done n hd]
  | false =>
  by_cases h3 : n < 3
  · rw [wordS_low hd h3]
    have hd2 : (countedS s n).done = false := by unfold countedS; repeat' split
                                                 all_goals exact hd
    rw [wordS_low hd2 h3]
    unfold countedS
    by_cases h0 : n = 0
    · simp [h0]
    · by_cases h1 : n = 1
      · simp [h1]
      · simp only [if_neg h0, if_neg h1]
        cases s.tick <;> simp
  by_cases hb : s.block = s.room
  · rw [wordS_here hd h3 hb]
    by_cases e3 : n = 3
    · have e : hereS hs s n = { s with flag := true } := by unfold hereS; rw [if_pos e3]
      rw [e, wordS_here (s := { s with flag := true }) hd h3 hb]
      unfold hereS
      rw [if_pos e3]
    by_cases h20 : 20 ≤ n
    · have e : hereS hs s n = plainS s n := by unfold hereS; rw [if_neg e3, if_pos h20]
      rw [e]
      have key : ∀ s', s'.done = false → s'.block = s'.room → wordS hs s' n = plainS s' n := fun s' a b => by
        rw [wordS_here a h3 b]; unfold hereS; rw [if_neg e3, if_pos h20]
      by_cases h28 : n < 28
      · have k1 : (plainS s n).done = false := by
          unfold plainS
          repeat' split
          all_goals first | exact hd | omega
        have k2 : (plainS s n).block = (plainS s n).room := by
          unfold plainS
          repeat' split
          all_goals first | exact hb | omega
        rw [key _ k1 k2]
        unfold plainS
        by_cases c20 : n = 20
        · simp [c20]
        by_cases c21 : n = 21
        · simp [c21]
        by_cases c22 : n = 22
        · simp [c22, cPut_twice]
        by_cases c23 : n = 23
        · simp [c23]
        by_cases c24 : n = 24
        · simp [c24]
        simp only [if_neg c20, if_neg c21, if_neg c22, if_neg c23, if_neg c24, if_pos h28]
      · by_cases e28 : n = 28
        · have e : plainS s n = goS s := by subst e28; rfl
          rw [e]
          by_cases hb2 : (goS s).block = (goS s).room
          · rw [key _ (by rw [goS_twice s hs n]; exact hd) hb2]
            rw [show plainS (goS s) n = goS (goS s) by subst e28; rfl, go_go]
          · rw [wordS_away h3 hb2]
        · have e : plainS s n = { s with done := true } := by
            unfold plainS
            rw [if_neg (by omega), if_neg (by omega), if_neg (by omega), if_neg (by omega), if_neg (by omega), if_neg h28, if_neg e28]
          rw [e, wordS_done n rfl]
    · cases hf : s.flag with
      | false =>
        have e : hereS hs s n = s := by unfold hereS; rw [if_neg e3, if_neg h20, if_neg (by rw [hf]; decide)]
        rw [e, wordS_here hd h3 hb, e]
      | true =>
        have e : hereS hs s n = flaggedS hs { s with flag := false } n := by unfold hereS; rw [if_neg e3, if_neg h20, if_pos hf]
        obtain ⟨k1, k2, k3, k4⟩ := flagged_keep hs { s with flag := false } n
        rw [e, wordS_here (by rw [k2]; exact hd) h3 (by rw [k3, k4]; exact hb)]
        unfold hereS
        rw [if_neg e3, if_neg h20, if_neg (fun z => by rw [k1] at z; cases z)]
  · rw [wordS_away h3 hb, wordS_away h3 hb]
def runS (hs : List Int) (s : Sd) (ns : List Nat) : Sd := ns.foldl (wordS hs) s
theorem run_rep (hs : List Int) (s : Sd) (n : Nat) : ∀ m, runS hs (wordS hs s n) (rep m n) = wordS hs s n
  | 0 => rfl
  | m + 1 => by
    show runS hs (wordS hs (wordS hs s n) n) (rep m n) = _
    rw [word_twice, run_rep hs s n m]
theorem run_app (hs : List Int) (s : Sd) (a b : List Nat) : runS hs s (a ++ b) = runS hs (runS hs s a) b := List.foldl_append
theorem run_th {r l : List Nat} (hs : List Int) (h : Th r l) : ∀ s, runS hs s l = runS hs s r := by
  induction h with
  | nil => intro s; rfl
  | cons u n _ ih =>
    intro s
    rw [run_app]
    show runS hs (runS hs (wordS hs s u) (rep n u)) _ = _
    rw [run_rep, ih]
    rfl
theorem run_pre {r l : List Nat} (hs : List Int) (h : Th r l) : ∀ s i, ∃ j, j ≤ r.length ∧ runS hs s (l.take i) = runS hs s (r.take j) := by
  induction h with
  | nil => intro s i; exact ⟨0, Nat.le_refl _, by simp⟩
  | @cons u n r l _ ih =>
    intro s i
    by_cases h0 : i = 0
    · exact ⟨0, Nat.zero_le _, by rw [h0]; rfl⟩
    by_cases h1 : i ≤ n + 1
    · refine ⟨1, by simp, ?_⟩
      rw [List.take_append_of_le_length (by simp [rep]; omega)]
      obtain ⟨m, rfl⟩ : ∃ m, i = m + 1 := ⟨i - 1, by omega⟩
      rw [show (rep (n + 1) u).take (m + 1) = u :: rep m u by unfold rep; rw [List.take_replicate, Nat.min_eq_left h1]; rfl]
      show runS hs (wordS hs s u) (rep m u) = _
      rw [run_rep]
      rfl
    · obtain ⟨j, hj, e⟩ := ih (wordS hs s u) (i - (n + 1))
      refine ⟨j + 1, by simpa using hj, ?_⟩
      rw [List.take_append, List.take_of_length_le (by simp [rep]; omega), run_app]
      show runS hs (runS hs (wordS hs s u) (rep n u)) _ = runS hs (wordS hs s u) _
      rw [run_rep, ← e]
      simp [rep]
/-- bounds: numbers to M, cells and said to k -/
structure Bd (M k : Nat) (s : Sd) : Prop where
  f : s.first.natAbs ≤ M
  g : s.second.natAbs ≤ M
  v : ∀ p ∈ s.cells, p.2.natAbs ≤ M
  c : s.cells.length ≤ k
  d : s.said.length ≤ k
  h : 0 ≤ s.heard
  b : -1 ≤ s.block
  m0 : 0 ≤ s.mode
  m2 : s.mode ≤ 2
  n : (s.cells.map (·.1)).Nodup
theorem Bd.mono {M k M2 k2 : Nat} {s : Sd} (x : Bd M k s) (h1 : M ≤ M2) (h2 : k ≤ k2) : Bd M2 k2 s :=
  ⟨Nat.le_trans x.f h1, Nat.le_trans x.g h1, fun p hp => Nat.le_trans (x.v p hp) h1, Nat.le_trans x.c h2, Nat.le_trans x.d h2, x.h, x.b, x.m0, x.m2, x.n⟩
theorem fdiv_abs (a b : Int) : (a.fdiv b).natAbs ≤ a.natAbs + 1 := by
  have h := Int.natAbs_ediv_le_natAbs a b
  rw [Int.fdiv_eq_ediv]
  split <;> omega
theorem cGet_abs {cs : List (Int × Int)} {M : Nat} (h : ∀ p ∈ cs, p.2.natAbs ≤ M) (k : Int) : (cGet cs k).natAbs ≤ M := by
  unfold cGet
  cases e : cs.find? fun p => decide (p.1 = k) with
  | none => simp
  | some p => simpa using h p (List.mem_of_find?_eq_some e)
theorem cPut_abs {cs : List (Int × Int)} {M : Nat} (h : ∀ p ∈ cs, p.2.natAbs ≤ M) (k v : Int) (hv : v.natAbs ≤ M) : ∀ p ∈ cPut cs k v, p.2.natAbs ≤ M := by
  unfold cPut
  split
  · intro p hp
    obtain ⟨q, hq, rfl⟩ := List.mem_map.mp hp
    split
    · exact hv
    · exact h q hq
  · intro p hp
    rcases List.mem_append.mp hp with hp | hp
    · exact h p hp
    · rw [List.mem_singleton.mp hp]; exact hv
theorem cPut_len (cs : List (Int × Int)) (k v : Int) : (cPut cs k v).length ≤ cs.length + 1 := by
  unfold cPut
  split <;> simp
theorem cPut_keys {cs : List (Int × Int)} (h : (cs.map (·.1)).Nodup) (k v : Int) : ((cPut cs k v).map (·.1)).Nodup := by
  unfold cPut
  split
  · rw [List.map_map, show ((fun x => x.1) ∘ fun p : Int × Int => if p.1 = k then (p.1, v) else p) = fun p => p.1 from funext fun p => by
      show (if p.1 = k then (p.1, v) else p).1 = p.1
      split <;> rfl]
    exact h
  · rename_i hn
    rw [List.map_append, List.nodup_append]
    refine ⟨h, by simp, fun a ha b hb => ?_⟩
    obtain ⟨p, hp, rfl⟩ := List.mem_map.mp ha
    have : b = k := by simpa using hb
    rw [this]
    intro e
    apply hn
    rw [List.any_eq_true]
    exact ⟨p, hp, by simpa using e⟩
theorem Bd.step {M k : Nat} {s : Sd} {hs : List Int} (x : Bd M k s) (hM : 16 ≤ M) (hh : ∀ z ∈ hs, z.natAbs ≤ M) {n : Nat} (hn : n < 30) : Bd (M * M) (k + 1) (wordS hs s n) := by
  have h1 : 16 * M ≤ M * M := Nat.mul_le_mul_right M hM
  have x1 : Bd (M * M) (k + 1) s := x.mono (by omega) (by omega)
  have xf := x.f
  have xg := x.g
  have fl : ∀ z : Int, z.natAbs ≤ M * M → Bd (M * M) (k + 1) { s with first := z, flag := false } := fun z hz => ⟨hz, x1.g, x1.v, x1.c, x1.d, x1.h, x1.b, x1.m0, x1.m2, x1.n⟩
  unfold wordS
  split
  · exact x1
  split
  · unfold countedS
    repeat' split
    · exact ⟨x1.f, x1.g, x1.v, x1.c, x1.d, x1.h, (by show (-1 : Int) ≤ -1; decide), x1.m0, x1.m2, x1.n⟩
    · exact ⟨x1.f, x1.g, x1.v, x1.c, x1.d, x1.h, x1.b, x1.m0, x1.m2, x1.n⟩
    · exact ⟨x1.f, x1.g, x1.v, x1.c, x1.d, x1.h, (by have := x.b; show -1 ≤ s.block + 1; omega), x1.m0, x1.m2, x1.n⟩
    · exact ⟨x1.f, x1.g, x1.v, x1.c, x1.d, x1.h, x1.b, x1.m0, x1.m2, x1.n⟩
  split
  · unfold hereS
    split
    · exact ⟨x1.f, x1.g, x1.v, x1.c, x1.d, x1.h, x1.b, x1.m0, x1.m2, x1.n⟩
    split
    · unfold plainS
      split
      · exact ⟨Nat.zero_le _, x1.g, x1.v, x1.c, x1.d, x1.h, x1.b, x1.m0, x1.m2, x1.n⟩
      split
      · exact ⟨x1.f, x1.f, x1.v, x1.c, x1.d, x1.h, x1.b, x1.m0, x1.m2, x1.n⟩
      split
      · exact ⟨x1.f, x1.g, cPut_abs x1.v _ _ x1.f, Nat.le_trans (cPut_len _ _ _) (Nat.succ_le_succ x.c), x1.d, x1.h, x1.b, x1.m0, x1.m2, cPut_keys x1.n _ _⟩
      split
      · exact ⟨x1.f, x1.g, x1.v, x1.c, x1.d, x1.h, x1.b, x1.m0, x1.m2, x1.n⟩
      split
      · exact ⟨x1.f, x1.g, x1.v, x1.c, x1.d, x1.h, x1.b, x1.m0, x1.m2, x1.n⟩
      split
      · exact ⟨x1.f, x1.g, x1.v, x1.c, x1.d, x1.h, x1.b, (by show (0 : Int) ≤ (n : Int) - 25; omega), (by show (n : Int) - 25 ≤ 2; omega), x1.n⟩
      split
      · unfold goS
        split
        · exact ⟨x1.f, x1.g, x1.v, x1.c, x1.d, x1.h, x1.b, x1.m0, x1.m2, x1.n⟩
        · exact x1
      · exact ⟨x1.f, x1.g, x1.v, x1.c, x1.d, x1.h, x1.b, x1.m0, x1.m2, x1.n⟩
    split
    · unfold flaggedS
      split
      · unfold reckonS
        split
        · exact fl _ (by show (s.first + s.second).natAbs ≤ _; omega)
        split
        · exact fl _ (by show (s.first - s.second).natAbs ≤ _; omega)
        split
        · exact fl _ (by rw [Int.natAbs_mul]; exact Nat.mul_le_mul xf xg)
        split
        · refine fl _ ?_
          show (if s.second = 0 then 0 else s.first.fdiv s.second).natAbs ≤ _
          have := fdiv_abs s.first s.second
          split
          · exact Nat.zero_le _
          · omega
        · exact ⟨x1.g, x1.f, x1.v, x1.c, x1.d, x1.h, x1.b, x1.m0, x1.m2, x1.n⟩
      split
      · unfold hearS
        split
        · rename_i hlt
          refine ⟨?_, x1.g, x1.v, x1.c, x1.d, (by have := x.h; show 0 ≤ s.heard + 1; omega), x1.b, x1.m0, x1.m2, x1.n⟩
          show (hs.getD s.heard.toNat 0).natAbs ≤ _
          have h0 := x.h
          have hl : s.heard.toNat < hs.length := by
            have : s.heard < hs.length := hlt
            omega
          rw [List.getD_eq_getElem?_getD, List.getElem?_eq_getElem hl, Option.getD_some]
          have := hh _ (List.getElem_mem hl)
          omega
        · exact fl 0 (Nat.zero_le _)
      split
      · exact ⟨x1.f, x1.g, x1.v, x1.c, (by show (s.said ++ [s.first]).length ≤ k + 1; rw [List.length_append]; exact Nat.succ_le_succ x.d), x1.h, x1.b, x1.m0, x1.m2, x1.n⟩
      split
      · exact fl _ (cGet_abs x1.v _)
      · exact fl _ (by show (8 * s.first + n - 12).natAbs ≤ _; omega)
    · exact x1
  · exact x1
def sqs : Nat → Nat → Nat
  | 0, M => M
  | n + 1, M => sqs n (M * M)
theorem sqs_ge : ∀ (n M : Nat), 1 ≤ M → M ≤ sqs n M
  | 0, _, _ => Nat.le_refl _
  | n + 1, M, h => Nat.le_trans (Nat.le_mul_of_pos_right M h) (sqs_ge n (M * M) (Nat.mul_pos h h))
theorem sqs_mono : ∀ (j n M : Nat), 1 ≤ M → j ≤ n → sqs j M ≤ sqs n M
  | 0, n, M, h, _ => sqs_ge n M h
  | j + 1, n + 1, M, h, hj => sqs_mono j n (M * M) (Nat.mul_pos h h) (Nat.le_of_succ_le_succ hj)
theorem run_bd {hs : List Int} : ∀ {ns : List Nat} {M k : Nat} {s : Sd}, Bd M k s → 16 ≤ M → (∀ z ∈ hs, z.natAbs ≤ M) → (∀ n ∈ ns, n < 30) → Bd (sqs ns.length M) (k + ns.length) (runS hs s ns)
  | [], _, _, _, x, _, _, _ => x
  | n :: ns, M, k, s, x, hM, hh, hn => by
    have h1 : M ≤ M * M := Nat.le_mul_of_pos_right M (by omega)
    have y := run_bd (ns := ns) (x.step hM hh (hn n (List.mem_cons_self ..))) (Nat.le_trans hM h1) (fun z hz => Nat.le_trans (hh z hz) h1) (fun m hm => hn m (List.mem_cons_of_mem _ hm))
    rw [List.length_cons, show k + (ns.length + 1) = k + 1 + ns.length by omega]
    exact y
def s0 : Sd := ⟨-1, 0, false, false, false, 2, 0, 0, [], 0, [], false⟩
theorem bd0 : Bd 16 0 s0 := ⟨by decide, by decide, fun p hp => (nomatch hp), by decide, by decide, by decide, by decide, by decide, by decide, .nil⟩
/-- all states on the way through a thick reading of at most eight words -/
theorem thick_bd {r l : List Nat} (h : Th r l) (hr : r.length ≤ 8) (h30 : ∀ n ∈ r, n < 30) (i : Nat) : Bd (sqs 8 16) 8 (runS [5, -7] s0 (l.take i)) := by
  obtain ⟨j, hj, e⟩ := run_pre [5, -7] h s0 i
  rw [e]
  have hl : (r.take j).length ≤ 8 := by rw [List.length_take]; omega
  exact (run_bd bd0 (Nat.le_refl _) (by decide) fun n hn => h30 n (List.mem_of_mem_take hn)).mono (sqs_mono _ 8 16 (by decide) hl) (by omega)
theorem sqs_lt : sqs 8 16 < 2 ^ 8000 := by decide +kernel
theorem perm_asc {a b : List (Int × Int)} (h : a.Perm b) (ha : a.Pairwise fun p q => p.1 < q.1) (hb : b.Pairwise fun p q => p.1 < q.1) : a = b :=
  h.eq_of_pairwise (fun p q _ _ h1 h2 => by omega) ha hb
end K57
set_option linter.all false
/-! the prices' tables, plain -/
namespace K57
abbrev Pr := Nat × Nat
def plt (a b : Pr) : Bool := decide (a.1 < b.1 ∨ (a.1 = b.1 ∧ a.2 < b.2))
def pmin (a b : Pr) : Pr := if plt b a = true then b else a
def pr (p : Pr) (k : Nat) : Pr := (p.1 + k, p.2)
theorem pmin_fst (a b : Pr) : (pmin a b).1 = mn a.1 b.1 := by
  unfold pmin plt
  rw [mn_eq]
  by_cases h : b.1 < a.1 ∨ (b.1 = a.1 ∧ b.2 < a.2)
  · rw [if_pos (decide_eq_true h)]; omega
  · rw [decide_eq_false h]; show a.1 = _; omega
/-- the cost and begin at a place of the text for a begin of the word -/
def tb0 (m : Nat) : Pr := (m, 0)
def tbNext (f : Pr) (c : Nat) (w : T) (prev : Nat → Pr) : Nat → Pr
  | 0 => pmin f (pr (prev 0) 1)
  | m + 1 => pmin (pmin (pr (tbNext f c w prev m) 1) (pr (prev (m + 1)) 1)) (pr (prev m) (neq c (w.getD m 0)))
def tb (w t : T) : Nat → Nat → Pr
  | 0 => tb0
  | e + 1 => tbNext (cut (t.getD e 0), e + 1) (t.getD e 0) w (tb w t e)
theorem tb_0 (w t : T) (m : Nat) : tb w t 0 m = (m, 0) := rfl
theorem tb_s0 (w t : T) (e : Nat) : tb w t (e + 1) 0 = pmin (cut (t.getD e 0), e + 1) (pr (tb w t e 0) 1) := rfl
theorem tb_ss (w t : T) (e m : Nat) : tb w t (e + 1) (m + 1) = pmin (pmin (pr (tb w t (e + 1) m) 1) (pr (tb w t e (m + 1)) 1)) (pr (tb w t e m) (neq (t.getD e 0) (w.getD m 0))) := rfl
/-! with P2 -/
theorem row0_g : ∀ (w : T) (f m : Nat), m ≤ w.length → g (row0 f w) m = f + m
  | [], f, m, h => by
    have : m = 0 := by simpa using h
    subst this; rfl
  | _ :: w, f, 0, _ => rfl
  | _ :: w, f, m + 1, h => by
    show g (row0 (f + 1) w) m = _
    rw [row0_g w (f + 1) m (by simpa using h)]
    omega
theorem step_g (c : Nat) : ∀ (xs : T) (l d : Nat) (rest : List Nat), rest.length = xs.length → ∀ m, m < xs.length →
    g (l :: stepRow c xs l d rest) (m + 1) = cell c (xs.getD m 0) (g (l :: stepRow c xs l d rest) m) (g (d :: rest) m) (g (d :: rest) (m + 1))
  | [], _, _, _, _, m, h => by simp at h
  | y :: xs, l, d, [], h, _, _ => by simp at h
  | y :: xs, l, d, u :: rest, h, 0, hx => rfl
  | y :: xs, l, d, u :: rest, h, m + 1, hx => step_g c xs (cell c y l d u) u rest (by simpa using h) m (by simpa using hx)
theorem next_g {w : T} {f c : Nat} {r : List Nat} (h : r.length = w.length + 1) :
    g (nextRow f c w r) 0 = mn f (g r 0 + 1) ∧ ∀ m, m < w.length → g (nextRow f c w r) (m + 1) = cell c (w.getD m 0) (g (nextRow f c w r) m) (g r m) (g r (m + 1)) := by
  cases r with
  | nil => simp at h
  | cons d rest => exact ⟨rfl, fun m hm => step_g c w (mn f (d + 1)) d rest (by simpa using h) m hm⟩
theorem take_snoc {t : T} {e : Nat} (h : e < t.length) : t.take (e + 1) = t.take e ++ [t.getD e 0] := by
  rw [List.take_add_one, List.getD_eq_getElem?_getD, List.getElem?_eq_getElem h] <;> rfl
theorem tb_fst (w t : T) : ∀ e, e ≤ t.length → ∀ m, m ≤ w.length → (tb w t e m).1 = g (rows w (t.take e)) m
  | 0, _, m, hm => by
    show m = g (row0 0 w) m
    rw [row0_g w 0 m hm, Nat.zero_add]
  | e + 1, he, m, hm => by
    have ih := tb_fst w t e (by omega)
    rw [take_snoc (by omega), rows_snoc]
    obtain ⟨n0, n1⟩ := next_g (f := cut (t.getD e 0)) (c := t.getD e 0) (rows_len w (t.take e) _ (row0_len 0 w))
    induction m with
    | zero =>
      rw [tb_s0, pmin_fst]
      refine Eq.trans ?_ n0.symm
      show mn (cut (t.getD e 0)) ((tb w t e 0).1 + 1) = _
      rw [ih 0 (Nat.zero_le _)]
      rfl
    | succ m im =>
      rw [tb_ss, pmin_fst, pmin_fst]
      refine Eq.trans ?_ (n1 m (by omega)).symm
      show mn (mn ((tb w t (e + 1) m).1 + 1) ((tb w t e (m + 1)).1 + 1)) ((tb w t e m).1 + neq (t.getD e 0) (w.getD m 0)) = _
      rw [im (by omega), ih m (by omega), ih (m + 1) (by omega)]
      rfl
/-! the costs, as the program asks them -/
def behAt (t : T) (e : Nat) : Nat := if e < t.length ∧ t.getD e 0 ≠ 32 then 1 else 0
theorem behAt_eq {t : T} {e : Nat} (h : e ≤ t.length) : behAt t e = beh (t.drop e) := by
  unfold behAt beh
  by_cases h2 : e < t.length
  · have e1 : t.drop e = t.getD e 0 :: t.drop (e + 1) := by
      rw [List.drop_eq_getElem_cons h2, List.getD_eq_getElem?_getD, List.getElem?_eq_getElem h2] <;> rfl
    rw [e1]
    by_cases h3 : t.getD e 0 = 32
    · rw [if_neg (fun z => z.2 h3), h3, if_pos (.inr rfl)]
    · rw [if_pos ⟨h2, h3⟩, if_neg (fun z => z.elim (fun z => nomatch z) fun z => h3 (Option.some.inj z))]
  · rw [if_neg (fun z => h2 z.1), List.drop_eq_nil_of_le (by omega)]
    rfl
def aloneL (u w : T) : List Nat := (List.range ((textC u w).length + 1)).map fun e => (tb w (textC u w) e w.length).1 + behAt (textC u w) e
def sideL (u w : T) : List Nat := (List.range (w.length + 1)).map fun m => (tb w (textC u w) (textC u w).length m).1
def borderL (A B : List Nat) : List Nat := (List.range A.length).map (fun i => A.getD i 0 + 1 + B.getD (A.length - 1 - i) 0) ++ (List.range (A.length - 1)).map (fun i => A.getD i 0 + 1 + B.getD (A.length - 1 - i - 1) 0)
theorem rng_at {α : Type} (f : Nat → α) (n i : Nat) (d : α) (h : i < n) : ((List.range n).map f).getD i d = f i := by
  rw [List.getD_eq_getElem?_getD, List.getElem?_map, List.getElem?_range h] <;> rfl
theorem side_g (u w : T) {m : Nat} (h : m ≤ w.length) : (sideL u w).getD m 0 = g (rows w (textC u w)) m := by
  unfold sideL
  rw [rng_at _ _ _ _ (by omega), tb_fst w _ _ (Nat.le_refl _) m h, List.take_length]
theorem side_len (u w : T) : (sideL u w).length = w.length + 1 := by unfold sideL; simp
theorem alone_ge {u w LA LB : T} (h : PairOk u w LA LB) : ∀ c ∈ aloneL u w, 4 ≤ c := by
  intro c hc
  obtain ⟨e, he, rfl⟩ := List.mem_map.mp hc
  have hel : e ≤ (textC u w).length := by have := List.mem_range.mp he; omega
  have h1 := h.al
  conv at h1 => enter [1, 3]; rw [← List.take_append_drop e (textC u w)]
  have h2 := okRun_at h1
  rw [lastOf_g _ w.length (rows_len w _ _ (row0_len 0 w))] at h2
  rw [tb_fst w _ e hel _ (Nat.le_refl _), behAt_eq hel]
  exact h2
theorem border_ge {u v w LA LB : T} (hu : PairOk u w LA LB) (hv : PairOk v w LA LB) (hs : sumsOk LA LB w.length 0 = true) : ∀ c ∈ borderL (sideL u w) (sideL v.reverse w.reverse), 4 ≤ c := by
  have hA : ∀ m, m ≤ w.length → g LA m ≤ (sideL u w).getD m 0 := fun m hm => by
    rw [side_g u w hm]
    exact leAll_g (okRun_end hu.al) m
  have hB : ∀ m, m ≤ w.length → g LB m ≤ (sideL v.reverse w.reverse).getD m 0 := fun m hm => by
    rw [side_g _ _ (by rw [List.length_reverse]; exact hm)]
    exact leAll_g hv.bh m
  intro c hc
  rcases List.mem_append.mp hc with hc | hc
  · obtain ⟨i, hi, rfl⟩ := List.mem_map.mp hc
    have hi := List.mem_range.mp hi
    rw [side_len] at hi ⊢
    have := sums_at hs i (w.length + 1 - 1 - i) (by omega) (by omega)
    have h1 := hA i (by omega)
    have h2 := hB (w.length + 1 - 1 - i) (by omega)
    omega
  · obtain ⟨i, hi, rfl⟩ := List.mem_map.mp hc
    have hi := List.mem_range.mp hi
    rw [side_len] at hi ⊢
    have := sums_at hs i (w.length + 1 - 1 - i - 1) (by omega) (by omega)
    have h1 := hA i (by omega)
    have h2 := hB (w.length + 1 - 1 - i - 1) (by omega)
    omega
/-! quick tables -/
def qstep (c : Nat) : T → Pr → Pr → List Pr → List Pr
  | x :: xs, l, d, u :: rest => pmin (pmin (pr l 1) (pr u 1)) (pr d (neq c x)) :: qstep c xs (pmin (pmin (pr l 1) (pr u 1)) (pr d (neq c x))) u rest
  | _, _, _, _ => []
def qnext (f : Pr) (c : Nat) (w : T) : List Pr → List Pr
  | d :: rest => pmin f (pr d 1) :: qstep c w (pmin f (pr d 1)) d rest
  | [] => []
def qrun (w : T) : T → Nat → List Pr → List (List Pr)
  | [], _, r => [r]
  | c :: t, e, r => r :: qrun w t (e + 1) (qnext (cut c, e + 1) c w r)
def qtab (w t : T) : List (List Pr) := qrun w t 0 ((List.range (w.length + 1)).map tb0)
theorem qstep_len (c : Nat) : ∀ (xs : T) (l d : Pr) (rest : List Pr), rest.length = xs.length → (qstep c xs l d rest).length = xs.length
  | [], _, _, _, _ => rfl
  | x :: xs, l, d, [], h => by simp at h
  | x :: xs, l, d, u :: rest, h => by
    show (qstep c xs _ u rest).length + 1 = _
    rw [qstep_len c xs _ u rest (by simpa using h)]; rfl
abbrev gp (r : List Pr) (m : Nat) : Pr := r.getD m (0, 0)
theorem qstep_g (c : Nat) : ∀ (xs : T) (l d : Pr) (rest : List Pr), rest.length = xs.length → ∀ m, m < xs.length →
    gp (l :: qstep c xs l d rest) (m + 1) = pmin (pmin (pr (gp (l :: qstep c xs l d rest) m) 1) (pr (gp (d :: rest) (m + 1)) 1)) (pr (gp (d :: rest) m) (neq c (xs.getD m 0)))
  | [], _, _, _, _, m, h => by simp at h
  | y :: xs, l, d, [], h, _, _ => by simp at h
  | y :: xs, l, d, u :: rest, h, 0, hx => rfl
  | y :: xs, l, d, u :: rest, h, m + 1, hx => qstep_g c xs _ u rest (by simpa using h) m (by simpa using hx)
theorem qnext_map (f : Pr) (c : Nat) (w : T) (prev : Nat → Pr) : qnext f c w ((List.range (w.length + 1)).map prev) = (List.range (w.length + 1)).map (tbNext f c w prev) := by
  have hp : ∀ m, m ≤ w.length → gp ((List.range (w.length + 1)).map prev) m = prev m := fun m hm => rng_at _ _ _ _ (by omega)
  have hl : ((List.range (w.length + 1)).map prev).length = w.length + 1 := by simp
  generalize (List.range (w.length + 1)).map prev = r at *
  cases r with
  | nil => simp at hl
  | cons d rest =>
    have hrest : rest.length = w.length := by simpa using hl
    have hlen : (qnext f c w (d :: rest)).length = w.length + 1 := by
      show (qstep c w _ d rest).length + 1 = _
      rw [qstep_len c w _ d rest hrest]
    have key : ∀ m, m ≤ w.length → gp (qnext f c w (d :: rest)) m = tbNext f c w prev m := by
      intro m
      induction m with
      | zero =>
        intro _
        show pmin f (pr d 1) = pmin f (pr (prev 0) 1)
        rw [← hp 0 (Nat.zero_le _)]
        rfl
      | succ m ih =>
        intro hm
        refine (qstep_g c w (pmin f (pr d 1)) d rest hrest m (by omega)).trans ?_
        have ih : gp (pmin f (pr d 1) :: qstep c w (pmin f (pr d 1)) d rest) m = tbNext f c w prev m := ih (by omega)
        rw [ih, hp m (by omega), hp (m + 1) hm]
        rfl
    refine List.ext_getElem (by rw [hlen]; simp) fun i h1 h2 => ?_
    have h3 : i ≤ w.length := by rw [hlen] at h1; omega
    have h4 := key i h3
    rw [show gp (qnext f c w (d :: rest)) i = (qnext f c w (d :: rest))[i] by show List.getD _ _ _ = _; rw [List.getD_eq_getElem?_getD, List.getElem?_eq_getElem h1] <;> rfl] at h4
    rw [h4, List.getElem_map, List.getElem_range]
/-- the rows of the table, from the e-th on -/
theorem qrun_eq (w : T) : ∀ (t2 t1 : T), qrun w t2 t1.length ((List.range (w.length + 1)).map (tb w (t1 ++ t2) t1.length)) = (List.range (t2.length + 1)).map fun i => (List.range (w.length + 1)).map (tb w (t1 ++ t2) (t1.length + i))
  | [], t1 => by rw [List.append_nil] <;> rfl
  | c :: t2, t1 => by
    have ih := qrun_eq w t2 (t1 ++ [c])
    rw [List.length_append, List.length_singleton, List.append_assoc, List.singleton_append] at ih
    show _ :: qrun w t2 (t1.length + 1) (qnext (cut c, t1.length + 1) c w _) = _
    have hc : (t1 ++ c :: t2).getD t1.length 0 = c := by simp
    rw [qnext_map]
    have e1 : tbNext (cut c, t1.length + 1) c w (tb w (t1 ++ c :: t2) t1.length) = tb w (t1 ++ c :: t2) (t1.length + 1) := by
      show _ = tbNext (cut ((t1 ++ c :: t2).getD t1.length 0), t1.length + 1) ((t1 ++ c :: t2).getD t1.length 0) w _
      rw [hc]
    rw [e1, ih, List.length_cons, List.range_succ_eq_map (n := t2.length + 1), List.map_cons, List.map_map]
    refine congrArg (List.cons _) (List.map_congr_left fun i _ => ?_)
    show _ = (List.range (w.length + 1)).map (tb w (t1 ++ c :: t2) (t1.length + (i + 1)))
    rw [show t1.length + (i + 1) = t1.length + 1 + i by omega]
theorem qtab_eq (w t : T) : qtab w t = (List.range (t.length + 1)).map fun e => (List.range (w.length + 1)).map (tb w t e) := by
  have := qrun_eq w t []
  simp only [List.nil_append, List.length_nil, Nat.zero_add] at this
  exact this
theorem qtab_at {w t : T} {e m : Nat} (he : e ≤ t.length) (hm : m ≤ w.length) : ((qtab w t).getD e []).getD m (0, 0) = tb w t e m := by
  rw [qtab_eq, rng_at _ _ _ _ (by omega), rng_at _ _ _ _ (by omega)]
end K57
set_option Elab.async false
set_option linter.all false
set_option maxRecDepth 100000
set_option maxHeartbeats 4000000
/-! min of two pairs, of a list of pairs, of three ints; a text turned round; what is never reached -/
namespace K57
open PySem PySem.Spec PyProof.Rows L2
section
open PySem.W
variable {prog : Program} {w : World} {A : Around} {E : Value → Shared → Prop} {s : Shared}
theorem call_min_twoH {a b : Value} {Q : Value → Shared → Prop}
    (h : wpAny (model prog w) A.in1 (pyIter (.ref s.heap.objs.size)) (fun it s₂ => ∃ I fp wr G n P St H bt, it = .ref I ∧ WalksS prog w A.in1 I fp wr G n P St ∧ St 0 s₂ ∧ (∀ b ∈ fp, b < s₂.heap.objs.size) ∧ 0 < n ∧
      (∀ b o, H.get? b = some o → b ∉ wr) ∧ (∀ b o, H.get? b = some o → s₂.heap.get? b = some o) ∧ CmpIn prog w A.in1 .Lt H P bt ∧ ∀ v s', P (argBest bt (n - 1)) v → Moved wr G s₂ s' → Q v s') E
      { s with heap := s.heap.push { cls := .type "tuple", data := .seq #[a, b] } }) :
    wpAny (model prog w) A (call (.builtin "min") [a, b]) Q E s := by
  have hname : (toString "min" ++ toString ".loop" : String) = "min.loop" := by decide
  refine call_function_tree F.kind_min F.plain_min F.entry_min (F.args_min2 _ _) ?_
  show wpAny _ A.in1 (Builtin.Builtins.bindParams "min" ["key", "default"] 0 ⟨[], []⟩ >>= _) _ _ s
  refine wpAny_bind (wpAny_of_eq (show Builtin.Builtins.bindParams "min" ["key", "default"] 0 ⟨[], []⟩ = pure [none, none] from rfl) ?_)
  show wpAny _ A.in1 (newTuple [a, b] >>= _) _ _ s
  refine wpAny_bind (wpAny_newObj_type ?_)
  refine wpAny_bind (wpAny_mono h (fun it s₂ h₂ => ?_) fun _ _ e => e)
  obtain ⟨I, fp, wr, G, n, P, St, H, bt, rfl, W, hst, hfp, hn, hw, hkeep, hcmp, hQ⟩ := h₂
  refine wpAny_bind (wpAny_newObj_type ?_)
  have hSf : s₂.heap.objs.size ∉ fp := fun hm => Nat.lt_irrefl _ (hfp _ hm)
  rw [hname]
  refine wpAny_pure ⟨plainId_quiet F.plain_min_loop _, codeAny_min_loop_firstH W H hw bt hcmp s₂.heap.objs.size hSf (fresh_in hkeep) _ hn (fun b o e => Heap.get?_push_of_some _ (hkeep b o e)) (W.frame 0 s₂ _ s₂.toks hst (Nat.le_refl _) fun b _ o e => Heap.get?_push_of_some _ e) (Heap.get?_push_size _ rfl) fun v s' hP hm => ?_⟩
  exact hQ v s' hP (Moved.drop_new (tk := s₂.toks) hm (Nat.le_refl _))
/-- tuples of ints, compared wherever the heap stands -/
theorem cmpIn_tups {H : Heap} {P : Nat → Value → Prop} {ks : Nat → List Int} (hu : A.units < cLine) (h : ∀ i v, P i v → ∃ a items, v = .ref a ∧ IsTup H a items ∧ IntsAre items.toList (ks i)) :
    CmpIn prog w A .Lt H P (fun i j => HT.lexLt (ks i) (ks j)) := by
  intro i j vi vj s' Q E hk hi hj q
  obtain ⟨a, xs, rfl, ⟨oa, ha, hc, hd⟩, ia⟩ := h i vi hi
  obtain ⟨b, ys, rfl, ⟨ob, hb, hc2, hd2⟩, ib⟩ := h j vj hj
  exact HT.lt_tupInts ⟨oa, hk a oa ha, hc, hd⟩ ⟨ob, hk b ob hb, hc2, hd2⟩ ia ib hu q
theorem min_two_tups {a b : Addr} {xs ys : Array Value} {ns ms : List Int} {Q : Value → Shared → Prop} (hh : A.handled = none) (hu : A.units + 1 < cLine) (ha : IsTup s.heap a xs) (hb : IsTup s.heap b ys) (ia : IntsAre xs.toList ns) (ib : IntsAre ys.toList ms)
    (h : ∀ h' tk, (∀ b o, s.heap.get? b = some o → h'.get? b = some o) → Q (if HT.lexLt ms ns = true then .ref b else .ref a) { s with heap := h', toks := tk }) : wpAny (model prog w) A (call (.builtin "min") [.ref a, .ref b]) Q E s := by
  have hT : (s.heap.push { cls := .type "tuple", data := .seq #[.ref a, .ref b] }).IsTuple s.heap.objs.size #[.ref a, .ref b] := ⟨_, Heap.get?_push_size _ rfl, rfl, 0, rfl⟩
  have up : ∀ {c : Addr} {zs : Array Value}, IsTup s.heap c zs → IsTup (s.heap.push { cls := .type "tuple", data := .seq #[.ref a, .ref b] }) c zs := fun {c zs} ⟨o, ho, hc, hd⟩ => ⟨o, Heap.get?_push_of_some _ ho, hc, hd⟩
  refine call_min_twoH (iter_tupleW (s := { s with heap := s.heap.push { cls := .type "tuple", data := .seq #[.ref a, .ref b] } }) (A := A.in1) hh hT fun s₂ e W st hfp hw hk => ?_)
  refine ⟨_, _, _, _, _, _, _, s.heap.push { cls := .type "tuple", data := .seq #[.ref a, .ref b] }, (fun i j => HT.lexLt ([ns, ms].getD i []) ([ns, ms].getD j [])), rfl, W, st, hfp, (by show 0 < 2; decide), hw, hk, cmpIn_tups (A := A.in1) (ks := fun i => [ns, ms].getD i []) hu (fun i v hv => ?_), fun v s' hP m => ?_⟩
  · match i, hv with
    | 0, hv => exact ⟨a, xs, (by simpa using hv.symm), up ha, ia⟩
    | 1, hv => exact ⟨b, ys, (by simpa using hv.symm), up hb, ib⟩
  · obtain ⟨h', tk, rfl, hk'⟩ := moved_old e rfl m
    have q := h h' tk fun b o eb => hk' b o (Heap.get?_push_of_some _ eb)
    have ev : v = if HT.lexLt ms ns = true then .ref b else .ref a := by
      have hP' : (#[Value.ref a, Value.ref b] : Array Value)[argBest (fun i j => HT.lexLt ([ns, ms].getD i []) ([ns, ms].getD j [])) 1]? = some v := hP
      by_cases c : HT.lexLt ms ns = true
      · have e1 : argBest (fun i j => HT.lexLt ([ns, ms].getD i []) ([ns, ms].getD j [])) 1 = 1 := by simp [argBest, c]
        rw [e1] at hP'
        rw [if_pos c]
        simpa using hP'.symm
      · have e1 : argBest (fun i j => HT.lexLt ([ns, ms].getD i []) ([ns, ms].getD j [])) 1 = 0 := by simp [argBest, c]
        rw [e1] at hP'
        rw [if_neg c]
        simpa using hP'.symm
    rw [ev]
    exact q
theorem min_list_tups {l : Addr} {vs : Array Value} {ks : List (List Int)} {Q : Value → Shared → Prop} (hh : A.handled = none) (hu : A.units + 1 < cLine) (hl : s.heap.IsList l vs) (hn : vs.size = ks.length) (h0 : 0 < ks.length)
    (hv : ∀ (i : Nat) (v : Value), vs[i]? = some v → ∃ a items, v = .ref a ∧ IsTup s.heap a items ∧ IntsAre items.toList (ks.getD i []))
    (h : ∀ v h' tk, vs[argBest (fun i j => HT.lexLt (ks.getD i []) (ks.getD j [])) (ks.length - 1)]? = some v → (∀ b o, s.heap.get? b = some o → h'.get? b = some o) → Q v { s with heap := h', toks := tk }) :
    wpAny (model prog w) A (call (.builtin "min") [.ref l]) Q E s := by
  refine call_min_walkH (iter_listW (A := A.in1) hh hl fun s₂ e W st hfp hw hk => ?_)
  refine ⟨_, _, _, _, _, _, _, s.heap, _, rfl, W, st, hfp, by omega, hw, hk, cmpIn_tups (A := A.in1) (ks := fun i => ks.getD i []) hu (fun i v hvi => hv i v hvi), fun v s' hP m => ?_⟩
  obtain ⟨h', tk, rfl, hk'⟩ := moved_old e rfl m
  rw [hn] at hP
  exact h v h' tk hP hk'
end
theorem vals_getU : ∀ {xs : List V} {us : List Value} {i : Nat} {u : Value}, Vals xs us → us[i]? = some u → ∃ x, xs[i]? = some x ∧ RelV x u
  | _, _, i, u, .nil, h => by simp at h
  | _, _, 0, u, .cons r _, h => by
    simp only [List.getElem?_cons_zero, Option.some.injEq] at h
    subst h
    exact ⟨_, rfl, r⟩
  | _, _, i + 1, u, .cons _ rs, h => by
    obtain ⟨x, h1, h2⟩ := vals_getU (i := i) rs (by simpa using h)
    exact ⟨x, by simpa using h1, h2⟩
/-- a pair of numbers -/
def prL (p : Pr) : List Int := [(p.1 : Int), (p.2 : Int)]
def prD (p : Pr) : PyData := .tuple [.int (p.1 : Int), .int (p.2 : Int)]
theorem lex_pr (a b : Pr) : HT.lexLt (prL a) (prL b) = plt a b := by
  unfold prL plt
  rw [HT.lexLt_cons, HT.lexLt_cons, HT.lexLt_nil_nil]
  by_cases h1 : (a.1 : Int) = (b.1 : Int)
  · rw [if_pos h1]
    by_cases h2 : (a.2 : Int) = (b.2 : Int)
    · rw [if_pos h2, decide_eq_false (by omega)]
    · rw [if_neg h2]
      by_cases h3 : a.2 < b.2
      · rw [decide_eq_true (by omega), decide_eq_true (by omega)]
      · rw [decide_eq_false (by omega), decide_eq_false (by omega)]
  · rw [if_neg h1]
    by_cases h3 : a.1 < b.1
    · rw [decide_eq_true (by omega), decide_eq_true (by omega)]
    · rw [decide_eq_false (by omega), decide_eq_false (by omega)]
theorem pr_at {K : PySem.W.Frag} {H : Hp} {v : V} {p : Pr} (h : Dp K H v (prD p)) : ∃ a, v = .ref a ∧ SqT K H a ((prL p).map V.int) := by
  obtain ⟨a, xs, rfl, h1, h2⟩ := dp_tup h
  rw [dpAll_ints_eq (ns := prL p) h2] at h1
  exact ⟨a, rfl, h1⟩
theorem pr_dp {K : PySem.W.Frag} {H : Hp} {a : Addr} {p : Pr} (h : SqT K H a ((prL p).map V.int)) : Dp K H (.ref a) (prD p) := .tup h (dpAll_ints (prL p))
section
variable {X : Cx}
/-- min(x, y) of two pairs -/
def rMinP (K : PySem.W.Frag) : List V → Hp → VK → Prop := fun xs H Q => ∃ x y a b, xs = [x, y] ∧ Dp K H x (prD a) ∧ Dp K H y (prD b) ∧ Q (if plt b a = true then y else x) H
theorem call_minP (hc : X.calm = true) (hu : X.A.units + 1 < cLine) : CallR X (.builtin "min") (rMinP X.K) := by
  intro pins s σ H xs us Q I r h
  obtain ⟨x, y, a, b, rfl, hx, hy, q⟩ := h
  obtain ⟨ax, rfl, hx2⟩ := pr_at hx
  obtain ⟨ay, rfl, hy2⟩ := pr_at hy
  obtain ⟨u, w', rfl, r1, r2⟩ := vals2 r
  cases r1
  cases r2
  obtain ⟨its, v1, p1, _⟩ := I.tuple hx2
  obtain ⟨its2, v2, p2, _⟩ := I.tuple hy2
  refine min_two_tups (I.ok.hd hc) hu p1 p2 (intsAre_of v1) (intsAre_of v2) fun h' tk k => ?_
  rw [lex_pr]
  refine ⟨_, H, I.kept k, ?_, q⟩
  split <;> rfl
/-- min of a list of pairs -/
def rMinPL (K : PySem.W.Frag) : List V → Hp → VK → Prop := fun xs H Q => ∃ (p : Addr) (vs : List V) (ps : List Pr), xs = [.ref p] ∧ SqL K H p vs ∧ DpAll K H vs (ps.map prD) ∧ 0 < ps.length ∧ ∀ v, vs[argBest (fun i j => plt (ps.getD i (0, 0)) (ps.getD j (0, 0))) (ps.length - 1)]? = some v → Q v H
theorem call_minPL (hc : X.calm = true) (hu : X.A.units + 1 < cLine) : CallR X (.builtin "min") (rMinPL X.K) := by
  intro pins s σ H xs us Q I r h
  obtain ⟨p, vs, ps, rfl, hl, hd, h0, q⟩ := h
  obtain ⟨its, rv, il, _⟩ := I.list hl
  rw [Vals.ref1 r]
  have hlen : its.length = ps.length := by rw [← rv.length, hd.length, List.length_map]
  have ek : ∀ i, i < ps.length → (ps.map prL).getD i [] = prL (ps.getD i (0, 0)) := fun i hi => by
    rw [List.getD_eq_getElem?_getD, List.getElem?_map, List.getD_eq_getElem?_getD, List.getElem?_eq_getElem hi] <;> rfl
  have eb : ∀ n, n < ps.length → argBest (fun i j => HT.lexLt ((ps.map prL).getD i []) ((ps.map prL).getD j [])) n = argBest (fun i j => plt (ps.getD i (0, 0)) (ps.getD j (0, 0))) n ∧ argBest (fun i j => plt (ps.getD i (0, 0)) (ps.getD j (0, 0))) n ≤ n := by
    intro n
    induction n with
    | zero => intro _; exact ⟨rfl, Nat.le_refl _⟩
    | succ n ih =>
      intro hn
      obtain ⟨i1, i2⟩ := ih (by omega)
      unfold argBest
      rw [i1, ek _ hn, ek _ (Nat.lt_of_le_of_lt i2 (by omega)), lex_pr]
      refine ⟨rfl, ?_⟩
      split
      · exact Nat.le_refl _
      · omega
  refine min_list_tups (ks := ps.map prL) (I.ok.hd hc) hu il.isList (by rw [List.size_toArray, List.length_map]; exact hlen) (by rw [List.length_map]; exact h0) (fun i v hv => ?_) fun v h' tk hv k => ?_
  · have hv2 : its[i]? = some v := by simpa using hv
    obtain ⟨x, hx, rx⟩ := vals_getU rv hv2
    obtain ⟨d, hd1, hd2⟩ := hd.at hx
    rw [List.getElem?_map] at hd1
    obtain ⟨pp, hp, rfl⟩ := Option.map_eq_some_iff.mp hd1
    obtain ⟨a, rfl, ha⟩ := pr_at hd2
    cases rx
    obtain ⟨its2, v2, p2, _⟩ := I.tuple ha
    refine ⟨a, _, rfl, p2, ?_⟩
    rw [ek i (List.getElem?_eq_some_iff.mp hp).1, show ps.getD i (0, 0) = pp by rw [List.getD_eq_getElem?_getD, hp] <;> rfl]
    exact intsAre_of v2
  · rw [List.length_map, (eb _ (by omega)).1] at hv
    have hv2 : its[argBest (fun i j => plt (ps.getD i (0, 0)) (ps.getD j (0, 0))) (ps.length - 1)]? = some v := by simpa using hv
    obtain ⟨x, hx, rx⟩ := vals_getU rv hv2
    exact ⟨x, H, I.kept k, rx, q x hx⟩
theorem call_min3 (hc : X.calm = true) : CallR X (.builtin "min") (fun xs H Q => ∃ i j k, xs = [.int i, .int j, .int k] ∧ Q (.int (if j < i then (if k < j then k else j) else (if k < i then k else i))) H) := by
  intro pins s σ H xs us Q I r h
  obtain ⟨i, j, k, rfl, q⟩ := h
  obtain ⟨u, w', x, rfl, ⟨t, rfl⟩, ⟨t', rfl⟩, ⟨t2, rfl⟩⟩ := vals3 r
  refine min_three_ints (I.ok.hd hc) fun h' tk kk => ⟨_, H, I.kept kk, ?_, q⟩
  by_cases h1 : j < i
  · rw [if_pos h1, if_pos h1]
    by_cases h2 : k < j
    · rw [if_pos h2, if_pos h2]; exact ⟨_, rfl⟩
    · rw [if_neg h2, if_neg h2]; exact ⟨_, rfl⟩
  · rw [if_neg h1, if_neg h1]
    by_cases h2 : k < i
    · rw [if_pos h2, if_pos h2]; exact ⟨_, rfl⟩
    · rw [if_neg h2, if_neg h2]; exact ⟨_, rfl⟩
/-- text[::-1] -/
def tRevS (te : TE) : TE := fun σ H Q => te σ H fun x H1 => ∃ l : List Nat, x = .str (SX.S l) ∧ l.length ≤ sizeLine ∧ Q (.str (SX.S l.reverse)) H1
theorem rev_rng (l : List Nat) : (List.range l.length).map (fun k => l.getD (l.length - 1 - k) 0) = l.reverse := by
  apply List.ext_getElem
  · simp
  · intro i h1 h2
    simp at h1
    rw [List.getElem_map, List.getElem_range, List.getElem_reverse, List.getD_eq_getElem?_getD, List.getElem?_eq_getElem (by omega)] <;> rfl
theorem pe_revS {e : Expr} {te : TE} {k : Nat} {p1 p2 p3 pos : Pos} (he : PE X e te) : PE X (.Subscript e (.Slice none none (some (.UnaryOp .USub (.Constant (.int 1) k p1) p2)) p3) pos) (tRevS te) := by
  refine ⟨fun pins s σ H Q I h => ?_⟩
  refine Subscript_ (thn (he.run pins s σ H _ I h) fun v s1 ⟨x, H1, I1, r1, q1⟩ => ?_)
  obtain ⟨l, ex, hz, q⟩ := q1
  subst ex
  obtain ⟨t, rfl⟩ := r1
  have hst : PO X (some (.UnaryOp .USub (.Constant (.int 1) k p1) p2)) (tPart (tUn (rU fun i => .int (-i)) (tC (.int 1)))) := po_some (pe_un un_neg pe_int)
  refine wpAny_Slice (thn (po_none.run pins s1 σ H1 (fun o H2 => o = none ∧ H2 = H1) I1 ⟨rfl, rfl⟩) fun vl s2 ⟨lo, H2, I2, pl, el, e2⟩ => ?_)
  subst el e2
  refine thn (po_none.run pins s2 σ H2 (fun o H3 => o = none ∧ H3 = H2) I2 ⟨rfl, rfl⟩) fun vu s3 ⟨u, H3, I3, pu, eu, e3⟩ => ?_
  subst eu e3
  refine thn (hst.run pins s3 σ H3 (fun o H4 => o = some (-1) ∧ H4 = H3) I3 ⟨1, rfl, -1, rfl, rfl, rfl⟩) fun vs s4 ⟨o, H4, I4, ps, eo, e4⟩ => ?_
  subst eo e4
  have I5 : Inv X pins σ H4 { s4 with heap := s4.heap.push { cls := .type "slice", data := .fields #[vl, vu, vs] } } := I4.kept (t' := s4.toks) fun b ob q => Heap.get?_push_of_some _ q
  show wpAny (model X.prog X.w) X.A (subscriptTail e (.Slice none none (some (.UnaryOp .USub (.Constant (.int 1) k p1) p2)) p3) (.str (SX.S l) t) (.ref s4.heap.objs.size)) (EP X pins σ Q) X.xe { s4 with heap := s4.heap.push { cls := .type "slice", data := .fields #[vl, vu, vs] } }
  refine tail_any (ops := [.str (SX.S l) t, .ref s4.heap.objs.size]) (typeIs_str _ _ _) (F.slot_str_getitem.lookup) ?_ (by with_unfolding_all rfl)
  obtain ⟨l1, rfl, hl1⟩ := IsPart.raw pl
  obtain ⟨u1, rfl, hu1⟩ := IsPart.raw pu
  obtain ⟨s5, rfl, hs1⟩ := IsPart.raw ps
  obtain rfl : l1 = none := by cases l1 with | none => rfl | some _ => cases hl1
  obtain rfl : u1 = none := by cases u1 with | none => rfl | some _ => cases hu1
  obtain ⟨⟨n5, t5⟩, rfl⟩ : ∃ y, s5 = some y := by cases s5 with | none => cases hs1 | some y => exact ⟨y, rfl⟩
  obtain rfl : n5 = -1 := by simpa using hs1
  refine wpAny_getItem_str_slice (l := none) (u := none) (st := some (-1, t5)) ⟨_, Heap.get?_push_size _ rfl, rfl, rfl⟩ (show ((-1 : Int) == 0) = false by decide) ?_
  have e : sliceMade (SX.S l) t none none (some (-1, t5)) = Made.str (SX.S l.reverse) := by
    unfold sliceMade slicePicked
    rw [if_neg (by simp)]
    show Made.str ⟨((Builtin.Str.strSliceIndices none none (-1) (SX.S l).length).filterMap ((SX.S l).cps[·]?)).toArray⟩ = _
    rw [picked_rev, filterMap_get _ _ (fun i hi => ?_), List.map_map]
    · show Made.str ⟨((List.range (SX.S l).length).map fun k => (SX.S l).cps.getD ((SX.S l).length - 1 - k) 0).toArray⟩ = Made.str ⟨l.reverse.toArray⟩
      rw [← rev_rng l, SX.S_len]
      congr 3
      refine List.map_congr_left fun k _ => ?_
      show l.toArray.getD _ 0 = _
      simp [Array.getD, List.getD_eq_getElem?_getD]
      split
      · rename_i h; rw [List.getElem?_eq_getElem h] <;> rfl
      · rename_i h; rw [List.getElem?_eq_none (by omega)] <;> rfl
    · obtain ⟨k, hk, rfl⟩ := List.mem_map.mp hi
      have hk' := List.mem_range.mp hk
      show _ < (SX.S l).length
      omega
  rw [e]
  exact ⟨by rw [SX.S_len, List.length_reverse]; exact hz, .str _, H4, I5.tok _, ⟨_, rfl⟩, q⟩
theorem call_minPK {K : PySem.W.Frag} (hK : X.K = K) (hc : X.calm = true) (hu : X.A.units + 1 < cLine) : CallR X (.builtin "min") (rMinP K) := hK ▸ call_minP hc hu
theorem call_minPLK {K : PySem.W.Frag} (hK : X.K = K) (hc : X.calm = true) (hu : X.A.units + 1 < cLine) : CallR X (.builtin "min") (rMinPL K) := hK ▸ call_minPL hc hu
theorem cr_minK0 {K : PySem.W.Frag} (hK : X.K = K) (hc : X.calm = true) : CallR X (.builtin "min") (rMin K) := hK ▸ cr_min hc
theorem pe_never {e : Expr} : PE X e (fun _ _ _ => False) := ⟨fun _ _ _ _ _ _ h => h.elim⟩
end
end K57
set_option Elab.async false
set_option linter.all false
set_option maxRecDepth 100000
set_option maxHeartbeats 4000000
/-! calls of a class whose __init__ was told raw -/
namespace K57
open PySem PySem.Spec PyProof.Rows L2
structure MakR (P : Program) (w : World) (K : PySem.W.Frag) (mg : Str → Option Value) (base : Heap) (k : Nat) (x : Str) (C : Addr) (sp : Sp) : Prop where
  ex : ∃ f, Mk K C f ∧ FnR P w K mg base CX0 k f sp ∧ mg x = some (.ref C)
section
variable {X : Cx} {k : Nat} {x : Str} {C : Addr} {e : Expr} {es : List Expr} {t : TA} {p pos : Pos}
theorem pe_mkR {sp : Sp} {j : Nat} (c : MakR X.prog X.w X.K X.mg X.base k x C sp) (hr : Room j X.A) (hk : k + 1 ≤ j) (hg : Gl X x) (ha : PA X (e :: es) t)
    (hdb : (x == ("__debug__" : Str)) = false := by decide)
    (he : starEach (e :: es) X.env = (false, eval e X.env) :: starEach es X.env := by rfl) (hpl : (backTo pos (starEach es X.env)).any (·.1) = false := by rfl) : PE X (.Call (.Name x p) (e :: es) [] pos) (StX.tMakeR C sp C8.E0 t) := by
  obtain ⟨f, M, F, hm⟩ := c.ex
  exact StX.pe_makeR M F (hr.mono hk) hg hm C8.pass0 ha hdb he hpl
end
theorem pa_starK {X : Cx} {K : PySem.W.Frag} {e : Expr} {es : List Expr} {te : TE} {t : TA} {p : Pos} (hK : X.K = K) (he : PE X e te) (hr : PA X es t) (hs : starEach (.Starred e p :: es) X.env = (true, eval e X.env) :: starEach es X.env := by rfl) : PA X (.Starred e p :: es) (StX.tStar K te t) := hK ▸ StX.pa_star he hr hs
end K57
set_option linter.all false
set_option maxRecDepth 100000
/-! what triples of the book cost, plain -/
namespace K57
def costL (f s w : Nat) : List Nat := if f = s then aloneL (wd f) (wd w) else borderL (sideL (wd f) (wd w)) (sideL (wd s).reverse (wd w).reverse)
theorem wd_ne {a b : Nat} (ha : a < 30) (hb : b < 30) (h : a ≠ b) : wd a ≠ wd b := fun e => h (by rw [← num_wd ha, ← num_wd hb, e])
theorem cost_ge {f s w : Nat} (hf : f < 30) (hs : s < 30) (hw : w < 30) (h1 : w ≠ f) (h2 : w ≠ s) : ∀ c ∈ costL f s w, 4 ≤ c := by
  obtain ⟨LA, LB, h⟩ := words_ok (wd w) (wd_mem hw)
  obtain ⟨ho, hp⟩ := word_of h
  have pf := hp (wd f) (wd_mem hf) (wd_ne hw hf h1)
  have ps := hp (wd s) (wd_mem hs) (wd_ne hw hs h2)
  unfold costL
  by_cases e : f = s
  · rw [if_pos e]; exact alone_ge pf
  · rw [if_neg e]; exact border_ge pf ps ho
def aloneQ (u w : T) : List Nat := (List.range ((textC u w).length + 1)).map fun e => (((qtab w (textC u w)).getD e []).getD w.length (0, 0)).1 + behAt (textC u w) e
theorem aloneQ_eq (u w : T) : aloneL u w = aloneQ u w := by
  unfold aloneL aloneQ
  refine List.map_congr_left fun e he => ?_
  rw [qtab_at (by have := List.mem_range.mp he; omega) (Nat.le_refl _)]
theorem cost_1 : ∀ c ∈ costL 0 0 1, 5 ≤ c := by
  show ∀ c ∈ aloneL (wd 0) (wd 1), 5 ≤ c
  rw [aloneQ_eq]
  decide +kernel
theorem cost_2 : ∀ c ∈ costL 0 0 2, 5 ≤ c := by
  show ∀ c ∈ aloneL (wd 0) (wd 2), 5 ≤ c
  rw [aloneQ_eq]
  decide +kernel
theorem cost_3 : ∀ c ∈ costL 0 0 3, 5 ≤ c := by
  show ∀ c ∈ aloneL (wd 0) (wd 3), 5 ≤ c
  rw [aloneQ_eq]
  decide +kernel
theorem cost_4 : 4 ∈ costL 0 0 4 := by
  show 4 ∈ aloneL (wd 0) (wd 4)
  rw [aloneQ_eq]
  decide +kernel
end K57
set_option linter.all false
set_option maxRecDepth 100000
/-! least ways, begins of items, the stretch: plain -/
namespace K57
open PySem
/-- the i-th row of counts_to -/
def crow (a b : T) : Nat → List Nat
  | 0 => row0 0 b
  | i + 1 => nextRow (i + 1) (a.getD i 0) b (crow a b i)
theorem crow_len (a b : T) : ∀ i, (crow a b i).length = b.length + 1
  | 0 => row0_len 0 b
  | i + 1 => nextRow_len _ _ _ (crow_len a b i)
abbrev cst (a b : T) (i j : Nat) : Nat := g (crow a b i) j
theorem cst_0 (a b : T) {j : Nat} (h : j ≤ b.length) : cst a b 0 j = j := by
  show g (row0 0 b) j = j
  rw [row0_g b 0 j h, Nat.zero_add]
theorem cst_s0 (a b : T) : ∀ i, cst a b i 0 = i
  | 0 => cst_0 a b (Nat.zero_le _)
  | i + 1 => by
    have h := (next_g (f := i + 1) (c := a.getD i 0) (crow_len a b i)).1
    have ih := cst_s0 a b i
    show g (nextRow (i + 1) (a.getD i 0) b (crow a b i)) 0 = i + 1
    rw [h, show g (crow a b i) 0 = i from ih, mn_eq]
    omega
theorem cst_ss (a b : T) {i j : Nat} (h : j < b.length) : cst a b (i + 1) (j + 1) = mn (mn (cst a b (i + 1) j + 1) (cst a b i (j + 1) + 1)) (cst a b i j + neq (a.getD i 0) (b.getD j 0)) :=
  (next_g (f := i + 1) (c := a.getD i 0) (crow_len a b i)).2 j h
/-- one step back along a least way -/
def wstep (a b : T) (at_ its : Nat) : Nat × Nat × List Ed :=
  if 0 < at_ ∧ 0 < its ∧ cst a b at_ its = cst a b (at_ - 1) (its - 1) + neq (a.getD (at_ - 1) 0) (b.getD (its - 1) 0) then
    (at_ - 1, its - 1, if a.getD (at_ - 1) 0 = b.getD (its - 1) 0 then [] else [.chg (its - 1) (b.getD (its - 1) 0)])
  else if 0 < its ∧ cst a b at_ its = cst a b at_ (its - 1) + 1 then (at_, its - 1, [.put (its - 1) (b.getD (its - 1) 0)])
  else (at_ - 1, its, [.lost its])
def wrun (a b : T) : Nat → Nat → Nat → List Ed
  | 0, _, _ => []
  | f + 1, at_, its => if at_ = 0 ∧ its = 0 then [] else (wstep a b at_ its).2.2 ++ wrun a b f (wstep a b at_ its).1 (wstep a b at_ its).2.1
/-- the edits of way_along, from the left -/
def wayE (a b : T) : List Ed := (wrun a b (a.length + b.length) a.length b.length).reverse
/-- where the items begin -/
def begL (t : T) : List Nat := 0 :: ((List.range t.length).filter fun i => decide (t.getD i 0 = 32)).map (· + 1)
/-- the ends of stretches: (cost, end) -/
def strL (w t : T) : List Pr := (List.range (t.length + 1)).map fun e => ((tb w t e w.length).1 + behAt t e, e)
def strQ (w t : T) : List Pr := (List.range (t.length + 1)).map fun e => (((qtab w t).getD e []).getD w.length (0, 0) |>.1 |> fun c => c + behAt t e, e)
theorem strL_eq (w t : T) : strL w t = strQ w t := by
  unfold strL strQ
  refine List.map_congr_left fun e he => ?_
  rw [qtab_at (by have := List.mem_range.mp he; omega) (Nat.le_refl _)]
def bestIx (ps : List Pr) : Nat → Nat
  | 0 => 0
  | k + 1 => if plt (ps.getD (k + 1) (0, 0)) (ps.getD (bestIx ps k) (0, 0)) = true then k + 1 else bestIx ps k
/-- the text of four outsets, and what is made of it: augment -/
def t4 : T := textC (wd 0) (wd 4)
theorem t4_len : t4.length = 27 := by decide +kernel
theorem str_t4 : bestIx (strL (wd 4) t4) 27 = 6 := by
  rw [strL_eq]
  decide +kernel
theorem beg_t4 : (tb (wd 4) t4 6 (wd 4).length).2 = 0 := by
  rw [← qtab_at (by rw [t4_len]; omega) (Nat.le_refl _)]
  decide +kernel
theorem beh_t4 : t4.getD 6 0 = 32 := by decide +kernel
theorem begL_t4 : begL t4 = [0, 7, 14, 21] := by decide +kernel
theorem take_t4 : t4.take 6 = wd 0 := by decide +kernel
/-- the edits that make augment of outset -/
def e4 : List Ed := [.chg 0 97, .chg 2 103, .chg 3 109, .put 5 110]
theorem way_t4 : wayE (wd 0) (wd 4) = e4 := by kernel_rfl
theorem copies_t4 : copiesTold (wd 0) (wd 4) = 4 := by decide +kernel
end K57
set_option Elab.async false
set_option linter.all false
set_option maxRecDepth 100000
set_option maxHeartbeats 4000000
namespace K57
open PySem PySem.Spec PyProof.Rows L2
section
variable {P : Program} {w : World} {K : PySem.W.Frag} {mg : Str → Option Value} {base : Heap}
/-! ### checks -/
def oV : Option Int → V
  | none => .non
  | some i => .int i
def inB (lo hi : Option Int) (i : Int) : Prop := (∀ l, lo = some l → l ≤ i) ∧ ∀ h, hi = some h → i ≤ h
def sp_is_integer : Sp := fun vs H Q _ => ∃ i, vs = [.int i] ∧ RetF (.bl true) H Q
abbrev N_is_integer : List Str := ["value"]
abbrev sco_is_integer : Scope := defScope s_is_integer
theorem sc_is_integer : FnScope N_is_integer ["value"] sco_is_integer := ⟨rfl, rfl, rfl, by decide +kernel, rfl, by decide +kernel, by decide +kernel⟩
theorem ok_is_integer (T : Tx K mg) : C8.Cal P w K mg base 1 "is_integer" sp_is_integer [] := by
  refine mkCal T.d_is_integer T.m_is_integer (fun fd F => ⟨[], .nil, F.bindsN fun _ _ _ _ _ _ us hl => match us, hl with | [_], _ => rfl⟩) sc_is_integer (fun vs H Q E h => ?_) (fun cdv A outer s H vs Q E hr h => ?_)
  · obtain ⟨i, rfl, _⟩ := h; rfl
  · obtain ⟨i, rfl, q⟩ := h
    refine ⟨_, (pss_one (ps_ret (pe_and (pe_callB call_isi (by rfl) T.f_isinstance bb_isinstance (pa_cons (pv 0) (pa_cons (pe_bltn (by rfl) T.f_int bb_int (rt "int")) pa_nil))) (pe_one (pe_not (pe_callB call_isi (by rfl) T.f_isinstance bb_isinstance (pa_cons (pv 0) (pa_cons (pe_bltn (by rfl) T.f_bool bb_bool (rt "bool")) pa_nil)))))))), ?_⟩
    refine ⟨_, rfl, _, _, _, _, true, rfl, .ty _, .base (.int i), k_ii, true, rfl, iteT ?_⟩
    exact ⟨_, rfl, _, _, _, _, false, rfl, .ty _, .base (.int i), k_ib, false, rfl, q _ (Same.refl _)⟩
def sp_is_within : Sp := fun vs H Q _ => ∃ i lo hi, vs = [.int i, oV lo, oV hi] ∧ inB lo hi i ∧ RetF (.bl true) H Q
abbrev N_is_within : List Str := ["value", "least", "most"]
abbrev sco_is_within : Scope := defScope s_is_within
theorem sc_is_within : FnScope N_is_within ["value", "least", "most"] sco_is_within := ⟨rfl, rfl, rfl, by decide +kernel, rfl, by decide +kernel, by decide +kernel⟩
theorem ok_is_within (T : Tx K mg) : C8.Cal P w K mg base 2 "is_within" sp_is_within [] := by
  have c_is_integer : C8.Cal P w K mg base 1 "is_integer" sp_is_integer [] := ok_is_integer T
  refine mkCal T.d_is_within T.m_is_within (fun fd F => ⟨[], .nil, F.bindsN fun _ _ _ _ _ _ us hl => match us, hl with | [_, _, _], _ => rfl⟩) sc_is_within (fun vs H Q E h => ?_) (fun cdv A outer s H vs Q E hr h => ?_)
  · obtain ⟨i, lo, hi, rfl, _⟩ := h; rfl
  · obtain ⟨i, lo, hi, rfl, ⟨b1, b2⟩, q⟩ := h
    refine ⟨_, (pss_cons (ps_if (pt_not (pt_val (C8.pe_c c_is_integer hr (by decide) (by rfl) (pa_cons (pv 0) pa_nil)))) (pss_one (ps_ret pe_bl)) pss_nil)
      (pss_one (ps_ret (pe_and (pe_or (pe_cmpR op_isN (pv 1) pe_non (nomark _)) (pe_one (pe_cmpR op_ge (pv 0) (pv 1) (nomark _)))) (pe_one (pe_or (pe_cmpR op_isN (pv 2) pe_non (nomark _)) (pe_one (pe_cmpR op_le (pv 0) (pv 2) (nomark _))))))))), ?_⟩
    refine ⟨_, rfl, i, rfl, fun H2 s2 => ⟨true, rfl, iteF ?_⟩⟩
    refine ⟨_, rfl, rfl, decide (oV lo = .non), rfl, ?_⟩
    have hB : ∀ (Q' : VK), Q' (.bl true) H2 → (tOrV (tOp (fun x y H Q => y = .non ∧ Q (.bl (decide (x = .non))) H) (tVar 2) (tC .non)) (tOp (rI0 fun i j => .bl (decide (i ≤ j))) (tVar 0) (tVar 2))) [some (.int i), some (oV lo), some (oV hi)] H2 Q' := by
      intro Q' q'
      refine ⟨_, rfl, rfl, decide (oV hi = .non), rfl, ?_⟩
      cases hi with
      | none => exact iteT q'
      | some h =>
        refine iteF ⟨_, rfl, _, rfl, i, h, rfl, rfl, ?_⟩
        show Q' (V.bl (decide (i ≤ h))) H2
        rw [decide_eq_true (b2 h rfl)]
        exact q'
    cases lo with
    | none => exact iteT ⟨true, rfl, iteT (hB _ (q _ s2))⟩
    | some l =>
      refine iteF ⟨_, rfl, _, rfl, i, l, rfl, rfl, true, ?_, iteT (hB _ (q _ s2))⟩
      show V.bl (decide (l ≤ i)) = V.bl true
      rw [decide_eq_true (b1 l rfl)]
def sp_are_integers (K : PySem.W.Frag) : Sp := fun vs H Q _ => ∃ (a : Addr) (ns : List Int), vs = [.ref a] ∧ Sq K H a (ns.map V.int) ∧ ns.length < 1000000 ∧ RetF (.bl true) H Q
abbrev N_are_integers : List Str := ["value", "each"]
abbrev sco_are_integers : Scope := defScope s_are_integers
theorem sc_are_integers : FnScope N_are_integers ["value"] sco_are_integers := ⟨rfl, rfl, rfl, by decide +kernel, rfl, by decide +kernel, by decide +kernel⟩
theorem ok_are_integers (T : Tx K mg) : C8.Cal P w K mg base 2 "are_integers" (sp_are_integers K) [] := by
  have c_is_integer : C8.Cal P w K mg base 1 "is_integer" sp_is_integer [] := ok_is_integer T
  refine mkCal T.d_are_integers T.m_are_integers (fun fd F => ⟨[], .nil, F.bindsN fun _ _ _ _ _ _ us hl => match us, hl with | [_], _ => rfl⟩) sc_are_integers (fun vs H Q E h => ?_) (fun cdv A outer s H vs Q E hr h => ?_)
  · obtain ⟨a, ns, rfl, _⟩ := h; rfl
  · obtain ⟨a, ns, rfl, hS, hn, q⟩ := h
    refine ⟨_, (pss_one (ps_ret (pe_and (pe_callB call_isiT (by rfl) T.f_isinstance bb_isinstance (pa_cons (pv 0) (pa_cons (pe_tup (pa_cons (pe_bltn (by rfl) T.f_list bb_list (rt "list")) (pa_cons (pe_bltn (by rfl) T.f_tuple bb_tuple (rt "tuple")) pa_nil))) pa_nil))) (pe_one (pe_callB (cr_all rfl) (by rfl) T.f_all bb_all (pa_cons (pe_lc (own := [("each", 1)]) rfl sc_are_integers.nd (pi_seq (pv 0)) (blkOk_by (own := [("each", 1)]) (N := N_are_integers) (sc := sco_are_integers) (by decide +kernel)) (fun _ _ _ _ _ => (pg_name (i := 1) sc_are_integers.nd rfl (Or.inl rfl))) (fun _ _ _ _ _ => pts_nil) (fun _ _ _ _ _ => (C8.pe_c c_is_integer hr (by decide) (by rfl) (pa_cons (pv 1) pa_nil)))) pa_nil)))))), ?_⟩
    refine ⟨_, rfl, by show 2 ≤ sizeLine; decide, fun p hp => ?_⟩
    have s1 : Same H (upd H p (.tup [.ty "list", .ty "tuple"])) := same_new hp
    obtain ⟨t, ht, hk⟩ := sq_isi (hS.mono s1)
    refine ⟨_, p, _, t, _, true, rfl, upd_same, .cons (.ty _) (.cons (.ty _) .nil), ht, hk, true, rfl, iteT ?_⟩
    have turn : ∀ (i : Nat) (x : V) (H' : Hp), i < (ns.map V.int).length → (fun (_ : Nat) => true) i = true → Same (upd H p (.tup [.ty "list", .ty "tuple"])) H' → (ns.map V.int)[i]? = some x → ∀ Qe : VK, (∀ H2, Same H' H2 → Qe (.bl true) H2) →
        tCall sp_is_integer [] C8.E0 (tCons (tVar 1) tNil) [some (.ref a), some x] H' Qe := by
      intro i x H' hi _ _ hx Qe qe
      obtain ⟨z, _, rfl⟩ := at_int hx
      exact ⟨_, rfl, z, rfl, qe⟩
    rcases hS.mono s1 with h | h
    · refine .inl ⟨_, rfl, a, rfl, ⟨_, h⟩, fun D hD => ?_⟩
      refine lc_flat hD (w_list (xs := ns.map V.int)) (fun _ => true) (fun _ => .bl true) ?_ ?_ ?_ ?_ ?_ ?_
      · rw [List.length_map]; exact hn
      · exact fun H' s' => sql_mono s' h
      · exact fun x => rfl
      · exact fun i x H' _ _ _ Qt qt => yes_ok qt
      · exact turn
      · exact fun H2 s2 hy => all_true hy (q _ (s1.trans s2))
    · refine .inr ⟨_, rfl, a, rfl, ⟨_, h⟩, fun D hD => ?_⟩
      refine lc_flat hD (w_tup (xs := ns.map V.int)) (fun _ => true) (fun _ => .bl true) ?_ ?_ ?_ ?_ ?_ ?_
      · rw [List.length_map]; exact hn
      · exact fun H' s' => sqt_mono s' h
      · exact fun x => rfl
      · exact fun i x H' _ _ _ Qt qt => yes_ok qt
      · exact turn
      · exact fun H2 s2 hy => all_true hy (q _ (s1.trans s2))
def sp_are_within (K : PySem.W.Frag) : Sp := fun vs H Q _ => ∃ (a : Addr) (ns : List Int) (lo hi : Option Int), vs = [.ref a, oV lo, oV hi] ∧ Sq K H a (ns.map V.int) ∧ ns.length < 1000000 ∧ (∀ n ∈ ns, inB lo hi n) ∧ RetF (.bl true) H Q
abbrev N_are_within : List Str := ["value", "least", "most", "each"]
abbrev sco_are_within : Scope := defScope s_are_within
theorem sc_are_within : FnScope N_are_within ["value", "least", "most"] sco_are_within := ⟨rfl, rfl, rfl, by decide +kernel, rfl, by decide +kernel, by decide +kernel⟩
theorem ok_are_within (T : Tx K mg) : C8.Cal P w K mg base 3 "are_within" (sp_are_within K) [] := by
  have c_is_within : C8.Cal P w K mg base 2 "is_within" sp_is_within [] := ok_is_within T
  refine mkCal T.d_are_within T.m_are_within (fun fd F => ⟨[], .nil, F.bindsN fun _ _ _ _ _ _ us hl => match us, hl with | [_, _, _], _ => rfl⟩) sc_are_within (fun vs H Q E h => ?_) (fun cdv A outer s H vs Q E hr h => ?_)
  · obtain ⟨a, ns, lo, hi, rfl, _⟩ := h; rfl
  · obtain ⟨a, ns, lo, hi, rfl, hS, hn, hB, q⟩ := h
    refine ⟨_, (pss_one (ps_ret (pe_and (pe_callB call_isiT (by rfl) T.f_isinstance bb_isinstance (pa_cons (pv 0) (pa_cons (pe_tup (pa_cons (pe_bltn (by rfl) T.f_list bb_list (rt "list")) (pa_cons (pe_bltn (by rfl) T.f_tuple bb_tuple (rt "tuple")) pa_nil))) pa_nil))) (pe_one (pe_callB (cr_all rfl) (by rfl) T.f_all bb_all (pa_cons (pe_lc (own := [("each", 3)]) rfl sc_are_within.nd (pi_seq (pv 0)) (blkOk_by (own := [("each", 3)]) (N := N_are_within) (sc := sco_are_within) (by decide +kernel)) (fun _ _ _ _ _ => (pg_name (i := 3) sc_are_within.nd rfl (Or.inl rfl))) (fun _ _ _ _ _ => pts_nil) (fun _ _ _ _ _ => (C8.pe_c c_is_within hr (by decide) (by rfl) (pa_cons (pv 3) (pa_cons (pv 1) (pa_cons (pv 2) pa_nil)))))) pa_nil)))))), ?_⟩
    refine ⟨_, rfl, by show 2 ≤ sizeLine; decide, fun p hp => ?_⟩
    have s1 : Same H (upd H p (.tup [.ty "list", .ty "tuple"])) := same_new hp
    obtain ⟨t, ht, hk⟩ := sq_isi (hS.mono s1)
    refine ⟨_, p, _, t, _, true, rfl, upd_same, .cons (.ty _) (.cons (.ty _) .nil), ht, hk, true, rfl, iteT ?_⟩
    have turn : ∀ (i : Nat) (x : V) (H' : Hp), i < (ns.map V.int).length → (fun (_ : Nat) => true) i = true → Same (upd H p (.tup [.ty "list", .ty "tuple"])) H' → (ns.map V.int)[i]? = some x → ∀ Qe : VK, (∀ H2, Same H' H2 → Qe (.bl true) H2) →
        tCall sp_is_within [] C8.E0 (tCons (tVar 3) (tCons (tVar 1) (tCons (tVar 2) tNil))) [some (.ref a), some (oV lo), some (oV hi), some x] H' Qe := by
      intro i x H' hi _ _ hx Qe qe
      obtain ⟨z, hz, rfl⟩ := at_int hx
      exact ⟨_, rfl, _, rfl, _, rfl, z, _, _, rfl, hB z (List.mem_of_getElem? hz), qe⟩
    rcases hS.mono s1 with h | h
    · refine .inl ⟨_, rfl, a, rfl, ⟨_, h⟩, fun D hD => ?_⟩
      refine lc_flat hD (w_list (xs := ns.map V.int)) (fun _ => true) (fun _ => .bl true) ?_ ?_ ?_ ?_ ?_ ?_
      · rw [List.length_map]; exact hn
      · exact fun H' s' => sql_mono s' h
      · exact fun x => rfl
      · exact fun i x H' _ _ _ Qt qt => yes_ok qt
      · exact turn
      · exact fun H2 s2 hy => all_true hy (q _ (s1.trans s2))
    · refine .inr ⟨_, rfl, a, rfl, ⟨_, h⟩, fun D hD => ?_⟩
      refine lc_flat hD (w_tup (xs := ns.map V.int)) (fun _ => true) (fun _ => .bl true) ?_ ?_ ?_ ?_ ?_ ?_
      · rw [List.length_map]; exact hn
      · exact fun H' s' => sqt_mono s' h
      · exact fun x => rfl
      · exact fun i x H' _ _ _ Qt qt => yes_ok qt
      · exact turn
      · exact fun H2 s2 hy => all_true hy (q _ (s1.trans s2))
/-! ### texts -/
def isL (c : Nat) : Prop := 97 ≤ c ∧ c ≤ 122
def isT (l : List Nat) : Prop := ∀ c ∈ l, c = 32 ∨ isL c
theorem in_letters {c : Nat} (h : isL c) : c ∈ (PySem.Str.ofString "abcdefghijklmnopqrstuvwxyz").cps.toList := by
  have e : (PySem.Str.ofString "abcdefghijklmnopqrstuvwxyz").cps.toList = [97, 98, 99, 100, 101, 102, 103, 104, 105, 106, 107, 108, 109, 110, 111, 112, 113, 114, 115, 116, 117, 118, 119, 120, 121, 122] := by decide +kernel
  rw [e]
  obtain ⟨h1, h2⟩ := h
  simp only [List.mem_cons, List.not_mem_nil, or_false]
  omega
theorem in_signs {c : Nat} (h : c = 32 ∨ isL c) : c ∈ (PySem.Str.ofString "abcdefghijklmnopqrstuvwxyz ").cps.toList := by
  have e : (PySem.Str.ofString "abcdefghijklmnopqrstuvwxyz ").cps.toList = [97, 98, 99, 100, 101, 102, 103, 104, 105, 106, 107, 108, 109, 110, 111, 112, 113, 114, 115, 116, 117, 118, 119, 120, 121, 122, 32] := by decide +kernel
  rw [e]
  simp only [List.mem_cons, List.not_mem_nil, or_false]
  unfold isL at h
  omega
abbrev tx (l : List Nat) : V := .str (SX.S l)
theorem at_sign {l : List Nat} {i : Nat} {x : V} (h : ∃ c, (SX.S l).cps[i]? = some c ∧ x = .str ⟨#[c]⟩) : ∃ c, l[i]? = some c ∧ x = .str ⟨#[c]⟩ := by
  obtain ⟨c, h1, h2⟩ := h
  exact ⟨c, by simpa using h1, h2⟩
def sp_is_word : Sp := fun vs H Q _ => ∃ l, vs = [tx l] ∧ 1 ≤ l.length ∧ l.length ≤ 12 ∧ (∀ c ∈ l, isL c) ∧ RetF (.bl true) H Q
abbrev N_is_word : List Str := ["value", "sign"]
abbrev sco_is_word : Scope := defScope s_is_word
theorem sc_is_word : FnScope N_is_word ["value"] sco_is_word := ⟨rfl, rfl, rfl, by decide +kernel, rfl, by decide +kernel, by decide +kernel⟩
theorem ok_is_word (T : Tx K mg) : C8.Cal P w K mg base 1 "is_word" sp_is_word [] := by
  refine mkCal T.d_is_word T.m_is_word (fun fd F => ⟨[], .nil, F.bindsN fun _ _ _ _ _ _ us hl => match us, hl with | [_], _ => rfl⟩) sc_is_word (fun vs H Q E h => ?_) (fun cdv A outer s H vs Q E hr h => ?_)
  · obtain ⟨l, rfl, _⟩ := h; rfl
  · obtain ⟨l, rfl, h1, h2, hl, q⟩ := h
    refine ⟨_, (pss_one (ps_ret (pe_and (pe_callB call_isi (by rfl) T.f_isinstance bb_isinstance (pa_cons (pv 0) (pa_cons (pe_bltn (by rfl) T.f_str bb_str (rt "str")) pa_nil))) (pe_and (pe_chain op_le op_le pe_int (pe_callB call_len_str (by rfl) T.f_len bb_len (pa_cons (pv 0) pa_nil)) (C8.pe_gc (by rfl) T.g_MOST_LETTERS)) (pe_one (pe_callB (cr_all rfl) (by rfl) T.f_all bb_all (pa_cons (pe_lc (own := [("sign", 1)]) rfl sc_is_word.nd (pi_str (pv 0)) (blkOk_by (own := [("sign", 1)]) (N := N_is_word) (sc := sco_is_word) (by decide +kernel)) (fun _ _ _ _ _ => (pg_name (i := 1) sc_is_word.nd rfl (Or.inl rfl))) (fun _ _ _ _ _ => pts_nil) (fun _ _ _ _ _ => (pe_cmpR op_in_sign (pv 1) (C8.pe_gc (by rfl) T.g_LETTERS) rfl))) pa_nil))))))), ?_⟩
    refine ⟨_, rfl, _, _, _, _, true, rfl, .ty _, .base (.str _), k_ss, true, rfl, iteT ?_⟩
    refine ⟨_, rfl, _, rfl, le_line (by rw [SX.S_len]; omega), _, _, rfl, rfl, true, ?_, iteT ?_⟩
    · rw [SX.S_len]
      exact congrArg V.bl (decide_eq_true (by omega))
    refine ⟨_, _, rfl, rfl, true, ?_, iteT ?_⟩
    · rw [SX.S_len]
      exact congrArg V.bl (decide_eq_true (by omega))
    refine ⟨_, rfl, _, rfl, fun D hD => ?_⟩
    refine lc_flat hD (w_str (z := SX.S l)) (fun _ => true) (fun _ => .bl true) ?_ ?_ ?_ ?_ ?_ ?_
    · show l.toArray.size < 1000000
      rw [List.size_toArray]; omega
    · exact fun _ _ => trivial
    · exact fun x => rfl
    · exact fun i x H' _ _ _ Qt qt => yes_ok qt
    · intro i x H' _ _ _ hx Qe qe
      obtain ⟨c, hc, rfl⟩ := at_sign hx
      refine ⟨_, rfl, c, _, rfl, rfl, ?_⟩
      rw [decide_eq_true (in_letters (hl c (List.mem_of_getElem? hc)))]
      exact qe _ (Same.refl _)
    · exact fun H2 s2 hy => all_true hy (q _ s2)
def sp_is_text : Sp := fun vs H Q _ => ∃ l, vs = [tx l] ∧ l.length ≤ 200000 ∧ isT l ∧ RetF (.bl true) H Q
abbrev N_is_text : List Str := ["value", "sign"]
abbrev sco_is_text : Scope := defScope s_is_text
theorem sc_is_text : FnScope N_is_text ["value"] sco_is_text := ⟨rfl, rfl, rfl, by decide +kernel, rfl, by decide +kernel, by decide +kernel⟩
theorem ok_is_text (T : Tx K mg) : C8.Cal P w K mg base 1 "is_text" sp_is_text [] := by
  refine mkCal T.d_is_text T.m_is_text (fun fd F => ⟨[], .nil, F.bindsN fun _ _ _ _ _ _ us hl => match us, hl with | [_], _ => rfl⟩) sc_is_text (fun vs H Q E h => ?_) (fun cdv A outer s H vs Q E hr h => ?_)
  · obtain ⟨l, rfl, _⟩ := h; rfl
  · obtain ⟨l, rfl, h1, hl, q⟩ := h
    refine ⟨_, (pss_one (ps_ret (pe_and (pe_callB call_isi (by rfl) T.f_isinstance bb_isinstance (pa_cons (pv 0) (pa_cons (pe_bltn (by rfl) T.f_str bb_str (rt "str")) pa_nil))) (pe_and (pe_cmpR op_le (pe_callB call_len_str (by rfl) T.f_len bb_len (pa_cons (pv 0) pa_nil)) (C8.pe_gc (by rfl) T.g_MOST_SIGNS_checks) (nomark _)) (pe_one (pe_callB (cr_all rfl) (by rfl) T.f_all bb_all (pa_cons (pe_lc (own := [("sign", 1)]) rfl sc_is_text.nd (pi_str (pv 0)) (blkOk_by (own := [("sign", 1)]) (N := N_is_text) (sc := sco_is_text) (by decide +kernel)) (fun _ _ _ _ _ => (pg_name (i := 1) sc_is_text.nd rfl (Or.inl rfl))) (fun _ _ _ _ _ => pts_nil) (fun _ _ _ _ _ => (pe_cmpR op_in_sign (pv 1) (C8.pe_gc (by rfl) T.g_SIGNS) rfl))) pa_nil))))))), ?_⟩
    refine ⟨_, rfl, _, _, _, _, true, rfl, .ty _, .base (.str _), k_ss, true, rfl, iteT ?_⟩
    refine ⟨_, rfl, _, rfl, le_line (by rw [SX.S_len]; omega), _, _, rfl, rfl, true, ?_, iteT ?_⟩
    · rw [SX.S_len]
      exact congrArg V.bl (decide_eq_true (by omega))
    refine ⟨_, rfl, _, rfl, fun D hD => ?_⟩
    refine lc_flat hD (w_str (z := SX.S l)) (fun _ => true) (fun _ => .bl true) ?_ ?_ ?_ ?_ ?_ ?_
    · show l.toArray.size < 1000000
      rw [List.size_toArray]; omega
    · exact fun _ _ => trivial
    · exact fun x => rfl
    · exact fun i x H' _ _ _ Qt qt => yes_ok qt
    · intro i x H' _ _ _ hx Qe qe
      obtain ⟨c, hc, rfl⟩ := at_sign hx
      refine ⟨_, rfl, c, _, rfl, rfl, ?_⟩
      rw [decide_eq_true (in_signs (hl c (List.mem_of_getElem? hc)))]
      exact qe _ (Same.refl _)
    · exact fun H2 s2 hy => all_true hy (q _ s2)
end
end K57
set_option Elab.async false
set_option linter.all false
set_option maxRecDepth 100000
set_option maxHeartbeats 4000000
namespace K57
open PySem PySem.Spec PyProof.Rows L2
abbrev Wd (K : PySem.W.Frag) : Addr := He.ga K "WORDS"
def wordsV : List V := book.map tx
theorem wordsV_eq {K : PySem.W.Frag} : wordsDv.map (He.Dv.v K) = wordsV := by rfl
theorem wordsV_len : wordsV.length = 30 := by decide +kernel
theorem book_len : book.length = 30 := by decide +kernel
theorem book_ok : ∀ l ∈ book, 1 ≤ l.length ∧ l.length ≤ 12 ∧ ∀ c ∈ l, isL c := by unfold isL; decide +kernel
theorem book_nodup : book.Nodup := by decide +kernel
theorem at_word {i : Nat} {x : V} (h : wordsV[i]? = some x) : ∃ l, book[i]? = some l ∧ x = tx l := by
  unfold wordsV at h
  rw [List.getElem?_map] at h
  cases hz : book[i]? with
  | none => rw [hz] at h; cases h
  | some z => rw [hz] at h; cases h; exact ⟨z, rfl, rfl⟩
theorem wordsV_str : wordsV = (book.map SX.S).map V.str := by rw [List.map_map]; rfl
theorem texts_nodup : (book.map SX.S).Nodup := by decide +kernel
section
variable {P : Program} {w : World} {K : PySem.W.Frag} {mg : Str → Option Value} {base : Heap}
theorem Tx.wordsT (T : Tx K mg) (H : Hp) : SqT K H (Wd K) wordsV := wordsV_eq (K := K) ▸ T.words H
/-- the book of the thirty words -/
def Bk (K : PySem.W.Frag) (H : Hp) (a : Addr) : Prop := ∃ dx, H a = some (.ins (He.ga K "Book") dx [("words", .ref (Wd K))])
theorem Bk.mono {H H2 : Hp} {a : Addr} (h : Bk K H a) (s : Same H H2) : Bk K H2 a := let ⟨dx, e⟩ := h; ⟨dx, s a _ e⟩
abbrev RetT (K : PySem.W.Frag) (H : Hp) (Q : VK) (xs : List V) : Prop := ∀ t H2, Same H H2 → SqT K H2 t xs → Q (.ref t) H2
def sp_is_sign : Sp := fun vs H Q _ => ∃ c, vs = [tx [c]] ∧ (c = 32 ∨ isL c) ∧ RetF (.bl true) H Q
abbrev N_is_sign : List Str := ["value"]
abbrev sco_is_sign : Scope := defScope s_is_sign
theorem sc_is_sign : FnScope N_is_sign ["value"] sco_is_sign := ⟨rfl, rfl, rfl, by decide +kernel, rfl, by decide +kernel, by decide +kernel⟩
theorem ok_is_sign (T : Tx K mg) : C8.Cal P w K mg base 1 "is_sign" sp_is_sign [] := by
  refine mkCal T.d_is_sign T.m_is_sign (fun fd F => ⟨[], .nil, F.bindsN fun _ _ _ _ _ _ us hl => match us, hl with | [_], _ => rfl⟩) sc_is_sign (fun vs H Q E h => ?_) (fun cdv A outer s H vs Q E hr h => ?_)
  · obtain ⟨c, rfl, _⟩ := h; rfl
  · obtain ⟨c, rfl, hc, q⟩ := h
    refine ⟨_, (pss_one (ps_ret (pe_and (pe_callB call_isi (by rfl) T.f_isinstance bb_isinstance (pa_cons (pv 0) (pa_cons (pe_bltn (by rfl) T.f_str bb_str (rt "str")) pa_nil))) (pe_and (pe_cmpR op_eq (pe_callB call_len_str (by rfl) T.f_len bb_len (pa_cons (pv 0) pa_nil)) pe_int (nomark _)) (pe_one (pe_or (pe_cmpR op_eq (pv 0) (C8.pe_gc (by rfl) T.g_BLANK) (nomark _)) (pe_one (pe_cmpR op_in_sign (pv 0) (C8.pe_gc (by rfl) T.g_LETTERS) rfl)))))))), ?_⟩
    refine ⟨_, rfl, _, _, _, _, true, rfl, .ty _, .base (.str _), k_ss, true, rfl, iteT ?_⟩
    refine ⟨_, rfl, _, rfl, le_line (by show 1 ≤ 1000000; omega), rfl, true, rfl, iteT ?_⟩
    refine ⟨_, rfl, rfl, decide (tx [c] = .str " "), rfl, ?_⟩
    by_cases h32 : tx [c] = .str " "
    · rw [decide_eq_true h32]
      exact iteT (q H (Same.refl _))
    · rw [decide_eq_false h32]
      refine iteF ⟨_, rfl, c, _, rfl, rfl, ?_⟩
      have hl : isL c := hc.resolve_left fun e => h32 (by rw [e]; rfl)
      rw [decide_eq_true (in_letters hl)]
      exact q H (Same.refl _)
def sp_need_number : Sp := fun vs H Q _ => ∃ i p lo hi, vs = [.int i, .str p, oV lo, oV hi] ∧ inB lo hi i ∧ RetF .non H Q
abbrev N_need_number : List Str := ["value", "part", "least", "most"]
abbrev sco_need_number : Scope := defScope s_need_number
theorem sc_need_number : FnScope N_need_number ["value", "part", "least", "most"] sco_need_number := ⟨rfl, rfl, rfl, by decide +kernel, rfl, by decide +kernel, by decide +kernel⟩
theorem ok_need_number (T : Tx K mg) : C8.Cal P w K mg base 3 "need_number" sp_need_number [] := by
  have c_is_within : C8.Cal P w K mg base 2 "is_within" sp_is_within [] := ok_is_within T
  refine mkCal T.d_need_number T.m_need_number (fun fd F => ⟨[], .nil, F.bindsN fun _ _ _ _ _ _ us hl => match us, hl with | [_, _, _, _], _ => rfl⟩) sc_need_number (fun vs H Q E h => ?_) (fun cdv A outer s H vs Q E hr h => ?_)
  · obtain ⟨i, p, lo, hi, rfl, _⟩ := h; rfl
  · obtain ⟨i, p, lo, hi, rfl, b, q⟩ := h
    refine ⟨_, (pss_one (ps_if (pt_not (pt_val (C8.pe_c c_is_within hr (by decide) (by rfl) (pa_cons (pv 0) (pa_cons (pv 2) (pa_cons (pv 3) pa_nil)))))) (pss_one ps_never) pss_nil)), ?_⟩
    exact ⟨_, rfl, _, rfl, _, rfl, i, lo, hi, rfl, b, fun H2 s2 => ⟨true, rfl, iteF (q H2 s2)⟩⟩
def sp_need_text : Sp := fun vs H Q _ => ∃ l p, vs = [tx l, .str p] ∧ l.length ≤ 200000 ∧ isT l ∧ RetF .non H Q
abbrev N_need_text : List Str := ["value", "part"]
abbrev sco_need_text : Scope := defScope s_need_text
theorem sc_need_text : FnScope N_need_text ["value", "part"] sco_need_text := ⟨rfl, rfl, rfl, by decide +kernel, rfl, by decide +kernel, by decide +kernel⟩
theorem ok_need_text (T : Tx K mg) : C8.Cal P w K mg base 2 "need_text" sp_need_text [.str "text"] := by
  have c_is_text : C8.Cal P w K mg base 1 "is_text" sp_is_text [] := ok_is_text T
  refine mkCal T.d_need_text T.m_need_text (fun fd F => F.binds1 1 0 (List.cons_ne_nil _ _) rfl fun T kV doc pm an cdv ct us its hl hi => match us, hl, its, hi with | [_], _, [_], _ => ⟨_, rfl, rfl⟩) sc_need_text (fun vs H Q E h => ?_) (fun cdv A outer s H vs Q E hr h => ?_)
  · obtain ⟨l, p, rfl, _⟩ := h; rfl
  · obtain ⟨l, p, rfl, h1, h2, q⟩ := h
    refine ⟨_, (pss_one (ps_if (pt_not (pt_val (C8.pe_c c_is_text hr (by decide) (by rfl) (pa_cons (pv 0) pa_nil)))) (pss_one ps_never) pss_nil)), ?_⟩
    exact ⟨_, rfl, l, rfl, h1, h2, fun H2 s2 => ⟨true, rfl, iteF (q H2 s2)⟩⟩
theorem ok_need_text2 (T : Tx K mg) : C8.Cal P w K mg base 2 "need_text" sp_need_text [] := by
  have c_is_text : C8.Cal P w K mg base 1 "is_text" sp_is_text [] := ok_is_text T
  refine mkCal T.d_need_text T.m_need_text (fun fd F => F.binds1 2 1 (List.cons_ne_nil _ _) rfl fun T kV doc pm an cdv ct us its hl hi => match us, hl, its, hi with | [_, _], _, [_], _ => ⟨_, rfl, rfl⟩) sc_need_text (fun vs H Q E h => ?_) (fun cdv A outer s H vs Q E hr h => ?_)
  · obtain ⟨l, p, rfl, _⟩ := h; rfl
  · obtain ⟨l, p, rfl, h1, h2, q⟩ := h
    refine ⟨_, (pss_one (ps_if (pt_not (pt_val (C8.pe_c c_is_text hr (by decide) (by rfl) (pa_cons (pv 0) pa_nil)))) (pss_one ps_never) pss_nil)), ?_⟩
    exact ⟨_, rfl, l, rfl, h1, h2, fun H2 s2 => ⟨true, rfl, iteF (q H2 s2)⟩⟩
def sp_are_words (K : PySem.W.Frag) : Sp := fun vs H Q _ => vs = [.ref (Wd K), .int 40] ∧ RetF (.bl true) H Q
abbrev N_are_words : List Str := ["value", "most", "each"]
abbrev sco_are_words : Scope := defScope s_are_words
theorem sc_are_words : FnScope N_are_words ["value", "most"] sco_are_words := ⟨rfl, rfl, rfl, by decide +kernel, rfl, by decide +kernel, by decide +kernel⟩
theorem ok_are_words (T : Tx K mg) : C8.Cal P w K mg base 2 "are_words" (sp_are_words K) [] := by
  have c_is_word : C8.Cal P w K mg base 1 "is_word" sp_is_word [] := ok_is_word T
  refine mkCal T.d_are_words T.m_are_words (fun fd F => ⟨[], .nil, F.bindsN fun _ _ _ _ _ _ us hl => match us, hl with | [_, _], _ => rfl⟩) sc_are_words (fun vs H Q E h => ?_) (fun cdv A outer s H vs Q E hr h => ?_)
  · obtain ⟨rfl, _⟩ := h; rfl
  · obtain ⟨rfl, q⟩ := h
    refine ⟨_, (pss_cons (ps_if (PW.pt (pw_or (pt_not (pt_val (pe_callB call_isiT (by rfl) T.f_isinstance bb_isinstance (pa_cons (pv 0) (pa_cons (pe_tup (pa_cons (pe_bltn (by rfl) T.f_list bb_list (rt "list")) (pa_cons (pe_bltn (by rfl) T.f_tuple bb_tuple (rt "tuple")) pa_nil))) pa_nil))))) (pw_or1 (pt_not (pt_chain op_le op_le pe_int (pe_callB (call_len_seqK (K := K) rfl) (by rfl) T.f_len bb_len (pa_cons (pv 0) pa_nil)) (pv 1)))))) (pss_one (ps_ret pe_bl)) pss_nil)
      (pss_one (ps_ret (pe_and (pe_callB (cr_all rfl) (by rfl) T.f_all bb_all (pa_cons (pe_lc (own := [("each", 2)]) rfl sc_are_words.nd (pi_tupK (K := K) rfl (pv 0)) (blkOk_by (own := [("each", 2)]) (N := N_are_words) (sc := sco_are_words) (by decide +kernel)) (fun _ _ _ _ _ => (pg_name (i := 2) sc_are_words.nd rfl (Or.inl rfl))) (fun _ _ _ _ _ => pts_nil) (fun _ _ _ _ _ => (C8.pe_c c_is_word hr (by decide) (by rfl) (pa_cons (pv 2) pa_nil)))) pa_nil)) (pe_one (pe_cmpR op_eq (pe_lenSetT (by rfl) T.f_len (by rfl) T.f_set (pv 0)) (pe_callB (call_len_seqK (K := K) rfl) (by rfl) T.f_len bb_len (pa_cons (pv 0) pa_nil)) (nomark _))))))), ?_⟩
    have hW := T.wordsT
    refine ⟨_, rfl, by show 2 ≤ sizeLine; decide, fun p hp => ?_⟩
    have s1 : Same H (upd H p (.tup [.ty "list", .ty "tuple"])) := same_new hp
    refine ⟨_, p, _, _, _, true, rfl, upd_same, .cons (.ty _) (.cons (.ty _) .nil), sqt_ty (hW _), k_any_t, true, rfl, iteF ?_⟩
    refine ⟨_, rfl, _, wordsV, rfl, .inr (hW _), _, _, rfl, rfl, true, by rw [wordsV_len]; rfl, iteT ⟨_, rfl, _, _, rfl, rfl, true, by rw [wordsV_len]; rfl, iteF ?_⟩⟩
    refine ⟨_, rfl, _, rfl, ⟨_, hW _⟩, fun D hD => ?_⟩
    refine lc_flat hD (w_tup (xs := wordsV)) (fun _ => true) (fun _ => .bl true) ?_ ?_ ?_ ?_ ?_ ?_
    · rw [wordsV_len]; omega
    · exact fun H' s' => hW _
    · exact fun x => rfl
    · exact fun i x H' _ _ _ Qt qt => yes_ok qt
    · intro i x H' hi _ _ hx Qe qe
      obtain ⟨l, hl, rfl⟩ := at_word hx
      obtain ⟨b1, b2, b3⟩ := book_ok l (List.mem_of_getElem? hl)
      exact ⟨_, rfl, l, rfl, b1, b2, b3, qe⟩
    · refine fun H2 s2 hy => all_trueN hy ?_
      refine ⟨true, rfl, iteT ?_⟩
      refine ⟨_, rfl, _, book.map SX.S, rfl, wordsV_str ▸ hW _, texts_nodup, by decide +kernel, _, rfl, _, wordsV, rfl, .inr (hW _), rfl, ?_⟩
      exact q _ (s1.trans s2)
def sp_Book_init (K : PySem.W.Frag) : Sp := fun vs H Q _ => ∃ a dx, vs = [.ref a, .ref (Wd K)] ∧ H a = some (.ins (He.ga K "Book") dx []) ∧ ∀ H2, Same H H2 → Q .non (upd H2 a (.ins (He.ga K "Book") dx [("words", .ref (Wd K))]))
abbrev N_Book_init : List Str := ["self", "words"]
abbrev sco_Book_init : Scope := defScope s_Book_init
theorem sc_Book_init : FnScope N_Book_init ["self", "words"] sco_Book_init := ⟨rfl, rfl, rfl, by decide +kernel, rfl, by decide +kernel, by decide +kernel⟩
theorem ok_Book_init (T : Tx K mg) : C8.Mak P w K mg base 3 "Book" (He.ga K "Book") (sp_Book_init K) [] := by
  have c_are_words : C8.Cal P w K mg base 2 "are_words" (sp_are_words K) [] := ok_are_words T
  refine mkMak T.mk_Book T.d_Book_init T.m_Book .nil (fun fd F => F.bindsN fun _ _ _ _ _ _ us hl => match us, hl with | [_, _], _ => rfl) sc_Book_init (fun vs H Q E h => ?_) (fun cdv A outer s H vs Q E hr h => ?_)
  · obtain ⟨a, dx, rfl, _⟩ := h; rfl
  · obtain ⟨a, dx, rfl, ha, q⟩ := h
    refine ⟨_, (pss_cons (ps_if (pt_not (pt_val (C8.pe_c c_are_words hr (by decide) (by rfl) (pa_cons (pv 1) (pa_cons (C8.pe_gc (by rfl) T.g_MOST_WORDS) pa_nil))))) (pss_one ps_never) pss_nil)
      (pss_one (ps_fld (pv 0) (pe_callTy (call_tuple_ofK (K := K) rfl) (by rfl) T.f_tuple bb_tuple (pa_cons (pv 1) pa_nil)) rfl))), ?_⟩
    refine ⟨_, rfl, rfl, fun H2 s2 => ⟨true, rfl, iteF ?_⟩⟩
    refine ⟨_, rfl, Wd K, wordsV, rfl, .inr ⟨T.wordsT _, ?_⟩⟩
    exact ⟨_, rfl, a, _, dx, [], rfl, s2 a _ ha, T.k_Book, T.n_Book_words, by decide, q H2 s2⟩
def sp_need_book (K : PySem.W.Frag) : Sp := fun vs H Q _ => ∃ a p, vs = [.ref a, .str p] ∧ Bk K H a ∧ RetF .non H Q
abbrev N_need_book : List Str := ["value", "part"]
abbrev sco_need_book : Scope := defScope s_need_book
theorem sc_need_book : FnScope N_need_book ["value", "part"] sco_need_book := ⟨rfl, rfl, rfl, by decide +kernel, rfl, by decide +kernel, by decide +kernel⟩
theorem ok_need_book (T : Tx K mg) : C8.Cal P w K mg base 1 "need_book" (sp_need_book K) [.str "book"] := by
  refine mkCal T.d_need_book T.m_need_book (fun fd F => F.binds1 1 0 (List.cons_ne_nil _ _) rfl fun T kV doc pm an cdv ct us its hl hi => match us, hl, its, hi with | [_], _, [_], _ => ⟨_, rfl, rfl⟩) sc_need_book (fun vs H Q E h => ?_) (fun cdv A outer s H vs Q E hr h => ?_)
  · obtain ⟨a, p, rfl, _⟩ := h; rfl
  · obtain ⟨a, p, rfl, ⟨dx, ha⟩, q⟩ := h
    refine ⟨_, (pss_one (ps_if (pt_not (pt_val (pe_callB (C8.call_isC T.i_Book) (by rfl) T.f_isinstance bb_isinstance (pa_cons (pv 0) (pa_cons (C8.pe_gc (by rfl) T.c_Book) pa_nil))))) (pss_one ps_never) pss_nil)), ?_⟩
    exact ⟨_, rfl, a, dx, _, rfl, ha, true, rfl, iteF (q H (Same.refl _))⟩
def sp_plain_words (K : PySem.W.Frag) : Sp := fun vs H Q _ => vs = [] ∧ Q (.ref (Wd K)) H
abbrev N_plain_words : List Str := []
abbrev sco_plain_words : Scope := defScope s_plain_words
theorem sc_plain_words : FnScope N_plain_words [] sco_plain_words := ⟨rfl, rfl, rfl, by decide +kernel, rfl, by decide +kernel, by decide +kernel⟩
theorem ok_plain_words (T : Tx K mg) : C8.Cal P w K mg base 1 "plain_words" (sp_plain_words K) [] := by
  refine mkCal T.d_plain_words T.m_plain_words (fun fd F => ⟨[], .nil, F.bindsN fun _ _ _ _ _ _ us hl => match us, hl with | [], _ => rfl⟩) sc_plain_words (fun vs H Q E h => ?_) (fun cdv A outer s H vs Q E hr h => ?_)
  · obtain ⟨rfl, _⟩ := h; rfl
  · obtain ⟨rfl, q⟩ := h
    exact ⟨_, (pss_one (ps_ret (C8.pe_gc (by rfl) T.g_WORDS))), q⟩
def sp_plain_book (K : PySem.W.Frag) : Sp := fun vs H Q _ => vs = [] ∧ ∀ a H2, Same H H2 → H a = none → Bk K H2 a → Q (.ref a) H2
abbrev N_plain_book : List Str := []
abbrev sco_plain_book : Scope := defScope s_plain_book
theorem sc_plain_book : FnScope N_plain_book [] sco_plain_book := ⟨rfl, rfl, rfl, by decide +kernel, rfl, by decide +kernel, by decide +kernel⟩
theorem ok_plain_book (T : Tx K mg) : C8.Cal P w K mg base 5 "plain_book" (sp_plain_book K) [] := by
  have c_Book : C8.Mak P w K mg base 3 "Book" (He.ga K "Book") (sp_Book_init K) [] := ok_Book_init T
  refine mkCal T.d_plain_book T.m_plain_book (fun fd F => ⟨[], .nil, F.bindsN fun _ _ _ _ _ _ us hl => match us, hl with | [], _ => rfl⟩) sc_plain_book (fun vs H Q E h => ?_) (fun cdv A outer s H vs Q E hr h => ?_)
  · obtain ⟨rfl, _⟩ := h; rfl
  · obtain ⟨rfl, q⟩ := h
    refine ⟨_, (pss_one (ps_ret (C8.pe_mk c_Book hr (by decide) (by rfl) (pa_cons (C8.pe_gc (by rfl) T.g_WORDS) pa_nil)))), ?_⟩
    refine fun x dx hx hdx hne => ⟨x, dx, rfl, upd_same, fun H2 s2 => ⟨rfl, ?_⟩⟩
    refine q x _ (fun b u e => ?_) hx ⟨dx, upd_same⟩
    rw [upd_ne (ne_of_none e hx)]
    refine s2 b u ?_
    show upd (upd H dx (.own x)) x _ b = some u
    rw [upd_ne (ne_of_none e hx), upd_ne (ne_of_none e hdx)]
    exact e
end
end K57
set_option Elab.async false
set_option linter.all false
set_option maxRecDepth 100000
set_option maxHeartbeats 4000000
namespace K57
open PySem PySem.Spec PyProof.Rows L2
/-- numbers as values -/
abbrev nV (ns : List Nat) : List V := ns.map fun n : Nat => V.int (n : Int)
theorem nV_eq (ns : List Nat) : nV ns = (ns.map fun n : Nat => (n : Int)).map V.int := by rw [List.map_map]; rfl
theorem nV_at {ns : List Nat} {i : Nat} {x : V} (h : (nV ns)[i]? = some x) : ∃ n, ns[i]? = some n ∧ x = .int (n : Int) := by
  rw [List.getElem?_map] at h
  cases hz : ns[i]? with
  | none => rw [hz] at h; cases h
  | some z => rw [hz] at h; cases h; exact ⟨z, rfl, rfl⟩
theorem words_at {n : Nat} (h : n < 30) : wordsV[n]? = some (tx (wd n)) := by
  unfold wordsV wd
  have hl : n < book.length := by rw [book_len]; exact h
  rw [List.getElem?_map, List.getD_eq_getElem?_getD, List.getElem?_eq_getElem hl] <;> rfl
theorem rowIts_len (ns : List Nat) (k : Nat) : (rowIts ns k).length ≤ ns.length * k := by
  induction ns with
  | nil => simp [rowIts]
  | cons n r ih =>
    unfold rowIts at ih ⊢
    rw [List.flatMap_cons, List.length_append, List.length_replicate, List.length_cons, Nat.succ_mul]
    omega
theorem rowIts_app (a b : List Nat) (k : Nat) : rowIts (a ++ b) k = rowIts a k ++ rowIts b k := List.flatMap_append ..
theorem take_next {α : Type} {l : List α} {i : Nat} (h : i < l.length) : l.take (i + 1) = l.take i ++ [l[i]] := by
  rw [List.take_add_one, List.getElem?_eq_getElem h] <;> rfl
theorem sum_le_mul {l : List T} {f : T → Nat} {c : Nat} (h : ∀ x ∈ l, f x ≤ c) : (l.map f).sum ≤ l.length * c := by
  induction l with
  | nil => simp
  | cons a r ih =>
    have h1 := h a List.mem_cons_self
    have h2 := ih fun x hx => h x (List.mem_cons_of_mem _ hx)
    rw [List.map_cons, List.sum_cons, List.length_cons, Nat.succ_mul]
    omega
/-- the dict of words by the words -/
def kvF : List T → Nat → List (Key × V)
  | [], _ => []
  | z :: r, n => (.inr (SX.S z), .int (n : Int)) :: kvF r (n + 1)
theorem kvF_len : ∀ (l : List T) (n : Nat), (kvF l n).length = l.length
  | [], _ => rfl
  | _ :: r, n => congrArg Nat.succ (kvF_len r (n + 1))
theorem kvF_snoc : ∀ (l : List T) (n : Nat) (z : T), kvF (l ++ [z]) n = kvF l n ++ [(.inr (SX.S z), .int ((n + l.length : Nat) : Int))]
  | [], n, z => rfl
  | a :: r, n, z => by
    show (Sum.inr (SX.S a), V.int (n : Int)) :: kvF (r ++ [z]) (n + 1) = _
    rw [kvF_snoc r (n + 1) z, List.length_cons, show n + 1 + r.length = n + (r.length + 1) by omega] <;> rfl
theorem kvF_get : ∀ (l : List T) (n : Nat) (z : T), valV (kvF l n) (.inr (SX.S z)) = if z ∈ l then some (.int ((n + l.idxOf z : Nat) : Int)) else none
  | [], n, z => rfl
  | a :: r, n, z => by
    by_cases h : a = z
    · subst h
      show valV ((Sum.inr (SX.S a), V.int (n : Int)) :: kvF r (n + 1)) _ = _
      rw [valV_pos rfl, if_pos List.mem_cons_self, List.idxOf_cons_self] <;> rfl
    · show valV ((Sum.inr (SX.S a), V.int (n : Int)) :: kvF r (n + 1)) _ = _
      rw [valV_neg (fun e => h (SX.S_inj (Sum.inr.inj e))), kvF_get r (n + 1) z]
      by_cases hz : z ∈ r
      · rw [if_pos hz, if_pos (List.mem_cons_of_mem _ hz), List.idxOf_cons, show (a == z) = false by simpa using h]
        show some (V.int ((n + 1 + r.idxOf z : Nat) : Int)) = some (V.int ((n + (r.idxOf z + 1) : Nat) : Int))
        rw [show n + 1 + r.idxOf z = n + (r.idxOf z + 1) by omega]
      · rw [if_neg hz, if_neg]
        intro hm
        rcases List.mem_cons.mp hm with e | e
        · exact h e.symm
        · exact hz e
theorem kvF_put {i : Nat} (hi : i < book.length) {z : T} (e : book[i] = z) : putK (kvF (book.take i) 0) (.inr (SX.S z)) (.int (i : Int)) = kvF (book.take i ++ [z]) 0 := by
  have hn : z ∉ book.take i := by
    intro hm
    obtain ⟨j, hj⟩ := List.mem_iff_getElem?.mp hm
    rw [List.getElem?_take] at hj
    by_cases hji : j < i
    · rw [if_pos hji] at hj
      obtain ⟨hjl, ej⟩ := List.getElem?_eq_some_iff.mp hj
      have := (List.getElem_inj book_nodup).mp (ej.trans e.symm)
      omega
    · rw [if_neg hji] at hj
      cases hj
  have h : valV (kvF (book.take i) 0) (.inr (SX.S z)) = none := by rw [kvF_get, if_neg hn]
  unfold putK
  rw [if_neg (by rw [valV_any, h]; simp), kvF_snoc, List.length_take, Nat.zero_add, Nat.min_eq_left (Nat.le_of_lt hi)]
theorem inBook_dec (z : T) : inBook z = decide (z ∈ book) := by
  by_cases h : z ∈ book
  · rw [decide_eq_true h]; exact inBook_mem.mpr h
  · rw [decide_eq_false h]
    cases e : inBook z with
    | false => rfl
    | true => exact absurd (inBook_mem.mp e) h
theorem at_tx {l : List T} {i : Nat} {x : V} (h : (l.map tx)[i]? = some x) : ∃ z, l[i]? = some z ∧ x = tx z := by
  rw [List.getElem?_map] at h
  cases hz : l[i]? with
  | none => rw [hz] at h; cases h
  | some z => rw [hz] at h; cases h; exact ⟨z, rfl, rfl⟩
theorem getD_of {l : List T} {i : Nat} {z : T} (h : l[i]? = some z) : l.getD i [] = z := by rw [List.getD_eq_getElem?_getD, h] <;> rfl
theorem _root_.L2.Same.mut {H H1 : Hp} {D : Addr} {o : HO} (s : Same H H1) (h : H D = none) : Same H (upd H1 D o) := fun b u e => by
  rw [upd_ne (ne_of_none e h)]
  exact s b u e
section
variable {P : Program} {w : World} {K : PySem.W.Frag} {mg : Str → Option Value} {base : Heap}
def sp_need_row (K : PySem.W.Frag) : Sp := fun vs H Q _ => ∃ b r p ns, vs = [.ref b, .ref r, .str p] ∧ Bk K H b ∧ Sq K H r (nV ns) ∧ ns.length ≤ 10000 ∧ (∀ n ∈ ns, n < 30) ∧ RetT K H Q (nV ns)
abbrev N_need_row : List Str := ["book", "value", "part"]
abbrev sco_need_row : Scope := defScope s_need_row
theorem sc_need_row : FnScope N_need_row ["book", "value", "part"] sco_need_row := ⟨rfl, rfl, rfl, by decide +kernel, rfl, by decide +kernel, by decide +kernel⟩
theorem ok_need_row (T : Tx K mg) : C8.Cal P w K mg base 4 "need_row" (sp_need_row K) [.str "row"] := by
  have c_are_within : C8.Cal P w K mg base 3 "are_within" (sp_are_within K) [] := ok_are_within T
  refine mkCal T.d_need_row T.m_need_row (fun fd F => F.binds1 2 0 (List.cons_ne_nil _ _) rfl fun T kV doc pm an cdv ct us its hl hi => match us, hl, its, hi with | [_, _], _, [_], _ => ⟨_, rfl, rfl⟩) sc_need_row (fun vs H Q E h => ?_) (fun cdv A outer s H vs Q E hr h => ?_)
  · obtain ⟨b, r, p, ns, rfl, _⟩ := h; rfl
  · obtain ⟨b, r, p, ns, rfl, ⟨dx, hb⟩, hr', hl, hn, q⟩ := h
    refine ⟨_, (pss_cons (ps_if (PW.pt (pw_or (pt_not (pt_val (C8.pe_c c_are_within hr (by decide) (by rfl) (pa_cons (pv 1) (pa_cons pe_int (pa_cons (pe_op op_sub (pe_callB (call_len_seqK (K := K) rfl) (by rfl) T.f_len bb_len (pa_cons (pe_fldK (K := K) rfl (pv 0) rfl) pa_nil)) pe_int) pa_nil)))))) (pw_or1 (pt_cmpR op_gt (pe_callB (call_len_seqK (K := K) rfl) (by rfl) T.f_len bb_len (pa_cons (pv 1) pa_nil)) (C8.pe_gc (by rfl) T.g_MOST_NUMBERS) (nomark _))))) (pss_one ps_never) pss_nil)
      (pss_one (ps_ret (pe_callTy (call_tuple_ofK (K := K) rfl) (by rfl) T.f_tuple bb_tuple (pa_cons (pv 1) pa_nil))))), ?_⟩
    refine ⟨_, rfl, _, rfl, b, _, dx, _, _, rfl, hb, T.k_Book, T.n_Book_words, rfl, Wd K, wordsV, rfl, .inr (T.wordsT _), _, _, rfl, rfl, ?_⟩
    refine ⟨r, _, some 0, some ((wordsV.length : Int) - 1), rfl, nV_eq ns ▸ hr', by simp; omega, ?_, fun H2 s2 => ?_⟩
    · intro n hn2
      obtain ⟨m, hm, rfl⟩ := List.mem_map.mp hn2
      have := hn m hm
      rw [wordsV_len]
      exact ⟨fun l e => by cases e; omega, fun l e => by cases e; omega⟩
    have hS2 : Sq K H2 r (nV ns) := hr'.mono s2
    refine ⟨true, rfl, iteF ⟨_, rfl, r, nV ns, rfl, hS2, _, _, rfl, rfl, false, congrArg V.bl (decide_eq_false (by simp; omega)), iteF ⟨_, rfl, r, nV ns, rfl, ?_⟩⟩⟩
    rcases hS2 with h | h
    · exact .inl ⟨h, fun l hl => q l _ (s2.trans (same_new hl)) (.inl (.inl upd_same))⟩
    · exact .inr ⟨h, q r _ s2 h⟩
def sp_need_copies (K : PySem.W.Frag) : Sp := fun vs H Q _ => ∃ b, ∃ k : Nat, vs = [.ref b, .int k] ∧ Bk K H b ∧ k ≤ 12 ∧ RetT K H Q (List.replicate 30 (.int k))
abbrev N_need_copies : List Str := ["book", "value"]
abbrev sco_need_copies : Scope := defScope s_need_copies
theorem sc_need_copies : FnScope N_need_copies ["book", "value"] sco_need_copies := ⟨rfl, rfl, rfl, by decide +kernel, rfl, by decide +kernel, by decide +kernel⟩
theorem ok_need_copies (T : Tx K mg) : C8.Cal P w K mg base 4 "need_copies" (sp_need_copies K) [] := by
  have c_is_within : C8.Cal P w K mg base 2 "is_within" sp_is_within [] := ok_is_within T
  have c_are_within : C8.Cal P w K mg base 3 "are_within" (sp_are_within K) [] := ok_are_within T
  refine mkCal T.d_need_copies T.m_need_copies (fun fd F => ⟨[], .nil, F.bindsN fun _ _ _ _ _ _ us hl => match us, hl with | [_, _], _ => rfl⟩) sc_need_copies (fun vs H Q E h => ?_) (fun cdv A outer s H vs Q E hr h => ?_)
  · obtain ⟨b, k, rfl, _⟩ := h; rfl
  · obtain ⟨b, k, rfl, ⟨dx, hb⟩, hk, q⟩ := h
    refine ⟨_, (pss_cons (ps_if (pt_val (C8.pe_c c_is_within hr (by decide) (by rfl) (pa_cons (pv 1) (pa_cons pe_int (pa_cons (C8.pe_gc (by rfl) T.g_MOST_COPIES_books) pa_nil))))) (pss_one (ps_ret (pe_op op_repT (pe_tup (pa_cons (pv 1) pa_nil)) (pe_callB (call_len_seqK (K := K) rfl) (by rfl) T.f_len bb_len (pa_cons (pe_fldK (K := K) rfl (pv 0) rfl) pa_nil))))) pss_nil)
      (pss_cons ps_never
      (pss_one ps_never))), ?_⟩
    refine ⟨_, rfl, k, some 0, some 12, rfl, ⟨fun l e => by cases e; omega, fun l e => by cases e; omega⟩, fun H2 s2 => ⟨true, rfl, iteT ?_⟩⟩
    refine ⟨_, rfl, by show 1 ≤ sizeLine; decide, fun p hp => ⟨_, rfl, b, _, dx, _, _, rfl, same_new hp b _ (s2 b _ hb), T.k_Book, T.n_Book_words, rfl, Wd K, wordsV, rfl, .inr (T.wordsT _), ?_⟩⟩
    refine ⟨p, _, [.int k], rfl, rfl, .inl (.inl upd_same), List.cons_ne_nil _ _, by rw [wordsV_len]; decide, by rw [wordsV_len]; decide, by show 1 ≤ 1000; omega, fun t ht => ?_⟩
    refine q t _ ((s2.trans (same_new hp)).trans (same_new ht)) (.inl (.inl ?_))
    rw [upd_same, wordsV_len] <;> rfl
def sp_text_in (K : PySem.W.Frag) : Sp := fun vs H Q _ => ∃ b r c ns k, vs = [.ref b, .ref r, .ref c] ∧ Bk K H b ∧ SqT K H r (nV ns) ∧ SqT K H c (List.replicate 30 (.int ((k : Nat) : Int))) ∧ (∀ n ∈ ns, n < 30) ∧ ns.length ≤ 20 ∧ k ≤ 12 ∧ RetF (tx (txt ns k)) H Q
abbrev N_text_in : List Str := ["book", "row", "copies", "number", "turn"]
abbrev sco_text_in : Scope := defScope s_text_in
theorem sc_text_in : FnScope N_text_in ["book", "row", "copies"] sco_text_in := ⟨rfl, rfl, rfl, by decide +kernel, rfl, by decide +kernel, by decide +kernel⟩
theorem ok_text_in (T : Tx K mg) : C8.Cal P w K mg base 1 "text_in" (sp_text_in K) [] := by
  refine mkCal T.d_text_in T.m_text_in (fun fd F => ⟨[], .nil, F.bindsN fun _ _ _ _ _ _ us hl => match us, hl with | [_, _, _], _ => rfl⟩) sc_text_in (fun vs H Q E h => ?_) (fun cdv A outer s H vs Q E hr h => ?_)
  · obtain ⟨b, r, c, ns, k, rfl, _⟩ := h; rfl
  · obtain ⟨b, r, c, ns, k, rfl, ⟨dx, hb⟩, hr', hc, hn, hl, hk, q⟩ := h
    refine ⟨_, (pss_one (ps_ret (pe_join (C8.pe_gc (by rfl) T.g_BLANK) (pe_lc2 (own := [("number", 3), ("turn", 4)]) (vs1 := [4]) rfl sc_text_in.nd (pi_tupK (K := K) rfl (pv 1)) (blkOk_by (own := [("number", 3), ("turn", 4)]) (N := N_text_in) (sc := sco_text_in) (by decide +kernel)) (by decide) (fun _ _ _ _ _ => (pg_name (i := 3) sc_text_in.nd rfl (Or.inl rfl))) (fun _ _ _ _ _ => pts_nil) (fun _ _ _ _ _ => (pi_range1 (by rfl) T.f_range (pa_cons (pe_ix (ix_tupK (K := K) rfl) (pv 2) (pv 3) (fun _ _ => rfl)) pa_nil))) (fun _ _ _ _ _ => (pg_name (i := 4) sc_text_in.nd rfl (Or.inl rfl))) (fun _ _ _ _ _ => pts_nil) (fun _ _ _ _ _ => (pe_ix (ix_tupK (K := K) rfl) (pe_fldK (K := K) rfl (pv 0) rfl) (pv 3) (fun _ _ => rfl))))))), ?_⟩
    refine ⟨⟨_, rfl⟩, _, rfl, _, rfl, ⟨_, hr'⟩, fun D hD => ?_⟩
    refine walkW (w_tup (xs := nV ns)) (fun i H' => Same H H' ∧ H' D = some (.lst ((rowIts (ns.take i) k).map tx))) ⟨(Same.refl H).mut hD, upd_same⟩ (fun i H' _ p => sqt_mono p.1 hr') ?_ ?_
    · rintro i H1 x _ hi ⟨a, hy⟩ ⟨rfl, hx⟩
      obtain ⟨n, hni, rfl⟩ := nV_at hx
      have hn30 := hn n (List.mem_of_getElem? hni)
      have hil : i < ns.length := (List.getElem?_eq_some_iff.mp hni).1
      refine ⟨rfl, _, rfl, _, rfl, c, _, _, .int (k : Int), rfl, rfl, sqt_mono a hc, atI_nat (j := n) (by rw [List.getElem?_replicate, if_pos hn30]), (k : Int), rfl, by omega, by omega, ?_⟩
      refine walkW (w_range (lo := 0) (n := k)) (fun j H' => Same H H' ∧ H' D = some (.lst ((rowIts (ns.take i) k ++ rep j (wd n)).map tx))) ⟨a, by rw [show rep 0 (wd n) = [] from rfl, List.append_nil]; exact hy⟩ (fun _ _ _ _ => trivial) ?_ ?_
      · rintro j H2 x2 _ hj ⟨a2, hy2⟩ ⟨rfl, rfl⟩
        refine ⟨rfl, _, rfl, b, _, dx, _, _, rfl, a2 b _ hb, T.k_Book, T.n_Book_words, rfl, _, rfl, Wd K, wordsV, _, _, rfl, rfl, T.wordsT _, atI_nat (words_at hn30), _, hy2, ?_, a2.mut hD, ?_⟩
        · refine lt_line ?_
          rw [List.length_map, List.length_append, List.length_replicate]
          have := rowIts_len (ns.take i) k
          have h2 : (ns.take i).length ≤ 20 := Nat.le_trans (List.length_take_le' ..) hl
          have : (ns.take i).length * k ≤ 20 * 12 := Nat.mul_le_mul h2 hk
          omega
        · rw [upd_same, show rep (j + 1) (wd n) = rep j (wd n) ++ [wd n] from List.replicate_succ', ← List.append_assoc, List.map_append (l₂ := [wd n])] <;> rfl
      · rintro H2 ⟨a2, hy2⟩
        refine ⟨a2, ?_⟩
        rw [hy2, take_next hil, rowIts_app]
        have e : ns[i] = n := by rw [List.getElem?_eq_getElem hil] at hni; exact Option.some.inj hni
        rw [e]
        simp [rowIts]
    · rintro H1 ⟨a, hy⟩
      have e1 : ns.take (nV ns).length = ns := by rw [List.length_map]; exact List.take_length
      rw [e1] at hy
      refine ⟨_, D, (rowIts ns k).map SX.S, rfl, rfl, .inl (.inl (.inl ?_)), ?_, ?_⟩
      · rw [hy, List.map_map] <;> rfl
      · rw [List.map_map, List.length_map]
        have h1 := rowIts_len ns k
        have h2 : ns.length * k ≤ 20 * 12 := Nat.mul_le_mul hl hk
        have h3 : ((rowIts ns k).map ((fun x : Str => x.length) ∘ SX.S)).sum ≤ (rowIts ns k).length * 12 := by
          refine sum_le_mul fun x hx => ?_
          obtain ⟨n, hn2, hx2⟩ := List.mem_flatMap.mp hx
          rw [List.eq_of_mem_replicate hx2]
          show (SX.S (wd n)).length ≤ 12
          rw [SX.S_len]
          exact (book_ok _ (wd_mem (hn n hn2))).2.1
        have h4 : (Str.ofString " ").length = 1 := rfl
        rw [h4]
        omega
      · have e : Txt.join (Str.ofString " ") ((rowIts ns k).map SX.S) = SX.S (txt ns k) := by
          rw [show Str.ofString " " = SX.S [32] from rfl, SX.join_S, joinL_eq] <;> rfl
        rw [e]
        exact q H1 a
def sp_row_in (K : PySem.W.Frag) : Sp := fun vs H Q _ => ∃ b l, vs = [.ref b, tx l] ∧ Bk K H b ∧ l.length ≤ 200000 ∧ RetT K H Q (nV (told l))
abbrev N_row_in : List Str := ["book", "text", "known", "number", "word", "item"]
abbrev sco_row_in : Scope := defScope s_row_in
theorem sc_row_in : FnScope N_row_in ["book", "text"] sco_row_in := ⟨rfl, rfl, rfl, by decide +kernel, rfl, by decide +kernel, by decide +kernel⟩
theorem ok_row_in (T : Tx K mg) : C8.Cal P w K mg base 1 "row_in" (sp_row_in K) [] := by
  refine mkCal T.d_row_in T.m_row_in (fun fd F => ⟨[], .nil, F.bindsN fun _ _ _ _ _ _ us hl => match us, hl with | [_, _], _ => rfl⟩) sc_row_in (fun vs H Q E h => ?_) (fun cdv A outer s H vs Q E hr h => ?_)
  · obtain ⟨b, l, rfl, _⟩ := h; rfl
  · obtain ⟨b, l, rfl, ⟨dx, hb⟩, hl, q⟩ := h
    refine ⟨_, (pss_cons (ps_set (i := 2) sc_row_in.nd rfl (Or.inr rfl) (pe_dc (own := [("number", 3), ("word", 4)]) rfl sc_row_in.nd (pi_enumT (by rfl) T.f_enumerate (pe_fldK (K := K) rfl (pv 0) rfl)) (blkOk_by (own := [("number", 3), ("word", 4)]) (N := N_row_in) (sc := sco_row_in) (by decide +kernel)) (fun _ _ _ _ _ => (pg_tupK (K := K) (n := 2) rfl rfl (pgs_cons (pg_name (i := 3) sc_row_in.nd rfl (Or.inl rfl)) (pgs_cons (pg_name (i := 4) sc_row_in.nd rfl (Or.inl rfl)) pgs_nil)))) (fun _ _ _ _ _ => pts_nil) (fun _ _ _ _ _ => (pv 4)) (fun _ _ _ _ _ => (pv 3))))
      (pss_one (ps_ret (pe_callTy (call_tuple_ofK (K := K) rfl) (by rfl) T.f_tuple bb_tuple (pa_cons (pe_lc (own := [("item", 5)]) rfl sc_row_in.nd (pi_listK (K := K) rfl (pe_split (pv 1) (C8.pe_gc (by rfl) T.g_BLANK))) (blkOk_by (own := [("item", 5)]) (N := N_row_in) (sc := sco_row_in) (by decide +kernel)) (fun _ _ _ _ _ => (pg_name (i := 5) sc_row_in.nd rfl (Or.inl rfl))) (fun _ _ _ _ _ => (pts_one (pt_cmp (pc_din (hu_of hr) (pv 5) (pv 2))))) (fun _ _ _ _ _ => (pe_dget (hu_of hr) (pv 2) (pv 5) (fun _ _ => rfl)))) pa_nil))))), ?_⟩
    refine ⟨_, rfl, b, _, dx, _, _, rfl, hb, T.k_Book, T.n_Book_words, rfl, Wd K, wordsV, rfl, T.wordsT _, fun D hD => ?_⟩
    refine walkW (w_enumT (xs := wordsV)) (fun i H' => Same H H' ∧ H' D = some (.dK (kvF (book.take i) 0))) ⟨(Same.refl H).mut hD, upd_same⟩ (fun i H' _ p => T.wordsT _) ?_ ?_
    · rintro i H1 x _ hi ⟨a, hy⟩ ⟨T', y, rfl, hT, rfl, hx⟩
      obtain ⟨z, hz, rfl⟩ := at_word hx
      have hil : i < book.length := (List.getElem?_eq_some_iff.mp hz).1
      have hne : D ≠ T' := fun e => by rw [e, hT] at hy; cases hy
      refine ⟨T', _, rfl, .inl (.inl upd_same), rfl, _, _, rfl, _, _, rfl, rfl, rfl, _, rfl, _, rfl, kvF (book.take i) 0, .inr (SX.S z), rfl, ?_, ?_, ?_, ?_⟩
      · rw [upd_ne hne]; exact hy
      · rw [kvF_len, List.length_take, book_len]
        refine lt_line ?_
        omega
      · exact (a.trans (same_new hT)).mut hD
      · rw [upd_same, take_next hil]
        have e : book[i] = z := by rw [List.getElem?_eq_getElem hil] at hz; exact Option.some.inj hz
        rw [e, kvF_put hil e]
    · rintro H1 ⟨a, hy⟩
      rw [show book.take wordsV.length = book by rw [wordsV_len, ← book_len]; exact List.take_length] at hy
      refine ⟨_, rfl, ⟨_, rfl⟩, SX.S l, SX.S [32], rfl, rfl, rfl, ?_, fun p hp => ⟨p, rfl, ⟨_, .inl (.inl upd_same)⟩, fun D2 hD2 => ?_⟩⟩
      · rw [SX.S_len]
        exact le_line (by omega)
      have e1 : (Txt.split (SX.S l) (SX.S [32])).map V.str = (its l).map tx := by
        rw [SX.split_S (by simp) rfl, List.map_map, spl_eq] <;> rfl
      have e2 : ((its l).map tx).length = (its l).length := List.length_map ..
      have hI := its_len l
      have s1 : Same H1 (upd H1 p (.lst ((Txt.split (SX.S l) (SX.S [32])).map V.str))) := same_new hp
      refine lc_flat hD2 (w_list (xs := (its l).map tx)) (fun i => inBook ((its l).getD i [])) (fun i => .int (((book.idxOf ((its l).getD i [])) : Nat) : Int)) ?_ ?_ ?_ ?_ ?_ ?_
      · omega
      · exact fun H' s' => .inl (.inl (s' p _ (by rw [upd_same, e1])))
      · exact fun x => rfl
      · intro i x H' hi s' hx Qt qt
        obtain ⟨z, hz, rfl⟩ := at_tx hx
        refine ⟨_, rfl, _, rfl, D, _, rfl, DGet.k (k := .inr (SX.S z)) (s' D _ (s1 D _ hy)), _, rfl, ?_⟩
        rw [kvF_get, ← getD_of hz]
        have := qt H' (Same.refl _)
        rw [inBook_dec] at this
        by_cases hm : (its l).getD i [] ∈ book
        · rw [decide_eq_true hm] at this
          rw [if_pos hm]
          exact this
        · rw [decide_eq_false hm] at this
          rw [if_neg hm]
          exact this
      · intro i x H' hi hp' s' hx Qe qe
        obtain ⟨z, hz, rfl⟩ := at_tx hx
        refine ⟨_, rfl, _, rfl, D, .int (((book.idxOf z) : Nat) : Int), rfl, .inl ⟨_, .inr (SX.S z), .inl (s' D _ (s1 D _ hy)), rfl, ?_⟩, ?_⟩
        · rw [kvF_get]
          rw [getD_of hz] at hp'
          rw [if_pos (inBook_mem.mp hp'), Nat.zero_add]
        · have := qe H' (Same.refl _)
          rw [getD_of hz] at this
          exact this
      · intro H2 s2 hy2
        rw [e2, given_list [] inBook (fun x => V.int ((book.idxOf x : Nat) : Int))] at hy2
        refine ⟨D2, nV (told l), rfl, .inl ⟨.inl (.inl ?_), fun t ht => q t _ (((a.trans s1).trans s2).trans (same_new ht)) (.inl (.inl upd_same))⟩⟩
        rw [hy2]
        unfold told nV
        rw [List.map_map] <;> rfl
end
end K57
set_option Elab.async false
set_option linter.all false
set_option maxRecDepth 100000
set_option maxHeartbeats 4000000
namespace K57
open PySem PySem.Spec PyProof.Rows L2
theorem sumI_le {α : Type} {l : List α} {f : α → Int} {c : Int} (h : ∀ x ∈ l, f x ≤ c) : (l.map f).sum ≤ c * l.length := by
  induction l with
  | nil => simp
  | cons a r ih =>
    have h1 := h a List.mem_cons_self
    have h2 := ih fun x hx => h x (List.mem_cons_of_mem _ hx)
    rw [List.map_cons, List.sum_cons, List.length_cons, Int.natCast_add, Int.mul_add]
    omega
section
variable {P : Program} {w : World} {K : PySem.W.Frag} {mg : Str → Option Value} {base : Heap}
def sp_spelled (K : PySem.W.Frag) : Sp := fun vs H Q _ => ∃ b r ns, ∃ k : Nat, vs = [.ref b, .ref r, .int k] ∧ Bk K H b ∧ Sq K H r (nV ns) ∧ (∀ n ∈ ns, n < 30) ∧ ns.length ≤ 20 ∧ k ≤ 12 ∧ RetF (tx (txt ns k)) H Q
abbrev N_spelled : List Str := ["book", "row", "copies", "told", "many", "signs", "number"]
abbrev sco_spelled : Scope := defScope s_spelled
theorem sc_spelled : FnScope N_spelled ["book", "row", "copies"] sco_spelled := ⟨rfl, rfl, rfl, by decide +kernel, rfl, by decide +kernel, by decide +kernel⟩
theorem ok_spelled (T : Tx K mg) : C8.Cal P w K mg base 6 "spelled" (sp_spelled K) [] := by
  have c_need_book : C8.Cal P w K mg base 1 "need_book" (sp_need_book K) [.str "book"] := ok_need_book T
  have c_text_in : C8.Cal P w K mg base 1 "text_in" (sp_text_in K) [] := ok_text_in T
  have c_need_row : C8.Cal P w K mg base 4 "need_row" (sp_need_row K) [.str "row"] := ok_need_row T
  have c_need_copies : C8.Cal P w K mg base 4 "need_copies" (sp_need_copies K) [] := ok_need_copies T
  refine mkCal T.d_spelled T.m_spelled (fun fd F => ⟨[], .nil, F.bindsN fun _ _ _ _ _ _ us hl => match us, hl with | [_, _, _], _ => rfl⟩) sc_spelled (fun vs H Q E h => ?_) (fun cdv A outer s H vs Q E hr h => ?_)
  · obtain ⟨b, r, ns, k, rfl, _⟩ := h; rfl
  · obtain ⟨b, r, ns, k, rfl, hb, hS, hn, hl, hk, q⟩ := h
    refine ⟨_, (pss_cons (ps_expr (C8.pe_c c_need_book hr (by decide) (by rfl) (pa_cons (pv 0) pa_nil)))
      (pss_cons (ps_asg (pe_tup (pa_cons (C8.pe_c c_need_row hr (by decide) (by rfl) (pa_cons (pv 0) (pa_cons (pv 1) pa_nil))) (pa_cons (C8.pe_c c_need_copies hr (by decide) (by rfl) (pa_cons (pv 0) (pa_cons (pv 2) pa_nil))) pa_nil))) (pg_tupK (K := K) (n := 2) rfl rfl (pgs_cons (pg_name (i := 3) sc_spelled.nd rfl (Or.inl rfl)) (pgs_cons (pg_name (i := 4) sc_spelled.nd rfl (Or.inr rfl)) pgs_nil))))
      (pss_cons (ps_set (i := 5) sc_spelled.nd rfl (Or.inl rfl) (pe_callB (cr_sum rfl) (by rfl) T.f_sum bb_sum (pa_cons (pe_lc (own := [("number", 6)]) rfl sc_spelled.nd (pi_tupK (K := K) rfl (pv 3)) (blkOk_by (own := [("number", 6)]) (N := N_spelled) (sc := sco_spelled) (by decide +kernel)) (fun _ _ _ _ _ => (pg_name (i := 6) sc_spelled.nd rfl (Or.inl rfl))) (fun _ _ _ _ _ => pts_nil) (fun _ _ _ _ _ => (pe_op op_mul (pe_ix (ix_tupK (K := K) rfl) (pv 4) (pv 6) (fun _ _ => rfl)) (pe_op op_add (pe_callB call_len_str (by rfl) T.f_len bb_len (pa_cons (pe_ix (ix_tupK (K := K) rfl) (pe_fldK (K := K) rfl (pv 0) rfl) (pv 6) (fun _ _ => rfl)) pa_nil)) pe_int)))) pa_nil)))
      (pss_cons (ps_if (pt_cmpR op_gt (pe_op op_sub (pv 5) pe_int) (C8.pe_gc (by rfl) T.g_MOST_SIGNS_checks) (nomark _)) (pss_one ps_never) pss_nil)
      (pss_one (ps_ret (C8.pe_c c_text_in hr (by decide) (by rfl) (pa_cons (pv 0) (pa_cons (pv 3) (pa_cons (pv 4) pa_nil)))))))))), ?_⟩
    obtain ⟨dx, hbx⟩ := id hb
    refine ⟨_, rfl, b, _, rfl, hb, fun H1 s1 => ?_⟩
    refine ⟨_, rfl, _, rfl, b, r, _, ns, rfl, hb.mono s1, hS.mono s1, by omega, hn, fun t H2 s2 ht => ⟨_, rfl, _, rfl, b, k, rfl, (hb.mono s1).mono s2, hk, fun c H3 s3 hc => ⟨by show 2 ≤ sizeLine; decide, fun p hp => ⟨p, [.ref t, .ref c], rfl, .inl (.inl upd_same), rfl, _, _, rfl, _, _, rfl, rfl, ?_⟩⟩⟩⟩
    have s4 : Same H3 (upd H3 p (.tup [.ref t, .ref c])) := same_new hp
    have sA : Same H (upd H3 p (.tup [.ref t, .ref c])) := ((s1.trans s2).trans s3).trans s4
    have ht4 := sqt_mono (s3.trans s4) ht
    have hc4 := sqt_mono s4 hc
    refine ⟨_, rfl, t, rfl, ⟨_, ht4⟩, fun D hD => ?_⟩
    refine lc_flat hD (w_tup (xs := nV ns)) (fun _ => true) (fun i => .int ((k : Int) * (((SX.S (wd (ns.getD i 0))).length : Int) + 1))) ?_ ?_ ?_ ?_ ?_ ?_
    · rw [List.length_map]; omega
    · exact fun H' s' => sqt_mono s' ht4
    · exact fun x => rfl
    · exact fun i x H' _ _ _ Qt qt => yes_ok qt
    · intro i x H' hi _ s' hx Qe qe
      obtain ⟨n, hni, rfl⟩ := nV_at hx
      have hn30 := hn n (List.mem_of_getElem? hni)
      have e : ns.getD i 0 = n := by rw [List.getD_eq_getElem?_getD, hni] <;> rfl
      have hw := (book_ok _ (wd_mem hn30)).2.1
      have q2 := qe H' (Same.refl _)
      rw [e] at q2
      refine ⟨_, rfl, _, rfl, c, _, _, .int (k : Int), rfl, rfl, sqt_mono s' hc4, atI_nat (j := n) (by rw [List.getElem?_replicate, if_pos hn30]), _, rfl, b, _, dx, _, _, rfl, s' b _ (sA b _ hbx), T.k_Book, T.n_Book_words, rfl, _, rfl, Wd K, wordsV, _, _, rfl, rfl, T.wordsT _, atI_nat (words_at hn30), _, rfl, ?_, _, _, rfl, rfl, _, _, rfl, rfl, ?_, q2⟩
      · rw [SX.S_len]
        exact le_line (by omega)
      · exact .inl ⟨by omega, by omega⟩
    · intro H5 s5 hy
      refine ⟨D, (List.range (nV ns).length).map fun i => (k : Int) * (((SX.S (wd (ns.getD i 0))).length : Int) + 1), rfl, .inl (.inl (by rw [hy, given_all, List.map_map] <;> rfl)), ?_⟩
      have hsum : ((List.range (nV ns).length).map fun i => (k : Int) * (((SX.S (wd (ns.getD i 0))).length : Int) + 1)).sum ≤ 156 * (nV ns).length := by
        have := sumI_le (l := List.range (nV ns).length) (f := fun i => (k : Int) * (((SX.S (wd (ns.getD i 0))).length : Int) + 1)) (c := 156) fun i hi => by
          have hlt : i < ns.length := by have := List.mem_range.mp hi; rwa [List.length_map] at this
          have hm : ns.getD i 0 ∈ ns := by rw [List.getD_eq_getElem?_getD, List.getElem?_eq_getElem hlt]; exact List.getElem_mem hlt
          have hw := (book_ok _ (wd_mem (hn _ hm))).2.1
          have h1 : k * ((wd (ns.getD i 0)).length + 1) ≤ 12 * 13 := Nat.mul_le_mul hk (by omega)
          rw [SX.S_len]
          have h2 : ((k * ((wd (ns.getD i 0)).length + 1) : Nat) : Int) = (k : Int) * (((wd (ns.getD i 0)).length : Int) + 1) := by rw [Int.natCast_mul] <;> rfl
          omega
        rwa [List.length_range] at this
      have hlen : (nV ns).length = ns.length := List.length_map ..
      refine ⟨_, rfl, _, _, rfl, rfl, _, _, rfl, rfl, false, congrArg V.bl (decide_eq_false (by omega)), iteF ?_⟩
      have s6 := sA.trans s5
      exact ⟨_, rfl, _, rfl, _, rfl, b, t, c, ns, k, rfl, hb.mono s6, sqt_mono s5 ht4, sqt_mono s5 hc4, hn, hl, hk, fun H6 s7 => q H6 (s6.trans s7)⟩
def sp_read (K : PySem.W.Frag) : Sp := fun vs H Q _ => ∃ b l, vs = [.ref b, tx l] ∧ Bk K H b ∧ l.length ≤ 200000 ∧ isT l ∧ RetT K H Q (nV (told l))
abbrev N_read : List Str := ["book", "text"]
abbrev sco_read : Scope := defScope s_read
theorem sc_read : FnScope N_read ["book", "text"] sco_read := ⟨rfl, rfl, rfl, by decide +kernel, rfl, by decide +kernel, by decide +kernel⟩
theorem ok_read (T : Tx K mg) : C8.Cal P w K mg base 4 "read" (sp_read K) [] := by
  have c_need_book : C8.Cal P w K mg base 1 "need_book" (sp_need_book K) [.str "book"] := ok_need_book T
  have c_need_text : C8.Cal P w K mg base 2 "need_text" sp_need_text [.str "text"] := ok_need_text T
  have c_row_in : C8.Cal P w K mg base 1 "row_in" (sp_row_in K) [] := ok_row_in T
  refine mkCal T.d_read T.m_read (fun fd F => ⟨[], .nil, F.bindsN fun _ _ _ _ _ _ us hl => match us, hl with | [_, _], _ => rfl⟩) sc_read (fun vs H Q E h => ?_) (fun cdv A outer s H vs Q E hr h => ?_)
  · obtain ⟨b, l, rfl, _⟩ := h; rfl
  · obtain ⟨b, l, rfl, hb, hl, ht, q⟩ := h
    refine ⟨_, (pss_cons (ps_expr (C8.pe_c c_need_book hr (by decide) (by rfl) (pa_cons (pv 0) pa_nil)))
      (pss_cons (ps_expr (C8.pe_c c_need_text hr (by decide) (by rfl) (pa_cons (pv 1) pa_nil)))
      (pss_one (ps_ret (C8.pe_c c_row_in hr (by decide) (by rfl) (pa_cons (pv 0) (pa_cons (pv 1) pa_nil))))))), ?_⟩
    exact ⟨_, rfl, b, _, rfl, hb, fun H2 s2 => ⟨_, rfl, l, _, rfl, hl, ht, fun H3 s3 => ⟨_, rfl, _, rfl, b, l, rfl, (hb.mono s2).mono s3, hl, fun t H4 s4 h4 => q t H4 ((s2.trans s3).trans s4) h4⟩⟩⟩
end
/-! ### edits -/
def edV : Ed → List V
  | .lost p => [.str "lost", .int (p : Int)]
  | .put p c => [.str "put", .int (p : Int), tx [c]]
  | .chg p c => [.str "changed", .int (p : Int), tx [c]]
def edD : Ed → PyData
  | .lost p => .tuple [.str "lost", .int (p : Int)]
  | .put p c => .tuple [.str "put", .int (p : Int), .str (SX.S [c])]
  | .chg p c => .tuple [.str "changed", .int (p : Int), .str (SX.S [c])]
def okSg : Ed → Prop
  | .lost _ => True
  | .put _ c => c = 32 ∨ isL c
  | .chg _ c => c = 32 ∨ isL c
def Can (l : T) : Ed → Prop
  | .lost p => p < l.length
  | .put p _ => p ≤ l.length
  | .chg p c => p < l.length ∧ l[p]? ≠ some c
def CanAll : T → List Ed → Prop
  | _, [] => True
  | l, e :: r => okSg e ∧ Can l e ∧ CanAll (e.go l) r
theorem ed_at {K : PySem.W.Frag} {H : Hp} {v : V} {e : Ed} (h : Dp K H v (edD e)) : ∃ a, v = .ref a ∧ SqT K H a (edV e) := by
  cases e with
  | lost p =>
    obtain ⟨a, xs, rfl, h1, h2⟩ := dp_tup h
    obtain rfl : xs = edV (.lost p) := by
      cases h2 with
      | cons a1 h2 => cases h2 with
        | cons a2 h2 => cases h2; rw [dp_str a1, dp_int a2]; rfl
    exact ⟨a, rfl, h1⟩
  | put p c =>
    obtain ⟨a, xs, rfl, h1, h2⟩ := dp_tup h
    obtain rfl : xs = edV (.put p c) := by
      cases h2 with
      | cons a1 h2 => cases h2 with
        | cons a2 h2 => cases h2 with
          | cons a3 h2 => cases h2; rw [dp_str a1, dp_int a2, dp_str a3]; rfl
    exact ⟨a, rfl, h1⟩
  | chg p c =>
    obtain ⟨a, xs, rfl, h1, h2⟩ := dp_tup h
    obtain rfl : xs = edV (.chg p c) := by
      cases h2 with
      | cons a1 h2 => cases h2 with
        | cons a2 h2 => cases h2 with
          | cons a3 h2 => cases h2; rw [dp_str a1, dp_int a2, dp_str a3]; rfl
    exact ⟨a, rfl, h1⟩
theorem go_len (e : Ed) (l : T) : (e.go l).length ≤ l.length + 1 := by
  cases e with
  | lost p => simp only [Ed.go, List.length_append, List.length_take, List.length_drop]; omega
  | put p c => simp only [Ed.go, List.length_append, List.length_cons, List.length_take, List.length_drop]; omega
  | chg p c => simp only [Ed.go, List.length_append, List.length_cons, List.length_take, List.length_drop]; omega
theorem goAll_len : ∀ (es : List Ed) (l : T), (goAll l es).length ≤ l.length + es.length
  | [], l => Nat.le_refl _
  | e :: r, l => by
    have h1 := go_len e l
    have h2 := goAll_len r (e.go l)
    show (goAll (e.go l) r).length ≤ l.length + (r.length + 1)
    omega
theorem goAll_next : ∀ (es : List Ed) (l : T) {i : Nat} {e : Ed}, es[i]? = some e → goAll l (es.take (i + 1)) = e.go (goAll l (es.take i))
  | [], l, i, e, h => by simp at h
  | a :: r, l, 0, e, h => by
    simp only [List.getElem?_cons_zero, Option.some.injEq] at h
    subst h
    rfl
  | a :: r, l, i + 1, e, h => goAll_next r (a.go l) (i := i) (by simpa using h)
theorem canAll_at : ∀ (es : List Ed) {l : T}, CanAll l es → ∀ {i : Nat} {e : Ed}, es[i]? = some e → okSg e ∧ Can (goAll l (es.take i)) e
  | [], l, _, i, e, h => by simp at h
  | a :: r, l, hc, 0, e, h => by
    simp only [List.getElem?_cons_zero, Option.some.injEq] at h
    subst h
    exact ⟨hc.1, hc.2.1⟩
  | a :: r, l, hc, i + 1, e, h => canAll_at r hc.2.2 (i := i) (by simpa using h)
theorem eds_seq {K : PySem.W.Frag} {H : Hp} {a : Addr} {ds : List PyData} (ha : Dp K H (.ref a) (.list ds) ∨ Dp K H (.ref a) (.tuple ds)) : ∃ vs, Sq K H a vs ∧ DpAll K H vs ds := by
  rcases ha with h | h
  · obtain ⟨b, xs, e, h1, h2⟩ := dp_lst h
    cases e
    exact ⟨xs, .inl h1, h2⟩
  · obtain ⟨b, xs, e, h1, h2⟩ := dp_tup h
    cases e
    exact ⟨xs, .inr h1, h2⟩
theorem d_lp : decide (V.str "lost" = V.str "put") = false := by decide +kernel
theorem d_pp : decide (V.str "put" = V.str "put") = true := by decide +kernel
theorem d_cp : decide (V.str "changed" = V.str "put") = false := by decide +kernel
theorem d_ll : decide (V.str "lost" = V.str "lost") = true := by decide +kernel
theorem d_pl : decide (V.str "put" = V.str "lost") = false := by decide +kernel
theorem d_cl : decide (V.str "changed" = V.str "lost") = false := by decide +kernel
section
variable {P : Program} {w : World} {K : PySem.W.Frag} {mg : Str → Option Value} {base : Heap}
def sp_is_edit (K : PySem.W.Frag) : Sp := fun vs H Q _ => ∃ a e, vs = [.ref a] ∧ SqT K H a (edV e) ∧ okSg e ∧ RetF (.bl true) H Q
abbrev N_is_edit : List Str := ["value"]
abbrev sco_is_edit : Scope := defScope s_is_edit
theorem sc_is_edit : FnScope N_is_edit ["value"] sco_is_edit := ⟨rfl, rfl, rfl, by decide +kernel, rfl, by decide +kernel, by decide +kernel⟩
theorem ok_is_edit (T : Tx K mg) : C8.Cal P w K mg base 3 "is_edit" (sp_is_edit K) [] := by
  have c_is_within : C8.Cal P w K mg base 2 "is_within" sp_is_within [] := ok_is_within T
  have c_is_sign : C8.Cal P w K mg base 1 "is_sign" sp_is_sign [] := ok_is_sign T
  refine mkCal T.d_is_edit T.m_is_edit (fun fd F => ⟨[], .nil, F.bindsN fun _ _ _ _ _ _ us hl => match us, hl with | [_], _ => rfl⟩) sc_is_edit (fun vs H Q E h => ?_) (fun cdv A outer s H vs Q E hr h => ?_)
  · obtain ⟨a, e, rfl, _⟩ := h; rfl
  · obtain ⟨a, e, rfl, ha, ho, q⟩ := h
    refine ⟨_, (pss_cons (ps_if (PW.pt (pw_or (pt_not (pt_val (pe_callB call_isiT (by rfl) T.f_isinstance bb_isinstance (pa_cons (pv 0) (pa_cons (pe_tup (pa_cons (pe_bltn (by rfl) T.f_list bb_list (rt "list")) (pa_cons (pe_bltn (by rfl) T.f_tuple bb_tuple (rt "tuple")) pa_nil))) pa_nil))))) (pw_or (pt_not (pt_chain op_le op_le pe_int (pe_callB (call_len_seqK (K := K) rfl) (by rfl) T.f_len bb_len (pa_cons (pv 0) pa_nil)) pe_int)) (pw_or1 (pt_not (pt_val (pe_callB call_isi (by rfl) T.f_isinstance bb_isinstance (pa_cons (pe_ix (ix_tupK (K := K) rfl) (pv 0) pe_int (fun _ _ => rfl)) (pa_cons (pe_bltn (by rfl) T.f_str bb_str (rt "str")) pa_nil))))))))) (pss_one (ps_ret pe_bl)) pss_nil)
      (pss_cons (ps_if (pt_not (pt_val (C8.pe_c c_is_within hr (by decide) (by rfl) (pa_cons (pe_ix (ix_tupK (K := K) rfl) (pv 0) pe_int (fun _ _ => rfl)) (pa_cons pe_int (pa_cons pe_non pa_nil)))))) (pss_one (ps_ret pe_bl)) pss_nil)
      (pss_one (ps_ret (pe_ifExp (pt_cmpR op_eq (pe_callB (call_len_seqK (K := K) rfl) (by rfl) T.f_len bb_len (pa_cons (pv 0) pa_nil)) pe_int (nomark _)) (pe_cmpR op_eq (pe_ix (ix_tupK (K := K) rfl) (pv 0) pe_int (fun _ _ => rfl)) (C8.pe_gc (by rfl) T.g_LOST) (nomark _)) (pe_and (pe_cmpR (op_in_seqK (K := K) rfl) (pe_ix (ix_tupK (K := K) rfl) (pv 0) pe_int (fun _ _ => rfl)) (pe_tup (pa_cons (C8.pe_gc (by rfl) T.g_PUT) (pa_cons (C8.pe_gc (by rfl) T.g_CHANGED) pa_nil))) rfl) (pe_one (C8.pe_c c_is_sign hr (by decide) (by rfl) (pa_cons (pe_ix (ix_tupK (K := K) rfl) (pv 0) pe_int (fun _ _ => rfl)) pa_nil))))))))), ?_⟩
    cases e with
    | lost p =>
      refine ⟨_, rfl, by show 2 ≤ sizeLine; decide, fun p0 hp => ?_⟩
      have s1 : Same H (upd H p0 (.tup [.ty "list", .ty "tuple"])) := same_new hp
      have h1 := sqt_mono s1 ha
      refine ⟨_, p0, _, _, _, true, rfl, upd_same, .cons (.ty _) (.cons (.ty _) .nil), sqt_ty h1, k_any_t, true, rfl, iteF ?_⟩
      refine ⟨_, rfl, a, _, rfl, .inr h1, _, _, rfl, rfl, true, rfl, iteT ⟨_, _, rfl, rfl, true, rfl, iteF ?_⟩⟩
      refine ⟨_, rfl, a, _, (0 : Int), _, rfl, rfl, h1, rfl, _, _, _, _, true, rfl, .ty _, .base (.str _), k_ss, true, rfl, iteF ?_⟩
      refine ⟨_, rfl, a, _, (1 : Int), _, rfl, rfl, h1, rfl, _, some 0, none, rfl, ⟨fun l e => by cases e; omega, fun l e => by cases e⟩, fun H3 s3 => ⟨true, rfl, iteF ?_⟩⟩
      have s4 := s1.trans s3
      have h3 := sqt_mono s3 h1
      refine ⟨_, rfl, a, _, rfl, .inr h3, rfl, true, rfl, ?_⟩
      refine ⟨_, rfl, a, _, (0 : Int), _, rfl, rfl, h3, rfl, rfl, ?_⟩
      have e : V.bl (decide (V.str "lost" = V.str "lost")) = V.bl true := congrArg V.bl d_ll
      exact e ▸ q H3 s4
    | put p c =>
      refine ⟨_, rfl, by show 2 ≤ sizeLine; decide, fun p0 hp => ?_⟩
      have s1 : Same H (upd H p0 (.tup [.ty "list", .ty "tuple"])) := same_new hp
      have h1 := sqt_mono s1 ha
      refine ⟨_, p0, _, _, _, true, rfl, upd_same, .cons (.ty _) (.cons (.ty _) .nil), sqt_ty h1, k_any_t, true, rfl, iteF ?_⟩
      refine ⟨_, rfl, a, _, rfl, .inr h1, _, _, rfl, rfl, true, rfl, iteT ⟨_, _, rfl, rfl, true, rfl, iteF ?_⟩⟩
      refine ⟨_, rfl, a, _, (0 : Int), _, rfl, rfl, h1, rfl, _, _, _, _, true, rfl, .ty _, .base (.str _), k_ss, true, rfl, iteF ?_⟩
      refine ⟨_, rfl, a, _, (1 : Int), _, rfl, rfl, h1, rfl, _, some 0, none, rfl, ⟨fun l e => by cases e; omega, fun l e => by cases e⟩, fun H3 s3 => ⟨true, rfl, iteF ?_⟩⟩
      have s4 := s1.trans s3
      have h3 := sqt_mono s3 h1
      refine ⟨_, rfl, a, _, rfl, .inr h3, rfl, false, rfl, ?_⟩
      refine ⟨_, rfl, a, _, (0 : Int), _, rfl, rfl, h3, rfl, by show 2 ≤ sizeLine; decide, fun p2 hp2 => ⟨p2, [.str "put", .str "changed"], rfl, .inr (.inl (.inl upd_same)), rfl, rfl, true, by decide +kernel, ?_⟩⟩
      have s5 : Same H3 (upd H3 p2 (.tup [.str "put", .str "changed"])) := same_new hp2
      have h5 := sqt_mono s5 h3
      exact ⟨_, rfl, a, _, (2 : Int), _, rfl, rfl, h5, rfl, c, rfl, ho, fun H6 s6 => q H6 ((s4.trans s5).trans s6)⟩
    | chg p c =>
      refine ⟨_, rfl, by show 2 ≤ sizeLine; decide, fun p0 hp => ?_⟩
      have s1 : Same H (upd H p0 (.tup [.ty "list", .ty "tuple"])) := same_new hp
      have h1 := sqt_mono s1 ha
      refine ⟨_, p0, _, _, _, true, rfl, upd_same, .cons (.ty _) (.cons (.ty _) .nil), sqt_ty h1, k_any_t, true, rfl, iteF ?_⟩
      refine ⟨_, rfl, a, _, rfl, .inr h1, _, _, rfl, rfl, true, rfl, iteT ⟨_, _, rfl, rfl, true, rfl, iteF ?_⟩⟩
      refine ⟨_, rfl, a, _, (0 : Int), _, rfl, rfl, h1, rfl, _, _, _, _, true, rfl, .ty _, .base (.str _), k_ss, true, rfl, iteF ?_⟩
      refine ⟨_, rfl, a, _, (1 : Int), _, rfl, rfl, h1, rfl, _, some 0, none, rfl, ⟨fun l e => by cases e; omega, fun l e => by cases e⟩, fun H3 s3 => ⟨true, rfl, iteF ?_⟩⟩
      have s4 := s1.trans s3
      have h3 := sqt_mono s3 h1
      refine ⟨_, rfl, a, _, rfl, .inr h3, rfl, false, rfl, ?_⟩
      refine ⟨_, rfl, a, _, (0 : Int), _, rfl, rfl, h3, rfl, by show 2 ≤ sizeLine; decide, fun p2 hp2 => ⟨p2, [.str "put", .str "changed"], rfl, .inr (.inl (.inl upd_same)), rfl, rfl, true, by decide +kernel, ?_⟩⟩
      have s5 : Same H3 (upd H3 p2 (.tup [.str "put", .str "changed"])) := same_new hp2
      have h5 := sqt_mono s5 h3
      exact ⟨_, rfl, a, _, (2 : Int), _, rfl, rfl, h5, rfl, c, rfl, ho, fun H6 s6 => q H6 ((s4.trans s5).trans s6)⟩
def sp_can_be_done (K : PySem.W.Frag) : Sp := fun vs H Q _ => ∃ l a e, vs = [tx l, .ref a] ∧ SqT K H a (edV e) ∧ l.length < 200000 ∧ Can l e ∧ RetF (.bl true) H Q
abbrev N_can_be_done : List Str := ["text", "edit"]
abbrev sco_can_be_done : Scope := defScope s_can_be_done
theorem sc_can_be_done : FnScope N_can_be_done ["text", "edit"] sco_can_be_done := ⟨rfl, rfl, rfl, by decide +kernel, rfl, by decide +kernel, by decide +kernel⟩
theorem ok_can_be_done (T : Tx K mg) : C8.Cal P w K mg base 1 "can_be_done" (sp_can_be_done K) [] := by
  refine mkCal T.d_can_be_done T.m_can_be_done (fun fd F => ⟨[], .nil, F.bindsN fun _ _ _ _ _ _ us hl => match us, hl with | [_, _], _ => rfl⟩) sc_can_be_done (fun vs H Q E h => ?_) (fun cdv A outer s H vs Q E hr h => ?_)
  · obtain ⟨l, a, e, rfl, _⟩ := h; rfl
  · obtain ⟨l, a, e, rfl, ha, hl, hc, q⟩ := h
    refine ⟨_, (pss_cons (ps_if (pt_cmpR op_eq (pe_ix (ix_tupK (K := K) rfl) (pv 1) pe_int (fun _ _ => rfl)) (C8.pe_gc (by rfl) T.g_PUT) (nomark _)) (pss_one (ps_ret (pe_chain op_le op_lt (pe_ix (ix_tupK (K := K) rfl) (pv 1) pe_int (fun _ _ => rfl)) (pe_callB call_len_str (by rfl) T.f_len bb_len (pa_cons (pv 0) pa_nil)) (C8.pe_gc (by rfl) T.g_MOST_SIGNS_checks)))) pss_nil)
      (pss_one (ps_ret (pe_and (pe_cmpR op_lt (pe_ix (ix_tupK (K := K) rfl) (pv 1) pe_int (fun _ _ => rfl)) (pe_callB call_len_str (by rfl) T.f_len bb_len (pa_cons (pv 0) pa_nil)) (nomark _)) (pe_one (pe_or (pe_cmpR op_eq (pe_ix (ix_tupK (K := K) rfl) (pv 1) pe_int (fun _ _ => rfl)) (C8.pe_gc (by rfl) T.g_LOST) (nomark _)) (pe_one (pe_cmpR op_ne (pe_ix ix_str (pv 0) (pe_ix (ix_tupK (K := K) rfl) (pv 1) pe_int (fun _ _ => rfl)) (fun _ _ => rfl)) (pe_ix (ix_tupK (K := K) rfl) (pv 1) pe_int (fun _ _ => rfl)) (nomark _))))))))), ?_⟩
    cases e with
    | lost p =>
      have hc : p < l.length := hc
      refine ⟨_, rfl, a, _, (0 : Int), _, rfl, rfl, ha, rfl, rfl, false, congrArg V.bl d_lp, iteF ?_⟩
      refine ⟨_, rfl, a, _, (1 : Int), _, rfl, rfl, ha, rfl, _, rfl, _, rfl, le_line (by rw [SX.S_len]; omega), _, _, rfl, rfl, true, congrArg V.bl (decide_eq_true (by rw [SX.S_len]; omega)), iteT ?_⟩
      exact ⟨_, rfl, a, _, (0 : Int), _, rfl, rfl, ha, rfl, rfl, true, congrArg V.bl d_ll, iteT (q H (Same.refl _))⟩
    | put p c =>
      have hc : p ≤ l.length := hc
      refine ⟨_, rfl, a, _, (0 : Int), _, rfl, rfl, ha, rfl, rfl, true, congrArg V.bl d_pp, iteT ?_⟩
      refine ⟨_, rfl, a, _, (1 : Int), _, rfl, rfl, ha, rfl, _, rfl, _, rfl, le_line (by rw [SX.S_len]; omega), _, _, rfl, rfl, true, congrArg V.bl (decide_eq_true (by rw [SX.S_len]; omega)), iteT ⟨_, _, rfl, rfl, ?_⟩⟩
      have e : V.bl (decide (((SX.S l).length : Int) < 200000)) = V.bl true := congrArg V.bl (decide_eq_true (by rw [SX.S_len]; omega))
      show Q (V.bl (decide (((SX.S l).length : Int) < 200000))) H
      rw [e]
      exact q H (Same.refl _)
    | chg p c =>
      obtain ⟨hc, hne⟩ : p < l.length ∧ l[p]? ≠ some c := hc
      refine ⟨_, rfl, a, _, (0 : Int), _, rfl, rfl, ha, rfl, rfl, false, congrArg V.bl d_cp, iteF ?_⟩
      refine ⟨_, rfl, a, _, (1 : Int), _, rfl, rfl, ha, rfl, _, rfl, _, rfl, le_line (by rw [SX.S_len]; omega), _, _, rfl, rfl, true, congrArg V.bl (decide_eq_true (by rw [SX.S_len]; omega)), iteT ?_⟩
      refine ⟨_, rfl, a, _, (0 : Int), _, rfl, rfl, ha, rfl, rfl, false, congrArg V.bl d_cl, iteF ?_⟩
      obtain ⟨c0, hc0⟩ : ∃ c0, l[p]? = some c0 := ⟨l[p], List.getElem?_eq_getElem hc⟩
      refine ⟨_, rfl, _, rfl, a, _, (1 : Int), _, rfl, rfl, ha, rfl, _, _, c0, rfl, rfl, le_line (by rw [SX.S_len]; omega), atI_nat (j := p) (by simpa using hc0), _, rfl, a, _, (2 : Int), _, rfl, rfl, ha, rfl, rfl, ?_⟩
      have e : V.bl (!decide (V.str ⟨#[c0]⟩ = tx [c])) = V.bl true := by
        have : ¬ V.str ⟨#[c0]⟩ = tx [c] := fun h => hne (by
          have h2 : SX.S [c0] = SX.S [c] := V.str.inj h
          have h3 := SX.S_inj h2
          rw [hc0, (List.cons.inj h3).1])
        rw [decide_eq_false this] <;> rfl
      exact e ▸ q H (Same.refl _)
def sp_done (K : PySem.W.Frag) : Sp := fun vs H Q _ => ∃ l a e, vs = [tx l, .ref a] ∧ SqT K H a (edV e) ∧ l.length < 200000 ∧ Can l e ∧ RetF (tx (e.go l)) H Q
abbrev N_done : List Str := ["text", "edit", "at"]
abbrev sco_done : Scope := defScope s_done
theorem sc_done : FnScope N_done ["text", "edit"] sco_done := ⟨rfl, rfl, rfl, by decide +kernel, rfl, by decide +kernel, by decide +kernel⟩
theorem ok_done (T : Tx K mg) : C8.Cal P w K mg base 1 "done" (sp_done K) [] := by
  refine mkCal T.d_done T.m_done (fun fd F => ⟨[], .nil, F.bindsN fun _ _ _ _ _ _ us hl => match us, hl with | [_, _], _ => rfl⟩) sc_done (fun vs H Q E h => ?_) (fun cdv A outer s H vs Q E hr h => ?_)
  · obtain ⟨l, a, e, rfl, _⟩ := h; rfl
  · obtain ⟨l, a, e, rfl, ha, hl, hc, q⟩ := h
    refine ⟨_, (pss_cons (ps_set (i := 2) sc_done.nd rfl (Or.inl rfl) (pe_ix (ix_tupK (K := K) rfl) (pv 1) pe_int (fun _ _ => rfl)))
      (pss_cons (ps_if (pt_cmpR op_eq (pe_ix (ix_tupK (K := K) rfl) (pv 1) pe_int (fun _ _ => rfl)) (C8.pe_gc (by rfl) T.g_PUT) (nomark _)) (pss_one (ps_ret (pe_op op_add_str (pe_op op_add_str (pe_slice C8.sl_txt (pv 0) po_none (po_some (pv 2))) (pe_ix (ix_tupK (K := K) rfl) (pv 1) pe_int (fun _ _ => rfl))) (pe_slice C8.sl_txt (pv 0) (po_some (pv 2)) po_none)))) pss_nil)
      (pss_one (ps_ret (pe_op op_add_str (pe_op op_add_str (pe_slice C8.sl_txt (pv 0) po_none (po_some (pv 2))) (pe_ifExp (pt_cmpR op_eq (pe_ix (ix_tupK (K := K) rfl) (pv 1) pe_int (fun _ _ => rfl)) (C8.pe_gc (by rfl) T.g_LOST) (nomark _)) pe_str (pe_ix (ix_tupK (K := K) rfl) (pv 1) pe_int (fun _ _ => rfl)))) (pe_slice C8.sl_txt (pv 0) (po_some (pe_op op_add (pv 2) pe_int)) po_none)))))), ?_⟩
    have e1 : ∀ p : Nat, Txt.slice (SX.S l) none (some (p : Int)) = SX.S (l.take p) := fun p => by rw [SX.slice_to (by omega)] <;> rfl
    have e2 : ∀ p : Nat, Txt.slice (SX.S l) (some (p : Int)) none = SX.S (l.drop p) := fun p => by rw [SX.slice_from (by omega)] <;> rfl
    have e3 : ∀ p : Nat, Txt.slice (SX.S l) (some ((p : Int) + 1)) none = SX.S (l.drop (p + 1)) := fun p => e2 (p + 1)
    have z1 : (SX.S l).length ≤ sizeLine := le_line (by rw [SX.S_len]; omega)
    have zt : ∀ p : Nat, (l.take p).length ≤ l.length := fun p => by rw [List.length_take]; omega
    have zd : ∀ p : Nat, (l.drop p).length ≤ l.length := fun p => by rw [List.length_drop]; omega
    cases e with
    | lost p =>
      refine ⟨_, rfl, a, _, (1 : Int), _, rfl, rfl, ha, rfl, ?_⟩
      refine ⟨_, rfl, a, _, (0 : Int), _, rfl, rfl, ha, rfl, rfl, false, congrArg V.bl d_lp, iteF ?_⟩
      refine ⟨_, rfl, _, rfl, _, rfl, _, rfl, z1, _, rfl, a, _, (0 : Int), _, rfl, rfl, ha, rfl, rfl, true, congrArg V.bl d_ll, iteT ⟨_, _, rfl, rfl, ?_, _, rfl, _, rfl, _, _, rfl, rfl, _, rfl, _, rfl, z1, _, _, rfl, rfl, ?_, ?_⟩⟩
      · rw [e1]
        have := zt p
        refine le_line ?_
        rw [SX.S_len]
        show _ + 0 ≤ _
        omega
      · rw [e1, e3]
        have h1 := zt p
        have h2 := zd (p + 1)
        refine le_line ?_
        show (SX.S (l.take p) ++ SX.S []).length + _ ≤ _
        rw [SX.S_cat, List.append_nil, SX.S_len, SX.S_len]
        omega
      · rw [e1, e3]
        have : SX.S (l.take p) ++ Str.ofString "" ++ SX.S (l.drop (p + 1)) = SX.S ((Ed.lost p).go l) := by
          show SX.S (l.take p) ++ SX.S [] ++ SX.S (l.drop (p + 1)) = _
          rw [SX.S_cat, SX.S_cat, List.append_nil] <;> rfl
        rw [this]
        exact q H (Same.refl _)
    | put p c =>
      refine ⟨_, rfl, a, _, (1 : Int), _, rfl, rfl, ha, rfl, ?_⟩
      refine ⟨_, rfl, a, _, (0 : Int), _, rfl, rfl, ha, rfl, rfl, true, congrArg V.bl d_pp, iteT ?_⟩
      refine ⟨_, rfl, _, rfl, _, rfl, _, rfl, z1, _, rfl, a, _, (2 : Int), _, rfl, rfl, ha, rfl, _, _, rfl, rfl, ?_, _, rfl, _, rfl, _, rfl, _, rfl, z1, _, _, rfl, rfl, ?_, ?_⟩
      · rw [e1]
        have := zt p
        refine le_line ?_
        rw [SX.S_len, SX.S_len]
        show _ + 1 ≤ _
        omega
      · rw [e1, e2]
        have h1 := zt p
        have h2 := zd p
        refine le_line ?_
        rw [SX.S_cat, SX.S_len, SX.S_len, List.length_append]
        show _ + 1 + _ ≤ _
        omega
      · rw [e1, e2]
        have : SX.S (l.take p) ++ SX.S [c] ++ SX.S (l.drop p) = SX.S ((Ed.put p c).go l) := by
          rw [SX.S_cat, SX.S_cat, List.append_assoc] <;> rfl
        rw [this]
        exact q H (Same.refl _)
    | chg p c =>
      refine ⟨_, rfl, a, _, (1 : Int), _, rfl, rfl, ha, rfl, ?_⟩
      refine ⟨_, rfl, a, _, (0 : Int), _, rfl, rfl, ha, rfl, rfl, false, congrArg V.bl d_cp, iteF ?_⟩
      refine ⟨_, rfl, _, rfl, _, rfl, _, rfl, z1, _, rfl, a, _, (0 : Int), _, rfl, rfl, ha, rfl, rfl, false, congrArg V.bl d_cl, iteF ⟨_, rfl, a, _, (2 : Int), _, rfl, rfl, ha, rfl, _, _, rfl, rfl, ?_, _, rfl, _, rfl, _, _, rfl, rfl, _, rfl, _, rfl, z1, _, _, rfl, rfl, ?_, ?_⟩⟩
      · rw [e1]
        have := zt p
        refine le_line ?_
        rw [SX.S_len, SX.S_len]
        show _ + 1 ≤ _
        omega
      · rw [e1, e3]
        have h1 := zt p
        have h2 := zd (p + 1)
        refine le_line ?_
        rw [SX.S_cat, SX.S_len, SX.S_len, List.length_append]
        show _ + 1 + _ ≤ _
        omega
      · rw [e1, e3]
        have : SX.S (l.take p) ++ SX.S [c] ++ SX.S (l.drop (p + 1)) = SX.S ((Ed.chg p c).go l) := by
          rw [SX.S_cat, SX.S_cat, List.append_assoc] <;> rfl
        rw [this]
        exact q H (Same.refl _)
def sp_behind (K : PySem.W.Frag) : Sp := fun vs H Q _ => ∃ l a es, vs = [tx l, .ref a] ∧ (Dp K H (.ref a) (.list (es.map edD)) ∨ Dp K H (.ref a) (.tuple (es.map edD))) ∧ l.length + es.length < 200000 ∧ CanAll l es ∧ RetF (tx (goAll l es)) H Q
abbrev N_behind : List Str := ["text", "edits", "edit"]
abbrev sco_behind : Scope := defScope s_behind
theorem sc_behind : FnScope N_behind ["text", "edits"] sco_behind := ⟨rfl, rfl, rfl, by decide +kernel, rfl, by decide +kernel, by decide +kernel⟩
theorem ok_behind (T : Tx K mg) : C8.Cal P w K mg base 4 "behind" (sp_behind K) [] := by
  have c_done : C8.Cal P w K mg base 1 "done" (sp_done K) [] := ok_done T
  have c_is_edit : C8.Cal P w K mg base 3 "is_edit" (sp_is_edit K) [] := ok_is_edit T
  have c_can_be_done : C8.Cal P w K mg base 1 "can_be_done" (sp_can_be_done K) [] := ok_can_be_done T
  refine mkCal T.d_behind T.m_behind (fun fd F => ⟨[], .nil, F.bindsN fun _ _ _ _ _ _ us hl => match us, hl with | [_, _], _ => rfl⟩) sc_behind (fun vs H Q E h => ?_) (fun cdv A outer s H vs Q E hr h => ?_)
  · obtain ⟨l, a, e, rfl, _⟩ := h; rfl
  · obtain ⟨l, a, es, rfl, ha, hl, hc, q⟩ := h
    refine ⟨_, (pss_cons (ps_if (pt_not (pt_val (pe_callB call_isiT (by rfl) T.f_isinstance bb_isinstance (pa_cons (pv 1) (pa_cons (pe_tup (pa_cons (pe_bltn (by rfl) T.f_list bb_list (rt "list")) (pa_cons (pe_bltn (by rfl) T.f_tuple bb_tuple (rt "tuple")) pa_nil))) pa_nil))))) (pss_one (ps_ret pe_non)) pss_nil)
      (pss_cons (ps_for PassesOwn.never rfl (pi_seq (pv 1)) (pg_name (i := 2) sc_behind.nd rfl (Or.inl rfl))
      (pss_cons (ps_if (PW.pt (pw_or (pt_not (pt_val (C8.pe_c c_is_edit hr (by decide) (by rfl) (pa_cons (pv 2) pa_nil)))) (pw_or1 (pt_not (pt_val (C8.pe_c c_can_be_done hr (by decide) (by rfl) (pa_cons (pv 0) (pa_cons (pv 2) pa_nil)))))))) (pss_one (ps_ret pe_non)) pss_nil)
      (pss_one (ps_set (i := 0) sc_behind.nd rfl (Or.inl rfl) (C8.pe_c c_done hr (by decide) (by rfl) (pa_cons (pv 0) (pa_cons (pv 2) pa_nil)))))))
      (pss_one (ps_ret (pv 0))))), ?_⟩
    obtain ⟨vs, hS, hD⟩ := eds_seq ha
    have hvl : vs.length = es.length := by rw [hD.length, List.length_map]
    refine ⟨_, rfl, by show 2 ≤ sizeLine; decide, fun p0 hp => ?_⟩
    have s1 : Same H (upd H p0 (.tup [.ty "list", .ty "tuple"])) := same_new hp
    obtain ⟨ty, hty, hk⟩ := sq_isi (hS.mono s1)
    refine ⟨_, p0, _, ty, _, true, rfl, upd_same, .cons (.ty _) (.cons (.ty _) .nil), hty, hk, true, rfl, iteF ?_⟩
    have hS1 := hS.mono s1
    have hD1 := hD.mono s1
    generalize (upd H p0 (.tup [.ty "list", .ty "tuple"])) = H1 at *
    have step : ∀ (i : Nat) (x : V) (σ : L2.St) (H' : Hp), i < vs.length → ((∃ z, σ = [some (tx (goAll l (es.take i))), some (V.ref a), z]) ∧ Same H1 H') → vs[i]? = some x → ∀ (N : L2.St → Hp → Prop) (B : L2.St → Hp → Prop),
        (∀ σ2 H2, ((∃ z, σ2 = [some (tx (goAll l (es.take (i + 1)))), some (V.ref a), z]) ∧ Same H1 H2) → N σ2 H2) →
        tSeq (tIfS (tOr (tNot (tB (tCall (sp_is_edit K) [] C8.E0 (tCons (tVar 2) tNil)))) (tNot (tB (tCall (sp_can_be_done K) [] C8.E0 (tCons (tVar 0) (tCons (tVar 2) tNil)))))) (tRet (tC V.non)) tNext)
          (tAsg (tCall (sp_done K) [] C8.E0 (tCons (tVar 0) (tCons (tVar 2) tNil))) (gName 0)) { nx := N, rt := Q, ct := N, bk := B } (σ.set 2 (some x)) H' := by
      rintro i x σ H' hi ⟨⟨z, rfl⟩, s'⟩ hx N B hN
      obtain ⟨d, hd, hx2⟩ := hD1.at hx
      rw [List.getElem?_map] at hd
      obtain ⟨e, he, rfl⟩ := Option.map_eq_some_iff.mp hd
      obtain ⟨b, rfl, hb⟩ := ed_at hx2
      obtain ⟨ho, hce⟩ := canAll_at es hc he
      have hlen := goAll_len (es.take i) l
      have hil : i < es.length := by omega
      rw [List.length_take] at hlen
      refine ⟨_, rfl, b, e, rfl, sqt_mono s' hb, ho, fun H2 s2 => ⟨true, rfl, iteF ⟨_, rfl, _, rfl, _, b, e, rfl, sqt_mono (s'.trans s2) hb, by omega, hce, fun H3 s3 => ⟨true, rfl, iteF ?_⟩⟩⟩⟩
      refine ⟨_, rfl, _, rfl, _, b, e, rfl, sqt_mono ((s'.trans s2).trans s3) hb, by omega, hce, fun H4 s4 => hN _ _ ⟨⟨some (.ref b), ?_⟩, ((s'.trans s2).trans s3).trans s4⟩⟩
      rw [goAll_next es l he]
      rfl
    have fin : ∀ (σ : L2.St) (H' : Hp), ((∃ z, σ = [some (tx (goAll l (es.take vs.length))), some (V.ref a), z]) ∧ Same H1 H') → tRet (tVar 0) { nx := fun x H' => Q V.non H', rt := Q } σ H' := by
      rintro σ H' ⟨⟨z, rfl⟩, s'⟩
      rw [hvl, List.take_length]
      exact ⟨_, rfl, q H' (s1.trans s')⟩
    rcases hS1 with h | h
    · refine .inl ⟨_, rfl, a, rfl, ⟨_, h⟩, for_it (w_list (xs := vs)) (fun i σ H' => (∃ z, σ = [some (tx (goAll l (es.take i))), some (V.ref a), z]) ∧ Same H1 H') ⟨⟨_, rfl⟩, Same.refl _⟩ (fun i σ H' _ p => sql_mono p.2 h) ?_ fin⟩
      rintro i x σ H' _ hi p ⟨rfl, hx⟩
      exact step i x σ _ hi p hx _ _ fun σ2 H2 p2 => p2
    · refine .inr ⟨_, rfl, a, rfl, ⟨_, h⟩, for_it (w_tup (xs := vs)) (fun i σ H' => (∃ z, σ = [some (tx (goAll l (es.take i))), some (V.ref a), z]) ∧ Same H1 H') ⟨⟨_, rfl⟩, Same.refl _⟩ (fun i σ H' _ p => sqt_mono p.2 h) ?_ fin⟩
      rintro i x σ H' _ hi p ⟨rfl, hx⟩
      exact step i x σ _ hi p hx _ _ fun σ2 H2 p2 => p2
def sp_fits (K : PySem.W.Frag) : Sp := fun vs H Q _ => ∃ l a es, vs = [tx l, .ref a] ∧ (Dp K H (.ref a) (.list (es.map edD)) ∨ Dp K H (.ref a) (.tuple (es.map edD))) ∧ es.length ≤ 12 ∧ l.length + es.length < 200000 ∧ CanAll l es ∧ RetF (.bl true) H Q
abbrev N_fits : List Str := ["text", "edits"]
abbrev sco_fits : Scope := defScope s_fits
theorem sc_fits : FnScope N_fits ["text", "edits"] sco_fits := ⟨rfl, rfl, rfl, by decide +kernel, rfl, by decide +kernel, by decide +kernel⟩
theorem ok_fits (T : Tx K mg) : C8.Cal P w K mg base 5 "fits" (sp_fits K) [] := by
  have c_behind : C8.Cal P w K mg base 4 "behind" (sp_behind K) [] := ok_behind T
  refine mkCal T.d_fits T.m_fits (fun fd F => ⟨[], .nil, F.bindsN fun _ _ _ _ _ _ us hl => match us, hl with | [_, _], _ => rfl⟩) sc_fits (fun vs H Q E h => ?_) (fun cdv A outer s H vs Q E hr h => ?_)
  · obtain ⟨l, a, e, rfl, _⟩ := h; rfl
  · obtain ⟨l, a, es, rfl, ha, h12, hl, hc, q⟩ := h
    refine ⟨_, (pss_one (ps_ret (pe_and (pe_callB call_isiT (by rfl) T.f_isinstance bb_isinstance (pa_cons (pv 1) (pa_cons (pe_tup (pa_cons (pe_bltn (by rfl) T.f_list bb_list (rt "list")) (pa_cons (pe_bltn (by rfl) T.f_tuple bb_tuple (rt "tuple")) pa_nil))) pa_nil))) (pe_and (pe_cmpR op_le (pe_callB (call_len_seqK (K := K) rfl) (by rfl) T.f_len bb_len (pa_cons (pv 1) pa_nil)) (C8.pe_gc (by rfl) T.g_MOST_EDITS_edits) (nomark _)) (pe_one (pe_cmpR op_notN (C8.pe_c c_behind hr (by decide) (by rfl) (pa_cons (pv 0) (pa_cons (pv 1) pa_nil))) pe_non (nomark _))))))), ?_⟩
    obtain ⟨vs, hS, hD⟩ := eds_seq ha
    have hvl : vs.length = es.length := by rw [hD.length, List.length_map]
    refine ⟨_, rfl, by show 2 ≤ sizeLine; decide, fun p0 hp => ?_⟩
    have s1 : Same H (upd H p0 (.tup [.ty "list", .ty "tuple"])) := same_new hp
    obtain ⟨ty, hty, hk⟩ := sq_isi (hS.mono s1)
    refine ⟨_, p0, _, ty, _, true, rfl, upd_same, .cons (.ty _) (.cons (.ty _) .nil), hty, hk, true, rfl, iteT ?_⟩
    refine ⟨_, rfl, a, vs, rfl, hS.mono s1, _, _, rfl, rfl, true, congrArg V.bl (decide_eq_true (by omega)), iteT ?_⟩
    refine ⟨_, rfl, _, rfl, l, a, es, rfl, ha.imp (fun h => h.mono s1) (fun h => h.mono s1), hl, hc, fun H2 s2 => ?_⟩
    exact ⟨rfl, q H2 (s1.trans s2)⟩
def sp_need_edits (K : PySem.W.Frag) : Sp := fun vs H Q _ => ∃ l a es, vs = [tx l, .ref a] ∧ (Dp K H (.ref a) (.list (es.map edD)) ∨ Dp K H (.ref a) (.tuple (es.map edD))) ∧ es.length ≤ 12 ∧ l.length + es.length < 200000 ∧ isT l ∧ CanAll l es ∧ RetF .non H Q
abbrev N_need_edits : List Str := ["text", "edits"]
abbrev sco_need_edits : Scope := defScope s_need_edits
theorem sc_need_edits : FnScope N_need_edits ["text", "edits"] sco_need_edits := ⟨rfl, rfl, rfl, by decide +kernel, rfl, by decide +kernel, by decide +kernel⟩
theorem ok_need_edits (T : Tx K mg) : C8.Cal P w K mg base 6 "need_edits" (sp_need_edits K) [] := by
  have c_need_text : C8.Cal P w K mg base 2 "need_text" sp_need_text [.str "text"] := ok_need_text T
  have c_fits : C8.Cal P w K mg base 5 "fits" (sp_fits K) [] := ok_fits T
  refine mkCal T.d_need_edits T.m_need_edits (fun fd F => ⟨[], .nil, F.bindsN fun _ _ _ _ _ _ us hl => match us, hl with | [_, _], _ => rfl⟩) sc_need_edits (fun vs H Q E h => ?_) (fun cdv A outer s H vs Q E hr h => ?_)
  · obtain ⟨l, a, e, rfl, _⟩ := h; rfl
  · obtain ⟨l, a, es, rfl, ha, h12, hl, ht, hc, q⟩ := h
    refine ⟨_, (pss_cons (ps_expr (C8.pe_c c_need_text hr (by decide) (by rfl) (pa_cons (pv 0) pa_nil)))
      (pss_one (ps_if (pt_not (pt_val (C8.pe_c c_fits hr (by decide) (by rfl) (pa_cons (pv 0) (pa_cons (pv 1) pa_nil))))) (pss_one ps_never) pss_nil))), ?_⟩
    exact ⟨_, rfl, l, _, rfl, by omega, ht, fun H1 s1 => ⟨_, rfl, _, rfl, l, a, es, rfl, ha.imp (fun h => h.mono s1) (fun h => h.mono s1), h12, hl, hc, fun H2 s2 => ⟨true, rfl, iteF (q H2 (s1.trans s2))⟩⟩⟩
def sp_damaged (K : PySem.W.Frag) : Sp := fun vs H Q _ => ∃ l a es, vs = [tx l, .ref a] ∧ (Dp K H (.ref a) (.list (es.map edD)) ∨ Dp K H (.ref a) (.tuple (es.map edD))) ∧ es.length ≤ 12 ∧ l.length + es.length < 200000 ∧ isT l ∧ CanAll l es ∧ RetF (tx (goAll l es)) H Q
abbrev N_damaged : List Str := ["text", "edits"]
abbrev sco_damaged : Scope := defScope s_damaged
theorem sc_damaged : FnScope N_damaged ["text", "edits"] sco_damaged := ⟨rfl, rfl, rfl, by decide +kernel, rfl, by decide +kernel, by decide +kernel⟩
theorem ok_damaged (T : Tx K mg) : C8.Cal P w K mg base 7 "damaged" (sp_damaged K) [] := by
  have c_need_edits : C8.Cal P w K mg base 6 "need_edits" (sp_need_edits K) [] := ok_need_edits T
  have c_behind : C8.Cal P w K mg base 4 "behind" (sp_behind K) [] := ok_behind T
  refine mkCal T.d_damaged T.m_damaged (fun fd F => ⟨[], .nil, F.bindsN fun _ _ _ _ _ _ us hl => match us, hl with | [_, _], _ => rfl⟩) sc_damaged (fun vs H Q E h => ?_) (fun cdv A outer s H vs Q E hr h => ?_)
  · obtain ⟨l, a, e, rfl, _⟩ := h; rfl
  · obtain ⟨l, a, es, rfl, ha, h12, hl, ht, hc, q⟩ := h
    refine ⟨_, (pss_cons (ps_expr (C8.pe_c c_need_edits hr (by decide) (by rfl) (pa_cons (pv 0) (pa_cons (pv 1) pa_nil))))
      (pss_one (ps_ret (C8.pe_c c_behind hr (by decide) (by rfl) (pa_cons (pv 0) (pa_cons (pv 1) pa_nil)))))), ?_⟩
    exact ⟨_, rfl, _, rfl, l, a, es, rfl, ha, h12, hl, ht, hc, fun H1 s1 => ⟨_, rfl, _, rfl, l, a, es, rfl, ha.imp (fun h => h.mono s1) (fun h => h.mono s1), hl, hc, fun H2 s2 => q H2 (s1.trans s2)⟩⟩
end
end K57
set_option Elab.async false
set_option linter.all false
set_option maxRecDepth 100000
set_option maxHeartbeats 4000000
namespace K57
open PySem PySem.Spec PyProof.Rows L2
theorem shaped_ints : ∀ ns : List Int, SeqAt.shaped (.list (ns.map PyData.int)) = true := by
  exact PySem.W.ke_shaped_ints
theorem cut_ints (cs : List Int) (lo hi : Option Int) : ∃ ds : List Int, cutV (cs.map V.int) lo hi = ds.map V.int ∧ ds.length ≤ cs.length := by
  unfold cutV
  rw [← List.map_drop, ← List.map_take]
  exact ⟨_, rfl, Nat.le_trans (List.length_take_le' ..) (by rw [List.length_drop]; omega)⟩
section
variable {P : Program} {w : World} {K : PySem.W.Frag} {mg : Str → Option Value} {base : Heap}
def sp__law_press (K : PySem.W.Frag) : Sp := fun vs H Q _ => ∃ (s : Addr) (cs : List Int), vs = [.ref s] ∧ SqL K H s (cs.map V.int) ∧ cs.length ≤ 100 ∧ ∀ p c H2, Same H H2 → H p = none → Press H2 p c 1000000 → Q (.ref p) H2
abbrev N__law_press : List Str := ["_law_script", "_law_cell"]
abbrev sco__law_press : Scope := defScope s__law_press
theorem sc__law_press : FnScope N__law_press ["_law_script"] sco__law_press := ⟨rfl, rfl, rfl, by decide +kernel, rfl, by decide +kernel, by decide +kernel⟩
theorem ok__law_press (T : Tx K mg) : C8.Cal P w K mg base 1 "_law_press" (sp__law_press K) [] := by
  refine mkCal T.d__law_press T.m__law_press (fun fd F => ⟨[], .nil, F.bindsN fun _ _ _ _ _ _ us hl => match us, hl with | [_], _ => rfl⟩) sc__law_press (fun vs H Q E h => ?_) (fun cdv A outer s H vs Q E hr h => ?_)
  · obtain ⟨s, cs, rfl, _⟩ := h; rfl
  · obtain ⟨s, cs, rfl, hS, hl, q⟩ := h
    refine ⟨_, (pss_one (ps_ret (pe_lst (pa_cons (pe_lc (own := [("_law_cell", 1)]) rfl sc__law_press.nd (pi_listK (K := K) rfl (pe_slice (sl_listK (K := K) rfl) (pv 0) po_none (po_some pe_int))) (blkOk_by (own := [("_law_cell", 1)]) (N := N__law_press) (sc := sco__law_press) (by decide +kernel)) (fun _ _ _ _ _ => (pg_name (i := 1) sc__law_press.nd rfl (Or.inl rfl))) (fun _ _ _ _ _ => pts_nil) (fun _ _ _ _ _ => (pe_callTy call_int1 (by rfl) T.f_int bb_int (pa_cons (pv 1) pa_nil)))) (pa_cons pe_int (pa_cons pe_int pa_nil)))))), ?_⟩
    refine ⟨_, rfl, _, rfl, s, _, rfl, hS, fun p0 hp0 => ?_⟩
    obtain ⟨ds, e1, e2⟩ := cut_ints cs none (some 60)
    rw [e1]
    have s1 : Same H (upd H p0 (.lst (ds.map V.int))) := same_new hp0
    refine ⟨p0, rfl, ⟨_, .inl (.inl upd_same)⟩, fun D hD => ?_⟩
    refine lc_flat hD (w_list (xs := ds.map V.int)) (fun _ => true) (fun i => .int (ds.getD i 0)) ?_ ?_ ?_ ?_ ?_ ?_
    · rw [List.length_map]; omega
    · exact fun H' s' => .inl (.inl (s' p0 _ upd_same))
    · exact fun x => rfl
    · exact fun i x H' _ _ _ Qt qt => yes_ok qt
    · intro i x H' hi _ s' hx Qe qe
      obtain ⟨z, hz, rfl⟩ := at_int hx
      have q2 := qe H' (Same.refl _)
      rw [show ds.getD i 0 = z by rw [List.getD_eq_getElem?_getD, hz] <;> rfl] at q2
      exact ⟨_, rfl, .inl ⟨z, rfl, q2⟩⟩
    · intro H2 s2 hy
      rw [given_all, List.length_map, map_getD 0 V.int ds] at hy
      refine ⟨by show 3 ≤ sizeLine; decide, fun p hp => ?_⟩
      have hDp : D ≠ p := fun e => by rw [← e, hy] at hp; cases hp
      have s3 := (s1.trans s2).trans (same_new (o := .lst [.ref D, .int 0, .int 0]) hp)
      exact q p D _ s3 ((s1.trans s2).free hp) ⟨0, 0, ds, hDp, upd_same, (by rw [upd_ne hDp]; exact hy), by decide, by decide, by omega⟩
def sp__law_turn (K : PySem.W.Frag) : Sp := fun vs H Q _ => ∃ p c b, ∃ m : Nat, vs = [.ref p, .int (m : Int)] ∧ 0 < m ∧ m < 1000000 ∧ Press H p c (b + 1) ∧ ∀ k : Nat, k < m → ∀ H2, SB p H H2 → Press H2 p c b → Q (.int (k : Int)) H2
abbrev N__law_turn : List Str := ["_law_press_here", "_law_many", "_law_rest", "_law_at", "_law_cell", "_law_mixed"]
abbrev sco__law_turn : Scope := defScope s__law_turn
theorem sc__law_turn : FnScope N__law_turn ["_law_press_here", "_law_many"] sco__law_turn := ⟨rfl, rfl, rfl, by decide +kernel, rfl, by decide +kernel, by decide +kernel⟩
theorem ok__law_turn (T : Tx K mg) : C8.Cal P w K mg base 1 "_law_turn" (sp__law_turn K) [] := by
  refine mkCal T.d__law_turn T.m__law_turn (fun fd F => ⟨[], .nil, F.bindsN fun _ _ _ _ _ _ us hl => match us, hl with | [_, _], _ => rfl⟩) sc__law_turn (fun vs H Q E h => ?_) (fun cdv A outer s H vs Q E hr h => ?_)
  · obtain ⟨p, c, b, m, rfl, _⟩ := h; rfl
  · obtain ⟨p, c, b, m, rfl, m0, m1, hp, q⟩ := h
    refine ⟨_, (pss_cons (ps_if (pt_cmpR op_gt (pe_ix (ix_listK (K := K) rfl) (pv 0) pe_int (fun _ _ => rfl)) pe_int (nomark _)) (pss_cons (ps_set (i := 2) sc__law_turn.nd rfl (Or.inl rfl) (pe_callTy call_int1 (by rfl) T.f_int bb_int (pa_cons (pe_ix (ix_listK (K := K) rfl) (pv 0) pe_int (fun _ _ => rfl)) pa_nil)))
      (pss_cons (ps_asg (pe_op op_fdiv (pv 2) (pv 1)) (pg_sub (pv 0) pe_int set_list))
      (pss_one (ps_ret (pe_op op_mod (pe_callTy call_int1 (by rfl) T.f_int bb_int (pa_cons (pv 2) pa_nil)) (pv 1)))))) pss_nil)
      (pss_cons (ps_set (i := 3) sc__law_turn.nd rfl (Or.inl rfl) (pe_ix (ix_listK (K := K) rfl) (pv 0) pe_int (fun _ _ => rfl)))
      (pss_cons (ps_asg (pe_op op_add (pv 3) pe_int) (pg_sub (pv 0) pe_int set_list))
      (pss_cons (ps_set (i := 4) sc__law_turn.nd rfl (Or.inl rfl) (pe_op op_add (pe_op op_mul pe_int (pv 3)) pe_int))
      (C8.pss_cut (ps_if (pt_cmpR (op_neDK (K := K) rfl hr.units) (pe_ix (ix_listK (K := K) rfl) (pv 0) pe_int (fun _ _ => rfl)) (pe_lst pa_nil) (nomark _)) (pss_one (ps_set (i := 4) sc__law_turn.nd rfl (Or.inl rfl) (pe_ix (ix_listK (K := K) rfl) (pe_ix (ix_listK (K := K) rfl) (pv 0) pe_int (fun _ _ => rfl)) (pe_op op_mod (pe_callTy call_int1 (by rfl) T.f_int bb_int (pa_cons (pv 3) pa_nil)) (pe_callB (call_len_seqK (K := K) rfl) (by rfl) T.f_len bb_len (pa_cons (pe_ix (ix_listK (K := K) rfl) (pv 0) pe_int (fun _ _ => rfl)) pa_nil))) (fun _ _ => rfl)))) pss_nil)
      (C8.pss_cut (ps_if (PW.pt (pw_and (pt_cmpR op_lt (pv 3) (pe_callB (call_len_seqK (K := K) rfl) (by rfl) T.f_len bb_len (pa_cons (pe_ix (ix_listK (K := K) rfl) (pv 0) pe_int (fun _ _ => rfl)) pa_nil)) (nomark _)) (pw_and1 (pt_cmpR op_ge (pe_callB call_abs (by rfl) T.f_abs bb_abs (pa_cons (pv 4) pa_nil)) (pe_op op_pow pe_int pe_int) (nomark _))))) (pss_cons (ps_set (i := 2) sc__law_turn.nd rfl (Or.inl rfl) (pe_op op_add (pe_op op_mul pe_int (pe_op op_sub (pe_callB call_abs (by rfl) T.f_abs bb_abs (pa_cons (pv 4) pa_nil)) (pe_op op_pow pe_int pe_int))) (pe_callTy call_int1 (by rfl) T.f_int bb_int (pa_cons (pe_cmpR op_lt (pv 4) pe_int (nomark _)) pa_nil))))
      (pss_cons (ps_asg (pe_op op_fdiv (pe_callTy call_int1 (by rfl) T.f_int bb_int (pa_cons (pv 2) pa_nil)) (pv 1)) (pg_sub (pv 0) pe_int set_list))
      (pss_one (ps_ret (pe_op op_mod (pe_callTy call_int1 (by rfl) T.f_int bb_int (pa_cons (pv 2) pa_nil)) (pv 1)))))) pss_nil)
      (pss_cons (ps_set (i := 5) sc__law_turn.nd rfl (Or.inl rfl) (pe_op op_mod (pe_callTy call_int1 (by rfl) T.f_int bb_int (pa_cons (pe_op op_pow (pe_op op_add (pe_op op_add (pe_op op_mod (pe_callTy call_int1 (by rfl) T.f_int bb_int (pa_cons (pv 4) pa_nil)) pe_int) (pe_op op_mul pe_int (pv 3))) pe_int) pe_int) pa_nil)) pe_int))
      (pss_cons (ps_set (i := 5) sc__law_turn.nd rfl (Or.inl rfl) (pe_op op_mod (pe_callTy call_int1 (by rfl) T.f_int bb_int (pa_cons (pe_op op_pow (pe_op op_add (pe_op op_add (pe_op op_mul (pv 5) (pe_op op_add (pe_op op_mul pe_int (pv 3)) pe_int)) (pe_op op_mul (pe_op op_mul pe_int (pv 3)) (pv 3))) pe_int) pe_int) pa_nil)) pe_int))
      (pss_one (ps_ret (pe_op op_mod (pe_callTy call_int1 (by rfl) T.f_int bb_int (pa_cons (pe_op op_fdiv (pv 5) pe_int) pa_nil)) (pv 1)))))))))))), ?_⟩
    obtain ⟨n, r, cs, hcp, h1, h2, hn0, hnb, hcl⟩ := hp
    have hL : SqL K H p [.ref c, .int n, .int r] := .inl (.inl h1)
    have mpos : (0 : Int) < (m : Int) := by omega
    have cdv : ∀ i : Int, CDiv i (m : Int) := fun i => ⟨mpos, by omega⟩
    have fin : ∀ (i : Int) (H2 : Hp), SB p H H2 → Press H2 p c b → Q (.int (i % (m : Int))) H2 := fun i H2 s hp => by
      have e1 := Int.emod_nonneg i (Int.ne_of_gt mpos)
      have e2 := Int.emod_lt_of_pos i mpos
      have e3 : i % (m : Int) = ((i % (m : Int)).toNat : Int) := by omega
      rw [e3]
      exact q _ (by omega) H2 s hp
    refine ⟨_, rfl, p, _, (2 : Int), _, rfl, rfl, hL, rfl, _, _, rfl, rfl, decide (0 < r), rfl, ?_⟩
    by_cases hr0 : 0 < r
    · rw [decide_eq_true hr0]
      refine iteT ⟨_, rfl, p, _, (2 : Int), _, rfl, rfl, hL, rfl, .inl ⟨r, rfl, ?_⟩⟩
      refine ⟨_, rfl, _, rfl, _, _, rfl, rfl, cdv r, _, rfl, p, _, (2 : Int), 2, rfl, rfl, h1, rfl, ?_⟩
      exact ⟨_, rfl, .inl ⟨r, rfl, _, rfl, _, _, rfl, rfl, mpos, fin r _ (SB.upd p H _) ⟨n, r / m, cs, hcp, upd_same, (by rw [upd_ne hcp]; exact h2), hn0, by omega, hcl⟩⟩⟩
    · rw [decide_eq_false hr0]
      refine iteF ⟨_, rfl, p, _, (1 : Int), _, rfl, rfl, hL, rfl, ?_⟩
      refine ⟨_, rfl, _, _, rfl, rfl, _, rfl, p, _, (1 : Int), 1, rfl, rfl, h1, rfl, ?_⟩
      have s1 : SB p H (upd H p (.lst [.ref c, .int (n + 1), .int r])) := SB.upd p H _
      have h1' : (upd H p (.lst [.ref c, .int (n + 1), .int r])) p = some (.lst [.ref c, .int (n + 1), .int r]) := upd_same
      have h2' : (upd H p (.lst [.ref c, .int (n + 1), .int r])) c = some (.lst (cs.map V.int)) := by rw [upd_ne hcp]; exact h2
      refine ⟨_, rfl, _, _, rfl, rfl, .inl ⟨by omega, by omega⟩, _, _, rfl, rfl, ?_⟩
      refine ⟨fun σ H2 => (∃ z : Int, σ = [some (.ref p), some (.int (m : Int)), none, some (.int n), some (.int z), none]) ∧ Same (upd H p (.lst [.ref c, .int (n + 1), .int r])) H2, ?_, ?_⟩
      · have hL1 : SqL K (upd H p (.lst [.ref c, .int (n + 1), .int r])) p [.ref c, .int (n + 1), .int r] := .inl (.inl h1')
        refine ⟨_, rfl, p, _, (0 : Int), _, rfl, rfl, hL1, rfl, by show 0 ≤ sizeLine; decide, fun e he => ?_⟩
        have s2 : Same (upd H p (.lst [.ref c, .int (n + 1), .int r])) (upd (upd H p (.lst [.ref c, .int (n + 1), .int r])) e (.lst [])) := same_new he
        have hL2 : SqL K (upd (upd H p (.lst [.ref c, .int (n + 1), .int r])) e (.lst [])) p [.ref c, .int (n + 1), .int r] := sql_mono s2 hL1
        have hC2 : SqL K (upd (upd H p (.lst [.ref c, .int (n + 1), .int r])) e (.lst [])) c (cs.map V.int) := .inl (.inl (s2 c _ h2'))
        cases cs with
        | nil => exact ⟨.list [], .list [], .lst hC2 .nil, .lst (.inl (.inl upd_same)) .nil, rfl, rfl, false, rfl, iteF ⟨⟨_, rfl⟩, s2⟩⟩
        | cons z0 zs =>
          refine ⟨.list ((z0 :: zs).map PyData.int), .list [], .lst hC2 (dpAll_ints _), .lst (.inl (.inl upd_same)) .nil, shaped_ints _, rfl, true, rfl, iteT ?_⟩
          have hpos : (0 : Int) < (((z0 :: zs).map V.int).length : Int) := by rw [List.length_map]; simp only [List.length_cons]; omega
          have e1 := Int.emod_nonneg n (Int.ne_of_gt hpos)
          have e2 := Int.emod_lt_of_pos n hpos
          have e3 : n % (((z0 :: zs).map V.int).length : Int) = ((n % (((z0 :: zs).map V.int).length : Int)).toNat : Int) := by omega
          have e4 : (n % (((z0 :: zs).map V.int).length : Int)).toNat < (z0 :: zs).length := by rw [← List.length_map (f := V.int)]; omega
          refine ⟨_, rfl, p, _, (0 : Int), _, rfl, rfl, hL2, rfl, _, rfl, .inl ⟨n, rfl, _, rfl, p, _, (0 : Int), _, rfl, rfl, hL2, rfl, c, _, rfl, .inl hC2, _, _, rfl, rfl, hpos, c, _, _, .int ((z0 :: zs)[(n % (((z0 :: zs).map V.int).length : Int)).toNat]), rfl, rfl, hC2, ?_, ⟨⟨_, rfl⟩, s2⟩⟩⟩
          refine (congrArg (atI _) e3).trans (atI_nat ?_)
          rw [List.getElem?_map, List.getElem?_eq_getElem e4] <;> rfl
      · rintro _ H2 ⟨⟨z, rfl⟩, s2⟩
        have hp2 : H2 p = some (.lst [.ref c, .int (n + 1), .int r]) := s2 p _ h1'
        have hL2 : SqL K H2 p [.ref c, .int (n + 1), .int r] := .inl (.inl hp2)
        have hc2 : H2 c = some (.lst (cs.map V.int)) := s2 c _ h2'
        have sA : SB p H H2 := s1.trans s2.sb
        refine ⟨fun σ H3 => σ = [some (.ref p), some (.int (m : Int)), none, some (.int n), some (.int z), none] ∧ H3 = H2, ?_, ?_⟩
        · refine ⟨_, rfl, _, rfl, p, _, (0 : Int), _, rfl, rfl, hL2, rfl, c, _, rfl, .inl (.inl (.inl hc2)), _, _, rfl, rfl, decide (n < ((cs.map V.int).length : Int)), rfl, ?_⟩
          by_cases hlt : n < ((cs.map V.int).length : Int)
          · rw [decide_eq_true hlt]
            refine iteT ⟨_, rfl, z, rfl, _, _, rfl, rfl, ⟨by decide, by decide, by decide⟩, _, _, rfl, rfl, decide ((10 : Int) ^ (18 : Int).toNat ≤ if z < 0 then -z else z), rfl, ?_⟩
            by_cases hz : (10 : Int) ^ (18 : Int).toNat ≤ if z < 0 then -z else z
            · rw [decide_eq_true hz]
              refine iteT ⟨_, rfl, z, rfl, _, _, rfl, rfl, ⟨by decide, by decide, by decide⟩, _, _, rfl, rfl, _, _, rfl, rfl, .inl ⟨by decide, by decide⟩, _, rfl, _, _, rfl, rfl, .inr ⟨_, rfl, _, _, rfl, rfl, ?_⟩⟩
              refine ⟨_, rfl, .inl ⟨_, rfl, _, rfl, _, _, rfl, rfl, cdv _, _, rfl, p, _, (2 : Int), 2, rfl, rfl, hp2, rfl, ?_⟩⟩
              exact ⟨_, rfl, .inl ⟨_, rfl, _, rfl, _, _, rfl, rfl, mpos, fin _ _ (sA.trans (SB.upd p H2 _)) ⟨n + 1, _, cs, hcp, upd_same, (by rw [upd_ne hcp]; exact hc2), by omega, by omega, hcl⟩⟩⟩
            · rw [decide_eq_false hz]
              exact iteF ⟨rfl, rfl⟩
          · rw [decide_eq_false hlt]
            exact iteF ⟨rfl, rfl⟩
        · rintro σ3 H3 ⟨e31, e32⟩
          rw [e31, e32]
          have hP2 : Press H2 p c b := ⟨n + 1, r, cs, hcp, hp2, hc2, by omega, by omega, hcl⟩
          have b1 := Int.emod_nonneg z (show (2147483587 : Int) ≠ 0 by decide)
          have b2 := Int.emod_lt_of_pos z (show (0 : Int) < 2147483587 by decide)
          have cp1 : CPow (z % 2147483587 + 72091 * n + 7079) 5 := ⟨by decide, by decide, by omega⟩
          refine ⟨_, rfl, .inl ⟨z, rfl, _, _, rfl, rfl, (show (0 : Int) < 2147483587 by decide), _, rfl, _, _, rfl, rfl, .inl ⟨by decide, by decide⟩, _, _, rfl, rfl, _, _, rfl, rfl, _, _, rfl, rfl, cp1, .inl ⟨_, rfl, _, _, rfl, rfl, (show (0 : Int) < 2147483563 by decide), ?_⟩⟩⟩
          have b3 := Int.emod_nonneg ((z % 2147483587 + 72091 * n + 7079) ^ (5 : Int).toNat) (show (2147483563 : Int) ≠ 0 by decide)
          have b4 := Int.emod_lt_of_pos ((z % 2147483587 + 72091 * n + 7079) ^ (5 : Int).toNat) (show (0 : Int) < 2147483563 by decide)
          show tSeq _ _ _ [some (.ref p), some (.int (m : Int)), none, some (.int n), some (.int z), some (.int (((z % 2147483587 + 72091 * n + 7079) ^ (5 : Int).toNat) % 2147483563))] H2
          generalize ((z % 2147483587 + 72091 * n + 7079) ^ (5 : Int).toNat) % 2147483563 = M at *
          have c1 : 0 ≤ M * (2 * n + 4481) := Int.mul_nonneg b3 (by omega)
          have c2 : M * (2 * n + 4481) ≤ 2147483563 * 2004481 := Int.mul_le_mul (by omega) (by omega) (by omega) (by decide)
          have c3 : 0 ≤ 104109 * n * n := Int.mul_nonneg (by omega) (by omega)
          have c4 : 104109 * n * n ≤ 104109000000 * 1000000 := Int.mul_le_mul (by omega) (by omega) (by omega) (by decide)
          have cp2 : CPow (M * (2 * n + 4481) + 104109 * n * n + 72091) 3 := ⟨by decide, by decide, by omega⟩
          refine ⟨_, rfl, _, rfl, _, _, rfl, rfl, .inl ⟨by decide, by decide⟩, _, _, rfl, rfl, _, _, rfl, rfl, .inl ⟨by omega, by omega⟩, _, rfl, _, _, rfl, rfl, .inl ⟨by decide, by decide⟩, _, rfl, _, _, rfl, rfl, .inr ⟨by omega, by omega⟩, _, _, rfl, rfl, _, _, rfl, rfl, _, _, rfl, rfl, cp2, .inl ⟨_, rfl, _, _, rfl, rfl, (show (0 : Int) < 2147483549 by decide), ?_⟩⟩
          exact ⟨_, rfl, _, _, rfl, rfl, ⟨by decide, by decide⟩, .inl ⟨_, rfl, _, rfl, _, _, rfl, rfl, mpos, fin _ _ sA hP2⟩⟩
def sp__law_one_of (K : PySem.W.Frag) : Sp := fun vs H Q _ => ∃ p c b s xs, vs = [.ref p, .ref s] ∧ s ≠ p ∧ H s = some (.lst xs) ∧ xs ≠ [] ∧ xs.length < 1000000 ∧ Press H p c (b + 1) ∧ ∀ x, x ∈ xs → ∀ H2, SB p H H2 → Press H2 p c b → Q x H2
abbrev N__law_one_of : List Str := ["_law_press_here", "_law_some"]
abbrev sco__law_one_of : Scope := defScope s__law_one_of
theorem sc__law_one_of : FnScope N__law_one_of ["_law_press_here", "_law_some"] sco__law_one_of := ⟨rfl, rfl, rfl, by decide +kernel, rfl, by decide +kernel, by decide +kernel⟩
theorem ok__law_one_of (T : Tx K mg) : C8.Cal P w K mg base 2 "_law_one_of" (sp__law_one_of K) [] := by
  have c__law_turn : C8.Cal P w K mg base 1 "_law_turn" (sp__law_turn K) [] := ok__law_turn T
  refine mkCal T.d__law_one_of T.m__law_one_of (fun fd F => ⟨[], .nil, F.bindsN fun _ _ _ _ _ _ us hl => match us, hl with | [_, _], _ => rfl⟩) sc__law_one_of (fun vs H Q E h => ?_) (fun cdv A outer s H vs Q E hr h => ?_)
  · obtain ⟨p, c, b, s, xs, rfl, _⟩ := h; rfl
  · obtain ⟨p, c, b, s, xs, rfl, hsp, hs, hne, hl, hp, q⟩ := h
    refine ⟨_, (pss_one (ps_ret (pe_ix (ix_listK (K := K) rfl) (pv 1) (C8.pe_c c__law_turn hr (by decide) (by rfl) (pa_cons (pv 0) (pa_cons (pe_callB (call_len_seqK (K := K) rfl) (by rfl) T.f_len bb_len (pa_cons (pv 1) pa_nil)) pa_nil))) (fun _ _ => rfl)))), ?_⟩
    have hl0 : 0 < xs.length := List.length_pos_iff.mpr hne
    refine ⟨_, rfl, _, rfl, _, rfl, s, xs, rfl, .inl (.inl (.inl hs)), p, c, b, xs.length, rfl, hl0, hl, hp, fun k hk H2 s2 hp2 => ?_⟩
    exact ⟨s, xs, _, xs[k], rfl, rfl, .inl (.inl (s2 s _ hsp hs)), atI_nat (List.getElem?_eq_getElem hk), q _ (List.getElem_mem hk) H2 s2 hp2⟩
end
end K57
set_option Elab.async false
set_option linter.all false
set_option maxRecDepth 100000
set_option maxHeartbeats 4000000
namespace K57
open PySem PySem.Spec PyProof.Rows L2
theorem flat_rep {α : Type} (k : Nat) (a : α) : (List.replicate ((k : Nat) : Int).toNat [a]).flatten = List.replicate k a := by
  show (List.replicate k [a]).flatten = List.replicate k a
  simp
theorem wordsV_flat : wordsV.all flatV = true := by decide +kernel
theorem nV_flat (L : List Nat) : (nV L).all flatV = true := by
  rw [List.all_map]
  exact List.all_eq_true.mpr fun _ _ => rfl
theorem inV_nV (a : Nat) : ∀ L : List Nat, inV (.int (a : Int)) (nV L) = decide (a ∈ L)
  | [] => by simp [inV]
  | b :: r => by
    show (eqV (.int (b : Int)) (.int (a : Int)) || inV (.int (a : Int)) (nV r)) = _
    rw [inV_nV a r]
    show (((b : Int) == (a : Int)) || decide (a ∈ r)) = _
    by_cases h : a = b
    · subst h; simp
    · have h1 : ((b : Int) == (a : Int)) = false := beq_eq_false_iff_ne.mpr (by omega)
      rw [h1]
      simp [h]
theorem inV_words (z : T) : inV (tx z) wordsV = inBook z := by
  unfold inV wordsV inBook
  rw [List.any_map]
  induction book with
  | nil => rfl
  | cons a r ih =>
    rw [List.any_cons, ih, List.contains_cons]
    have : ((fun y => eqV y (tx z)) ∘ tx) a = (z == a) := by
      show (SX.S a == SX.S z) = (z == a)
      rw [SX.S_beq]
      exact Bool.beq_comm
    rw [this]
theorem nodup_len {N : Nat} : ∀ (L : List Nat), L.Nodup → (∀ x ∈ L, x < N) → L.length ≤ N := by
  induction N with
  | zero =>
    intro L _ h
    cases L with
    | nil => exact Nat.le_refl _
    | cons a r => exact absurd (h a List.mem_cons_self) (Nat.not_lt_zero _)
  | succ N ih =>
    intro L hn h
    by_cases hm : N ∈ L
    · have h1 := ih (L.erase N) (hn.erase N) fun x hx => by
        have h2 := (List.Nodup.mem_erase_iff hn).mp hx
        have := h x h2.2
        omega
      rw [List.length_erase_of_mem hm] at h1
      omega
    · have := ih L hn fun x hx => by
        have h2 := h x hx
        have : x ≠ N := fun e => hm (e ▸ hx)
        omega
      omega
def rCatS : R2 := fun x y H Q => ∃ i j, x = V.str i ∧ y = V.str j ∧ i.length + j.length ≤ sizeLine ∧ Q (V.str (i ++ j)) H
def rLenS : List V → Hp → VK → Prop := fun xs H Q => ∃ z, xs = [V.str z] ∧ z.length ≤ sizeLine ∧ Q (V.int z.length) H
def rIntC : List V → Hp → VK → Prop := fun xs H Q => (∃ i, xs = [V.int i] ∧ Q (V.int i) H) ∨ ∃ k, xs = [V.bl k] ∧ Q (V.int (if k = true then 1 else 0)) H
def hurtStep (K : PySem.W.Frag) : TS :=
      (tSeq (tAsg (tOp (rIxT K) (tVar 2) (tC (V.int 1))) (gName 3))
        (tSeq
          (tIfS
            (tOr
              (tNot
                (tTest
                  (tChain (rI0 fun i j => V.bl (decide (i ≤ j))) (rI0 fun i j => V.bl (decide (i < j))) (tC (V.int 0))
                    (tVar 3)
                    (tOp (rI0 fun i j => V.int (i + j))
                      (tCB rLenS (tCons (tVar 0) tNil))
                      (tCB rIntC
                        (tCons (tOp rEq (tOp (rIxT K) (tVar 2) (tC (V.int 0))) (tC (V.str (Str.ofString "put"))))
                          tNil))))))
              (tAnd (tTest (tOp rEq (tOp (rIxT K) (tVar 2) (tC (V.int 0))) (tC (V.str (Str.ofString "changed")))))
                (tTest (tOp rEq (tOp rIxS (tVar 0) (tVar 3)) (tOp (rIxT K) (tVar 2) (tC (V.int 2)))))))
            (tRet (tC V.non)) tNext)
          (tIfS (tTest (tOp rEq (tOp (rIxT K) (tVar 2) (tC (V.int 0))) (tC (V.str (Str.ofString "lost")))))
            (tAsg
              (tOp rCatS
                (tSl C8.rSlX (tVar 0) tNoPart (tPart (tVar 3)))
                (tSl C8.rSlX (tVar 0) (tPart (tOp (rI0 fun i j => V.int (i + j)) (tVar 3) (tC (V.int 1)))) tNoPart))
              (gName 0))
            (tAsg
              (tOp rCatS
                (tOp rCatS
                  (tSl C8.rSlX (tVar 0) tNoPart (tPart (tVar 3))) (tOp (rIxT K) (tVar 2) (tC (V.int 2))))
                (tSl C8.rSlX (tVar 0)
                  (tPart
                    (tOp (rI0 fun i j => V.int (i + j)) (tVar 3)
                      (tCB rIntC
                        (tCons (tOp rEq (tOp (rIxT K) (tVar 2) (tC (V.int 0))) (tC (V.str (Str.ofString "changed"))))
                          tNil))))
                  tNoPart))
              (gName 0)))))
theorem d_lc : decide (V.str "lost" = V.str "changed") = false := by decide +kernel
theorem d_pc : decide (V.str "put" = V.str "changed") = false := by decide +kernel
theorem d_cc : decide (V.str "changed" = V.str "changed") = true := by decide +kernel
section
variable {P : Program} {w : World} {K : PySem.W.Frag} {mg : Str → Option Value} {base : Heap}
def sp__law_spelled (K : PySem.W.Frag) : Sp := fun vs H Q _ => ∃ W r ns, ∃ k : Nat, vs = [.ref W, .ref r, .int k] ∧ SqL K H W wordsV ∧ SqL K H r (nV ns) ∧ (∀ n ∈ ns, n < 30) ∧ ns.length ≤ 20 ∧ k ≤ 12 ∧ RetF (tx (txt ns k)) H Q
abbrev N__law_spelled : List Str := ["_law_words", "_law_row", "_law_copies", "_law_items", "_law_number"]
abbrev sco__law_spelled : Scope := defScope s__law_spelled
theorem sc__law_spelled : FnScope N__law_spelled ["_law_words", "_law_row", "_law_copies"] sco__law_spelled := ⟨rfl, rfl, rfl, by decide +kernel, rfl, by decide +kernel, by decide +kernel⟩
theorem ok__law_spelled (T : Tx K mg) : C8.Cal P w K mg base 1 "_law_spelled" (sp__law_spelled K) [] := by
  refine mkCal T.d__law_spelled T.m__law_spelled (fun fd F => ⟨[], .nil, F.bindsN fun _ _ _ _ _ _ us hl => match us, hl with | [_, _, _], _ => rfl⟩) sc__law_spelled (fun vs H Q E h => ?_) (fun cdv A outer s H vs Q E hr h => ?_)
  · obtain ⟨W, r, ns, k, rfl, _⟩ := h; rfl
  · obtain ⟨W, r, ns, k, rfl, hW, hr', hn, hl, hk, q⟩ := h
    refine ⟨_, (pss_cons (ps_set (i := 3) sc__law_spelled.nd rfl (Or.inl rfl) (pe_lst pa_nil))
      (pss_cons (ps_for PassesOwn.never rfl (pi_seq (pv 1)) (pg_name (i := 4) sc__law_spelled.nd rfl (Or.inl rfl))
      (pss_one (ps_set (i := 3) sc__law_spelled.nd rfl (Or.inl rfl) (pe_op op_cat (pv 3) (pe_op op_rep (pe_lst (pa_cons (pe_ix (ix_listK (K := K) rfl) (pv 0) (pv 4) (fun _ _ => rfl)) pa_nil)) (pv 2))))))
      (pss_one (ps_ret (pe_join pe_str (pv 3)))))), ?_⟩
    refine ⟨by show 0 ≤ sizeLine; decide, fun p0 hp0 => ?_⟩
    have s0 : Same H (upd H p0 (.lst [])) := same_new hp0
    refine .inl ⟨_, rfl, r, rfl, ⟨_, sql_mono s0 hr'⟩, for_it (w_list (xs := nV ns)) (fun i σ H' => (∃ l z, σ = [some (V.ref W), some (V.ref r), some (V.int (k : Int)), some (V.ref l), z] ∧ H' l = some (.lst ((rowIts (ns.take i) k).map tx))) ∧ Same H H')
      ⟨⟨p0, _, rfl, upd_same⟩, s0⟩ (fun i σ H' _ q => sql_mono q.2 hr') ?_ ?_⟩
    · rintro i x σ _ H1 hi ⟨⟨l, z, rfl, hl1⟩, s1⟩ ⟨rfl, hx⟩
      obtain ⟨n, hni, rfl⟩ := nV_at hx
      have hn30 := hn n (List.mem_of_getElem? hni)
      have hil : i < ns.length := (List.getElem?_eq_some_iff.mp hni).1
      refine ⟨_, rfl, _, rfl, _, rfl, W, _, _, _, rfl, rfl, sql_mono s1 hW, atI_nat (words_at hn30), by show 1 ≤ sizeLine; decide, fun p hp => ⟨_, rfl, p, _, _, rfl, rfl, upd_same, by omega, by omega, ?_, fun p2 hp2 => ?_⟩⟩
      · show 1 * k ≤ sizeLine
        exact le_line (by omega)
      · have s2 := (same_new hp (o := .lst [tx (wd n)])).trans (same_new hp2 (o := .lst (List.replicate ((k : Nat) : Int).toNat [tx (wd n)]).flatten))
        refine ⟨l, p2, _, _, rfl, rfl, s2 l _ hl1, upd_same, ?_, fun p3 hp3 => ⟨⟨p3, _, rfl, ?_⟩, (s1.trans s2).trans (same_new hp3)⟩⟩
        · have h1 := rowIts_len (ns.take i) k
          have h2 : (ns.take i).length ≤ 20 := Nat.le_trans (List.length_take_le' ..) hl
          have h3 : (ns.take i).length * k ≤ 20 * 12 := Nat.mul_le_mul h2 hk
          rw [List.length_map, flat_rep, List.length_replicate]
          refine le_line ?_
          omega
        · rw [upd_same, flat_rep, take_next hil, rowIts_app, List.map_append]
          have e : ns[i] = n := by rw [List.getElem?_eq_getElem hil] at hni; exact Option.some.inj hni
          rw [e]
          simp [rowIts]
    · rintro σ H1 ⟨⟨l, z, rfl, hl1⟩, s1⟩
      have e1 : ns.take (nV ns).length = ns := by rw [List.length_map]; exact List.take_length
      rw [e1] at hl1
      refine ⟨⟨_, rfl⟩, _, rfl, _, l, (rowIts ns k).map SX.S, rfl, rfl, .inl (.inl (.inl ?_)), ?_, ?_⟩
      · rw [hl1, List.map_map] <;> rfl
      · rw [List.map_map, List.length_map]
        have h1 := rowIts_len ns k
        have h2 : ns.length * k ≤ 20 * 12 := Nat.mul_le_mul hl hk
        have h3 : ((rowIts ns k).map ((fun x : Str => x.length) ∘ SX.S)).sum ≤ (rowIts ns k).length * 12 := by
          refine sum_le_mul fun x hx => ?_
          obtain ⟨n, hn2, hx2⟩ := List.mem_flatMap.mp hx
          rw [List.eq_of_mem_replicate hx2]
          show (SX.S (wd n)).length ≤ 12
          rw [SX.S_len]
          exact (book_ok _ (wd_mem (hn n hn2))).2.1
        have h4 : (Str.ofString " ").length = 1 := rfl
        rw [h4]
        omega
      · have e : Txt.join (Str.ofString " ") ((rowIts ns k).map SX.S) = SX.S (txt ns k) := by
          rw [show Str.ofString " " = SX.S [32] from rfl, SX.join_S, joinL_eq] <;> rfl
        rw [e]
        exact q H1 s1
def sp__law_read (K : PySem.W.Frag) : Sp := fun vs H Q _ => ∃ W l, vs = [.ref W, tx l] ∧ SqL K H W wordsV ∧ l.length ≤ 200000 ∧ ∀ D H2, Same H H2 → H D = none → H2 D = some (.lst (nV (told l))) → Q (.ref D) H2
abbrev N__law_read : List Str := ["_law_words", "_law_text", "_law_item"]
abbrev sco__law_read : Scope := defScope s__law_read
theorem sc__law_read : FnScope N__law_read ["_law_words", "_law_text"] sco__law_read := ⟨rfl, rfl, rfl, by decide +kernel, rfl, by decide +kernel, by decide +kernel⟩
theorem ok__law_read (T : Tx K mg) : C8.Cal P w K mg base 1 "_law_read" (sp__law_read K) [] := by
  refine mkCal T.d__law_read T.m__law_read (fun fd F => ⟨[], .nil, F.bindsN fun _ _ _ _ _ _ us hl => match us, hl with | [_, _], _ => rfl⟩) sc__law_read (fun vs H Q E h => ?_) (fun cdv A outer s H vs Q E hr h => ?_)
  · obtain ⟨W, l, rfl, _⟩ := h; rfl
  · obtain ⟨W, l, rfl, hW, hl, q⟩ := h
    refine ⟨_, (pss_one (ps_ret (pe_lc (own := [("_law_item", 2)]) rfl sc__law_read.nd (pi_listK (K := K) rfl (pe_split (pv 1) pe_str)) (blkOk_by (own := [("_law_item", 2)]) (N := N__law_read) (sc := sco__law_read) (by decide +kernel)) (fun _ _ _ _ _ => (pg_name (i := 2) sc__law_read.nd rfl (Or.inl rfl))) (fun _ _ _ _ _ => (pts_one (pt_cmpR (op_in_seqK (K := K) rfl) (pv 2) (pv 0) rfl))) (fun _ _ _ _ _ => (pe_bmK (K := K) rfl PySem.F.plainAttrs_list PySem.F.slot_list_index PySem.F.type_list_index (mt_indexK (K := K) rfl) (pv 0) (pa_cons (pv 2) pa_nil)))))), ?_⟩
    refine ⟨_, rfl, ⟨_, rfl⟩, SX.S l, SX.S [32], rfl, rfl, rfl, ?_, fun p hp => ⟨p, rfl, ⟨_, .inl (.inl upd_same)⟩, fun D2 hD2 => ?_⟩⟩
    · rw [SX.S_len]
      exact le_line (by omega)
    have e1 : (Txt.split (SX.S l) (SX.S [32])).map V.str = (its l).map tx := by
      rw [SX.split_S (by simp) rfl, List.map_map, spl_eq] <;> rfl
    have e2 : ((its l).map tx).length = (its l).length := List.length_map ..
    have hI := its_len l
    have s1 : Same H (upd H p (.lst ((Txt.split (SX.S l) (SX.S [32])).map V.str))) := same_new hp
    refine lc_flat hD2 (w_list (xs := (its l).map tx)) (fun i => inBook ((its l).getD i [])) (fun i => .int (((book.idxOf ((its l).getD i [])) : Nat) : Int)) ?_ ?_ ?_ ?_ ?_ ?_
    · omega
    · exact fun H' s' => .inl (.inl (s' p _ (by rw [upd_same, e1])))
    · exact fun x => rfl
    · intro i x H' hi s' hx Qt qt
      obtain ⟨z, hz, rfl⟩ := at_tx hx
      refine ⟨_, rfl, _, rfl, W, wordsV, rfl, .inl (sql_mono s' (sql_mono s1 hW)), rfl, wordsV_flat, _, rfl, ?_⟩
      have := qt H' (Same.refl _)
      rw [getD_of hz] at this
      show Qt (inV (tx z) wordsV) H'
      rw [inV_words]
      exact this
    · intro i x H' hi hp' s' hx Qe qe
      obtain ⟨z, hz, rfl⟩ := at_tx hx
      rw [getD_of hz] at hp'
      have hm : z ∈ book := inBook_mem.mp hp'
      have hlt := List.idxOf_lt_length_of_mem hm
      have hW' := sql_mono s' (sql_mono s1 hW)
      have e3 : book[book.idxOf z]? = some z := by rw [List.getElem?_eq_getElem hlt, List.getElem_idxOf]
      refine ⟨_, rfl, .inl ⟨rfl, _, hW'⟩, _, rfl, W, wordsV, tx z, book.idxOf z, tx z, rfl, rfl, hW', rfl, wordsV_flat, by unfold wordsV; rw [List.getElem?_map, e3] <;> rfl, by show (SX.S z == SX.S z) = true; exact beq_self_eq_true _, fun j z' hj hz' => ?_, ?_⟩
      · obtain ⟨y, hy, rfl⟩ := at_word hz'
        show (SX.S y == SX.S z) = false
        refine beq_eq_false_iff_ne.mpr fun e => ?_
        have hjl : j < book.length := (List.getElem?_eq_some_iff.mp hy).1
        have e4 : book[j] = z := by
          rw [List.getElem?_eq_getElem hjl] at hy
          rw [Option.some.inj hy]
          exact SX.S_inj e
        have e5 : book[j] = book[book.idxOf z] := by rw [e4, List.getElem_idxOf]
        have := (List.getElem_inj book_nodup).mp e5
        omega
      · have := qe H' (Same.refl _)
        rw [getD_of hz] at this
        exact this
    · intro H2 s2 hy2
      rw [e2, given_list [] inBook (fun x => V.int ((book.idxOf x : Nat) : Int))] at hy2
      refine q D2 _ (s1.trans s2) (s1.free hD2) ?_
      rw [hy2]
      unfold told nV
      rw [List.map_map] <;> rfl
def sp__law_is_thick (K : PySem.W.Frag) : Sp := fun vs H Q _ => ∃ r o ns tl, vs = [.ref r, .ref o] ∧ SqL K H r (nV ns) ∧ SqL K H o (nV tl) ∧ Th ns tl ∧ ns.length < 1000 ∧ tl.length < 500000 ∧ RetF (.bl true) H Q
abbrev N__law_is_thick : List Str := ["_law_row", "_law_other", "_law_ends", "_law_number", "_law_later", "_law_end", "_law_at"]
abbrev sco__law_is_thick : Scope := defScope s__law_is_thick
theorem sc__law_is_thick : FnScope N__law_is_thick ["_law_row", "_law_other"] sco__law_is_thick := ⟨rfl, rfl, rfl, by decide +kernel, rfl, by decide +kernel, by decide +kernel⟩
theorem ok__law_is_thick (T : Tx K mg) : C8.Cal P w K mg base 1 "_law_is_thick" (sp__law_is_thick K) [] := by
  refine mkCal T.d__law_is_thick T.m__law_is_thick (fun fd F => ⟨[], .nil, F.bindsN fun _ _ _ _ _ _ us hl => match us, hl with | [_, _], _ => rfl⟩) sc__law_is_thick (fun vs H Q E h => ?_) (fun cdv A outer s H vs Q E hr h => ?_)
  · obtain ⟨r, o, ns, tl, rfl, _⟩ := h; rfl
  · obtain ⟨r, o, ns, tl, rfl, hr', ho, ht, hl, ht2, q⟩ := h
    refine ⟨_, (pss_cons (ps_set (i := 2) sc__law_is_thick.nd rfl (Or.inl rfl) (pe_lst (pa_cons pe_int pa_nil)))
      (pss_cons (ps_for PassesOwn.never rfl (pi_listK (K := K) rfl (pv 0)) (pg_name (i := 3) sc__law_is_thick.nd rfl (Or.inl rfl))
      (pss_cons (ps_set (i := 4) sc__law_is_thick.nd rfl (Or.inl rfl) (pe_lst pa_nil))
      (pss_cons (ps_for PassesOwn.never rfl (pi_listK (K := K) rfl (pv 2)) (pg_name (i := 5) sc__law_is_thick.nd rfl (Or.inl rfl))
      (pss_cons (ps_set (i := 6) sc__law_is_thick.nd rfl (Or.inl rfl) (pv 5))
      (pss_one (ps_while PassesOwn.never (PW.pt (pw_and (pt_cmpR op_lt (pv 6) (pe_callB (call_len_seqK (K := K) rfl) (by rfl) T.f_len bb_len (pa_cons (pv 1) pa_nil)) (nomark _)) (pw_and1 (pt_cmpR op_eq (pe_ix (ix_listK (K := K) rfl) (pv 1) (pv 6) (fun _ _ => rfl)) (pv 3) (nomark _))))) (pss_cons (ps_set (i := 6) sc__law_is_thick.nd rfl (Or.inl rfl) (pe_op op_add (pv 6) pe_int))
      (pss_one (ps_if (pt_cmpR (op_notIn_seqK (K := K) rfl) (pv 6) (pv 4) rfl) (pss_one (ps_expr (pe_bmK (K := K) rfl PySem.F.plainAttrs_list PySem.F.slot_list_append PySem.F.type_list_append mt_append (pv 4) (pa_cons (pv 6) pa_nil)))) pss_nil)))))))
      (pss_one (ps_set (i := 2) sc__law_is_thick.nd rfl (Or.inl rfl) (pv 4))))))
      (pss_one (ps_ret (pe_cmpR (op_in_seqK (K := K) rfl) (pe_callB (call_len_seqK (K := K) rfl) (by rfl) T.f_len bb_len (pa_cons (pv 1) pa_nil)) (pv 2) rfl))))), ?_⟩
    refine ⟨by show 1 ≤ sizeLine; decide, fun p0 hp0 => ?_⟩
    have s0 : Same H (upd H p0 (.lst [.int 0])) := same_new hp0
    refine ⟨_, rfl, r, rfl, ⟨_, sql_mono s0 hr'⟩, for_it (w_list (xs := nV ns)) (fun i σ H' => (∃ lE E z3 z4 z5 z6, σ = [some (V.ref r), some (V.ref o), some (V.ref lE), z3, z4, z5, z6] ∧ H' lE = some (.lst (nV E)) ∧ (∀ x ∈ E, x ≤ tl.length) ∧ ∃ e ∈ E, Th (ns.drop i) (tl.drop e)) ∧ Same H H')
      ⟨⟨p0, [0], _, _, _, _, rfl, upd_same, by simp, 0, by simp, by simpa using ht⟩, s0⟩ (fun i σ H' _ q => sql_mono q.2 hr') ?_ ?_⟩
    · rintro i x σ _ H1 hi ⟨⟨lE, E, z3, z4, z5, z6, rfl, hE, hEl, e, heE, hTh⟩, s1⟩ ⟨rfl, hx⟩
      obtain ⟨n, hni, rfl⟩ := nV_at hx
      have hil : i < ns.length := (List.getElem?_eq_some_iff.mp hni).1
      have en : ns[i] = n := by rw [List.getElem?_eq_getElem hil] at hni; exact Option.some.inj hni
      obtain ⟨m, l, hl1, hl2⟩ : ∃ m l, tl.drop e = rep (m + 1) n ++ l ∧ Th (ns.drop (i + 1)) l := by
        rw [List.drop_eq_getElem_cons hil, en] at hTh
        generalize tl.drop e = u at hTh ⊢
        cases hTh with
        | cons _ m hh => exact ⟨m, _, rfl, hh⟩
      have hle : l = tl.drop (e + (m + 1)) := by
        rw [← List.drop_drop, hl1, List.drop_left' (by simp)]
      have hat : ∀ k, k ≤ m → tl[e + k]? = some n := fun k hk => by
        rw [← List.getElem?_drop, hl1, List.getElem?_append_left (by simp; omega), List.getElem?_replicate, if_pos (by omega)]
      refine ⟨by show 0 ≤ sizeLine; decide, fun p hp => ?_⟩
      have s2 : Same H (upd H1 p (.lst [])) := s1.trans (same_new hp)
      have hpH : H p = none := s1.free hp
      have hpE : lE ≠ p := fun e => by rw [← e, hE] at hp; cases hp
      have hE2 : (upd H1 p (.lst [])) lE = some (.lst (nV E)) := by rw [upd_ne hpE]; exact hE
      refine ⟨_, rfl, lE, rfl, ⟨_, .inl (.inl hE2)⟩, for_it (w_list (xs := nV E)) (fun j σ H' => (∃ L z5 z6, σ = [some (V.ref r), some (V.ref o), some (V.ref lE), some (V.int (n : Int)), some (V.ref p), z5, z6] ∧ H' lE = some (.lst (nV E)) ∧ H' p = some (.lst (nV L)) ∧ L.Nodup ∧ (∀ x ∈ L, x ≤ tl.length) ∧ (e ∈ E.take j → e + (m + 1) ∈ L)) ∧ Same H H')
        ⟨⟨[], _, _, rfl, hE2, upd_same, by simp, by simp, by simp⟩, s2⟩ (fun j σ H' _ q => by obtain ⟨⟨L, _, _, _, h, _⟩, _⟩ := q; exact .inl (.inl h)) ?_ ?_⟩
      · rintro j x σ _ H2 hj ⟨⟨L, z5, z6, rfl, hE3, hL, hLn, hLl, hLe⟩, s3⟩ ⟨rfl, hx⟩
        obtain ⟨a, hja, rfl⟩ := nV_at hx
        have haE : a ∈ E := List.mem_of_getElem? hja
        have hjl : j < E.length := (List.getElem?_eq_some_iff.mp hja).1
        refine ⟨_, rfl, fun μ σ H' => (∃ L' k, σ = [some (V.ref r), some (V.ref o), some (V.ref lE), some (V.int (n : Int)), some (V.ref p), some (V.int (a : Int)), some (V.int ((a + k : Nat) : Int))] ∧ μ = tl.length - (a + k) ∧ a + k ≤ tl.length ∧ H' lE = some (.lst (nV E)) ∧ H' p = some (.lst (nV L')) ∧ L'.Nodup ∧ (∀ x ∈ L', x ≤ tl.length) ∧ (∀ x ∈ L, x ∈ L') ∧ (∀ k', k' < k → a + (k' + 1) ∈ L')) ∧ Same H H',
          ⟨_, ⟨L, 0, rfl, rfl, hEl a haE, hE3, hL, hLn, hLl, fun x h => h, by simp⟩, s3⟩, ?_⟩
        rintro μ σ H3 ⟨⟨L', k, rfl, rfl, hak, hE4, hL', hLn', hLl', hsub, hks⟩, s4⟩
        have ho3 := sql_mono s4 ho
        have exit : (tl[a + k]? ≠ some n) → (∃ L z5 z6, [some (V.ref r), some (V.ref o), some (V.ref lE), some (V.int (n : Int)), some (V.ref p), some (V.int (a : Int)), some (V.int ((a + k : Nat) : Int))] = [some (V.ref r), some (V.ref o), some (V.ref lE), some (V.int (n : Int)), some (V.ref p), z5, z6] ∧ H3 lE = some (.lst (nV E)) ∧ H3 p = some (.lst (nV L)) ∧ L.Nodup ∧ (∀ x ∈ L, x ≤ tl.length) ∧ (e ∈ E.take (j + 1) → e + (m + 1) ∈ L)) ∧ Same H H3 := fun hx => by
          refine ⟨⟨L', _, _, rfl, hE4, hL', hLn', hLl', fun hm => ?_⟩, s4⟩
          rw [take_next hjl] at hm
          rcases List.mem_append.mp hm with hm | hm
          · exact hsub _ (hLe hm)
          · have ea : e = a := by
              rw [List.mem_singleton.mp hm]
              rw [List.getElem?_eq_getElem hjl] at hja
              exact Option.some.inj hja
            subst ea
            have hkm : m < k := by
              rcases Nat.lt_or_ge m k with h | h
              · exact h
              · exact absurd (hat k h) hx
            exact hks m hkm
        refine ⟨_, rfl, _, rfl, o, _, rfl, .inl ho3, _, _, rfl, rfl, decide (((a + k : Nat) : Int) < ((nV tl).length : Int)), rfl, ?_⟩
        by_cases hlt : a + k < tl.length
        · rw [decide_eq_true (show ((a + k : Nat) : Int) < ((nV tl).length : Int) by rw [List.length_map]; omega)]
          obtain ⟨c, hc⟩ : ∃ c, tl[a + k]? = some c := ⟨tl[a + k], List.getElem?_eq_getElem hlt⟩
          refine iteT ⟨_, rfl, _, rfl, o, _, _, V.int (c : Int), rfl, rfl, ho3, atI_nat (by rw [List.getElem?_map, hc] <;> rfl), _, rfl, rfl, decide (V.int (c : Int) = V.int (n : Int)), rfl, ?_⟩
          by_cases hcn : c = n
          · subst hcn
            rw [decide_eq_true rfl]
            refine iteT ⟨fun σ' H' => ∃ L' , (σ' = [some (V.ref r), some (V.ref o), some (V.ref lE), some (V.int (c : Int)), some (V.ref p), some (V.int (a : Int)), some (V.int ((a + (k + 1) : Nat) : Int))] ∧ H' lE = some (.lst (nV E)) ∧ H' p = some (.lst (nV L')) ∧ L'.Nodup ∧ (∀ x ∈ L', x ≤ tl.length) ∧ (∀ x ∈ L, x ∈ L') ∧ (∀ k', k' < k + 1 → a + (k' + 1) ∈ L')) ∧ Same H H', ?_, ?_⟩
            · rintro σ' H' ⟨L2, ⟨rfl, g1, g2, g3, g4, g5, g6⟩, s5⟩
              exact ⟨tl.length - (a + (k + 1)), by omega, ⟨L2, k + 1, rfl, rfl, by omega, g1, g2, g3, g4, g5, g6⟩, s5⟩
            · refine ⟨_, rfl, _, _, rfl, rfl, _, rfl, _, rfl, p, _, rfl, .inl (.inl (.inl hL')), rfl, nV_flat L', !inV (.int (((a + k : Nat) : Int) + 1)) (nV L'), rfl, ?_⟩
              have ei : inV (.int (((a + k : Nat) : Int) + 1)) (nV L') = decide (a + (k + 1) ∈ L') := inV_nV (a + (k + 1)) L'
              rw [ei]
              by_cases hm : a + (k + 1) ∈ L'
              · rw [decide_eq_true hm]
                refine iteF ⟨L', ⟨rfl, hE4, hL', hLn', hLl', hsub, fun k' hk' => ?_⟩, s4⟩
                rcases Nat.lt_or_ge k' k with h | h
                · exact hks k' h
                · rw [show k' = k by omega]; exact hm
              · rw [decide_eq_false hm]
                have hpl : ∀ x ∈ L' ++ [a + (k + 1)], x ≤ tl.length := fun x hx => by
                  rcases List.mem_append.mp hx with h | h
                  · exact hLl' x h
                  · rw [List.mem_singleton.mp h]; omega
                refine iteT ⟨_, rfl, .inl ⟨rfl, _, .inl (.inl hL')⟩, _, rfl, p, _, _, rfl, rfl, hL', ?_, L' ++ [a + (k + 1)], ⟨rfl, ?_, ?_, ?_, hpl, fun x hx => List.mem_append_left _ (hsub x hx), fun k' hk' => ?_⟩, s4.mut hpH⟩
                · rw [List.length_map]
                  have := nodup_len (N := tl.length + 1) L' hLn' fun x hx => by have := hLl' x hx; omega
                  exact lt_line (by omega)
                · rw [upd_ne hpE]; exact hE4
                · rw [upd_same, show nV (L' ++ [a + (k + 1)]) = nV L' ++ nV [a + (k + 1)] from List.map_append ..] <;> rfl
                · refine List.nodup_append.mpr ⟨hLn', by simp, fun x hx y hy => ?_⟩
                  rw [List.mem_singleton.mp hy]
                  exact fun e => hm (e ▸ hx)
                · rcases Nat.lt_or_ge k' k with h | h
                  · exact List.mem_append_left _ (hks k' h)
                  · rw [show k' = k by omega]; exact List.mem_append_right _ (List.mem_singleton.mpr rfl)
          · rw [decide_eq_false (fun e => hcn (by have := V.int.inj e; omega))]
            exact iteF (exit (by rw [hc]; exact fun e => hcn (Option.some.inj e)))
        · rw [decide_eq_false (show ¬ ((a + k : Nat) : Int) < ((nV tl).length : Int) by rw [List.length_map]; omega)]
          exact iteF (exit (by rw [List.getElem?_eq_none (by omega)]; simp))
      · rintro σ H2 ⟨⟨L, z5, z6, rfl, hE3, hL, hLn, hLl, hLe⟩, s3⟩
        refine ⟨_, rfl, ⟨p, L, _, _, _, _, rfl, hL, hLl, e + (m + 1), hLe ?_, hle ▸ hl2⟩, s3⟩
        rw [List.length_map, List.take_length]
        exact heE
    · rintro σ H1 ⟨⟨lE, E, z3, z4, z5, z6, rfl, hE, hEl, e, heE, hTh⟩, s1⟩
      rw [List.length_map, List.drop_length] at hTh
      have he : e = tl.length := by
        have h1 : tl.drop e = [] := by generalize tl.drop e = u at hTh; cases hTh; rfl
        have h2 := List.drop_eq_nil_iff.mp h1
        have := hEl e heE
        omega
      refine ⟨_, rfl, o, _, rfl, .inl (sql_mono s1 ho), _, rfl, lE, _, rfl, .inl (.inl (.inl hE)), rfl, nV_flat E, ?_⟩
      show Q (V.bl (inV (.int ((nV tl).length : Int)) (nV E))) H1
      rw [List.length_map, inV_nV, decide_eq_true (he ▸ heE)]
      exact q H1 s1
def sp__law_hurt (K : PySem.W.Frag) : Sp := fun vs H Q _ => ∃ l a es, vs = [tx l, .ref a] ∧ (Dp K H (.ref a) (.list (es.map edD)) ∨ Dp K H (.ref a) (.tuple (es.map edD))) ∧ l.length + es.length < 200000 ∧ CanAll l es ∧ RetF (tx (goAll l es)) H Q
abbrev N__law_hurt : List Str := ["_law_text", "_law_edits_here", "_law_edit", "_law_at"]
abbrev sco__law_hurt : Scope := defScope s__law_hurt
theorem sc__law_hurt : FnScope N__law_hurt ["_law_text", "_law_edits_here"] sco__law_hurt := ⟨rfl, rfl, rfl, by decide +kernel, rfl, by decide +kernel, by decide +kernel⟩
theorem ok__law_hurt (T : Tx K mg) : C8.Cal P w K mg base 1 "_law_hurt" (sp__law_hurt K) [] := by
  refine mkCal T.d__law_hurt T.m__law_hurt (fun fd F => ⟨[], .nil, F.bindsN fun _ _ _ _ _ _ us hl => match us, hl with | [_, _], _ => rfl⟩) sc__law_hurt (fun vs H Q E h => ?_) (fun cdv A outer s H vs Q E hr h => ?_)
  · obtain ⟨l, a, es, rfl, _⟩ := h; rfl
  · obtain ⟨l, a, es, rfl, ha, hl, hc, q⟩ := h
    refine ⟨_, (pss_cons (ps_for PassesOwn.never rfl (pi_seq (pv 1)) (pg_name (i := 2) sc__law_hurt.nd rfl (Or.inl rfl))
      (pss_cons (ps_set (i := 3) sc__law_hurt.nd rfl (Or.inl rfl) (pe_ix (ix_tupK (K := K) rfl) (pv 2) pe_int (fun _ _ => rfl)))
      (pss_cons (ps_if (PW.pt (pw_or (pt_not (pt_chain op_le op_lt pe_int (pv 3) (pe_op op_add (pe_callB call_len_str (by rfl) T.f_len bb_len (pa_cons (pv 0) pa_nil)) (pe_callTy call_int1 (by rfl) T.f_int bb_int (pa_cons (pe_cmpR op_eq (pe_ix (ix_tupK (K := K) rfl) (pv 2) pe_int (fun _ _ => rfl)) pe_str (nomark _)) pa_nil))))) (pw_or1 (PW.pt (pw_and (pt_cmpR op_eq (pe_ix (ix_tupK (K := K) rfl) (pv 2) pe_int (fun _ _ => rfl)) pe_str (nomark _)) (pw_and1 (pt_cmpR op_eq (pe_ix ix_str (pv 0) (pv 3) (fun _ _ => rfl)) (pe_ix (ix_tupK (K := K) rfl) (pv 2) pe_int (fun _ _ => rfl)) (nomark _)))))))) (pss_one (ps_ret pe_non)) pss_nil)
      (pss_one (ps_if (pt_cmpR op_eq (pe_ix (ix_tupK (K := K) rfl) (pv 2) pe_int (fun _ _ => rfl)) pe_str (nomark _)) (pss_one (ps_set (i := 0) sc__law_hurt.nd rfl (Or.inl rfl) (pe_op op_add_str (pe_slice C8.sl_txt (pv 0) po_none (po_some (pv 3))) (pe_slice C8.sl_txt (pv 0) (po_some (pe_op op_add (pv 3) pe_int)) po_none)))) (pss_one (ps_set (i := 0) sc__law_hurt.nd rfl (Or.inl rfl) (pe_op op_add_str (pe_op op_add_str (pe_slice C8.sl_txt (pv 0) po_none (po_some (pv 3))) (pe_ix (ix_tupK (K := K) rfl) (pv 2) pe_int (fun _ _ => rfl))) (pe_slice C8.sl_txt (pv 0) (po_some (pe_op op_add (pv 3) (pe_callTy call_int1 (by rfl) T.f_int bb_int (pa_cons (pe_cmpR op_eq (pe_ix (ix_tupK (K := K) rfl) (pv 2) pe_int (fun _ _ => rfl)) pe_str (nomark _)) pa_nil)))) po_none)))))))))
      (pss_one (ps_ret (pv 0)))), ?_⟩
    obtain ⟨vs, hS, hD⟩ := eds_seq ha
    have hvl : vs.length = es.length := by rw [hD.length, List.length_map]
    have step : ∀ (i : Nat) (x : V) (σ : L2.St) (H' : Hp), i < vs.length → ((∃ z y, σ = [some (tx (goAll l (es.take i))), some (V.ref a), z, y]) ∧ Same H H') → vs[i]? = some x → ∀ (N : L2.St → Hp → Prop) (D : Ends), D.rt = Q →
        (∀ σ2 H2, ((∃ z y, σ2 = [some (tx (goAll l (es.take (i + 1)))), some (V.ref a), z, y]) ∧ Same H H2) → N σ2 H2) →
        hurtStep K { D with nx := N, ct := N } (σ.set 2 (some x)) H' := by
      rintro i x σ H' hi ⟨⟨z, y, rfl⟩, s'⟩ hx N D hDQ hN
      obtain ⟨d, hd, hx2⟩ := hD.at hx
      rw [List.getElem?_map] at hd
      obtain ⟨e, he, rfl⟩ := Option.map_eq_some_iff.mp hd
      obtain ⟨b, rfl, hb⟩ := ed_at hx2
      obtain ⟨ho, hce⟩ := canAll_at es hc he
      have hlen := goAll_len (es.take i) l
      have hil : i < es.length := by omega
      rw [List.length_take] at hlen
      have hb2 := sqt_mono s' hb
      generalize hg : goAll l (es.take i) = l' at *
      have e1 : ∀ p : Nat, Txt.slice (SX.S l') none (some (p : Int)) = SX.S (l'.take p) := fun p => by rw [SX.slice_to (by omega)] <;> rfl
      have e2 : ∀ p : Nat, Txt.slice (SX.S l') (some (p : Int)) none = SX.S (l'.drop p) := fun p => by rw [SX.slice_from (by omega)] <;> rfl
      have e3 : ∀ p : Nat, Txt.slice (SX.S l') (some ((p : Int) + 1)) none = SX.S (l'.drop (p + 1)) := fun p => e2 (p + 1)
      have e30 : ∀ p : Nat, Txt.slice (SX.S l') (some ((p : Int) + 0)) none = SX.S (l'.drop p) := fun p => e2 p
      have z1 : (SX.S l').length ≤ sizeLine := le_line (by rw [SX.S_len]; omega)
      have zt : ∀ p : Nat, (l'.take p).length ≤ l'.length := fun p => by rw [List.length_take]; omega
      have zd : ∀ p : Nat, (l'.drop p).length ≤ l'.length := fun p => by rw [List.length_drop]; omega
      cases e with
      | lost p =>
        refine ⟨_, rfl, b, _, (1 : Int), _, rfl, rfl, hb2, rfl, ?_⟩
        have hc1 : p < l'.length := hce
        refine ⟨_, rfl, _, _, rfl, rfl, true, congrArg V.bl (decide_eq_true (by omega)), iteT ⟨_, rfl, _, rfl, z1, _, rfl, b, _, (0 : Int), _, rfl, rfl, hb2, rfl, rfl, .inr ⟨false, congrArg (fun b => [V.bl b]) d_lp, _, _, rfl, rfl, _, _, rfl, rfl, true, congrArg V.bl (decide_eq_true (by rw [SX.S_len]; simp; omega)), iteF ?_⟩⟩⟩
        refine ⟨_, rfl, b, _, (0 : Int), _, rfl, rfl, hb2, rfl, rfl, false, congrArg V.bl d_lc, iteF ?_⟩
        refine ⟨_, rfl, b, _, (0 : Int), _, rfl, rfl, hb2, rfl, rfl, true, congrArg V.bl d_ll, iteT ⟨_, rfl, _, rfl, _, rfl, _, rfl, z1, _, rfl, _, rfl, _, _, rfl, rfl, _, rfl, _, rfl, z1, _, _, rfl, rfl, ?_, ?_⟩⟩
        · rw [e1, e3]
          have h1 := zt p
          have h2 := zd (p + 1)
          refine le_line ?_
          rw [SX.S_len, SX.S_len]
          omega
        · rw [e1, e3, SX.S_cat]
          exact hN _ _ ⟨⟨some (.ref b), some (.int (p : Int)), by rw [goAll_next es l he, hg]; rfl⟩, s'⟩
      | put p c =>
        refine ⟨_, rfl, b, _, (1 : Int), _, rfl, rfl, hb2, rfl, ?_⟩
        have hc1 : p ≤ l'.length := hce
        refine ⟨_, rfl, _, _, rfl, rfl, true, congrArg V.bl (decide_eq_true (by omega)), iteT ⟨_, rfl, _, rfl, z1, _, rfl, b, _, (0 : Int), _, rfl, rfl, hb2, rfl, rfl, .inr ⟨true, congrArg (fun b => [V.bl b]) d_pp, _, _, rfl, rfl, _, _, rfl, rfl, true, congrArg V.bl (decide_eq_true (by rw [SX.S_len]; simp; omega)), iteF ?_⟩⟩⟩
        refine ⟨_, rfl, b, _, (0 : Int), _, rfl, rfl, hb2, rfl, rfl, false, congrArg V.bl d_pc, iteF ?_⟩
        refine ⟨_, rfl, b, _, (0 : Int), _, rfl, rfl, hb2, rfl, rfl, false, congrArg V.bl d_pl, iteF ⟨_, rfl, _, rfl, _, rfl, _, rfl, z1, _, rfl, b, _, (2 : Int), _, rfl, rfl, hb2, rfl, _, _, rfl, rfl, ?_, _, rfl, _, rfl, _, rfl, b, _, (0 : Int), _, rfl, rfl, hb2, rfl, rfl, .inr ⟨false, congrArg (fun b => [V.bl b]) d_pc, _, _, rfl, rfl, _, rfl, _, rfl, z1, _, _, rfl, rfl, ?_, ?_⟩⟩⟩
        · rw [e1]
          have := zt p
          refine le_line ?_
          rw [SX.S_len, SX.S_len]
          show _ + 1 ≤ _
          omega
        · show _ + (Txt.slice (SX.S l') (some ((p : Int) + 0)) none).length ≤ sizeLine
          rw [e1, e30]
          have h1 := zt p
          have h2 := zd (p)
          refine le_line ?_
          rw [SX.S_cat, SX.S_len, SX.S_len, List.length_append]
          show _ + 1 + _ ≤ _
          omega
        · have : Txt.slice (SX.S l') none (some (p : Int)) ++ SX.S [c] ++ Txt.slice (SX.S l') (some ((p : Int) + 0)) none = SX.S ((Ed.put p c).go l') := by
            rw [e1, e30, SX.S_cat, SX.S_cat, List.append_assoc] <;> rfl
          refine hN _ _ ⟨⟨some (.ref b), some (.int (p : Int)), ?_⟩, s'⟩
          rw [goAll_next es l he, hg]
          exact congrArg (fun z : PySem.Str => [some (V.str z), some (V.ref a), some (V.ref b), some (V.int (p : Int))]) this
      | chg p c =>
        refine ⟨_, rfl, b, _, (1 : Int), _, rfl, rfl, hb2, rfl, ?_⟩
        obtain ⟨hc1, hne⟩ : p < l'.length ∧ l'[p]? ≠ some c := hce
        refine ⟨_, rfl, _, _, rfl, rfl, true, congrArg V.bl (decide_eq_true (by omega)), iteT ⟨_, rfl, _, rfl, z1, _, rfl, b, _, (0 : Int), _, rfl, rfl, hb2, rfl, rfl, .inr ⟨false, congrArg (fun b => [V.bl b]) d_cp, _, _, rfl, rfl, _, _, rfl, rfl, true, congrArg V.bl (decide_eq_true (by rw [SX.S_len]; simp; omega)), iteF ?_⟩⟩⟩
        obtain ⟨c0, hc0⟩ : ∃ c0, l'[p]? = some c0 := ⟨l'[p], List.getElem?_eq_getElem hc1⟩
        refine ⟨_, rfl, b, _, (0 : Int), _, rfl, rfl, hb2, rfl, rfl, true, congrArg V.bl d_cc, iteT ⟨_, rfl, _, rfl, _, _, c0, rfl, rfl, z1, atI_nat (j := p) (by simpa using hc0), _, rfl, b, _, (2 : Int), _, rfl, rfl, hb2, rfl, rfl, false, congrArg V.bl (decide_eq_false fun h => hne ?_), iteF ?_⟩⟩
        · have h2 : SX.S [c0] = SX.S [c] := V.str.inj h
          have h3 := SX.S_inj h2
          rw [hc0, (List.cons.inj h3).1]
        refine ⟨_, rfl, b, _, (0 : Int), _, rfl, rfl, hb2, rfl, rfl, false, congrArg V.bl d_cl, iteF ⟨_, rfl, _, rfl, _, rfl, _, rfl, z1, _, rfl, b, _, (2 : Int), _, rfl, rfl, hb2, rfl, _, _, rfl, rfl, ?_, _, rfl, _, rfl, _, rfl, b, _, (0 : Int), _, rfl, rfl, hb2, rfl, rfl, .inr ⟨true, congrArg (fun b => [V.bl b]) d_cc, _, _, rfl, rfl, _, rfl, _, rfl, z1, _, _, rfl, rfl, ?_, ?_⟩⟩⟩
        · rw [e1]
          have := zt p
          refine le_line ?_
          rw [SX.S_len, SX.S_len]
          show _ + 1 ≤ _
          omega
        · show _ + (Txt.slice (SX.S l') (some ((p : Int) + 1)) none).length ≤ sizeLine
          rw [e1, e3]
          have h1 := zt p
          have h2 := zd ((p + 1))
          refine le_line ?_
          rw [SX.S_cat, SX.S_len, SX.S_len, List.length_append]
          show _ + 1 + _ ≤ _
          omega
        · have : Txt.slice (SX.S l') none (some (p : Int)) ++ SX.S [c] ++ Txt.slice (SX.S l') (some ((p : Int) + 1)) none = SX.S ((Ed.chg p c).go l') := by
            rw [e1, e3, SX.S_cat, SX.S_cat, List.append_assoc] <;> rfl
          refine hN _ _ ⟨⟨some (.ref b), some (.int (p : Int)), ?_⟩, s'⟩
          rw [goAll_next es l he, hg]
          exact congrArg (fun z : PySem.Str => [some (V.str z), some (V.ref a), some (V.ref b), some (V.int (p : Int))]) this
    have fin : ∀ (σ : L2.St) (H' : Hp), ((∃ z y, σ = [some (tx (goAll l (es.take vs.length))), some (V.ref a), z, y]) ∧ Same H H') → tRet (tVar 0) { nx := fun x H' => Q V.non H', rt := Q } σ H' := by
      rintro σ H' ⟨⟨z, y, rfl⟩, s'⟩
      rw [hvl, List.take_length]
      exact ⟨_, rfl, q H' s'⟩
    rcases hS with h | h
    · refine .inl ⟨_, rfl, a, rfl, ⟨_, h⟩, for_it (w_list (xs := vs)) (fun i σ H' => (∃ z y, σ = [some (tx (goAll l (es.take i))), some (V.ref a), z, y]) ∧ Same H H') ⟨⟨_, _, rfl⟩, Same.refl _⟩ (fun i σ H' _ p => sql_mono p.2 h) ?_ fin⟩
      rintro i x σ _ H' hi p ⟨rfl, hx⟩
      exact step i x σ _ hi p hx _ { nx := fun _ H' => Q .non H', rt := Q, bk := tRet (tVar 0) { nx := fun x H' => Q V.non H', rt := Q } } rfl fun σ2 H2 p2 => p2
    · refine .inr ⟨_, rfl, a, rfl, ⟨_, h⟩, for_it (w_tup (xs := vs)) (fun i σ H' => (∃ z y, σ = [some (tx (goAll l (es.take i))), some (V.ref a), z, y]) ∧ Same H H') ⟨⟨_, _, rfl⟩, Same.refl _⟩ (fun i σ H' _ p => sqt_mono p.2 h) ?_ fin⟩
      rintro i x σ _ H' hi p ⟨rfl, hx⟩
      exact step i x σ _ hi p hx _ { nx := fun _ H' => Q .non H', rt := Q, bk := tRet (tVar 0) { nx := fun x H' => Q V.non H', rt := Q } } rfl fun σ2 H2 p2 => p2
end
end K57
set_option Elab.async false
set_option linter.all false
set_option maxRecDepth 100000
set_option maxHeartbeats 4000000
namespace K57
open PySem PySem.Spec PyProof.Rows L2
/-- tuples stay -/
def TS' (H H2 : Hp) : Prop := ∀ t xs, H t = some (.tup xs) → H2 t = some (.tup xs)
inductive EdAts (H : Hp) : List V → List Ed → Prop
  | nil : EdAts H [] []
  | cons {t : Addr} {e : Ed} {vs : List V} {es : List Ed} : H t = some (.tup (edV e)) → EdAts H vs es → EdAts H (.ref t :: vs) (e :: es)
theorem EdAts.ts {H H2 : Hp} {vs : List V} {es : List Ed} (h : EdAts H vs es) (s : TS' H H2) : EdAts H2 vs es := by
  induction h with
  | nil => exact .nil
  | cons a _ ih => exact .cons (s _ _ a) ih
theorem EdAts.len {H : Hp} {vs : List V} {es : List Ed} (h : EdAts H vs es) : vs.length = es.length := by
  induction h with
  | nil => rfl
  | cons a _ ih => rw [List.length_cons, List.length_cons, ih]
theorem EdAts.snoc {H : Hp} {vs : List V} {es : List Ed} {t : Addr} {e : Ed} (h : EdAts H vs es) (ht : H t = some (.tup (edV e))) : EdAts H (vs ++ [.ref t]) (es ++ [e]) := by
  induction h with
  | nil => exact .cons ht .nil
  | cons a _ ih => exact .cons a ih
theorem dp_ed {K : PySem.W.Frag} {H : Hp} {t : Addr} {e : Ed} (h : H t = some (.tup (edV e))) : Dp K H (.ref t) (edD e) := by
  cases e with
  | lost p => exact .tup (.inl (.inl h)) (.cons (.str _) (.cons (.int _) .nil))
  | put p c => exact .tup (.inl (.inl h)) (.cons (.str _) (.cons (.int _) (.cons (.str _) .nil)))
  | chg p c => exact .tup (.inl (.inl h)) (.cons (.str _) (.cons (.int _) (.cons (.str _) .nil)))
theorem EdAts.dp {K : PySem.W.Frag} {H : Hp} {vs : List V} {es : List Ed} (h : EdAts H vs es) : DpAll K H vs (es.map edD) := by
  induction h with
  | nil => exact .nil
  | cons a _ ih => exact .cons (dp_ed a) ih
theorem ts_sb {H H2 : Hp} {p c : Addr} {b : Nat} (h : Press H p c b) (s : SB p H H2) : TS' H H2 := fun t xs e => by
  obtain ⟨_, _, _, _, h2, _⟩ := h
  exact s t _ (fun z => by rw [z, h2] at e; cases e) e
theorem ts_up {H H2 : Hp} {D : Addr} {vs us : List V} (h : H D = some (.lst vs)) (s : Same (upd H D (.lst us)) H2) : TS' H H2 := fun t xs e => by
  refine s t _ ?_
  rw [upd_ne (fun z => by rw [z, h] at e; cases e)]
  exact e
theorem goAll_snoc (l : T) (es : List Ed) (e : Ed) : goAll l (es ++ [e]) = e.go (goAll l es) := by
  unfold goAll
  rw [List.foldl_append] <;> rfl
theorem canAll_snoc : ∀ (es : List Ed) {l : T} {e : Ed}, CanAll l es → okSg e → Can (goAll l es) e → CanAll l (es ++ [e])
  | [], l, e, _, h1, h2 => ⟨h1, h2, trivial⟩
  | a :: r, l, e, h, h1, h2 => ⟨h.1, h.2.1, canAll_snoc r h.2.2 h1 h2⟩
theorem tail_step {K : PySem.W.Frag} {iD iE iT : Nat} {D t : Addr} {l' : T} {e : Ed} {vs : List V} {σ : L2.St} {H2 : Hp} {Dx : Ends} (h1 : σ[iD]? = some (some (.ref D))) (h2 : σ[iE]? = some (some (.ref t))) (h3 : σ[iT]? = some (some (tx l')))
    (hD : H2 D = some (.lst vs)) (ht : H2 t = some (.tup (edV e))) (ho : okSg e) (hc : Can l' e) (hv : vs.length < 1000) (hl : l'.length < 190000)
    (q : ∀ H3, Same (upd H2 D (.lst (vs ++ [.ref t]))) H3 → Dx.nx (σ.set iT (some (tx (e.go l')))) H3) :
    tSeq (tDrop (tBM K "list" rAppend (tVar iD) (tCons (tVar iE) tNil))) (tAsg (tCall (sp__law_hurt K) [] C8.E0 (tCons (tVar iT) (tCons (tLst (tCons (tVar iE) tNil)) tNil))) (gName iT)) Dx σ H2 := by
  refine ⟨_, h1, .inl ⟨rfl, _, .inl (.inl hD)⟩, _, h2, D, vs, _, rfl, rfl, hD, lt_line (by omega), ?_⟩
  refine ⟨_, h3, _, h2, by show 1 ≤ sizeLine; decide, fun p hp => ?_⟩
  have hne : t ≠ D := fun z => by rw [z, hD] at ht; cases ht
  have ht3 : (upd H2 D (.lst (vs ++ [.ref t]))) t = some (.tup (edV e)) := by rw [upd_ne hne]; exact ht
  have s3 : Same (upd H2 D (.lst (vs ++ [.ref t]))) (upd (upd H2 D (.lst (vs ++ [.ref t]))) p (.lst [.ref t])) := same_new hp
  exact ⟨l', p, [e], rfl, .inl (.lst (.inl (.inl upd_same)) (.cons (dp_ed (s3 t _ ht3)) .nil)), by show l'.length + 1 < 200000; omega, ⟨ho, hc, trivial⟩, fun H3 s => q H3 (s3.trans s)⟩
theorem splB_pos : ∀ (l acc : T), 0 < (splB acc l).length
  | [], acc => Nat.succ_pos _
  | c :: r, acc => by
    unfold splB
    by_cases h : c = 32
    · rw [if_pos h]; exact Nat.succ_pos _
    · rw [if_neg h]; exact splB_pos r _
theorem splB_le : ∀ (l acc : T), ∀ w ∈ splB acc l, w.length ≤ acc.length + l.length
  | [], acc, w, h => by
    rw [show w = acc by simpa [splB] using h]
    simp
  | c :: r, acc, w, h => by
    unfold splB at h
    by_cases hc : c = 32
    · rw [if_pos hc] at h
      rcases List.mem_cons.mp h with e | e
      · rw [e]; omega
      · have := splB_le r [] w e
        simp only [List.length_nil, List.length_cons] at this ⊢
        omega
    · rw [if_neg hc] at h
      have := splB_le r _ w h
      simp only [List.length_append, List.length_cons, List.length_nil] at this ⊢
      omega
theorem its_le (l w : T) (h : w ∈ its l) : w.length ≤ l.length := by
  have := splB_le l [] w h
  simpa using this
theorem cut_txs (cs : List T) (lo hi : Option Int) : ∃ ds : List T, cutV (cs.map tx) lo hi = ds.map tx ∧ ds.length ≤ cs.length ∧ ∀ d ∈ ds, d ∈ cs := by
  unfold cutV
  rw [← List.map_drop, ← List.map_take]
  exact ⟨_, rfl, Nat.le_trans (List.length_take_le' ..) (by rw [List.length_drop]; omega), fun d h => List.mem_of_mem_drop (List.mem_of_mem_take h)⟩
theorem sum_cast {α : Type} (f : α → Nat) : ∀ l : List α, (l.map fun x => ((f x : Nat) : Int)).sum = ((l.map f).sum : Nat)
  | [] => rfl
  | a :: r => by
    rw [List.map_cons, List.sum_cons, List.map_cons, List.sum_cons, sum_cast f r, Int.natCast_add]
theorem dec_sign (c : Nat) : decide (V.str ⟨#[c]⟩ = V.str " ") = decide (c = 32) := by
  by_cases h : c = 32
  · subst h
    decide +kernel
  · rw [decide_eq_false h]
    refine decide_eq_false fun e => h ?_
    have e2 : SX.S [c] = SX.S [32] := V.str.inj e
    exact (List.cons.inj (SX.S_inj e2)).1
theorem filt_yes {α : Type} {p : α → Bool} {a : α} (h : p a = true) : [a].filter p = [a] := by simp [List.filter, h]
theorem filt_no {α : Type} {p : α → Bool} {a : α} (h : p a = false) : [a].filter p = [] := by simp [List.filter, h]
theorem cut_nats (cs : List Nat) (lo hi : Int) (s m : Nat) (h1 : lo = (s : Int)) (h2 : hi = (s : Int) + (m : Int)) : ∃ ds : List Nat, cutV (nV cs) (some lo) (some hi) = nV ds ∧ ds.length ≤ m ∧ (∀ d ∈ ds, d ∈ cs) ∧ (cs.Pairwise (· < ·) → ds.Pairwise (· < ·)) := by
  unfold cutV
  rw [← List.map_drop, ← List.map_take]
  refine ⟨_, rfl, ?_, fun d h => List.mem_of_mem_drop (List.mem_of_mem_take h), fun h => (h.drop).take⟩
  refine Nat.le_trans (List.length_take_le ..) ?_
  subst h1 h2
  rw [HT.sIx_nat, show (s : Int) + (m : Int) = ((s + m : Nat) : Int) by omega, HT.sIx_nat]
  omega
def PvA (p c b : Nat) (l : T) (m : Nat) (W pI : Addr) (wz : T) (k bg : Nat) (D : Addr) (H : Hp) (i : Nat) (σ : L2.St) (H' : Hp) : Prop :=
  (∃ es z9 z10 z11 z12 z13, σ = [some (V.ref p), some (V.ref W), some (tx (goAll l es)), some (V.int (m : Int)), some (V.ref pI), some (tx wz), some (V.int (k : Int)), some (V.int (bg : Int)), some (V.ref D), z9, z10, z11, z12, z13] ∧ es.length ≤ m ∧ CanAll l es ∧ ∃ vs, H' D = some (.lst vs) ∧ EdAts H' vs es) ∧ SB p H H' ∧ Press H' p c (b + 2 * (wz.length - i))
section
variable {P : Program} {w : World} {K : PySem.W.Frag} {mg : Str → Option Value} {base : Heap}
/-- the list of drawn edits -/
def EdL (H : Hp) (D : Addr) (es : List Ed) : Prop := ∃ vs, H D = some (.lst vs) ∧ EdAts H vs es
abbrev RetE (p c : Addr) (b m : Nat) (l : T) (H : Hp) (Q : VK) : Prop := ∀ D es H2, SB p H H2 → H D = none → EdL H2 D es → es.length ≤ m → CanAll l es → Press H2 p c b → Q (.ref D) H2
def sp__law_edits : Sp := fun vs H Q _ => ∃ p c b l, ∃ m : Nat, ∃ sg, vs = [.ref p, tx l, .int m, tx sg] ∧ m ≤ 4 ∧ l.length ≤ 1000 ∧ isT sg ∧ sg ≠ [] ∧ sg.length ≤ 1000 ∧ Press H p c (b + 4 * m + 1) ∧ RetE p c b m l H Q
abbrev N__law_edits : List Str := ["_law_press_here", "_law_text", "_law_many", "_law_signs", "_law_found", "_law_spot", "_law_turn_here", "_law_at", "_law_way", "_law_sign", "_law_edit"]
abbrev sco__law_edits : Scope := defScope s__law_edits
theorem sc__law_edits : FnScope N__law_edits ["_law_press_here", "_law_text", "_law_many", "_law_signs"] sco__law_edits := ⟨rfl, rfl, rfl, by decide +kernel, rfl, by decide +kernel, by decide +kernel⟩
theorem ok__law_edits (T : Tx K mg) : C8.Cal P w K mg base 3 "_law_edits" sp__law_edits [] := by
  have c__law_turn : C8.Cal P w K mg base 1 "_law_turn" (sp__law_turn K) [] := ok__law_turn T
  have c__law_hurt : C8.Cal P w K mg base 1 "_law_hurt" (sp__law_hurt K) [] := ok__law_hurt T
  have c__law_one_of : C8.Cal P w K mg base 2 "_law_one_of" (sp__law_one_of K) [] := ok__law_one_of T
  refine mkCal T.d__law_edits T.m__law_edits (fun fd F => ⟨[], .nil, F.bindsN fun _ _ _ _ _ _ us hl => match us, hl with | [_, _, _, _], _ => rfl⟩) sc__law_edits (fun vs H Q E h => ?_) (fun cdv A outer s H vs Q E hr h => ?_)
  · obtain ⟨p, c, b, l, m, sg, rfl, _⟩ := h; rfl
  · obtain ⟨p, c, b, l, m, sg, rfl, hm, hl, hsg, hne, hsl, hP, q⟩ := h
    refine ⟨_, (pss_cons (ps_par (i := 4) (j := 5) rfl sc__law_edits.nd rfl rfl (by decide) rfl rfl (pa_cons (pe_lst pa_nil) (pa_cons (C8.pe_c c__law_turn hr (by decide) (by rfl) (pa_cons (pv 0) (pa_cons (pe_op op_add (pe_callB call_len_str (by rfl) T.f_len bb_len (pa_cons (pv 1) pa_nil)) pe_int) pa_nil))) pa_nil)) rfl)
      (pss_cons (ps_for PassesOwn.never rfl (pi_range1 (by rfl) T.f_range (pa_cons (pv 2) pa_nil)) (pg_name (i := 6) sc__law_edits.nd rfl (Or.inl rfl))
      (C8.pss_cut (ps_set (i := 7) sc__law_edits.nd rfl (Or.inl rfl) (pe_ifExp (pt_cmpR op_gt (C8.pe_c c__law_turn hr (by decide) (by rfl) (pa_cons (pv 0) (pa_cons pe_int pa_nil))) pe_int (nomark _)) (pe_callB (call_min2 rfl) (by rfl) T.f_min bb_min (pa_cons (pe_callB (call_max2 rfl) (by rfl) T.f_max bb_max (pa_cons pe_int (pa_cons (pe_op op_sub (pe_op op_add (pv 5) (C8.pe_c c__law_turn hr (by decide) (by rfl) (pa_cons (pv 0) (pa_cons pe_int pa_nil)))) pe_int) pa_nil))) (pa_cons (pe_callB call_len_str (by rfl) T.f_len bb_len (pa_cons (pv 1) pa_nil)) pa_nil))) (C8.pe_c c__law_turn hr (by decide) (by rfl) (pa_cons (pv 0) (pa_cons (pe_op op_add (pe_callB call_len_str (by rfl) T.f_len bb_len (pa_cons (pv 1) pa_nil)) pe_int) pa_nil)))))
      (pss_cons (ps_par (i := 8) (j := 9) rfl sc__law_edits.nd rfl rfl (by decide) rfl rfl (pa_cons (C8.pe_c c__law_turn hr (by decide) (by rfl) (pa_cons (pv 0) (pa_cons pe_int pa_nil))) (pa_cons (C8.pe_c c__law_one_of hr (by decide) (by rfl) (pa_cons (pv 0) (pa_cons (pe_callTy (call_list_txt rfl) (by rfl) T.f_list bb_list (pa_cons (pv 3) pa_nil)) pa_nil))) pa_nil)) rfl)
      (pss_cons (ps_set (i := 10) sc__law_edits.nd rfl (Or.inl rfl) (pe_tup (pa_cons pe_str (pa_cons (pv 7) (pa_cons (pv 9) pa_nil)))))
      (C8.pss_cut (ps_if (PW.pt (pw_and (pt_cmpR op_lt (pv 8) pe_int (nomark _)) (pw_and1 (pt_cmpR op_lt (pv 7) (pe_callB call_len_str (by rfl) T.f_len bb_len (pa_cons (pv 1) pa_nil)) (nomark _))))) (pss_one (ps_set (i := 10) sc__law_edits.nd rfl (Or.inl rfl) (pe_ifExp (PW.pt (pw_or (pt_cmpR op_eq (pv 8) pe_int (nomark _)) (pw_or1 (pt_cmpR op_eq (pe_ix ix_str (pv 1) (pv 7) (fun _ _ => rfl)) (pv 9) (nomark _))))) (pe_tup (pa_cons pe_str (pa_cons (pv 7) pa_nil))) (pe_tup (pa_cons pe_str (pa_cons (pv 7) (pa_cons (pv 9) pa_nil))))))) pss_nil)
      (pss_cons (ps_expr (pe_bmK (K := K) rfl PySem.F.plainAttrs_list PySem.F.slot_list_append PySem.F.type_list_append mt_append (pv 4) (pa_cons (pv 10) pa_nil)))
      (pss_one (ps_set (i := 1) sc__law_edits.nd rfl (Or.inl rfl) (C8.pe_c c__law_hurt hr (by decide) (by rfl) (pa_cons (pv 1) (pa_cons (pe_lst (pa_cons (pv 10) pa_nil)) pa_nil)))))))))))
      (pss_one (ps_ret (pv 4))))), ?_⟩
    obtain ⟨n0, r0, cs0, hcp, hp1, hc1, _⟩ := id hP
    have z1 : ∀ l : List Nat, l.length ≤ 100000 → (SX.S l).length ≤ sizeLine := fun l h => le_line (by rw [SX.S_len]; omega)
    refine ⟨by show 0 ≤ sizeLine; decide, fun D hD => ?_⟩
    obtain ⟨hDp, hDc⟩ := hP.new hD
    refine ⟨_, rfl, _, rfl, _, rfl, z1 l (by omega), _, _, rfl, rfl, p, c, b + 4 * m, (SX.S l).length + 1, rfl, by omega, by rw [SX.S_len]; omega, (hP.mut (o := .lst []) ⟨hDp, hDc⟩), fun sp0 _ H1 s1 hP1 => ⟨_, _, rfl, ?_⟩⟩
    have sA : SB p H H1 := (same_new (o := .lst []) hD).sb.trans s1
    have hD1 : H1 D = some (.lst []) := s1 D _ hDp upd_same
    refine ⟨_, rfl, (m : Int), rfl, by omega, by omega, for_it (w_range (lo := 0) (n := m)) (fun i σ H' => (∃ es z6 z7 z8 z9 z10, σ = [some (V.ref p), some (tx (goAll l es)), some (V.int (m : Int)), some (tx sg), some (V.ref D), some (V.int (sp0 : Int)), z6, z7, z8, z9, z10] ∧ es.length = i ∧ CanAll l es ∧ EdL H' D es) ∧ SB p H H' ∧ Press H' p c (b + 4 * (m - i)))
      ⟨⟨[], _, _, _, _, _, rfl, rfl, trivial, [], hD1, .nil⟩, sA, by rw [Nat.sub_zero]; exact hP1⟩ (fun _ _ _ _ _ => trivial) ?_ ?_⟩
    · rintro i x σ _ H2 hi ⟨⟨es, z6, z7, z8, z9, z10, rfl, hes, hca, vs, hvs, hat⟩, s2, hP2⟩ ⟨rfl, rfl⟩
      have hgl := goAll_len es l
      have hB : b + 4 * (m - i) = b + 4 * (m - (i + 1)) + 3 + 1 := by omega
      rw [hB] at hP2
      generalize hBB : b + 4 * (m - (i + 1)) = B at hP2
      have hl' : (goAll l es).length ≤ 2000 := by omega
      refine ⟨fun σ H3 => ∃ a : Nat, a ≤ (goAll l es).length ∧ σ = [some (V.ref p), some (tx (goAll l es)), some (V.int (m : Int)), some (tx sg), some (V.ref D), some (V.int (sp0 : Int)), some (V.int (0 + (i : Int))), some (V.int (a : Int)), z8, z9, z10] ∧ SB p H2 H3 ∧ Press H3 p c (B + 2), ?_, ?_⟩
      · refine ⟨_, rfl, p, c, B + 3, 4, rfl, by omega, by omega, hP2, fun k hk H3 s3 hP3 => ⟨_, _, rfl, rfl, decide ((0 : Int) < (k : Int)), rfl, ?_⟩⟩
        by_cases hk0 : (0 : Int) < (k : Int)
        · rw [decide_eq_true hk0]
          refine iteT ⟨_, rfl, _, rfl, p, c, B + 2, 13, rfl, by omega, by omega, hP3, fun k2 hk2 H4 s4 hP4 => ⟨_, _, rfl, rfl, _, _, rfl, rfl, _, _, rfl, _, rfl, _, rfl, z1 _ (by omega), _, _, rfl, ?_⟩⟩
          have hlen : ((SX.S (goAll l es)).length : Int) = ((goAll l es).length : Int) := by rw [SX.S_len]
          generalize hx : (if ((SX.S (goAll l es)).length : Int) < (if (sp0 : Int) + (k2 : Int) - 6 > 0 then (sp0 : Int) + (k2 : Int) - 6 else 0) then ((SX.S (goAll l es)).length : Int) else (if (sp0 : Int) + (k2 : Int) - 6 > 0 then (sp0 : Int) + (k2 : Int) - 6 else 0)) = x
          have hx0 : 0 ≤ x ∧ x ≤ ((goAll l es).length : Int) := by
            rw [← hx, hlen]
            split <;> split <;> omega
          refine ⟨x.toNat, by omega, ?_, s3.trans s4, hP4⟩
          rw [Int.toNat_of_nonneg hx0.1, ← hx]
          rfl
        · rw [decide_eq_false hk0]
          refine iteF ⟨_, rfl, _, rfl, _, rfl, z1 _ (by omega), _, _, rfl, rfl, p, c, B + 2, (SX.S (goAll l es)).length + 1, rfl, by omega, by rw [SX.S_len]; omega, hP3, fun k2 hk2 H4 s4 hP4 => ⟨k2, ?_, rfl, s3.trans s4, hP4⟩⟩
          rw [SX.S_len] at hk2
          omega
      · rintro _ H3 ⟨a, ha, rfl, s3, hP3⟩
        refine ⟨_, rfl, p, c, B + 1, 3, rfl, by omega, by omega, hP3, fun kw hkw H4 s4 hP4 => ?_⟩
        refine ⟨_, rfl, _, rfl, _, rfl, by show sg.toArray.size ≤ sizeLine; rw [List.size_toArray]; exact le_line (by omega), fun q hq => ?_⟩
        obtain ⟨hqp, hqc⟩ := hP4.new hq
        refine ⟨p, c, B, q, _, rfl, hqp, upd_same, ?_, ?_, hP4.mut ⟨hqp, hqc⟩, fun x hx H5 s5 hP5 => ⟨_, _, rfl, ?_⟩⟩
        · intro e
          exact hne (by simpa using e)
        · show (sg.map _).length < 1000000
          rw [List.length_map]; omega
        obtain ⟨c0, hc0, rfl⟩ := List.mem_map.mp hx
        have hc0' : c0 ∈ sg := hc0
        have hok := hsg c0 hc0'
        refine ⟨_, rfl, _, rfl, by show 3 ≤ sizeLine; decide, fun t ht => ?_⟩
        have sB : SB p H2 (upd H5 t (.tup [.str "put", .int (a : Int), .str ⟨#[c0]⟩])) := ((s3.trans s4).trans ((same_new hq).sb.trans s5)).trans (same_new ht).sb
        have hP6 : Press (upd H5 t (.tup [.str "put", .int (a : Int), .str ⟨#[c0]⟩])) p c B := hP5.mut (hP5.new ht)
        have ht6 : (upd H5 t (.tup [.str "put", .int (a : Int), .str ⟨#[c0]⟩])) t = some (.tup (edV (.put a c0))) := upd_same
        generalize hH6 : upd H5 t (.tup [.str "put", .int (a : Int), .str ⟨#[c0]⟩]) = H6 at *
        refine ⟨fun σ H7 => ∃ e u, σ = [some (V.ref p), some (tx (goAll l es)), some (V.int (m : Int)), some (tx sg), some (V.ref D), some (V.int (sp0 : Int)), some (V.int (0 + (i : Int))), some (V.int (a : Int)), some (V.int (kw : Int)), some (.str ⟨#[c0]⟩), some (V.ref u)] ∧ H7 u = some (.tup (edV e)) ∧ okSg e ∧ Can (goAll l es) e ∧ Same H6 H7, ?_, ?_⟩
        · subst hH6
          refine ⟨_, rfl, _, _, rfl, rfl, decide ((kw : Int) < 2), rfl, ?_⟩
          by_cases hw : (kw : Int) < 2
          · rw [decide_eq_true hw]
            refine iteT ⟨_, rfl, _, rfl, _, rfl, z1 _ (by omega), _, _, rfl, rfl, decide ((a : Int) < ((SX.S (goAll l es)).length : Int)), rfl, ?_⟩
            by_cases hal : a < (goAll l es).length
            · rw [decide_eq_true (by rw [SX.S_len]; omega)]
              obtain ⟨d, hd⟩ : ∃ d, (goAll l es)[a]? = some d := ⟨_, List.getElem?_eq_getElem hal⟩
              have lost : ∀ u, (upd H5 t (.tup [.str "put", .int (a : Int), .str ⟨#[c0]⟩])) u = none → ∃ e u', [some (V.ref p), some (tx (goAll l es)), some (V.int (m : Int)), some (tx sg), some (V.ref D), some (V.int (sp0 : Int)), some (V.int (0 + (i : Int))), some (V.int (a : Int)), some (V.int (kw : Int)), some (.str ⟨#[c0]⟩), some (V.ref u)] = [some (V.ref p), some (tx (goAll l es)), some (V.int (m : Int)), some (tx sg), some (V.ref D), some (V.int (sp0 : Int)), some (V.int (0 + (i : Int))), some (V.int (a : Int)), some (V.int (kw : Int)), some (.str ⟨#[c0]⟩), some (V.ref u')] ∧ (upd (upd H5 t (.tup [.str "put", .int (a : Int), .str ⟨#[c0]⟩])) u (.tup [.str "lost", .int (a : Int)])) u' = some (.tup (edV e)) ∧ okSg e ∧ Can (goAll l es) e ∧ Same (upd H5 t (.tup [.str "put", .int (a : Int), .str ⟨#[c0]⟩])) (upd (upd H5 t (.tup [.str "put", .int (a : Int), .str ⟨#[c0]⟩])) u (.tup [.str "lost", .int (a : Int)])) :=
                fun u hu => ⟨.lost a, u, rfl, upd_same, trivial, hal, same_new hu⟩
              refine iteT ⟨_, rfl, rfl, decide (V.int (kw : Int) = V.int 0), rfl, ?_⟩
              by_cases hkw0 : V.int (kw : Int) = V.int 0
              · rw [decide_eq_true hkw0]
                exact iteT ⟨_, rfl, by show 2 ≤ sizeLine; decide, fun u hu => lost u hu⟩
              · rw [decide_eq_false hkw0]
                refine iteF ⟨_, rfl, _, rfl, _, _, d, rfl, rfl, z1 _ (by omega), atI_nat (j := a) (by simpa using hd), _, rfl, rfl, decide (V.str ⟨#[d]⟩ = V.str ⟨#[c0]⟩), rfl, ?_⟩
                by_cases hdc : V.str ⟨#[d]⟩ = V.str ⟨#[c0]⟩
                · rw [decide_eq_true hdc]
                  exact iteT ⟨_, rfl, by show 2 ≤ sizeLine; decide, fun u hu => lost u hu⟩
                · rw [decide_eq_false hdc]
                  refine iteF ⟨_, rfl, _, rfl, by show 3 ≤ sizeLine; decide, fun u hu => ⟨.chg a c0, u, rfl, upd_same, hok, ⟨hal, fun h => hdc ?_⟩, same_new hu⟩⟩
                  rw [hd] at h
                  rw [Option.some.inj h]
            · rw [decide_eq_false (by rw [SX.S_len]; omega)]
              exact iteF ⟨.put a c0, t, rfl, upd_same, hok, ha, Same.refl _⟩
          · rw [decide_eq_false hw]
            exact iteF ⟨.put a c0, t, rfl, upd_same, hok, ha, Same.refl _⟩
        · rintro _ H7 ⟨e, u, rfl, hu, hoe, hce, s7⟩
          have sC : SB p H2 H7 := sB.trans s7.sb
          have hD7 : H7 D = some (.lst vs) := sC D _ hDp hvs
          have hat7 : EdAts H7 vs es := hat.ts (ts_sb hP2 sC)
          have hvl := hat.len
          refine tail_step (D := D) (t := u) (l' := goAll l es) (e := e) (vs := vs) rfl rfl rfl hD7 hu hoe hce (by omega) (by omega) fun H8 s8 => ?_
          refine ⟨⟨es ++ [e], _, _, _, _, _, by rw [goAll_snoc]; rfl, by rw [List.length_append, hes]; rfl, canAll_snoc es hca hoe hce, vs ++ [.ref u], s8 D _ upd_same, (hat7.snoc hu).ts (ts_up hD7 s8)⟩, ?_, ?_⟩
          · exact fun b' u' hb' e' => s8 b' u' (by rw [upd_ne (ne_of_none e' hD)]; exact sC b' u' hb' (s2 b' u' hb' e'))
          · exact ((hP6.same s7).mut ⟨hDp, hDc⟩).same s8
    · rintro σ H2 ⟨⟨es, z6, z7, z8, z9, z10, rfl, hes, hca, hel⟩, s2, hP2⟩
      rw [Nat.sub_self] at hP2
      exact ⟨_, rfl, q D es H2 s2 hD hel (by omega) hca hP2⟩
def sp__law_aimed (K : PySem.W.Frag) : Sp := fun vs H Q _ => ∃ p c b W l, ∃ m : Nat, vs = [.ref p, .ref W, tx l, .int m] ∧ W ≠ p ∧ H W = some (.lst wordsV) ∧ m ≤ 4 ∧ l.length ≤ 1000 ∧ Press H p c (b + 30) ∧ RetE p c b m l H Q
abbrev N__law_aimed : List Str := ["_law_press_here", "_law_words", "_law_text", "_law_many", "_law_items", "_law_word", "_law_at", "_law_begin", "_law_found", "_law_spot", "_law_letter", "_law_place", "_law_edit", "_law_item"]
abbrev sco__law_aimed : Scope := defScope s__law_aimed
theorem sc__law_aimed : FnScope N__law_aimed ["_law_press_here", "_law_words", "_law_text", "_law_many"] sco__law_aimed := ⟨rfl, rfl, rfl, by decide +kernel, rfl, by decide +kernel, by decide +kernel⟩
theorem ok__law_aimed (T : Tx K mg) : C8.Cal P w K mg base 3 "_law_aimed" (sp__law_aimed K) [] := by
  have c__law_turn : C8.Cal P w K mg base 1 "_law_turn" (sp__law_turn K) [] := ok__law_turn T
  have c__law_one_of : C8.Cal P w K mg base 2 "_law_one_of" (sp__law_one_of K) [] := ok__law_one_of T
  have c__law_hurt : C8.Cal P w K mg base 1 "_law_hurt" (sp__law_hurt K) [] := ok__law_hurt T
  refine mkCal T.d__law_aimed T.m__law_aimed (fun fd F => ⟨[], .nil, F.bindsN fun _ _ _ _ _ _ us hl => match us, hl with | [_, _, _, _], _ => rfl⟩) sc__law_aimed (fun vs H Q E h => ?_) (fun cdv A outer s H vs Q E hr h => ?_)
  · obtain ⟨p, c, b, W, l, m, rfl, _⟩ := h; rfl
  · obtain ⟨p, c, b, W, l, m, rfl, hWp, hW, hm, hl, hP, q⟩ := h
    refine ⟨_, (pss_cons (ps_par (i := 4) (j := 5) rfl sc__law_aimed.nd rfl rfl (by decide) rfl rfl (pa_cons (pe_split (pv 2) pe_str) (pa_cons (C8.pe_c c__law_one_of hr (by decide) (by rfl) (pa_cons (pv 0) (pa_cons (pv 1) pa_nil))) pa_nil)) rfl)
      (pss_cons (ps_set (i := 6) sc__law_aimed.nd rfl (Or.inl rfl) (C8.pe_c c__law_turn hr (by decide) (by rfl) (pa_cons (pv 0) (pa_cons (pe_callB (call_len_seqK (K := K) rfl) (by rfl) T.f_len bb_len (pa_cons (pv 4) pa_nil)) pa_nil))))
      (pss_cons (ps_par (i := 7) (j := 8) rfl sc__law_aimed.nd rfl rfl (by decide) rfl rfl (pa_cons (pe_callB (cr_sum rfl) (by rfl) T.f_sum bb_sum (pa_cons (pe_lc (own := [("_law_item", 13)]) rfl sc__law_aimed.nd (pi_listK (K := K) rfl (pe_slice (sl_listK (K := K) rfl) (pv 4) po_none (po_some (pv 6)))) (blkOk_by (own := [("_law_item", 13)]) (N := N__law_aimed) (sc := sco__law_aimed) (by decide +kernel)) (fun _ _ _ _ _ => (pg_name (i := 13) sc__law_aimed.nd rfl (Or.inl rfl))) (fun _ _ _ _ _ => pts_nil) (fun _ _ _ _ _ => (pe_op op_add (pe_callB call_len_str (by rfl) T.f_len bb_len (pa_cons (pv 13) pa_nil)) pe_int))) pa_nil)) (pa_cons (pe_lst pa_nil) pa_nil)) rfl)
      (pss_cons (ps_for PassesOwn.never rfl (pi_enumS (by rfl) T.f_enumerate (pv 5)) (pg_tupK (K := K) (n := 2) rfl rfl (pgs_cons (pg_name (i := 9) sc__law_aimed.nd rfl (Or.inl rfl)) (pgs_cons (pg_name (i := 10) sc__law_aimed.nd rfl (Or.inl rfl)) pgs_nil)))
      (pss_cons (ps_set (i := 11) sc__law_aimed.nd rfl (Or.inl rfl) (pe_op op_add (pv 7) (pv 9)))
      (pss_one (ps_if (PW.pt (pw_and (pt_cmpR op_lt (pe_callB (call_len_seqK (K := K) rfl) (by rfl) T.f_len bb_len (pa_cons (pv 8) pa_nil)) (pv 3) (nomark _)) (pw_and (pt_cmpR op_lt (pv 11) (pe_callB call_len_str (by rfl) T.f_len bb_len (pa_cons (pv 2) pa_nil)) (nomark _)) (pw_and (pt_cmpR op_ne (pe_ix ix_str (pv 2) (pv 11) (fun _ _ => rfl)) (pv 10) (nomark _)) (pw_and1 (pt_cmpR op_gt (C8.pe_c c__law_turn hr (by decide) (by rfl) (pa_cons (pv 0) (pa_cons pe_int pa_nil))) pe_int (nomark _))))))) (C8.pss_cut (ps_set (i := 12) sc__law_aimed.nd rfl (Or.inl rfl) (pe_ifExp (pt_cmpR op_gt (C8.pe_c c__law_turn hr (by decide) (by rfl) (pa_cons (pv 0) (pa_cons pe_int pa_nil))) pe_int (nomark _)) (pe_tup (pa_cons pe_str (pa_cons (pv 11) (pa_cons (pv 10) pa_nil)))) (pe_tup (pa_cons pe_str (pa_cons (pv 11) (pa_cons (pv 10) pa_nil))))))
      (pss_cons (ps_expr (pe_bmK (K := K) rfl PySem.F.plainAttrs_list PySem.F.slot_list_append PySem.F.type_list_append mt_append (pv 8) (pa_cons (pv 12) pa_nil)))
      (pss_one (ps_set (i := 2) sc__law_aimed.nd rfl (Or.inl rfl) (C8.pe_c c__law_hurt hr (by decide) (by rfl) (pa_cons (pv 2) (pa_cons (pe_lst (pa_cons (pv 12) pa_nil)) pa_nil))))))) pss_nil))))
      (pss_one (ps_ret (pv 8))))))), ?_⟩
    have z1 : ∀ l : List Nat, l.length ≤ 100000 → (SX.S l).length ≤ sizeLine := fun l h => le_line (by rw [SX.S_len]; omega)
    have e1 : (Txt.split (SX.S l) (SX.S [32])).map V.str = (its l).map tx := by
      rw [SX.split_S (by simp) rfl, List.map_map, spl_eq] <;> rfl
    have hI := its_len l
    have hI0 : 0 < (its l).length := splB_pos l []
    refine ⟨_, rfl, ⟨_, rfl⟩, SX.S l, SX.S [32], rfl, rfl, rfl, le_line (by rw [SX.S_len]; omega), fun pI hpI => ?_⟩
    rw [e1]
    obtain ⟨hIp, hIc⟩ := hP.new hpI
    refine ⟨_, rfl, _, rfl, p, c, b + 29, W, wordsV, rfl, hWp, same_new hpI W _ hW, by decide +kernel, by rw [wordsV_len]; omega, hP.mut ⟨hIp, hIc⟩, fun x hx H1 s1 hP1 => ⟨_, _, rfl, ?_⟩⟩
    obtain ⟨wz, hwz, rfl⟩ := List.mem_map.mp hx
    obtain ⟨w1, w2, w3⟩ := book_ok wz hwz
    have sA : SB p H H1 := (same_new (o := .lst ((its l).map tx)) hpI).sb.trans s1
    have hI1 : H1 pI = some (.lst ((its l).map tx)) := s1 pI _ hIp upd_same
    refine ⟨_, rfl, _, rfl, pI, _, rfl, .inl (.inl (.inl hI1)), p, c, b + 28, ((its l).map tx).length, rfl, by rw [List.length_map]; exact hI0, by rw [List.length_map]; omega, hP1, fun k hk H2 s2 hP2 => ?_⟩
    have hI2 : H2 pI = some (.lst ((its l).map tx)) := s2 pI _ hIp hI1
    refine ⟨_, rfl, _, rfl, _, rfl, pI, _, rfl, .inl (.inl hI2), fun pS hpS => ?_⟩
    obtain ⟨ds, ed1, ed2, ed3⟩ := cut_txs (its l) none (some (k : Int))
    rw [ed1]
    have s3 : Same H2 (upd H2 pS (.lst (ds.map tx))) := same_new hpS
    refine ⟨pS, rfl, ⟨_, .inl (.inl upd_same)⟩, fun D2 hD2 => ?_⟩
    refine lc_flat hD2 (w_list (xs := ds.map tx)) (fun _ => true) (fun i => .int (((SX.S (ds.getD i [])).length + 1 : Nat) : Int)) ?_ ?_ ?_ ?_ ?_ ?_
    · rw [List.length_map]; omega
    · exact fun H' s' => .inl (.inl (s' pS _ upd_same))
    · exact fun x => rfl
    · exact fun i x H' _ _ _ Qt qt => yes_ok qt
    · intro i x H' hi _ s' hx Qe qe
      obtain ⟨z, hz, rfl⟩ := at_tx hx
      have hzl := its_le l z (ed3 z (List.mem_of_getElem? hz))
      have q2 := qe H' (Same.refl _)
      rw [getD_of hz] at q2
      exact ⟨_, rfl, _, rfl, z1 _ (by omega), _, _, rfl, rfl, q2⟩
    intro H3 s4 hy
    refine ⟨D2, (List.range (ds.map tx).length).map fun i => (((SX.S (ds.getD i [])).length + 1 : Nat) : Int), rfl, .inl (.inl (by rw [hy, given_all, List.map_map] <;> rfl)), ?_⟩
    rw [sum_cast]
    generalize ((List.range (ds.map tx).length).map fun i => (SX.S (ds.getD i [])).length + 1).sum = bg
    refine ⟨by show 0 ≤ sizeLine; decide, fun D hD => ⟨_, _, rfl, ?_⟩⟩
    have sB : Same H2 H3 := s3.trans s4
    have hP3 : Press H3 p c (b + 28) := hP2.same sB
    have sC : SB p H H3 := (sA.trans s2).trans sB.sb
    have hDH : H D = none := by
      cases e : H D with
      | none => rfl
      | some u =>
        have hDp : D ≠ p := (hP3.new hD).1
        rw [sC D u hDp e] at hD
        cases hD
    obtain ⟨hDp, hDc⟩ := hP3.new hD
    refine ⟨_, rfl, SX.S wz, rfl, for_it (w_enumS (z := SX.S wz)) (PvA p c b l m W pI wz k bg D H) ⟨⟨[], _, _, _, _, _, rfl, Nat.zero_le _, trivial, [], upd_same, .nil⟩, sC.trans (same_new hD).sb, (hP3.mut ⟨hDp, hDc⟩).le (by omega)⟩ (fun _ _ _ _ _ => trivial) ?_ ?_⟩
    · rintro i x σ _ _ hi ⟨⟨es, z9, z10, z11, z12, z13, rfl, hes, hca, vs, hvs, hat⟩, s5, hP5⟩ ⟨Tp, c0, rfl, hTp, rfl, hc0⟩
      rename_i H5
      have hi' : i < wz.length := hi
      have hc0' : wz[i]? = some c0 := by simpa using hc0
      have hcl : isL c0 := w3 c0 (List.mem_of_getElem? hc0')
      have hgl := goAll_len es l
      have sT : Same H5 (upd H5 Tp (.tup [.int (i : Int), .str ⟨#[c0]⟩])) := same_new hTp
      have hB : b + 2 * (wz.length - i) = b + 2 * (wz.length - (i + 1)) + 2 := by omega
      rw [hB] at hP5
      refine ⟨Tp, [_, _], rfl, .inl (.inl upd_same), rfl, _, _, rfl, _, _, rfl, rfl, ?_⟩
      have hP6 := hP5.same sT
      have hvs6 := sT D _ hvs
      have hat6 : EdAts (upd H5 Tp (.tup [.int (i : Int), .str ⟨#[c0]⟩])) vs es := hat.ts fun t xs e => sT t _ e
      have s6 : SB p H (upd H5 Tp (.tup [.int (i : Int), .str ⟨#[c0]⟩])) := s5.trans sT.sb
      generalize hBB : b + 2 * (wz.length - (i + 1)) = B at hP6
      have stay : ∀ (H7 : Hp) (y9 y10 y11 y12 y13 : Option V), SB p (upd H5 Tp (.tup [.int (i : Int), .str ⟨#[c0]⟩])) H7 → Press H7 p c B → PvA p c b l m W pI wz k bg D H (i + 1) [some (V.ref p), some (V.ref W), some (tx (goAll l es)), some (V.int (m : Int)), some (V.ref pI), some (tx wz), some (V.int (k : Int)), some (V.int (bg : Int)), some (V.ref D), y9, y10, y11, y12, y13] H7 :=
        fun H7 y9 y10 y11 y12 y13 s7 hP7 => ⟨⟨es, _, _, _, _, _, rfl, hes, hca, vs, s7 D _ hDp hvs6, hat6.ts (ts_sb hP6 s7)⟩, s6.trans s7, hBB ▸ hP7⟩
      refine ⟨_, rfl, _, rfl, _, _, rfl, rfl, ?_⟩
      refine ⟨_, rfl, D, _, rfl, .inl (.inl (.inl hvs6)), _, rfl, _, _, rfl, rfl, decide ((vs.length : Int) < (m : Int)), rfl, ?_⟩
      by_cases hc1 : vs.length < m
      case neg =>
        rw [decide_eq_false (by omega)]
        exact iteF (stay _ _ _ _ _ _ (SB.refl _ _) (hP6.le (by omega)))
      rw [decide_eq_true (by omega)]
      refine iteT ⟨_, rfl, _, rfl, _, rfl, z1 _ (by omega), _, _, rfl, rfl, decide ((bg : Int) + (i : Int) < ((SX.S (goAll l es)).length : Int)), rfl, ?_⟩
      by_cases hc2 : bg + i < (goAll l es).length
      case neg =>
        rw [decide_eq_false (by rw [SX.S_len]; omega)]
        exact iteF (stay _ _ _ _ _ _ (SB.refl _ _) (hP6.le (by omega)))
      rw [decide_eq_true (by rw [SX.S_len]; omega)]
      obtain ⟨d, hd⟩ : ∃ d, (goAll l es)[bg + i]? = some d := ⟨_, List.getElem?_eq_getElem hc2⟩
      refine iteT ⟨_, rfl, _, rfl, _, _, d, rfl, rfl, z1 _ (by omega), atI_nat (j := bg + i) (by simpa using hd), _, rfl, rfl, !decide (V.str ⟨#[d]⟩ = V.str ⟨#[c0]⟩), rfl, ?_⟩
      by_cases hc3 : V.str ⟨#[d]⟩ = V.str ⟨#[c0]⟩
      case pos =>
        rw [decide_eq_true hc3]
        exact iteF (stay _ _ _ _ _ _ (SB.refl _ _) (hP6.le (by omega)))
      rw [decide_eq_false hc3]
      refine iteT ⟨_, rfl, p, c, B + 1, 3, rfl, by omega, by omega, hP6, fun k3 hk3 H7 s7 hP7 => ⟨_, _, rfl, rfl, decide ((0 : Int) < (k3 : Int)), rfl, ?_⟩⟩
      by_cases hc4 : (0 : Int) < (k3 : Int)
      case neg =>
        rw [decide_eq_false hc4]
        exact iteF (stay _ _ _ _ _ _ s7 (hP7.le (by omega)))
      rw [decide_eq_true hc4]
      have hnd : (goAll l es)[bg + i]? ≠ some c0 := fun h => hc3 (by rw [hd] at h; rw [Option.some.inj h])
      refine iteT ⟨fun σ H8 => ∃ e u y12, σ = [some (V.ref p), some (V.ref W), some (tx (goAll l es)), some (V.int (m : Int)), some (V.ref pI), some (tx wz), some (V.int (k : Int)), some (V.int (bg : Int)), some (V.ref D), some (V.int (i : Int)), some (.str ⟨#[c0]⟩), some (V.int ((bg : Int) + (i : Int))), some (V.ref u), y12] ∧ H8 u = some (.tup (edV e)) ∧ okSg e ∧ Can (goAll l es) e ∧ SB p (upd H5 Tp (.tup [.int (i : Int), .str ⟨#[c0]⟩])) H8 ∧ Press H8 p c B, ?_, ?_⟩
      · refine ⟨_, rfl, p, c, B, 4, rfl, by omega, by omega, hP7, fun k4 hk4 H8 s8 hP8 => ⟨_, _, rfl, rfl, decide ((0 : Int) < (k4 : Int)), rfl, ?_⟩⟩
        by_cases hk4 : (0 : Int) < (k4 : Int)
        · rw [decide_eq_true hk4]
          exact iteT ⟨_, rfl, _, rfl, by show 3 ≤ sizeLine; decide, fun u hu => ⟨.chg (bg + i) c0, u, _, rfl, upd_same, .inr hcl, ⟨hc2, hnd⟩, (s7.trans s8).trans (same_new hu).sb, hP8.mut (hP8.new hu)⟩⟩
        · rw [decide_eq_false hk4]
          exact iteF ⟨_, rfl, _, rfl, by show 3 ≤ sizeLine; decide, fun u hu => ⟨.put (bg + i) c0, u, _, rfl, upd_same, .inr hcl, Nat.le_of_lt hc2, (s7.trans s8).trans (same_new hu).sb, hP8.mut (hP8.new hu)⟩⟩
      · rintro _ H8 ⟨e, u, y12, rfl, hu, hoe, hce, s8, hP8⟩
        have hD8 : H8 D = some (.lst vs) := s8 D _ hDp hvs6
        have hat8 : EdAts H8 vs es := hat6.ts (ts_sb hP6 s8)
        have hvl := hat.len
        refine tail_step (D := D) (t := u) (l' := goAll l es) (e := e) (vs := vs) rfl rfl rfl hD8 hu hoe hce (by omega) (by omega) fun H9 s9 => ?_
        refine ⟨⟨es ++ [e], _, _, _, _, _, by rw [goAll_snoc]; rfl, by rw [List.length_append, ← hvl]; exact hc1, canAll_snoc es hca hoe hce, vs ++ [.ref u], s9 D _ upd_same, (hat8.snoc hu).ts (ts_up hD8 s9)⟩, ?_, ?_⟩
        · exact fun b' u' hb' e' => s9 b' u' (by rw [upd_ne (ne_of_none e' hDH)]; exact s8 b' u' hb' (s6 b' u' hb' e'))
        · rw [hBB]
          exact (hP8.mut ⟨hDp, hDc⟩).same s9
    · rintro σ H5 ⟨⟨es, z9, z10, z11, z12, z13, rfl, hes, hca, hel⟩, s5, hP5⟩
      exact ⟨_, rfl, q D es H5 s5 hDH hel hes hca (hP5.le (by omega))⟩
def sp__law_cut_up : Sp := fun vs H Q _ => ∃ p c b l, ∃ m : Nat, vs = [.ref p, tx l, .int m] ∧ m ≤ 4 ∧ l.length ≤ 1000 ∧ Press H p c (b + 10) ∧ RetE p c b m l H Q
abbrev N__law_cut_up : List Str := ["_law_press_here", "_law_text", "_law_many", "_law_found", "_law_gone", "_law_blanks", "_law_spot", "_law_at", "_law_sign"]
abbrev sco__law_cut_up : Scope := defScope s__law_cut_up
theorem sc__law_cut_up : FnScope N__law_cut_up ["_law_press_here", "_law_text", "_law_many"] sco__law_cut_up := ⟨rfl, rfl, rfl, by decide +kernel, rfl, by decide +kernel, by decide +kernel⟩
theorem ok__law_cut_up (T : Tx K mg) : C8.Cal P w K mg base 3 "_law_cut_up" sp__law_cut_up [] := by
  have c__law_turn : C8.Cal P w K mg base 1 "_law_turn" (sp__law_turn K) [] := ok__law_turn T
  refine mkCal T.d__law_cut_up T.m__law_cut_up (fun fd F => ⟨[], .nil, F.bindsN fun _ _ _ _ _ _ us hl => match us, hl with | [_, _, _], _ => rfl⟩) sc__law_cut_up (fun vs H Q E h => ?_) (fun cdv A outer s H vs Q E hr h => ?_)
  · obtain ⟨p, c, b, l, m, rfl, _⟩ := h; rfl
  · obtain ⟨p, c, b, l, m, rfl, hm, hl, hP, q⟩ := h
    refine ⟨_, (pss_cons (ps_par3 (i := 3) (j := 4) (l := 5) rfl sc__law_cut_up.nd rfl rfl rfl (by decide) (by decide) (by decide) rfl rfl rfl (pa_cons (pe_lst pa_nil) (pa_cons pe_int (pa_cons (pe_lc (own := [("_law_at", 7), ("_law_sign", 8)]) rfl sc__law_cut_up.nd (pi_enumS (by rfl) T.f_enumerate (pv 1)) (blkOk_by (own := [("_law_at", 7), ("_law_sign", 8)]) (N := N__law_cut_up) (sc := sco__law_cut_up) (by decide +kernel)) (fun _ _ _ _ _ => (pg_tupK (K := K) (n := 2) rfl rfl (pgs_cons (pg_name (i := 7) sc__law_cut_up.nd rfl (Or.inl rfl)) (pgs_cons (pg_name (i := 8) sc__law_cut_up.nd rfl (Or.inl rfl)) pgs_nil)))) (fun _ _ _ _ _ => (pts_one (pt_cmpR op_eq (pv 8) pe_str (nomark _)))) (fun _ _ _ _ _ => (pv 7))) pa_nil))) rfl)
      (pss_cons (ps_set (i := 6) sc__law_cut_up.nd rfl (Or.inl rfl) (C8.pe_c c__law_turn hr (by decide) (by rfl) (pa_cons (pv 0) (pa_cons (pe_callB (call_max2 rfl) (by rfl) T.f_max bb_max (pa_cons pe_int (pa_cons (pe_op op_sub (pe_callB (call_len_seqK (K := K) rfl) (by rfl) T.f_len bb_len (pa_cons (pv 5) pa_nil)) (pv 2)) pa_nil))) pa_nil))))
      (pss_cons (ps_for PassesOwn.never rfl (pi_listK (K := K) rfl (pe_slice (sl_listK (K := K) rfl) (pv 5) (po_some (pv 6)) (po_some (pe_op op_add (pv 6) (pv 2))))) (pg_name (i := 7) sc__law_cut_up.nd rfl (Or.inl rfl))
      (pss_one (ps_if (pt_cmpR op_gt (C8.pe_c c__law_turn hr (by decide) (by rfl) (pa_cons (pv 0) (pa_cons pe_int pa_nil))) pe_int (nomark _)) (pss_cons (ps_expr (pe_bmK (K := K) rfl PySem.F.plainAttrs_list PySem.F.slot_list_append PySem.F.type_list_append mt_append (pv 3) (pa_cons (pe_tup (pa_cons pe_str (pa_cons (pe_op op_sub (pv 7) (pv 4)) pa_nil))) pa_nil)))
      (pss_one (ps_set (i := 4) sc__law_cut_up.nd rfl (Or.inl rfl) (pe_op op_add (pv 4) pe_int)))) (pss_one (ps_expr (pe_bmK (K := K) rfl PySem.F.plainAttrs_list PySem.F.slot_list_append PySem.F.type_list_append mt_append (pv 3) (pa_cons (pe_tup (pa_cons pe_str (pa_cons (pe_op op_sub (pv 7) (pv 4)) (pa_cons pe_str pa_nil)))) pa_nil)))))))
      (pss_one (ps_ret (pv 3)))))), ?_⟩
    have z1 : ∀ l : List Nat, l.length ≤ 100000 → (SX.S l).length ≤ sizeLine := fun l h => le_line (by rw [SX.S_len]; omega)
    refine ⟨by show 0 ≤ sizeLine; decide, fun D hD => ?_⟩
    have s1 : Same H (upd H D (.lst [])) := same_new hD
    obtain ⟨hDp, hDc⟩ := hP.new hD
    refine ⟨_, rfl, SX.S l, rfl, fun DB hDB => ?_⟩
    have hDBD : D ≠ DB := fun e => by rw [← e, upd_same] at hDB; cases hDB
    refine walkW (w_enumS (z := SX.S l)) (fun i H' => Same (upd H D (.lst [])) H' ∧ H' DB = some (.lst (nV ((List.range i).filter fun j => decide (l[j]? = some 32))))) ⟨(Same.refl _).mut hDB, upd_same⟩ (fun _ _ _ _ => trivial) ?_ ?_
    · rintro i H1 x _ hi ⟨a, hy⟩ ⟨Tp, c0, rfl, hTp, rfl, hc0⟩
      have hc0' : l[i]? = some c0 := by simpa using hc0
      have hne : DB ≠ Tp := fun e => by rw [e, hTp] at hy; cases hy
      have sT : Same H1 (upd H1 Tp (.tup [.int (i : Int), .str ⟨#[c0]⟩])) := same_new hTp
      refine ⟨Tp, [_, _], rfl, .inl (.inl upd_same), rfl, _, _, rfl, _, _, rfl, rfl, rfl, _, rfl, rfl, decide (c0 = 32), congrArg V.bl (dec_sign c0), ?_⟩
      by_cases h32 : c0 = 32
      · rw [decide_eq_true h32]
        refine iteT ⟨_, rfl, _, sT DB _ hy, ?_, (a.trans sT).mut hDB, ?_⟩
        · rw [List.length_map]
          have h1 := List.length_filter_le (fun j => decide (l[j]? = some 32)) (List.range i)
          rw [List.length_range] at h1
          have : i < l.length := (List.getElem?_eq_some_iff.mp hc0').1
          exact lt_line (by omega)
        · rw [upd_same, List.range_succ, List.filter_append, filt_yes (by rw [hc0', h32]; rfl), show ∀ a b : List Nat, nV (a ++ b) = nV a ++ nV b from fun a b => List.map_append ..] <;> rfl
      · rw [decide_eq_false h32]
        refine iteF ⟨a.trans sT, ?_⟩
        rw [sT DB _ hy, List.range_succ, List.filter_append, filt_no (by rw [hc0']; simp [h32]), List.append_nil]
    rintro H1 ⟨sB, hBl⟩
    have hbl : ∀ b' ∈ (List.range (SX.S l).cps.size).filter (fun j => decide (l[j]? = some 32)), l[b']? = some 32 := fun b' hb' => of_decide_eq_true (List.mem_filter.mp hb').2
    have hpw : ((List.range (SX.S l).cps.size).filter (fun j => decide (l[j]? = some 32))).Pairwise (· < ·) := List.Pairwise.filter _ List.pairwise_lt_range
    have hbn : ((List.range (SX.S l).cps.size).filter (fun j => decide (l[j]? = some 32))).length ≤ l.length := by
      have h1 := List.length_filter_le (fun j => decide (l[j]? = some 32)) (List.range (SX.S l).cps.size)
      rw [List.length_range] at h1
      exact h1
    generalize (List.range (SX.S l).cps.size).filter (fun j => decide (l[j]? = some 32)) = BL at *
    have hD1 : H1 D = some (.lst []) := sB D _ upd_same
    have hP1 : Press H1 p c (b + 10) := (hP.mut (o := .lst []) ⟨hDp, hDc⟩).same sB
    have sA : SB p H H1 := (s1.trans sB).sb
    refine ⟨_, _, _, rfl, ?_⟩
    have hmx : ∃ mm : Nat, 0 < mm ∧ mm < 2000 ∧ (if ((nV BL).length : Int) - (m : Int) > 1 then ((nV BL).length : Int) - (m : Int) else 1) = (mm : Int) := by
      rw [List.length_map]
      split
      · exact ⟨BL.length - m, by omega, by omega, by omega⟩
      · exact ⟨1, by omega, by omega, rfl⟩
    obtain ⟨mm, hm0, hm1, hmm⟩ := hmx
    refine ⟨_, rfl, _, rfl, DB, _, rfl, .inl (.inl (.inl hBl)), _, rfl, _, _, rfl, rfl, _, _, rfl, p, c, b + 9, mm, ?_, hm0, by omega, hP1, fun sp0 hsp H2 s2 hP2 => ?_⟩
    · exact congrArg (fun i : Int => [V.ref p, V.int i]) hmm
    obtain ⟨hBp, hBc⟩ : DB ≠ p ∧ DB ≠ c := (hP.mut (o := .lst []) ⟨hDp, hDc⟩).new hDB
    have hBl2 : H2 DB = some (.lst (nV BL)) := s2 DB _ hBp hBl
    refine ⟨_, rfl, _, rfl, _, rfl, _, rfl, _, rfl, _, _, rfl, rfl, _, rfl, DB, _, rfl, .inl (.inl hBl2), fun pS hpS => ?_⟩
    have hcut := cut_nats BL (sp0 : Int) ((sp0 : Int) + (m : Int)) sp0 m rfl rfl
    obtain ⟨bl, ec, hlen, hsub, hpw2⟩ := hcut
    have hpw3 := hpw2 hpw
    rw [ec]
    have s3 : Same H2 (upd H2 pS (.lst (nV bl))) := same_new hpS
    have hD2 : (upd H2 pS (.lst (nV bl))) D = some (.lst []) := s3 D _ (s2 D _ hDp hD1)
    refine ⟨pS, rfl, ⟨_, .inl (.inl upd_same)⟩, for_it (w_list (xs := nV bl)) (fun i σ H' => (∃ es g x0 z7 z8, σ = [some (V.ref p), some (tx l), some (V.int (m : Int)), some (V.ref D), some (V.int ((g : Nat) : Int)), some (V.ref DB), some (V.int (sp0 : Int)), z7, z8] ∧ es.length = i ∧ CanAll l es ∧ EdL H' D es ∧ (∀ x, x0 ≤ x → g ≤ x ∧ (goAll l es)[x - g]? = l[x]?) ∧ (∀ b' ∈ bl.drop i, x0 ≤ b') ∧ H' pS = some (.lst (nV bl))) ∧ SB p H H' ∧ Press H' p c (b + (m - i)))
      ⟨⟨[], 0, 0, _, _, rfl, rfl, trivial, ⟨[], hD2, .nil⟩, fun x _ => ⟨Nat.zero_le _, rfl⟩, fun _ _ => Nat.zero_le _, upd_same⟩, (sA.trans s2).trans s3.sb, (hP2.same s3).le (by omega)⟩ (fun i σ H' _ q => by obtain ⟨⟨_, _, _, _, _, _, _, _, _, _, _, h⟩, _⟩ := q; exact .inl (.inl h)) ?_ ?_⟩
    · rintro i x σ _ H3 hi ⟨⟨es, g, x0, z7, z8, rfl, hes, hca, ⟨vs, hvs, hat⟩, hinv, hge, hpSl⟩, s4, hP4⟩ ⟨rfl, hx⟩
      obtain ⟨q0, hq0, rfl⟩ := nV_at hx
      have hil : i < bl.length := (List.getElem?_eq_some_iff.mp hq0).1
      have eq0 : bl[i] = q0 := by rw [List.getElem?_eq_getElem hil] at hq0; exact Option.some.inj hq0
      have hq32 : l[q0]? = some 32 := hbl q0 (hsub q0 (List.mem_of_getElem? hq0))
      have hdrop : bl.drop i = q0 :: bl.drop (i + 1) := by rw [List.drop_eq_getElem_cons hil, eq0]
      have hx0 : x0 ≤ q0 := hge q0 (by rw [hdrop]; exact List.mem_cons_self)
      obtain ⟨hgq, hat0⟩ := hinv q0 hx0
      rw [hq32] at hat0
      have hlt : q0 - g < (goAll l es).length := (List.getElem?_eq_some_iff.mp hat0).1
      have hnext : ∀ b' ∈ bl.drop (i + 1), q0 + 1 ≤ b' := fun b' hb' => by
        have h1 : (bl.drop i).Pairwise (· < ·) := hpw3.drop
        rw [hdrop] at h1
        exact (List.pairwise_cons.mp h1).1 b' hb'
      have ecast : (q0 : Int) - (g : Int) = ((q0 - g : Nat) : Int) := by omega
      have hvl := hat.len
      have hpSp : pS ≠ p := (hP2.new hpS).1
      have hpSD : pS ≠ D := fun e => by rw [e, s2 D _ hDp hD1] at hpS; cases hpS
      refine ⟨_, rfl, p, c, b + (m - (i + 1)), 3, rfl, by omega, by omega, hP4.le (by omega), fun k hk H4 s5 hP5 => ⟨_, _, rfl, rfl, decide ((0 : Int) < (k : Int)), rfl, ?_⟩⟩
      have hD4 := s5 D _ hDp hvs
      have hS4 := s5 pS _ hpSp hpSl
      have hat4 : EdAts H4 vs es := hat.ts (ts_sb hP4 s5)
      by_cases hk0 : (0 : Int) < (k : Int)
      · rw [decide_eq_true hk0]
        refine iteT ⟨_, rfl, .inl ⟨rfl, _, .inl (.inl hD4)⟩, _, rfl, _, rfl, _, _, rfl, rfl, by show 2 ≤ sizeLine; decide, fun u hu => ?_⟩
        have s6 : Same H4 (upd H4 u (.tup [.str "lost", .int ((q0 : Int) - (g : Int))])) := same_new hu
        have hu1 : (upd H4 u (.tup [.str "lost", .int ((q0 : Int) - (g : Int))])) u = some (.tup (edV (.lost (q0 - g)))) := by rw [upd_same, ecast] <;> rfl
        have hD5 := s6 D _ hD4
        refine ⟨D, vs, _, rfl, rfl, hD5, lt_line (by omega), _, rfl, _, _, rfl, rfl, ?_⟩
        have hne : D ≠ u := fun e => by rw [e, hu] at hD4; cases hD4
        refine ⟨⟨es ++ [.lost (q0 - g)], g + 1, q0 + 1, _, _, rfl, by rw [List.length_append, hes]; rfl, canAll_snoc es (e := .lost (q0 - g)) hca trivial hlt, ⟨vs ++ [.ref u], upd_same, ((hat4.ts fun t xs e => s6 t _ e).snoc hu1).ts (ts_up hD5 (Same.refl _))⟩, fun x hx => ?_, hnext, ?_⟩, ?_, ?_⟩
        · obtain ⟨h1, h2⟩ := hinv x (by omega)
          refine ⟨by omega, ?_⟩
          rw [goAll_snoc, ← h2]
          show ((goAll l es).take (q0 - g) ++ (goAll l es).drop (q0 - g + 1))[x - (g + 1)]? = _
          rw [List.getElem?_append_right (by rw [List.length_take]; omega), List.getElem?_drop, List.length_take]
          congr 1
          omega
        · rw [upd_ne hpSD]
          exact s6 pS _ hS4
        · exact fun b' u' hb' e' => by
            rw [upd_ne (ne_of_none e' hD)]
            exact s6 b' u' (s5 b' u' hb' (s4 b' u' hb' e'))
        · exact (hP5.same s6).mut ⟨hDp, hDc⟩
      · rw [decide_eq_false hk0]
        refine iteF ⟨_, rfl, .inl ⟨rfl, _, .inl (.inl hD4)⟩, _, rfl, _, rfl, _, _, rfl, rfl, by show 3 ≤ sizeLine; decide, fun u hu => ?_⟩
        have s6 : Same H4 (upd H4 u (.tup [.str "changed", .int ((q0 : Int) - (g : Int)), .str "e"])) := same_new hu
        have hu1 : (upd H4 u (.tup [.str "changed", .int ((q0 : Int) - (g : Int)), .str "e"])) u = some (.tup (edV (.chg (q0 - g) 101))) := by rw [upd_same, ecast] <;> rfl
        have hD5 := s6 D _ hD4
        refine ⟨D, vs, _, rfl, rfl, hD5, lt_line (by omega), ?_⟩
        refine ⟨⟨es ++ [.chg (q0 - g) 101], g, q0 + 1, _, _, rfl, by rw [List.length_append, hes]; rfl, canAll_snoc es (e := .chg (q0 - g) 101) hca (.inr ⟨by decide, by decide⟩) ⟨hlt, by rw [hat0]; decide⟩, ⟨vs ++ [.ref u], upd_same, ((hat4.ts fun t xs e => s6 t _ e).snoc hu1).ts (ts_up hD5 (Same.refl _))⟩, fun x hx => ?_, hnext, ?_⟩, ?_, ?_⟩
        · obtain ⟨h1, h2⟩ := hinv x (by omega)
          refine ⟨h1, ?_⟩
          rw [goAll_snoc, ← h2]
          show ((goAll l es).take (q0 - g) ++ 101 :: (goAll l es).drop (q0 - g + 1))[x - g]? = _
          rw [List.getElem?_append_right (by rw [List.length_take]; omega), List.length_take]
          obtain ⟨d, hd⟩ : ∃ d, x - g - min (q0 - g) (goAll l es).length = d + 1 := ⟨x - g - min (q0 - g) (goAll l es).length - 1, by omega⟩
          rw [hd, List.getElem?_cons_succ, List.getElem?_drop]
          congr 1
          omega
        · rw [upd_ne hpSD]
          exact s6 pS _ hS4
        · exact fun b' u' hb' e' => by
            rw [upd_ne (ne_of_none e' hD)]
            exact s6 b' u' (s5 b' u' hb' (s4 b' u' hb' e'))
        · exact (hP5.same s6).mut ⟨hDp, hDc⟩
    · rintro σ H3 ⟨⟨es, g, x0, z7, z8, rfl, hes, hca, hel, _⟩, s4, hP4⟩
      have hbl2 : (nV bl).length = bl.length := List.length_map ..
      exact ⟨_, rfl, q D es H3 s4 hD hel (by omega) hca (hP4.le (by omega))⟩
end
end K57
set_option Elab.async false
set_option linter.all false
set_option maxRecDepth 100000
set_option maxHeartbeats 4000000
namespace K57
open PySem PySem.Spec PyProof.Rows L2
section
variable {P : Program} {w : World} {K : PySem.W.Frag} {mg : Str → Option Value} {base : Heap}
def sp_is_truth : Sp := fun vs H Q _ => ∃ b, vs = [.bl b] ∧ RetF (.bl true) H Q
abbrev N_is_truth : List Str := ["value"]
abbrev sco_is_truth : Scope := defScope s_is_truth
theorem sc_is_truth : FnScope N_is_truth ["value"] sco_is_truth := ⟨rfl, rfl, rfl, by decide +kernel, rfl, by decide +kernel, by decide +kernel⟩
theorem ok_is_truth (T : Tx K mg) : C8.Cal P w K mg base 1 "is_truth" sp_is_truth [] := by
  refine mkCal T.d_is_truth T.m_is_truth (fun fd F => ⟨[], .nil, F.bindsN fun _ _ _ _ _ _ us hl => match us, hl with | [_], _ => rfl⟩) sc_is_truth (fun vs H Q E h => ?_) (fun cdv A outer s H vs Q E hr h => ?_)
  · obtain ⟨b, rfl, _⟩ := h; rfl
  · obtain ⟨b, rfl, q⟩ := h
    exact ⟨_, (pss_one (ps_ret (pe_callB call_isi (by rfl) T.f_isinstance bb_isinstance (pa_cons (pv 0) (pa_cons (pe_bltn (by rfl) T.f_bool bb_bool (rt "bool")) pa_nil))))), ⟨_, rfl, _, _, _, _, true, rfl, .ty _, .base (.bl _), k_bb, q H (Same.refl _)⟩⟩
def sp_need_that : Sp := fun vs H Q _ => ∃ p, vs = [.bl true, .str p] ∧ RetF .non H Q
abbrev N_need_that : List Str := ["is_right", "part"]
abbrev sco_need_that : Scope := defScope s_need_that
theorem sc_need_that : FnScope N_need_that ["is_right", "part"] sco_need_that := ⟨rfl, rfl, rfl, by decide +kernel, rfl, by decide +kernel, by decide +kernel⟩
theorem ok_need_that (T : Tx K mg) : C8.Cal P w K mg base 1 "need_that" sp_need_that [] := by
  refine mkCal T.d_need_that T.m_need_that (fun fd F => ⟨[], .nil, F.bindsN fun _ _ _ _ _ _ us hl => match us, hl with | [_, _], _ => rfl⟩) sc_need_that (fun vs H Q E h => ?_) (fun cdv A outer s H vs Q E hr h => ?_)
  · obtain ⟨b, rfl, _⟩ := h; rfl
  · obtain ⟨b, rfl, q⟩ := h
    refine ⟨_, (pss_one (ps_if (pt_not (pt_val (pv 0))) (pss_one ps_never) pss_nil)), ?_⟩
    exact ⟨_, rfl, true, rfl, iteF (q H (Same.refl _))⟩
def kvI (cells : List (Int × Int)) : List (Key × V) := cells.map fun p => (.inl p.1, .int p.2)
def LvAt (K : PySem.W.Frag) (H : Hp) (a dx cd sl nu : Addr) (s : Sd) : Prop := H a = some (.ins (He.ga K "Live") dx (lf s cd sl nu)) ∧ H cd = some (.dK (kvI s.cells)) ∧ H sl = some (.lst (s.said.map V.int))
def Fr3 (a cd sl : Addr) (H H2 : Hp) : Prop := ∀ b u, b ≠ a → b ≠ cd → b ≠ sl → H b = some u → H2 b = some u
theorem Fr3.refl (a cd sl : Addr) (H : Hp) : Fr3 a cd sl H H := fun _ _ _ _ _ h => h
theorem Fr3.trans {a cd sl : Addr} {H H1 H2 : Hp} (x : Fr3 a cd sl H H1) (y : Fr3 a cd sl H1 H2) : Fr3 a cd sl H H2 := fun b u h1 h2 h3 h => y b u h1 h2 h3 (x b u h1 h2 h3 h)
theorem _root_.L2.Same.fr3 {a cd sl : Addr} {H H2 : Hp} (s : Same H H2) : Fr3 a cd sl H H2 := fun b u _ _ _ h => s b u h
theorem LvAt.same {H H2 : Hp} {a dx cd sl nu : Addr} {s : Sd} (h : LvAt K H a dx cd sl nu s) (m : Same H H2) : LvAt K H2 a dx cd sl nu s := ⟨m a _ h.1, m cd _ h.2.1, m sl _ h.2.2⟩
theorem lv_put {H : Hp} {a dx cd sl nu : Addr} {s : Sd} (h : LvAt K H a dx cd sl nu s) (s2 : Sd) (e1 : s2.cells = s.cells) (e2 : s2.said = s.said) :
    Fr3 a cd sl H (upd H a (.ins (He.ga K "Live") dx (lf s2 cd sl nu))) ∧ LvAt K (upd H a (.ins (He.ga K "Live") dx (lf s2 cd sl nu))) a dx cd sl nu s2 := by
  obtain ⟨h1, h2, h3⟩ := h
  have n1 : cd ≠ a := fun e => by rw [e, h1] at h2; cases h2
  have n2 : sl ≠ a := fun e => by rw [e, h1] at h3; cases h3
  exact ⟨fun b u hb _ _ e => by rw [upd_ne hb]; exact e, upd_same, by rw [upd_ne n1, e1]; exact h2, by rw [upd_ne n2, e2]; exact h3⟩
/-- sizes that the rules ask -/
structure Sz (s : Sd) : Prop where
  f : s.first.natAbs < 2 ^ 8000
  g : s.second.natAbs < 2 ^ 8000
  c : s.cells.length < 100000
  d : s.said.length < 100000
  h : 0 ≤ s.heard
theorem fr3_nu {K : PySem.W.Frag} {H H2 : Hp} {a dx cd sl nu : Addr} {s : Sd} {xs : List V} (h : LvAt K H a dx cd sl nu s) (f : Fr3 a cd sl H H2) (hn : SqT K H nu xs) : SqT K H2 nu xs := by
  obtain ⟨h1, h2, h3⟩ := h
  rcases hn with (hn | ⟨o, hn⟩) | hn
  · exact .inl (.inl (f nu _ (fun e => by rw [e, h1] at hn; cases hn) (fun e => by rw [e, h2] at hn; cases hn) (fun e => by rw [e, h3] at hn; cases hn) hn))
  · exact .inl (.inr ⟨o, f nu _ (fun e => by rw [e, h1] at hn; cases hn) (fun e => by rw [e, h2] at hn; cases hn) (fun e => by rw [e, h3] at hn; cases hn) hn⟩)
  · exact .inr hn
abbrev RetL (K : PySem.W.Frag) (a dx cd sl nu : Addr) (s : Sd) (H : Hp) (Q : VK) : Prop := ∀ H2, Fr3 a cd sl H H2 → LvAt K H2 a dx cd sl nu s → Q .non H2
theorem kv_get : ∀ (cells : List (Int × Int)) (k : Int), ((valV (kvI cells) (.inl k : Key)).getD (.int 0)) = .int (cGet cells k)
  | [], k => rfl
  | p :: r, k => by
    have ih := kv_get r k
    unfold cGet at ih ⊢
    by_cases h : p.1 = k
    · subst h
      show (valV ((Sum.inl p.1, V.int p.2) :: kvI r) _).getD _ = _
      rw [valV_pos rfl]
      simp
    · show (valV ((Sum.inl p.1, V.int p.2) :: kvI r) _).getD _ = _
      rw [valV_neg (fun e => h (Sum.inl.inj e)), ih]
      simp [h]
theorem kv_put (cells : List (Int × Int)) (k v : Int) : putK (kvI cells) (.inl k : Key) (.int v) = kvI (cPut cells k v) := by
  have e : ∀ l : List (Int × Int), ((kvI l).any fun kv => decide (kv.1 = (.inl k : Key))) = l.any fun p => decide (p.1 = k) := by
    intro l
    induction l with
    | nil => rfl
    | cons p r ih =>
      unfold kvI at ih ⊢
      rw [List.map_cons, List.any_cons, List.any_cons, ih]
      congr 1
      by_cases h : p.1 = k <;> simp [h]
  unfold putK cPut
  rw [e]
  by_cases h : (cells.any fun p => decide (p.1 = k)) = true
  · rw [if_pos h, if_pos h]
    unfold kvI
    rw [List.map_map, List.map_map]
    refine List.map_congr_left fun p _ => ?_
    by_cases hp : p.1 = k <;> simp [hp]
  · rw [if_neg h, if_neg h]
    unfold kvI
    rw [List.map_append] <;> rfl
theorem dn_t {n k : Int} (h : n = k) : decide (V.int n = V.int k) = true := decide_eq_true (by rw [h])
theorem dn_f {n k : Int} (h : ¬ n = k) : decide (V.int n = V.int k) = false := decide_eq_false fun e => h (V.int.inj e)
def sp_hear (K : PySem.W.Frag) : Sp := fun vs H Q _ => ∃ a dx cd sl nu s, ∃ hs : List Int, vs = [.ref a] ∧ LvAt K H a dx cd sl nu s ∧ SqT K H nu (hs.map V.int) ∧ 0 ≤ s.heard ∧ RetL K a dx cd sl nu (hearS hs s) H Q
abbrev N_hear : List Str := ["live"]
abbrev sco_hear : Scope := defScope s_hear
theorem sc_hear : FnScope N_hear ["live"] sco_hear := ⟨rfl, rfl, rfl, by decide +kernel, rfl, by decide +kernel, by decide +kernel⟩
theorem ok_hear (T : Tx K mg) : C8.Cal P w K mg base 1 "hear" (sp_hear K) [] := by
  refine mkCal T.d_hear T.m_hear (fun fd F => ⟨[], .nil, F.bindsN fun _ _ _ _ _ _ us hl => match us, hl with | [_], _ => rfl⟩) sc_hear (fun vs H Q E h => ?_) (fun cdv A outer s H vs Q E hr h => ?_)
  · obtain ⟨a, dx, cd, sl, nu, s, hs, rfl, _⟩ := h; rfl
  · obtain ⟨a, dx, cd, sl, nu, s, hs, rfl, hL, hnu, h0, q⟩ := h
    obtain ⟨ha, hc, hl⟩ := id hL
    refine ⟨_, (pss_cons (ps_fld (pv 0) pe_int rfl)
      (pss_one (ps_if (pt_cmpR op_lt (pe_fldK (K := K) rfl (pv 0) rfl) (pe_callB (call_len_seqK (K := K) rfl) (by rfl) T.f_len bb_len (pa_cons (pe_fldK (K := K) rfl (pv 0) rfl) pa_nil)) (nomark _)) (pss_cons (ps_fld (pv 0) (pe_ix (ix_tupK (K := K) rfl) (pe_fldK (K := K) rfl (pv 0) rfl) (pe_fldK (K := K) rfl (pv 0) rfl) (fun _ _ => rfl)) rfl)
      (pss_one (ps_fld (pv 0) (pe_op op_add (pe_fldK (K := K) rfl (pv 0) rfl) pe_int) rfl))) pss_nil))), ?_⟩
    refine ⟨_, rfl, a, _, dx, _, rfl, ha, T.k_Live, T.n_Live_first, (by show 13 < 1000; decide), ?_⟩
    obtain ⟨f1, L1⟩ := lv_put hL { s with first := 0 } rfl rfl
    rw [p_first]
    have hnu1 := fr3_nu hL f1 hnu
    generalize (upd H a (HO.ins (He.ga K "Live") dx (lf { s with first := 0 } cd sl nu))) = H1 at *
    obtain ⟨ha1, hc1, hl1⟩ := id L1
    refine ⟨_, rfl, a, _, dx, _, _, rfl, ha1, T.k_Live, T.n_Live_heard, l_heard _ cd sl nu, _, rfl, a, _, dx, _, _, rfl, ha1, T.k_Live, T.n_Live_numbers, l_numbers _ cd sl nu, nu, _, rfl, .inr hnu1, _, _, rfl, rfl, decide (s.heard < ((hs.map V.int).length : Int)), rfl, ?_⟩
    by_cases hlt : s.heard < (hs.length : Int)
    · rw [decide_eq_true (by rw [List.length_map]; exact hlt)]
      have ei : s.heard = ((s.heard.toNat : Nat) : Int) := by omega
      have hi : s.heard.toNat < hs.length := by omega
      refine iteT ⟨_, rfl, a, _, dx, _, _, rfl, ha1, T.k_Live, T.n_Live_numbers, l_numbers _ cd sl nu, _, rfl, a, _, dx, _, _, rfl, ha1, T.k_Live, T.n_Live_heard, l_heard _ cd sl nu, nu, _, s.heard, .int (hs.getD s.heard.toNat 0), rfl, rfl, hnu1, (congrArg (atI _) ei).trans (atI_nat (by rw [List.getElem?_map, List.getElem?_eq_getElem hi, List.getD_eq_getElem?_getD, List.getElem?_eq_getElem hi] <;> rfl)), _, rfl, a, _, dx, _, rfl, ha1, T.k_Live, T.n_Live_first, (by show 13 < 1000; decide), ?_⟩
      obtain ⟨f2, L2'⟩ := lv_put L1 { s with first := hs.getD s.heard.toNat 0 } rfl rfl
      rw [p_first]
      obtain ⟨ha2, hc2, hl2⟩ := id L2'
      refine ⟨_, rfl, a, _, dx, _, _, rfl, ha2, T.k_Live, T.n_Live_heard, l_heard _ cd sl nu, _, _, rfl, rfl, _, rfl, a, _, dx, _, rfl, ha2, T.k_Live, T.n_Live_heard, (by show 13 < 1000; decide), ?_⟩
      obtain ⟨f3, L3⟩ := lv_put L2' { s with first := hs.getD s.heard.toNat 0, heard := s.heard + 1 } rfl rfl
      rw [p_heard]
      have e : hearS hs s = { s with first := hs.getD s.heard.toNat 0, heard := s.heard + 1 } := by unfold hearS; rw [if_pos hlt]
      rw [e] at q
      exact q _ ((f1.trans f2).trans f3) L3
    · rw [decide_eq_false (by rw [List.length_map]; exact hlt)]
      have e : hearS hs s = { s with first := 0 } := by unfold hearS; rw [if_neg hlt]
      rw [e] at q
      exact iteF (q _ f1 L1)
def sp_reckon (K : PySem.W.Frag) : Sp := fun vs H Q _ => ∃ a dx cd sl nu s, ∃ n : Nat, vs = [.ref a, .int n] ∧ LvAt K H a dx cd sl nu s ∧ Sz s ∧ 4 ≤ n ∧ n ≤ 8 ∧ RetL K a dx cd sl nu (reckonS s n) H Q
abbrev N_reckon : List Str := ["live", "number"]
abbrev sco_reckon : Scope := defScope s_reckon
theorem sc_reckon : FnScope N_reckon ["live", "number"] sco_reckon := ⟨rfl, rfl, rfl, by decide +kernel, rfl, by decide +kernel, by decide +kernel⟩
theorem ok_reckon (T : Tx K mg) : C8.Cal P w K mg base 1 "reckon" (sp_reckon K) [] := by
  refine mkCal T.d_reckon T.m_reckon (fun fd F => ⟨[], .nil, F.bindsN fun _ _ _ _ _ _ us hl => match us, hl with | [_, _], _ => rfl⟩) sc_reckon (fun vs H Q E h => ?_) (fun cdv A outer s H vs Q E hr h => ?_)
  · obtain ⟨a, dx, cd, sl, nu, s, n, rfl, _⟩ := h; rfl
  · obtain ⟨a, dx, cd, sl, nu, s, n, rfl, hL, hz, h4, h8, q⟩ := h
    obtain ⟨ha, hc, hl⟩ := id hL
    refine ⟨_, (pss_one (ps_if (pt_cmpR op_eq (pv 1) (C8.pe_gc (by rfl) T.g_AUGMENT) (nomark _)) (pss_one (ps_fld (pv 0) (pe_op op_add (pe_fldK (K := K) rfl (pv 0) rfl) (pe_fldK (K := K) rfl (pv 0) rfl)) rfl)) (pss_one (ps_if (pt_cmpR op_eq (pv 1) (C8.pe_gc (by rfl) T.g_LESSEN) (nomark _)) (pss_one (ps_fld (pv 0) (pe_op op_sub (pe_fldK (K := K) rfl (pv 0) rfl) (pe_fldK (K := K) rfl (pv 0) rfl)) rfl)) (pss_one (ps_if (pt_cmpR op_eq (pv 1) (C8.pe_gc (by rfl) T.g_MULTIPLY) (nomark _)) (pss_one (ps_fld (pv 0) (pe_op op_mulW (pe_fldK (K := K) rfl (pv 0) rfl) (pe_fldK (K := K) rfl (pv 0) rfl)) rfl)) (pss_one (ps_if (pt_cmpR op_eq (pv 1) (C8.pe_gc (by rfl) T.g_PORTION) (nomark _)) (pss_one (ps_fld (pv 0) (pe_ifExp (pt_cmpR op_ne (pe_fldK (K := K) rfl (pv 0) rfl) pe_int (nomark _)) (pe_op op_fdivX (pe_fldK (K := K) rfl (pv 0) rfl) (pe_fldK (K := K) rfl (pv 0) rfl)) pe_int) rfl)) (pss_one (ps_asg (pe_tup (pa_cons (pe_fldK (K := K) rfl (pv 0) rfl) (pa_cons (pe_fldK (K := K) rfl (pv 0) rfl) pa_nil))) (pg_tupK (K := K) (n := 2) rfl rfl (pgs_cons (pg_attr (K := K) rfl (pv 0)) (pgs_cons (pg_attr (K := K) rfl (pv 0)) pgs_nil))))))))))))), ?_⟩
    refine ⟨_, rfl, rfl, decide (V.int (n : Int) = V.int 4), rfl, ?_⟩
    by_cases h4 : n = 4
    · rw [dn_t (n := (n : Int)) (k := 4) (by omega)]
      have e : reckonS s n = { s with first := s.first + s.second } := by subst_vars; rfl
      rw [e] at q
      refine iteT ⟨_, rfl, a, _, dx, _, _, rfl, ha, T.k_Live, T.n_Live_first, l_first s cd sl nu, _, rfl, a, _, dx, _, _, rfl, ha, T.k_Live, T.n_Live_second, l_second s cd sl nu, _, _, rfl, rfl, _, rfl, a, _, dx, _, rfl, ha, T.k_Live, T.n_Live_first, (by show 13 < 1000; decide), ?_⟩
      obtain ⟨f1, L1⟩ := lv_put hL ({ s with first := s.first + s.second }) rfl rfl
      rw [p_first]
      exact q _ f1 L1
    rw [dn_f (n := (n : Int)) (k := 4) (by omega)]
    refine iteF ?_
    refine ⟨_, rfl, rfl, decide (V.int (n : Int) = V.int 5), rfl, ?_⟩
    by_cases h5 : n = 5
    · rw [dn_t (n := (n : Int)) (k := 5) (by omega)]
      have e : reckonS s n = { s with first := s.first - s.second } := by subst_vars; rfl
      rw [e] at q
      refine iteT ⟨_, rfl, a, _, dx, _, _, rfl, ha, T.k_Live, T.n_Live_first, l_first s cd sl nu, _, rfl, a, _, dx, _, _, rfl, ha, T.k_Live, T.n_Live_second, l_second s cd sl nu, _, _, rfl, rfl, _, rfl, a, _, dx, _, rfl, ha, T.k_Live, T.n_Live_first, (by show 13 < 1000; decide), ?_⟩
      obtain ⟨f1, L1⟩ := lv_put hL ({ s with first := s.first - s.second }) rfl rfl
      rw [p_first]
      exact q _ f1 L1
    rw [dn_f (n := (n : Int)) (k := 5) (by omega)]
    refine iteF ?_
    refine ⟨_, rfl, rfl, decide (V.int (n : Int) = V.int 6), rfl, ?_⟩
    by_cases h6 : n = 6
    · rw [dn_t (n := (n : Int)) (k := 6) (by omega)]
      have e : reckonS s n = { s with first := s.first * s.second } := by subst_vars; rfl
      rw [e] at q
      refine iteT ⟨_, rfl, a, _, dx, _, _, rfl, ha, T.k_Live, T.n_Live_first, l_first s cd sl nu, _, rfl, a, _, dx, _, _, rfl, ha, T.k_Live, T.n_Live_second, l_second s cd sl nu, _, _, rfl, rfl, wide_mul hz.f hz.g (by decide) (by decide) (by decide), _, rfl, a, _, dx, _, rfl, ha, T.k_Live, T.n_Live_first, (by show 13 < 1000; decide), ?_⟩
      obtain ⟨f1, L1⟩ := lv_put hL ({ s with first := s.first * s.second }) rfl rfl
      rw [p_first]
      exact q _ f1 L1
    rw [dn_f (n := (n : Int)) (k := 6) (by omega)]
    refine iteF ?_
    refine ⟨_, rfl, rfl, decide (V.int (n : Int) = V.int 7), rfl, ?_⟩
    by_cases h7 : n = 7
    · rw [dn_t (n := (n : Int)) (k := 7) (by omega)]
      have e : reckonS s n = { s with first := if s.second = 0 then 0 else s.first.fdiv s.second } := by subst_vars; rfl
      rw [e] at q
      refine iteT ⟨_, rfl, a, _, dx, _, _, rfl, ha, T.k_Live, T.n_Live_second, l_second s cd sl nu, rfl, !decide (V.int s.second = V.int 0), rfl, ?_⟩
      by_cases h0 : s.second = 0
      · rw [decide_eq_true (show V.int s.second = V.int 0 by rw [h0])]
        rw [if_pos h0] at q
        refine iteF ⟨_, rfl, a, _, dx, _, rfl, ha, T.k_Live, T.n_Live_first, (by show 13 < 1000; decide), ?_⟩
        obtain ⟨f1, L1⟩ := lv_put hL { s with first := 0 } rfl rfl
        rw [p_first]
        exact q _ f1 L1
      · rw [decide_eq_false (show ¬ V.int s.second = V.int 0 from fun e => h0 (V.int.inj e))]
        rw [if_neg h0] at q
        refine iteT ⟨_, rfl, a, _, dx, _, _, rfl, ha, T.k_Live, T.n_Live_first, l_first s cd sl nu, _, rfl, a, _, dx, _, _, rfl, ha, T.k_Live, T.n_Live_second, l_second s cd sl nu, _, _, rfl, rfl, ⟨h0, Nat.lt_of_lt_of_le (PySem.Flt.log2_lt_of (by decide) hz.g) (by decide)⟩, _, rfl, a, _, dx, _, rfl, ha, T.k_Live, T.n_Live_first, (by show 13 < 1000; decide), ?_⟩
        obtain ⟨f1, L1⟩ := lv_put hL { s with first := s.first.fdiv s.second } rfl rfl
        rw [p_first]
        exact q _ f1 L1
    rw [dn_f (n := (n : Int)) (k := 7) (by omega)]
    have h8' : n = 8 := by omega
    have e : reckonS s n = { s with first := s.second, second := s.first } := by subst_vars; rfl
    rw [e] at q
    refine iteF ⟨_, rfl, a, _, dx, _, _, rfl, ha, T.k_Live, T.n_Live_second, l_second s cd sl nu, _, rfl, a, _, dx, _, _, rfl, ha, T.k_Live, T.n_Live_first, l_first s cd sl nu, by show 2 ≤ sizeLine; decide, fun p hp => ?_⟩
    have s1 : Same H (upd H p (.tup [.int s.second, .int s.first])) := same_new hp
    have L0 := hL.same s1
    have hT : SqT K (upd H p (.tup [.int s.second, .int s.first])) p [.int s.second, .int s.first] := .inl (.inl upd_same)
    generalize upd H p (.tup [.int s.second, .int s.first]) = H1 at *
    obtain ⟨ha1, hc1, hl1⟩ := id L0
    refine ⟨p, _, rfl, hT, rfl, _, _, rfl, _, rfl, a, _, dx, _, rfl, ha1, T.k_Live, T.n_Live_first, (by show 13 < 1000; decide), ?_⟩
    obtain ⟨f1, L1⟩ := lv_put L0 { s with first := s.second } rfl rfl
    rw [p_first]
    obtain ⟨ha2, hc2, hl2⟩ := id L1
    refine ⟨_, _, rfl, _, rfl, a, _, dx, _, rfl, ha2, T.k_Live, T.n_Live_second, (by show 13 < 1000; decide), rfl, ?_⟩
    obtain ⟨f2, L2'⟩ := lv_put L1 { s with first := s.second, second := s.first } rfl rfl
    rw [p_second]
    exact q _ ((s1.fr3.trans f1).trans f2) L2'
def sp_do_flagged (K : PySem.W.Frag) : Sp := fun vs H Q _ => ∃ a dx cd sl nu s hs, ∃ n : Nat, vs = [.ref a, .int n] ∧ LvAt K H a dx cd sl nu s ∧ SqT K H nu (hs.map V.int) ∧ Sz s ∧ 4 ≤ n ∧ n ≤ 19 ∧ RetL K a dx cd sl nu (flaggedS hs s n) H Q
abbrev N_do_flagged : List Str := ["live", "number"]
abbrev sco_do_flagged : Scope := defScope s_do_flagged
theorem sc_do_flagged : FnScope N_do_flagged ["live", "number"] sco_do_flagged := ⟨rfl, rfl, rfl, by decide +kernel, rfl, by decide +kernel, by decide +kernel⟩
theorem ok_do_flagged (T : Tx K mg) : C8.Cal P w K mg base 2 "do_flagged" (sp_do_flagged K) [] := by
  have c_reckon : C8.Cal P w K mg base 1 "reckon" (sp_reckon K) [] := ok_reckon T
  have c_hear : C8.Cal P w K mg base 1 "hear" (sp_hear K) [] := ok_hear T
  refine mkCal T.d_do_flagged T.m_do_flagged (fun fd F => ⟨[], .nil, F.bindsN fun _ _ _ _ _ _ us hl => match us, hl with | [_, _], _ => rfl⟩) sc_do_flagged (fun vs H Q E h => ?_) (fun cdv A outer s H vs Q E hr h => ?_)
  · obtain ⟨a, dx, cd, sl, nu, s, hs, n, rfl, _⟩ := h; rfl
  · obtain ⟨a, dx, cd, sl, nu, s, hs, n, rfl, hL, hnu, hz, h4, h19, q⟩ := h
    obtain ⟨ha, hc, hl⟩ := id hL
    refine ⟨_, (pss_one (ps_if (pt_cmpR op_le (pv 1) (C8.pe_gc (by rfl) T.g_EXCHANGE) (nomark _)) (pss_one (ps_expr (C8.pe_c c_reckon hr (by decide) (by rfl) (pa_cons (pv 0) (pa_cons (pv 1) pa_nil))))) (pss_one (ps_if (pt_cmpR op_eq (pv 1) (C8.pe_gc (by rfl) T.g_INQUIRE) (nomark _)) (pss_one (ps_expr (C8.pe_c c_hear hr (by decide) (by rfl) (pa_cons (pv 0) pa_nil)))) (pss_one (ps_if (pt_cmpR op_eq (pv 1) (C8.pe_gc (by rfl) T.g_PROCLAIM) (nomark _)) (pss_one (ps_expr (pe_bmK (K := K) rfl PySem.F.plainAttrs_list PySem.F.slot_list_append PySem.F.type_list_append mt_append (pe_fldK (K := K) rfl (pv 0) rfl) (pa_cons (pe_fldK (K := K) rfl (pv 0) rfl) pa_nil)))) (pss_one (ps_if (pt_cmpR op_eq (pv 1) (C8.pe_gc (by rfl) T.g_OBTAIN) (nomark _)) (pss_one (ps_fld (pv 0) (pe_dget2 (hu_of hr) (pe_fldK (K := K) rfl (pv 0) rfl) (pe_fldK (K := K) rfl (pv 0) rfl) pe_int (by constructor <;> intros <;> rfl)) rfl)) (pss_one (ps_fld (pv 0) (pe_op op_sub (pe_op op_add (pe_op op_mul (C8.pe_gc (by rfl) T.g_EIGHT) (pe_fldK (K := K) rfl (pv 0) rfl)) (pv 1)) (C8.pe_gc (by rfl) T.g_CIPHER)) rfl)))))))))), ?_⟩
    refine ⟨_, rfl, _, _, rfl, rfl, decide ((n : Int) ≤ 8), rfl, ?_⟩
    unfold flaggedS at q
    by_cases h8 : n ≤ 8
    · rw [decide_eq_true (by omega)]
      rw [if_pos h8] at q
      exact iteT ⟨_, rfl, _, rfl, a, dx, cd, sl, nu, s, n, rfl, hL, hz, h4, h8, q⟩
    rw [decide_eq_false (by omega)]
    rw [if_neg h8] at q
    refine iteF ?_
    refine ⟨_, rfl, rfl, decide (V.int (n : Int) = V.int 9), rfl, ?_⟩
    by_cases h9 : n = 9
    · rw [dn_t (n := (n : Int)) (k := 9) (by omega)]
      rw [if_pos h9] at q
      exact iteT ⟨_, rfl, a, dx, cd, sl, nu, s, hs, rfl, hL, hnu, hz.h, q⟩
    rw [dn_f (n := (n : Int)) (k := 9) (by omega)]
    rw [if_neg h9] at q
    refine iteF ?_
    refine ⟨_, rfl, rfl, decide (V.int (n : Int) = V.int 10), rfl, ?_⟩
    by_cases h10 : n = 10
    · rw [dn_t (n := (n : Int)) (k := 10) (by omega)]
      rw [if_pos h10] at q
      refine iteT ⟨_, rfl, a, _, dx, _, _, rfl, ha, T.k_Live, T.n_Live_said, l_said s cd sl nu, .inl ⟨rfl, _, .inl (.inl hl)⟩, _, rfl, a, _, dx, _, _, rfl, ha, T.k_Live, T.n_Live_first, l_first s cd sl nu, sl, _, _, rfl, rfl, hl, lt_line (by rw [List.length_map]; have := hz.d; omega), ?_⟩
      have n1 : a ≠ sl := fun e => by rw [← e, ha] at hl; cases hl
      have n2 : cd ≠ sl := fun e => by rw [← e, hc] at hl; cases hl
      refine q _ (fun b u _ _ hb e => by rw [upd_ne hb]; exact e) ⟨by rw [upd_ne n1]; exact ha, by rw [upd_ne n2]; exact hc, ?_⟩
      rw [upd_same, List.map_append] <;> rfl
    rw [dn_f (n := (n : Int)) (k := 10) (by omega)]
    rw [if_neg h10] at q
    refine iteF ?_
    refine ⟨_, rfl, rfl, decide (V.int (n : Int) = V.int 11), rfl, ?_⟩
    by_cases h11 : n = 11
    · rw [dn_t (n := (n : Int)) (k := 11) (by omega)]
      rw [if_pos h11] at q
      refine iteT ⟨_, rfl, a, _, dx, _, _, rfl, ha, T.k_Live, T.n_Live_cells, l_cells s cd sl nu, cd, rfl, .inl ⟨_, .inl hc⟩, _, rfl, a, _, dx, _, _, rfl, ha, T.k_Live, T.n_Live_first, l_first s cd sl nu, _, DGet.k (k := .inl s.first) hc, _, rfl, a, _, dx, _, rfl, ha, T.k_Live, T.n_Live_first, (by show 13 < 1000; decide), ?_⟩
      rw [kv_get]
      obtain ⟨f1, L1⟩ := lv_put hL { s with first := cGet s.cells s.first } rfl rfl
      rw [p_first]
      exact q _ f1 L1
    rw [dn_f (n := (n : Int)) (k := 11) (by omega)]
    rw [if_neg h11] at q
    refine iteF ⟨_, rfl, a, _, dx, _, _, rfl, ha, T.k_Live, T.n_Live_first, l_first s cd sl nu, _, _, rfl, rfl, .inl ⟨by decide, by decide⟩, _, rfl, _, _, rfl, rfl, _, _, rfl, rfl, _, rfl, a, _, dx, _, rfl, ha, T.k_Live, T.n_Live_first, (by show 13 < 1000; decide), ?_⟩
    obtain ⟨f1, L1⟩ := lv_put hL { s with first := 8 * s.first + n - 12 } rfl rfl
    rw [p_first]
    exact q _ f1 L1
def sp_go (K : PySem.W.Frag) : Sp := fun vs H Q _ => ∃ a dx cd sl nu s, vs = [.ref a] ∧ LvAt K H a dx cd sl nu s ∧ RetL K a dx cd sl nu (goS s) H Q
abbrev N_go : List Str := ["live"]
abbrev sco_go : Scope := defScope s_go
theorem sc_go : FnScope N_go ["live"] sco_go := ⟨rfl, rfl, rfl, by decide +kernel, rfl, by decide +kernel, by decide +kernel⟩
theorem ok_go (T : Tx K mg) : C8.Cal P w K mg base 1 "go" (sp_go K) [] := by
  refine mkCal T.d_go T.m_go (fun fd F => ⟨[], .nil, F.bindsN fun _ _ _ _ _ _ us hl => match us, hl with | [_], _ => rfl⟩) sc_go (fun vs H Q E h => ?_) (fun cdv A outer s H vs Q E hr h => ?_)
  · obtain ⟨a, dx, cd, sl, nu, s, rfl, _⟩ := h; rfl
  · obtain ⟨a, dx, cd, sl, nu, s, rfl, hL, q⟩ := h
    obtain ⟨ha, hc, hl⟩ := id hL
    refine ⟨_, (pss_one (ps_if (PW.pt (pw_or (pt_cmpR op_eq (pe_fldK (K := K) rfl (pv 0) rfl) (C8.pe_gc (by rfl) T.g_ANYWAY_MODE) (nomark _)) (pw_or1 (pt_cmpR op_eq (pe_fldK (K := K) rfl (pv 0) rfl) (pe_cmpR op_eq (pe_fldK (K := K) rfl (pv 0) rfl) pe_int (nomark _)) (nomark _))))) (pss_one (ps_fld (pv 0) (pe_fldK (K := K) rfl (pv 0) rfl) rfl)) pss_nil)), ?_⟩
    have yes : (s.mode = 2 ∨ s.test = decide (s.mode = 0)) → sFld K (tVar 0) (tFld K (tVar 0) "first") "room" { nx := fun x H' => Q V.non H', rt := Q } (L2.start N_go [V.ref a]) H := fun hy => by
      have e : goS s = { s with room := s.first } := by unfold goS; rw [if_pos hy]
      rw [e] at q
      refine ⟨_, rfl, a, _, dx, _, _, rfl, ha, T.k_Live, T.n_Live_first, l_first s cd sl nu, _, rfl, a, _, dx, _, rfl, ha, T.k_Live, T.n_Live_room, (by show 13 < 1000; decide), ?_⟩
      obtain ⟨f1, L1⟩ := lv_put hL { s with room := s.first } rfl rfl
      rw [p_room]
      exact q _ f1 L1
    refine ⟨_, rfl, a, _, dx, _, _, rfl, ha, T.k_Live, T.n_Live_mode, l_mode s cd sl nu, rfl, decide (V.int s.mode = V.int 2), rfl, ?_⟩
    by_cases h2 : s.mode = 2
    · rw [decide_eq_true (show V.int s.mode = V.int 2 by rw [h2])]
      exact iteT (iteT (yes (.inl h2)))
    rw [decide_eq_false (show ¬ V.int s.mode = V.int 2 from fun e => h2 (V.int.inj e))]
    refine iteF ⟨_, rfl, a, _, dx, _, _, rfl, ha, T.k_Live, T.n_Live_test, l_test s cd sl nu, _, rfl, a, _, dx, _, _, rfl, ha, T.k_Live, T.n_Live_mode, l_mode s cd sl nu, rfl, rfl, decide (V.bl s.test = V.bl (decide (V.int s.mode = V.int 0))), rfl, ?_⟩
    have em : decide (V.int s.mode = V.int 0) = decide (s.mode = 0) := by
      by_cases h : s.mode = 0
      · rw [decide_eq_true h, decide_eq_true (show V.int s.mode = V.int 0 by rw [h])]
      · rw [decide_eq_false h, decide_eq_false (show ¬ V.int s.mode = V.int 0 from fun e => h (V.int.inj e))]
    rw [em]
    by_cases h3 : s.test = decide (s.mode = 0)
    · rw [decide_eq_true (show V.bl s.test = V.bl (decide (s.mode = 0)) by rw [← h3])]
      exact iteT (yes (.inr h3))
    · rw [decide_eq_false (show ¬ V.bl s.test = V.bl (decide (s.mode = 0)) from fun e => h3 (V.bl.inj e))]
      have e : goS s = s := by unfold goS; rw [if_neg (by intro h; rcases h with h | h; exact h2 h; exact h3 h)]
      rw [e] at q
      exact iteF (q H (Fr3.refl _ _ _ _) hL)
def sp_do_plain (K : PySem.W.Frag) : Sp := fun vs H Q _ => ∃ a dx cd sl nu s, ∃ n : Nat, vs = [.ref a, .int n] ∧ LvAt K H a dx cd sl nu s ∧ Sz s ∧ 20 ≤ n ∧ n ≤ 29 ∧ RetL K a dx cd sl nu (plainS s n) H Q
abbrev N_do_plain : List Str := ["live", "number"]
abbrev sco_do_plain : Scope := defScope s_do_plain
theorem sc_do_plain : FnScope N_do_plain ["live", "number"] sco_do_plain := ⟨rfl, rfl, rfl, by decide +kernel, rfl, by decide +kernel, by decide +kernel⟩
theorem ok_do_plain (T : Tx K mg) : C8.Cal P w K mg base 2 "do_plain" (sp_do_plain K) [] := by
  have c_go : C8.Cal P w K mg base 1 "go" (sp_go K) [] := ok_go T
  refine mkCal T.d_do_plain T.m_do_plain (fun fd F => ⟨[], .nil, F.bindsN fun _ _ _ _ _ _ us hl => match us, hl with | [_, _], _ => rfl⟩) sc_do_plain (fun vs H Q E h => ?_) (fun cdv A outer s H vs Q E hr h => ?_)
  · obtain ⟨a, dx, cd, sl, nu, s, n, rfl, _⟩ := h; rfl
  · obtain ⟨a, dx, cd, sl, nu, s, n, rfl, hL, hz, h20, h29, q⟩ := h
    obtain ⟨ha, hc, hl⟩ := id hL
    refine ⟨_, (pss_one (ps_if (pt_cmpR op_eq (pv 1) (C8.pe_gc (by rfl) T.g_NOTHING) (nomark _)) (pss_one (ps_fld (pv 0) pe_int rfl)) (pss_one (ps_if (pt_cmpR op_eq (pv 1) (C8.pe_gc (by rfl) T.g_DUPLICATE) (nomark _)) (pss_one (ps_fld (pv 0) (pe_fldK (K := K) rfl (pv 0) rfl) rfl)) (pss_one (ps_if (pt_cmpR op_eq (pv 1) (C8.pe_gc (by rfl) T.g_DEPOSIT) (nomark _)) (pss_one (ps_dput (hu_of hr) (pe_fldK (K := K) rfl (pv 0) rfl) (pe_fldK (K := K) rfl (pv 0) rfl) (pe_fldK (K := K) rfl (pv 0) rfl) rfl)) (pss_one (ps_if (pt_cmpR op_eq (pv 1) (C8.pe_gc (by rfl) T.g_WHETHER) (nomark _)) (pss_one (ps_fld (pv 0) (pe_cmpR op_eq (pe_fldK (K := K) rfl (pv 0) rfl) pe_int (nomark _)) rfl)) (pss_one (ps_if (pt_cmpR op_eq (pv 1) (C8.pe_gc (by rfl) T.g_NEGATIVE) (nomark _)) (pss_one (ps_fld (pv 0) (pe_cmpR op_lt (pe_fldK (K := K) rfl (pv 0) rfl) pe_int (nomark _)) rfl)) (pss_one (ps_if (pt_cmpR op_lt (pv 1) (C8.pe_gc (by rfl) T.g_JOURNEY) (nomark _)) (pss_one (ps_fld (pv 0) (pe_op op_sub (pv 1) (C8.pe_gc (by rfl) T.g_GRANTED)) rfl)) (pss_one (ps_if (pt_cmpR op_eq (pv 1) (C8.pe_gc (by rfl) T.g_JOURNEY) (nomark _)) (pss_one (ps_expr (C8.pe_c c_go hr (by decide) (by rfl) (pa_cons (pv 0) pa_nil)))) (pss_one (ps_fld (pv 0) pe_bl rfl)))))))))))))))), ?_⟩
    refine ⟨_, rfl, rfl, decide (V.int (n : Int) = V.int 20), rfl, ?_⟩
    by_cases h20' : n = 20
    · rw [dn_t (n := (n : Int)) (k := 20) (by omega)]
      have e : plainS s n = { s with first := 0 } := by subst_vars; rfl
      rw [e] at q
      refine iteT ⟨_, rfl, a, _, dx, _, rfl, ha, T.k_Live, T.n_Live_first, (by show 13 < 1000; decide), ?_⟩
      obtain ⟨f1, L1⟩ := lv_put hL ({ s with first := 0 }) rfl rfl
      rw [p_first]
      exact q _ f1 L1
    rw [dn_f (n := (n : Int)) (k := 20) (by omega)]
    refine iteF ?_
    refine ⟨_, rfl, rfl, decide (V.int (n : Int) = V.int 21), rfl, ?_⟩
    by_cases h21 : n = 21
    · rw [dn_t (n := (n : Int)) (k := 21) (by omega)]
      have e : plainS s n = { s with second := s.first } := by subst_vars; rfl
      rw [e] at q
      refine iteT ⟨_, rfl, a, _, dx, _, _, rfl, ha, T.k_Live, T.n_Live_first, l_first s cd sl nu, _, rfl, a, _, dx, _, rfl, ha, T.k_Live, T.n_Live_second, (by show 13 < 1000; decide), ?_⟩
      obtain ⟨f1, L1⟩ := lv_put hL ({ s with second := s.first }) rfl rfl
      rw [p_second]
      exact q _ f1 L1
    rw [dn_f (n := (n : Int)) (k := 21) (by omega)]
    refine iteF ?_
    refine ⟨_, rfl, rfl, decide (V.int (n : Int) = V.int 22), rfl, ?_⟩
    by_cases h22 : n = 22
    · rw [dn_t (n := (n : Int)) (k := 22) (by omega)]
      have e : plainS s n = { s with cells := cPut s.cells s.second s.first } := by subst_vars; rfl
      rw [e] at q
      refine iteT ⟨_, rfl, a, _, dx, _, _, rfl, ha, T.k_Live, T.n_Live_first, l_first s cd sl nu, _, rfl, a, _, dx, _, _, rfl, ha, T.k_Live, T.n_Live_cells, l_cells s cd sl nu, _, rfl, a, _, dx, _, _, rfl, ha, T.k_Live, T.n_Live_second, l_second s cd sl nu, cd, _, rfl, DPut.k (k := .inl s.second) hc (lt_line (by unfold kvI; rw [List.length_map]; have := hz.c; omega)), ?_⟩
      have n1 : a ≠ cd := fun e => by rw [← e, ha] at hc; cases hc
      have n2 : sl ≠ cd := fun e => by rw [← e, hl] at hc; cases hc
      refine q _ (fun b u _ hb _ e => by rw [upd_ne hb]; exact e) ⟨by rw [upd_ne n1]; exact ha, ?_, by rw [upd_ne n2]; exact hl⟩
      rw [upd_same, kv_put]
    rw [dn_f (n := (n : Int)) (k := 22) (by omega)]
    refine iteF ?_
    refine ⟨_, rfl, rfl, decide (V.int (n : Int) = V.int 23), rfl, ?_⟩
    by_cases h23 : n = 23
    · rw [dn_t (n := (n : Int)) (k := 23) (by omega)]
      have e : plainS s n = { s with test := decide (s.first = 0) } := by subst_vars; rfl
      rw [e] at q
      refine iteT ⟨_, rfl, a, _, dx, _, _, rfl, ha, T.k_Live, T.n_Live_first, l_first s cd sl nu, rfl, _, rfl, a, _, dx, _, rfl, ha, T.k_Live, T.n_Live_test, (by show 13 < 1000; decide), ?_⟩
      have em : decide (V.int s.first = V.int 0) = decide (s.first = 0) := by
        by_cases h : s.first = 0
        · rw [decide_eq_true h, decide_eq_true (show V.int s.first = V.int 0 by rw [h])]
        · rw [decide_eq_false h, decide_eq_false (show ¬ V.int s.first = V.int 0 from fun e => h (V.int.inj e))]
      rw [em]
      obtain ⟨f1, L1⟩ := lv_put hL { s with test := decide (s.first = 0) } rfl rfl
      rw [p_test]
      exact q _ f1 L1
    rw [dn_f (n := (n : Int)) (k := 23) (by omega)]
    refine iteF ?_
    refine ⟨_, rfl, rfl, decide (V.int (n : Int) = V.int 24), rfl, ?_⟩
    by_cases h24 : n = 24
    · rw [dn_t (n := (n : Int)) (k := 24) (by omega)]
      have e : plainS s n = { s with test := decide (s.first < 0) } := by subst_vars; rfl
      rw [e] at q
      refine iteT ⟨_, rfl, a, _, dx, _, _, rfl, ha, T.k_Live, T.n_Live_first, l_first s cd sl nu, _, _, rfl, rfl, _, rfl, a, _, dx, _, rfl, ha, T.k_Live, T.n_Live_test, (by show 13 < 1000; decide), ?_⟩
      obtain ⟨f1, L1⟩ := lv_put hL ({ s with test := decide (s.first < 0) }) rfl rfl
      rw [p_test]
      exact q _ f1 L1
    rw [dn_f (n := (n : Int)) (k := 24) (by omega)]
    refine iteF ?_
    refine ⟨_, rfl, _, _, rfl, rfl, decide ((n : Int) < 28), rfl, ?_⟩
    by_cases h28 : n < 28
    · rw [decide_eq_true (by omega)]
      have e : plainS s n = { s with mode := (n : Int) - 25 } := by unfold plainS; rw [if_neg h20', if_neg h21, if_neg h22, if_neg h23, if_neg h24, if_pos h28]
      rw [e] at q
      refine iteT ⟨_, rfl, _, _, rfl, rfl, _, rfl, a, _, dx, _, rfl, ha, T.k_Live, T.n_Live_mode, (by show 13 < 1000; decide), ?_⟩
      obtain ⟨f1, L1⟩ := lv_put hL { s with mode := (n : Int) - 25 } rfl rfl
      rw [p_mode]
      exact q _ f1 L1
    rw [decide_eq_false (by omega)]
    refine iteF ?_
    refine ⟨_, rfl, rfl, decide (V.int (n : Int) = V.int 28), rfl, ?_⟩
    by_cases h28' : n = 28
    · rw [dn_t (n := (n : Int)) (k := 28) (by omega)]
      have e : plainS s n = goS s := by subst_vars; rfl
      rw [e] at q
      exact iteT ⟨_, rfl, a, dx, cd, sl, nu, s, rfl, hL, q⟩
    rw [dn_f (n := (n : Int)) (k := 28) (by omega)]
    have h29' : n = 29 := by omega
    have e : plainS s n = { s with done := true } := by subst_vars; rfl
    rw [e] at q
    refine iteF ⟨_, rfl, a, _, dx, _, rfl, ha, T.k_Live, T.n_Live_is_done, (by show 13 < 1000; decide), ?_⟩
    obtain ⟨f1, L1⟩ := lv_put hL { s with done := true } rfl rfl
    rw [p_done]
    exact q _ f1 L1
end
end K57
set_option Elab.async false
set_option linter.all false
set_option maxRecDepth 100000
set_option maxHeartbeats 4000000
namespace K57
open PySem PySem.Spec PyProof.Rows L2
/-- all that a stand has, as data -/
def stD (s : Sd) : PyData := .tuple [.tuple [.int s.block, .int s.room, .bool s.tick, .bool s.flag, .bool s.test, .int s.mode, .bool s.done], .int s.first, .int s.second, .tuple (s.cells.map fun p => .tuple [.int p.1, .int p.2]), .int s.heard, .tuple (s.said.map PyData.int)]
theorem any_false (n : Nat) : ((List.range n).map fun _ => false).any id = false := by simp
section
variable {K : PySem.W.Frag} {σ : L2.St} {H : Hp} {a : Addr} {xs : List V} {i j : Nat} {Q : VK} {te : TE} {tt : TT} {vs : List Nat}
theorem isi_seq (hS : Sq K H a xs) (hi : σ[i]? = some (some (.ref a))) (q : ∀ H1, Same H H1 → Q (.bl true) H1) : tCB (rIsiT K) (tCons (tVar i) (tCons (tTup (tCons (tC (.ty "list")) (tCons (tC (.ty "tuple")) tNil))) tNil)) σ H Q := by
  refine ⟨_, hi, by show 2 ≤ sizeLine; decide, fun p hp => ?_⟩
  have s1 : Same H (upd H p (.tup [.ty "list", .ty "tuple"])) := same_new hp
  obtain ⟨t, ht, hk⟩ := sq_isi (hS.mono s1)
  exact ⟨_, p, _, t, _, true, rfl, upd_same, .cons (.ty _) (.cons (.ty _) .nil), ht, hk, q _ s1⟩
theorem lc_seq (hS : Sq K H a xs) (hi : σ[i]? = some (some (.ref a))) (hn : xs.length < 1000000) (p : Nat → Bool) (f : Nat → V)
    (hw : ∀ x, wipe ((wipe σ vs).set j (some x)) vs = wipe σ vs)
    (ht : ∀ i x H', i < xs.length → Same H H' → xs[i]? = some x → ∀ Qt : Bool → Hp → Prop, (∀ H3, Same H' H3 → Qt (p i) H3) → tt ((wipe σ vs).set j (some x)) H' Qt)
    (he : ∀ i x H', i < xs.length → p i = true → Same H H' → xs[i]? = some x → ∀ Qe : VK, (∀ H2, Same H' H2 → Qe (f i) H2) → te ((wipe σ vs).set j (some x)) H' Qe)
    {r : List V → Hp → VK → Prop} (hd : ∀ D H2, H D = none → Same H H2 → H2 D = some (.lst (given xs.length p f)) → r [.ref D] H2 Q) : tCB r (tCons (tLc (fun σ H R => iList K (tVar i) σ H R ∨ iTup K (tVar i) σ H R) (gName j) tt te vs) tNil) σ H Q := by
  rcases hS with h | h
  · exact .inl ⟨_, hi, a, rfl, ⟨_, h⟩, fun D hD => lc_flat hD (w_list (xs := xs)) p f hn (fun H' s' => sql_mono s' h) hw ht he (fun H2 s2 hy => hd D H2 hD s2 hy)⟩
  · exact .inr ⟨_, hi, a, rfl, ⟨_, h⟩, fun D hD => lc_flat hD (w_tup (xs := xs)) p f hn (fun H' s' => sqt_mono s' h) hw ht he (fun H2 s2 hy => hd D H2 hD s2 hy)⟩
end
section
variable {P : Program} {w : World} {K : PySem.W.Frag} {mg : Str → Option Value} {base : Heap}
def sp_do_here (K : PySem.W.Frag) : Sp := fun vs H Q _ => ∃ a dx cd sl nu s hs, ∃ n : Nat, vs = [.ref a, .int n] ∧ LvAt K H a dx cd sl nu s ∧ SqT K H nu (hs.map V.int) ∧ Sz s ∧ 3 ≤ n ∧ n ≤ 29 ∧ RetL K a dx cd sl nu (hereS hs s n) H Q
abbrev N_do_here : List Str := ["live", "number"]
abbrev sco_do_here : Scope := defScope s_do_here
theorem sc_do_here : FnScope N_do_here ["live", "number"] sco_do_here := ⟨rfl, rfl, rfl, by decide +kernel, rfl, by decide +kernel, by decide +kernel⟩
theorem ok_do_here (T : Tx K mg) : C8.Cal P w K mg base 3 "do_here" (sp_do_here K) [] := by
  have c_do_plain : C8.Cal P w K mg base 2 "do_plain" (sp_do_plain K) [] := ok_do_plain T
  have c_do_flagged : C8.Cal P w K mg base 2 "do_flagged" (sp_do_flagged K) [] := ok_do_flagged T
  refine mkCal T.d_do_here T.m_do_here (fun fd F => ⟨[], .nil, F.bindsN fun _ _ _ _ _ _ us hl => match us, hl with | [_, _], _ => rfl⟩) sc_do_here (fun vs H Q E h => ?_) (fun cdv A outer s H vs Q E hr h => ?_)
  · obtain ⟨a, dx, cd, sl, nu, s, hs, n, rfl, _⟩ := h; rfl
  · obtain ⟨a, dx, cd, sl, nu, s, hs, n, rfl, hL, hnu, hz, h3, h29, q⟩ := h
    obtain ⟨ha, hc, hl⟩ := id hL
    refine ⟨_, (pss_one (ps_if (pt_cmpR op_eq (pv 1) (C8.pe_gc (by rfl) T.g_PREPARE) (nomark _)) (pss_one (ps_fld (pv 0) pe_bl rfl)) (pss_one (ps_if (pt_cmpR op_ge (pv 1) (C8.pe_gc (by rfl) T.g_NOTHING) (nomark _)) (pss_one (ps_expr (C8.pe_c c_do_plain hr (by decide) (by rfl) (pa_cons (pv 0) (pa_cons (pv 1) pa_nil))))) (pss_one (ps_if (pt_val (pe_fldK (K := K) rfl (pv 0) rfl)) (pss_cons (ps_fld (pv 0) pe_bl rfl)
      (pss_one (ps_expr (C8.pe_c c_do_flagged hr (by decide) (by rfl) (pa_cons (pv 0) (pa_cons (pv 1) pa_nil)))))) pss_nil)))))), ?_⟩
    unfold hereS at q
    refine ⟨_, rfl, rfl, decide (V.int (n : Int) = V.int 3), rfl, ?_⟩
    by_cases h3' : n = 3
    · rw [dn_t (n := (n : Int)) (k := 3) (by omega)]
      rw [if_pos h3'] at q
      refine iteT ⟨_, rfl, a, _, dx, _, rfl, ha, T.k_Live, T.n_Live_flag, (by show 13 < 1000; decide), ?_⟩
      obtain ⟨f1, L1⟩ := lv_put hL { s with flag := true } rfl rfl
      rw [p_flag]
      exact q _ f1 L1
    rw [dn_f (n := (n : Int)) (k := 3) (by omega)]
    rw [if_neg h3'] at q
    refine iteF ⟨_, rfl, _, _, rfl, rfl, decide ((20 : Int) ≤ (n : Int)), rfl, ?_⟩
    by_cases h20 : 20 ≤ n
    · rw [decide_eq_true (by omega)]
      rw [if_pos h20] at q
      exact iteT ⟨_, rfl, _, rfl, a, dx, cd, sl, nu, s, n, rfl, hL, hz, h20, h29, q⟩
    rw [decide_eq_false (by omega)]
    rw [if_neg h20] at q
    refine iteF ⟨_, rfl, a, _, dx, _, _, rfl, ha, T.k_Live, T.n_Live_flag, l_flag s cd sl nu, s.flag, rfl, ?_⟩
    cases hf : s.flag with
    | true =>
      rw [if_pos hf] at q
      refine iteT ⟨_, rfl, a, _, dx, _, rfl, ha, T.k_Live, T.n_Live_flag, (by show 13 < 1000; decide), ?_⟩
      obtain ⟨f1, L1⟩ := lv_put hL { s with flag := false } rfl rfl
      rw [p_flag]
      exact ⟨_, rfl, _, rfl, a, dx, cd, sl, nu, _, hs, n, rfl, L1, fr3_nu hL f1 hnu, ⟨hz.f, hz.g, hz.c, hz.d, hz.h⟩, by omega, by omega, fun H2 f2 L2' => q H2 (f1.trans f2) L2'⟩
    | false =>
      rw [if_neg (by rw [hf]; decide)] at q
      exact iteF (q H (Fr3.refl _ _ _ _) hL)
def sp_counted : Sp := fun vs H Q _ => ∃ s : Sd, ∃ n : Nat, vs = [.int s.block, .bl s.tick, .int n] ∧ n < 3 ∧ ∀ p H2, Same H H2 → H2 p = some (.tup [.int (countedS s n).block, .bl (countedS s n).tick]) → Q (.ref p) H2
abbrev N_counted : List Str := ["block", "tick", "number"]
abbrev sco_counted : Scope := defScope s_counted
theorem sc_counted : FnScope N_counted ["block", "tick", "number"] sco_counted := ⟨rfl, rfl, rfl, by decide +kernel, rfl, by decide +kernel, by decide +kernel⟩
theorem ok_counted (T : Tx K mg) : C8.Cal P w K mg base 1 "counted" sp_counted [] := by
  refine mkCal T.d_counted T.m_counted (fun fd F => ⟨[], .nil, F.bindsN fun _ _ _ _ _ _ us hl => match us, hl with | [_, _, _], _ => rfl⟩) sc_counted (fun vs H Q E h => ?_) (fun cdv A outer s H vs Q E hr h => ?_)
  · obtain ⟨s, n, rfl, _⟩ := h; rfl
  · obtain ⟨s, n, rfl, h3, q⟩ := h
    refine ⟨_, (pss_cons (ps_if (pt_cmpR op_eq (pv 2) (C8.pe_gc (by rfl) T.g_OUTSET) (nomark _)) (pss_one (ps_ret (pe_tup (pa_cons (pe_un un_neg pe_int) (pa_cons (pv 1) pa_nil))))) pss_nil)
      (pss_cons (ps_if (pt_cmpR op_eq (pv 2) (C8.pe_gc (by rfl) T.g_UPLIFT) (nomark _)) (pss_one (ps_ret (pe_tup (pa_cons (pv 0) (pa_cons pe_bl pa_nil))))) pss_nil)
      (pss_one (ps_ret (pe_ifExp (pt_val (pv 1)) (pe_tup (pa_cons (pe_op op_add (pv 0) pe_int) (pa_cons pe_bl pa_nil))) (pe_tup (pa_cons (pv 0) (pa_cons pe_bl pa_nil)))))))), ?_⟩
    refine ⟨_, rfl, rfl, decide (V.int (n : Int) = V.int 0), rfl, ?_⟩
    by_cases h0 : n = 0
    · subst h0
      exact iteT ⟨1, rfl, _, rfl, by show 2 ≤ sizeLine; decide, fun p hp => q p _ (same_new hp) upd_same⟩
    rw [dn_f (n := (n : Int)) (k := 0) (by omega)]
    refine iteF ⟨_, rfl, rfl, decide (V.int (n : Int) = V.int 1), rfl, ?_⟩
    by_cases h1 : n = 1
    · subst h1
      exact iteT ⟨_, rfl, by show 2 ≤ sizeLine; decide, fun p hp => q p _ (same_new hp) upd_same⟩
    rw [dn_f (n := (n : Int)) (k := 1) (by omega)]
    have h2 : n = 2 := by omega
    subst h2
    refine iteF ⟨_, rfl, s.tick, rfl, ?_⟩
    cases ht : s.tick with
    | true =>
      have e : countedS s 2 = { s with block := s.block + 1, tick := false } := by unfold countedS; rw [if_neg (by decide), if_neg (by decide), if_pos ht]
      rw [e] at q
      exact iteT ⟨_, rfl, _, _, rfl, rfl, by show 2 ≤ sizeLine; decide, fun p hp => q p _ (same_new hp) upd_same⟩
    | false =>
      have e : countedS s 2 = { s with tick := false } := by unfold countedS; rw [if_neg (by decide), if_neg (by decide), if_neg (by rw [ht]; decide)]
      rw [e] at q
      exact iteF ⟨_, rfl, by show 2 ≤ sizeLine; decide, fun p hp => q p _ (same_new hp) upd_same⟩
def sp_do_word (K : PySem.W.Frag) : Sp := fun vs H Q _ => ∃ a dx cd sl nu s hs, ∃ n : Nat, vs = [.ref a, .int n] ∧ LvAt K H a dx cd sl nu s ∧ SqT K H nu (hs.map V.int) ∧ Sz s ∧ n ≤ 29 ∧ RetL K a dx cd sl nu (wordS hs s n) H Q
abbrev N_do_word : List Str := ["live", "number"]
abbrev sco_do_word : Scope := defScope s_do_word
theorem sc_do_word : FnScope N_do_word ["live", "number"] sco_do_word := ⟨rfl, rfl, rfl, by decide +kernel, rfl, by decide +kernel, by decide +kernel⟩
theorem ok_do_word (T : Tx K mg) : C8.Cal P w K mg base 4 "do_word" (sp_do_word K) [] := by
  have c_counted : C8.Cal P w K mg base 1 "counted" sp_counted [] := ok_counted T
  have c_do_here : C8.Cal P w K mg base 3 "do_here" (sp_do_here K) [] := ok_do_here T
  refine mkCal T.d_do_word T.m_do_word (fun fd F => ⟨[], .nil, F.bindsN fun _ _ _ _ _ _ us hl => match us, hl with | [_, _], _ => rfl⟩) sc_do_word (fun vs H Q E h => ?_) (fun cdv A outer s H vs Q E hr h => ?_)
  · obtain ⟨a, dx, cd, sl, nu, s, hs, n, rfl, _⟩ := h; rfl
  · obtain ⟨a, dx, cd, sl, nu, s, hs, n, rfl, hL, hnu, hz, h29, q⟩ := h
    obtain ⟨ha, hc, hl⟩ := id hL
    refine ⟨_, (pss_cons (ps_if (pt_val (pe_fldK (K := K) rfl (pv 0) rfl)) (pss_one ps_retN) pss_nil)
      (pss_one (ps_if (pt_cmpR op_lt (pv 1) (C8.pe_gc (by rfl) T.g_PREPARE) (nomark _)) (pss_one (ps_asg (C8.pe_c c_counted hr (by decide) (by rfl) (pa_cons (pe_fldK (K := K) rfl (pv 0) rfl) (pa_cons (pe_fldK (K := K) rfl (pv 0) rfl) (pa_cons (pv 1) pa_nil)))) (pg_tupK (K := K) (n := 2) rfl rfl (pgs_cons (pg_attr (K := K) rfl (pv 0)) (pgs_cons (pg_attr (K := K) rfl (pv 0)) pgs_nil))))) (pss_one (ps_if (pt_cmpR op_eq (pe_fldK (K := K) rfl (pv 0) rfl) (pe_fldK (K := K) rfl (pv 0) rfl) (nomark _)) (pss_one (ps_expr (C8.pe_c c_do_here hr (by decide) (by rfl) (pa_cons (pv 0) (pa_cons (pv 1) pa_nil))))) pss_nil))))), ?_⟩
    unfold wordS at q
    refine ⟨_, rfl, a, _, dx, _, _, rfl, ha, T.k_Live, T.n_Live_is_done, l_done s cd sl nu, s.done, rfl, ?_⟩
    cases hd : s.done with
    | true =>
      rw [if_pos hd] at q
      exact iteT (q H (Fr3.refl _ _ _ _) hL)
    | false =>
    rw [if_neg (by rw [hd]; decide)] at q
    refine iteF ⟨_, rfl, _, _, rfl, rfl, decide ((n : Int) < 3), rfl, ?_⟩
    by_cases h3 : n < 3
    · rw [decide_eq_true (by omega)]
      rw [if_pos h3] at q
      refine iteT ⟨_, rfl, a, _, dx, _, _, rfl, ha, T.k_Live, T.n_Live_block, l_block s cd sl nu, _, rfl, a, _, dx, _, _, rfl, ha, T.k_Live, T.n_Live_tick, l_tick s cd sl nu, _, rfl, s, n, rfl, h3, fun p H1 s1 hp => ?_⟩
      have L0 := hL.same s1
      obtain ⟨ha1, hc1, hl1⟩ := id L0
      have e1 : (countedS s n).cells = s.cells ∧ (countedS s n).said = s.said ∧ countedS s n = { s with block := (countedS s n).block, tick := (countedS s n).tick } := by
        unfold countedS
        split
        · exact ⟨rfl, rfl, rfl⟩
        · split
          · exact ⟨rfl, rfl, rfl⟩
          · split
            · exact ⟨rfl, rfl, rfl⟩
            · exact ⟨rfl, rfl, rfl⟩
      refine ⟨p, _, rfl, .inl (.inl hp), rfl, _, _, rfl, _, rfl, a, _, dx, _, rfl, ha1, T.k_Live, T.n_Live_block, (by show 13 < 1000; decide), ?_⟩
      obtain ⟨f1, L1⟩ := lv_put L0 { s with block := (countedS s n).block } rfl rfl
      rw [p_block]
      obtain ⟨ha2, hc2, hl2⟩ := id L1
      refine ⟨_, _, rfl, _, rfl, a, _, dx, _, rfl, ha2, T.k_Live, T.n_Live_tick, (by show 13 < 1000; decide), rfl, ?_⟩
      obtain ⟨f2, L2'⟩ := lv_put L1 { s with block := (countedS s n).block, tick := (countedS s n).tick } rfl rfl
      rw [p_tick]
      rw [e1.2.2] at q
      exact q _ ((s1.fr3.trans f1).trans f2) L2'
    rw [decide_eq_false (by omega)]
    rw [if_neg h3] at q
    refine iteF ⟨_, rfl, a, _, dx, _, _, rfl, ha, T.k_Live, T.n_Live_block, l_block s cd sl nu, _, rfl, a, _, dx, _, _, rfl, ha, T.k_Live, T.n_Live_room, l_room s cd sl nu, rfl, decide (V.int s.block = V.int s.room), rfl, ?_⟩
    by_cases hb : s.block = s.room
    · rw [decide_eq_true (show V.int s.block = V.int s.room by rw [hb])]
      rw [if_pos hb] at q
      exact iteT ⟨_, rfl, _, rfl, a, dx, cd, sl, nu, s, hs, n, rfl, hL, hnu, hz, by omega, h29, q⟩
    · rw [decide_eq_false (show ¬ V.int s.block = V.int s.room from fun e => hb (V.int.inj e))]
      rw [if_neg hb] at q
      exact iteF (q H (Fr3.refl _ _ _ _) hL)
def cellD (p : Int × Int) : PyData := .tuple [.int p.1, .int p.2]
/-- pairs by rising cells, no number 0 -/
def CellsOk (cs : List (Int × Int)) : Prop := cs.Pairwise (fun p q => p.1 < q.1) ∧ ∀ p ∈ cs, p.2 ≠ 0
def sp_are_cells (K : PySem.W.Frag) : Sp := fun vs H Q _ => ∃ a cvs cs, vs = [.ref a] ∧ Sq K H a cvs ∧ DpAll K H cvs (cs.map cellD) ∧ CellsOk cs ∧ cs.length < 100000 ∧ RetF (.bl true) H Q
abbrev N_are_cells : List Str := ["value", "pair", "at"]
abbrev sco_are_cells : Scope := defScope s_are_cells
theorem sc_are_cells : FnScope N_are_cells ["value"] sco_are_cells := ⟨rfl, rfl, rfl, by decide +kernel, rfl, by decide +kernel, by decide +kernel⟩
theorem ok_are_cells (T : Tx K mg) : C8.Cal P w K mg base 3 "are_cells" (sp_are_cells K) [] := by
  have c_are_integers : C8.Cal P w K mg base 2 "are_integers" (sp_are_integers K) [] := ok_are_integers T
  refine mkCal T.d_are_cells T.m_are_cells (fun fd F => ⟨[], .nil, F.bindsN fun _ _ _ _ _ _ us hl => match us, hl with | [_], _ => rfl⟩) sc_are_cells (fun vs H Q E h => ?_) (fun cdv A outer s H vs Q E hr h => ?_)
  · obtain ⟨a, cvs, cs, rfl, _⟩ := h; rfl
  · obtain ⟨a, cvs, cs, rfl, hS, hD, hok, hl, q⟩ := h
    refine ⟨_, (pss_cons (ps_if (PW.pt (pw_or (pt_not (pt_val (pe_callB call_isiT (by rfl) T.f_isinstance bb_isinstance (pa_cons (pv 0) (pa_cons (pe_tup (pa_cons (pe_bltn (by rfl) T.f_list bb_list (rt "list")) (pa_cons (pe_bltn (by rfl) T.f_tuple bb_tuple (rt "tuple")) pa_nil))) pa_nil))))) (pw_or1 (pt_not (pt_val (pe_callB (cr_all rfl) (by rfl) T.f_all bb_all (pa_cons (pe_lc (own := [("pair", 1)]) rfl sc_are_cells.nd (pi_seq (pv 0)) (blkOk_by (own := [("pair", 1)]) (N := N_are_cells) (sc := sco_are_cells) (by decide +kernel)) (fun _ _ _ _ _ => (pg_name (i := 1) sc_are_cells.nd rfl (Or.inl rfl))) (fun _ _ _ _ _ => pts_nil) (fun _ _ _ _ _ => (pe_and (C8.pe_c c_are_integers hr (by decide) (by rfl) (pa_cons (pv 1) pa_nil)) (pe_one (pe_cmpR op_eq (pe_callB (call_len_seqK (K := K) rfl) (by rfl) T.f_len bb_len (pa_cons (pv 1) pa_nil)) pe_int (nomark _)))))) pa_nil))))))) (pss_one (ps_ret pe_bl)) pss_nil)
      (pss_cons (ps_if (pt_val (pe_callB (cr_any rfl) (by rfl) T.f_any bb_any (pa_cons (pe_lc (own := [("pair", 1)]) rfl sc_are_cells.nd (pi_seq (pv 0)) (blkOk_by (own := [("pair", 1)]) (N := N_are_cells) (sc := sco_are_cells) (by decide +kernel)) (fun _ _ _ _ _ => (pg_name (i := 1) sc_are_cells.nd rfl (Or.inl rfl))) (fun _ _ _ _ _ => pts_nil) (fun _ _ _ _ _ => (pe_cmpR op_eq (pe_ix (ix_tupK (K := K) rfl) (pv 1) pe_int (fun _ _ => rfl)) pe_int (nomark _)))) pa_nil))) (pss_one (ps_ret pe_bl)) pss_nil)
      (pss_one (ps_ret (pe_callB (cr_all rfl) (by rfl) T.f_all bb_all (pa_cons (pe_lc (own := [("at", 2)]) rfl sc_are_cells.nd (pi_range1 (by rfl) T.f_range (pa_cons (pe_op op_sub (pe_callB (call_len_seqK (K := K) rfl) (by rfl) T.f_len bb_len (pa_cons (pv 0) pa_nil)) pe_int) pa_nil)) (blkOk_by (own := [("at", 2)]) (N := N_are_cells) (sc := sco_are_cells) (by decide +kernel)) (fun _ _ _ _ _ => (pg_name (i := 2) sc_are_cells.nd rfl (Or.inl rfl))) (fun _ _ _ _ _ => pts_nil) (fun _ _ _ _ _ => (pe_cmpR op_lt (pe_ix (ix_tupK (K := K) rfl) (pe_ix (IxR.or (ix_listK (K := K) rfl) (ix_tupK (K := K) rfl)) (pv 0) (pv 2) (fun _ _ => rfl)) pe_int (fun _ _ => rfl)) (pe_ix (ix_tupK (K := K) rfl) (pe_ix (IxR.or (ix_listK (K := K) rfl) (ix_tupK (K := K) rfl)) (pv 0) (pe_op op_add (pv 2) pe_int) (fun _ _ => rfl)) pe_int (fun _ _ => rfl)) (nomark _)))) pa_nil)))))), ?_⟩
    have hlen : cvs.length = cs.length := by rw [hD.length, List.length_map]
    have at_ : ∀ (i : Nat) (x : V) (H' : Hp), Same H H' → cvs[i]? = some x → ∃ c t, cs[i]? = some c ∧ x = .ref t ∧ SqT K H' t [.int c.1, .int c.2] := fun i x H' s' hx => by
      obtain ⟨d, hd, hx2⟩ := hD.at hx
      rw [List.getElem?_map] at hd
      obtain ⟨c, hc, rfl⟩ := Option.map_eq_some_iff.mp hd
      obtain ⟨t, xs, rfl, h1, h2⟩ := dp_tup hx2
      have : xs = [.int c.1, .int c.2] := by
        cases h2 with
        | cons a1 h2 => cases h2 with
          | cons a2 h2 => cases h2; rw [dp_int a1, dp_int a2]
      rw [this] at h1
      exact ⟨c, t, hc, rfl, sqt_mono s' h1⟩
    refine isi_seq hS rfl fun H1 s1 => ?_
    refine ⟨true, rfl, iteF ?_⟩
    refine lc_seq (hS.mono s1) rfl (by omega) (fun _ => true) (fun _ => .bl true) (by intro x; rfl) (fun i x H' _ _ _ Qt qt => yes_ok qt) (fun i x H' hi _ s' hx Qe qe => ?_) (fun D H2 hD2 s2 hy => ?_)
    · obtain ⟨c, t, hc, rfl, ht⟩ := at_ i x H' (s1.trans s') hx
      refine ⟨_, rfl, t, [c.1, c.2], rfl, .inr ht, (by show 2 < 1000000; omega), fun H3 s3 => ⟨true, rfl, iteT ⟨_, rfl, t, _, rfl, .inr (sqt_mono s3 ht), rfl, ?_⟩⟩⟩
      exact qe H3 s3
    refine all_true hy ?_
    refine ⟨true, rfl, iteF ?_⟩
    have sB := s1.trans s2
    refine lc_seq (hS.mono sB) rfl (by omega) (fun _ => true) (fun _ => .bl false) (by intro x; rfl) (fun i x H' _ _ _ Qt qt => yes_ok qt) (fun i x H' hi _ s' hx Qe qe => ?_) (fun D3 H3 hD3 s3 hy3 => ?_)
    · obtain ⟨c, t, hc, rfl, ht⟩ := at_ i x H' (sB.trans s') hx
      refine ⟨_, rfl, t, _, (1 : Int), _, rfl, rfl, ht, rfl, rfl, ?_⟩
      have : decide (V.int c.2 = V.int 0) = false := dn_f (hok.2 c (List.mem_of_getElem? hc))
      rw [this]
      exact qe H' (Same.refl _)
    refine ⟨D3, (List.range cvs.length).map fun _ => false, rfl, .inl (.inl (by rw [hy3, given_all, List.map_map] <;> rfl)), false, by rw [any_false], iteF ?_⟩
    have sC := sB.trans s3
    have hS3 := hS.mono sC
    refine ⟨_, rfl, a, cvs, rfl, hS3, _, _, rfl, rfl, (cvs.length : Int) - 1, rfl, by omega, by omega, fun D4 hD4 => ?_⟩
    refine lc_flat hD4 (w_range (lo := 0) (n := ((cvs.length : Int) - 1).toNat)) (fun _ => true) (fun _ => .bl true) ?_ ?_ ?_ ?_ ?_ ?_
    · omega
    · exact fun _ _ => trivial
    · exact fun x => rfl
    · exact fun i x H' _ _ _ Qt qt => yes_ok qt
    · rintro i x H' hi _ s' rfl Qe qe
      have h1 : i < cvs.length := by omega
      have h2 : i + 1 < cvs.length := by omega
      obtain ⟨c1, t1, hc1, e1, ht1⟩ := at_ i cvs[i] H' (sC.trans s') (List.getElem?_eq_getElem h1)
      obtain ⟨c2, t2, hc2, e2, ht2⟩ := at_ (i + 1) cvs[i + 1] H' (sC.trans s') (List.getElem?_eq_getElem h2)
      have hS4 := hS3.mono s'
      have hlt : c1.1 < c2.1 := by
        have l1 : i < cs.length := by omega
        have l2 : i + 1 < cs.length := by omega
        have := List.pairwise_iff_getElem.mp hok.1 i (i + 1) l1 l2 (by omega)
        rw [List.getElem?_eq_getElem l1] at hc1
        rw [List.getElem?_eq_getElem l2] at hc2
        rw [← Option.some.inj hc1, ← Option.some.inj hc2]
        exact this
      have ix : ∀ (j : Nat) (t : Addr) (z : Int), (hj : j < cvs.length) → cvs[j] = .ref t → z = (j : Int) → ∀ (Q' : VK), Q' (.ref t) H' → rIxL K (.ref a) (.int z) H' Q' ∨ rIxT K (.ref a) (.int z) H' Q' := fun j t z hj e ez Q' q' => by
        have g : atI cvs z = some (.ref t) := by rw [ez]; exact atI_nat (by rw [List.getElem?_eq_getElem hj, e])
        rcases hS4 with h | h
        · exact .inl ⟨a, cvs, z, _, rfl, rfl, h, g, q'⟩
        · exact .inr ⟨a, cvs, z, _, rfl, rfl, h, g, q'⟩
      refine ⟨_, rfl, _, rfl, ix i t1 _ h1 e1 (by omega) _ ?_⟩
      refine ⟨t1, _, (0 : Int), _, rfl, rfl, ht1, rfl, _, rfl, _, rfl, _, _, rfl, rfl, ix (i + 1) t2 _ h2 e2 (by omega) _ ?_⟩
      refine ⟨t2, _, (0 : Int), _, rfl, rfl, ht2, rfl, _, _, rfl, rfl, ?_⟩
      show Qe (V.bl (decide (c1.1 < c2.1))) H'
      rw [decide_eq_true hlt]
      exact qe H' (Same.refl _)
    · exact fun H5 s5 hy5 => all_true hy5 (q _ (sC.trans s5))
def StAt (K : PySem.W.Frag) (H : Hp) (a : Addr) (s : Sd) : Prop := ∃ dx ct st cvs, H a = some (.ins (He.ga K "Stand") dx (sf s ct st)) ∧ TzT H ct cvs ∧ DpAll K H cvs (s.cells.map cellD) ∧ SqT K H st (s.said.map V.int)
def sp_parts_of_stand (K : PySem.W.Frag) : Sp := fun vs H Q _ => ∃ a s, vs = [.ref a] ∧ StAt K H a s ∧ ∀ p I2 H2, Adv H H I2 H2 → Dp K I2 (.ref p) (stD s) → Q (.ref p) H2
abbrev N_parts_of_stand : List Str := ["stand", "gears"]
abbrev sco_parts_of_stand : Scope := defScope s_parts_of_stand
theorem sc_parts_of_stand : FnScope N_parts_of_stand ["stand"] sco_parts_of_stand := ⟨rfl, rfl, rfl, by decide +kernel, rfl, by decide +kernel, by decide +kernel⟩
theorem ok_parts_of_stand (T : Tx K mg) : C8.Cal P w K mg base 1 "parts_of_stand" (sp_parts_of_stand K) [] := by
  refine mkCal T.d_parts_of_stand T.m_parts_of_stand (fun fd F => ⟨[], .nil, F.bindsN fun _ _ _ _ _ _ us hl => match us, hl with | [_], _ => rfl⟩) sc_parts_of_stand (fun vs H Q E h => ?_) (fun cdv A outer s H vs Q E hr h => ?_)
  · obtain ⟨a, s, rfl, _⟩ := h; rfl
  · obtain ⟨a, s, rfl, hs, q⟩ := h
    refine ⟨_, (pss_cons (ps_set (i := 1) sc_parts_of_stand.nd rfl (Or.inl rfl) (pe_tup (pa_cons (pe_fldK (K := K) rfl (pv 0) rfl) (pa_cons (pe_fldK (K := K) rfl (pv 0) rfl) (pa_cons (pe_fldK (K := K) rfl (pv 0) rfl) (pa_cons (pe_fldK (K := K) rfl (pv 0) rfl) (pa_cons (pe_fldK (K := K) rfl (pv 0) rfl) (pa_cons (pe_fldK (K := K) rfl (pv 0) rfl) (pa_cons (pe_fldK (K := K) rfl (pv 0) rfl) pa_nil)))))))))
      (pss_one (ps_ret (pe_tup (pa_cons (pv 1) (pa_cons (pe_fldK (K := K) rfl (pv 0) rfl) (pa_cons (pe_fldK (K := K) rfl (pv 0) rfl) (pa_cons (pe_fldK (K := K) rfl (pv 0) rfl) (pa_cons (pe_fldK (K := K) rfl (pv 0) rfl) (pa_cons (pe_fldK (K := K) rfl (pv 0) rfl) pa_nil)))))))))), ?_⟩
    obtain ⟨dx, ct, st, cvs, ha, hct0, hcd, hst⟩ := hs
    have hct := hct0.sqt (K := K)
    refine ⟨_, rfl, a, _, dx, _, _, rfl, ha, T.k_Stand, T.n_Stand_block, q_block s ct st, _, rfl, a, _, dx, _, _, rfl, ha, T.k_Stand, T.n_Stand_room, q_room s ct st, _, rfl, a, _, dx, _, _, rfl, ha, T.k_Stand, T.n_Stand_tick, q_tick s ct st, _, rfl, a, _, dx, _, _, rfl, ha, T.k_Stand, T.n_Stand_flag, q_flag s ct st, _, rfl, a, _, dx, _, _, rfl, ha, T.k_Stand, T.n_Stand_test, q_test s ct st, _, rfl, a, _, dx, _, _, rfl, ha, T.k_Stand, T.n_Stand_mode, q_mode s ct st, _, rfl, a, _, dx, _, _, rfl, ha, T.k_Stand, T.n_Stand_is_done, q_done s ct st, by show 7 ≤ sizeLine; decide, fun p1 hp1 => ?_⟩
    have A1 : Adv H H H H := Adv.refl (Same.refl H)
    have A2 := A1.new (o := .tup [.int s.block, .int s.room, .bl s.tick, .bl s.flag, .bl s.test, .int s.mode, .bl s.done]) hp1
    have s1 : Same H (upd H p1 (.tup [.int s.block, .int s.room, .bl s.tick, .bl s.flag, .bl s.test, .int s.mode, .bl s.done])) := same_new hp1
    have ha1 := s1 a _ ha
    refine ⟨_, rfl, _, rfl, a, _, dx, _, _, rfl, ha1, T.k_Stand, T.n_Stand_first, q_first s ct st, _, rfl, a, _, dx, _, _, rfl, ha1, T.k_Stand, T.n_Stand_second, q_second s ct st, _, rfl, a, _, dx, _, _, rfl, ha1, T.k_Stand, T.n_Stand_cells, q_cells s ct st, _, rfl, a, _, dx, _, _, rfl, ha1, T.k_Stand, T.n_Stand_heard, q_heard s ct st, _, rfl, a, _, dx, _, _, rfl, ha1, T.k_Stand, T.n_Stand_said, q_said s ct st, by show 6 ≤ sizeLine; decide, fun p2 hp2 => ?_⟩
    have A3 := A2.new (o := .tup [.ref p1, .int s.first, .int s.second, .ref ct, .int s.heard, .ref st]) hp2
    have s2 := same_new hp2 (o := .tup [.ref p1, .int s.first, .int s.second, .ref ct, .int s.heard, .ref st])
    refine q p2 _ _ A3 (.tup (.inl (.inl upd_same)) (.cons (.tup (.inl (.inl (s2 p1 _ upd_same))) (.cons (.int _) (.cons (.int _) (.cons (.bl _) (.cons (.bl _) (.cons (.bl _) (.cons (.int _) (.cons (.bl _) .nil)))))))) (.cons (.int _) (.cons (.int _) (.cons (.tup (sqt_mono (s1.trans s2) hct) (hcd.mono (s1.trans s2))) (.cons (.int _) (.cons (.tup (sqt_mono (s1.trans s2) hst) (dpAll_ints _)) .nil)))))))
def sp_need_stand (K : PySem.W.Frag) : Sp := fun vs H Q _ => ∃ a s, vs = [.ref a] ∧ StAt K H a s ∧ RetF .non H Q
abbrev N_need_stand : List Str := ["value"]
abbrev sco_need_stand : Scope := defScope s_need_stand
theorem sc_need_stand : FnScope N_need_stand ["value"] sco_need_stand := ⟨rfl, rfl, rfl, by decide +kernel, rfl, by decide +kernel, by decide +kernel⟩
theorem ok_need_stand (T : Tx K mg) : C8.Cal P w K mg base 1 "need_stand" (sp_need_stand K) [] := by
  refine mkCal T.d_need_stand T.m_need_stand (fun fd F => ⟨[], .nil, F.bindsN fun _ _ _ _ _ _ us hl => match us, hl with | [_], _ => rfl⟩) sc_need_stand (fun vs H Q E h => ?_) (fun cdv A outer s H vs Q E hr h => ?_)
  · obtain ⟨a, s, rfl, _⟩ := h; rfl
  · obtain ⟨a, s, rfl, ⟨dx, ct, st, cvs, ha, _⟩, q⟩ := h
    refine ⟨_, (pss_one (ps_if (pt_not (pt_val (pe_callB (C8.call_isC T.i_Stand) (by rfl) T.f_isinstance bb_isinstance (pa_cons (pv 0) (pa_cons (C8.pe_gc (by rfl) T.c_Stand) pa_nil))))) (pss_one ps_never) pss_nil)), ?_⟩
    exact ⟨_, rfl, a, dx, _, rfl, ha, true, rfl, iteF (q H (Same.refl _))⟩
def sp_need_plain_row (K : PySem.W.Frag) : Sp := fun vs H Q _ => ∃ r ns, vs = [.ref r] ∧ Sq K H r (nV ns) ∧ ns.length ≤ 10000 ∧ (∀ n ∈ ns, n < 30) ∧ RetT K H Q (nV ns)
abbrev N_need_plain_row : List Str := ["value"]
abbrev sco_need_plain_row : Scope := defScope s_need_plain_row
theorem sc_need_plain_row : FnScope N_need_plain_row ["value"] sco_need_plain_row := ⟨rfl, rfl, rfl, by decide +kernel, rfl, by decide +kernel, by decide +kernel⟩
theorem ok_need_plain_row (T : Tx K mg) : C8.Cal P w K mg base 4 "need_plain_row" (sp_need_plain_row K) [] := by
  have c_are_within : C8.Cal P w K mg base 3 "are_within" (sp_are_within K) [] := ok_are_within T
  refine mkCal T.d_need_plain_row T.m_need_plain_row (fun fd F => ⟨[], .nil, F.bindsN fun _ _ _ _ _ _ us hl => match us, hl with | [_], _ => rfl⟩) sc_need_plain_row (fun vs H Q E h => ?_) (fun cdv A outer s H vs Q E hr h => ?_)
  · obtain ⟨r, ns, rfl, _⟩ := h; rfl
  · obtain ⟨r, ns, rfl, hS, hl, hn, q⟩ := h
    refine ⟨_, (pss_cons (ps_if (PW.pt (pw_or (pt_not (pt_val (C8.pe_c c_are_within hr (by decide) (by rfl) (pa_cons (pv 0) (pa_cons pe_int (pa_cons (C8.pe_gc (by rfl) T.g_LAST_WORD) pa_nil)))))) (pw_or1 (pt_cmpR op_gt (pe_callB (call_len_seqK (K := K) rfl) (by rfl) T.f_len bb_len (pa_cons (pv 0) pa_nil)) (C8.pe_gc (by rfl) T.g_MOST_NUMBERS) (nomark _))))) (pss_one ps_never) pss_nil)
      (pss_one (ps_ret (pe_callTy (call_tuple_ofK (K := K) rfl) (by rfl) T.f_tuple bb_tuple (pa_cons (pv 0) pa_nil))))), ?_⟩
    refine ⟨_, rfl, r, _, some 0, some 29, rfl, nV_eq ns ▸ hS, by simp; omega, ?_, fun H2 s2 => ?_⟩
    · intro n hn2
      obtain ⟨m, hm, rfl⟩ := List.mem_map.mp hn2
      have := hn m hm
      exact ⟨fun l e => by cases e; omega, fun l e => by cases e; omega⟩
    have hS2 : Sq K H2 r (nV ns) := hS.mono s2
    refine ⟨true, rfl, iteF ⟨_, rfl, r, nV ns, rfl, hS2, _, _, rfl, rfl, false, congrArg V.bl (decide_eq_false (by simp; omega)), iteF ⟨_, rfl, r, nV ns, rfl, ?_⟩⟩⟩
    rcases hS2 with h | h
    · exact .inl ⟨h, fun l hl => q l _ (s2.trans (same_new hl)) (.inl (.inl upd_same))⟩
    · exact .inr ⟨h, q r _ s2 h⟩
def sp_need_heard (K : PySem.W.Frag) : Sp := fun vs H Q _ => ∃ r, ∃ hs : List Int, vs = [.ref r] ∧ Sq K H r (hs.map V.int) ∧ hs.length ≤ 10000 ∧ RetT K H Q (hs.map V.int)
abbrev N_need_heard : List Str := ["value"]
abbrev sco_need_heard : Scope := defScope s_need_heard
theorem sc_need_heard : FnScope N_need_heard ["value"] sco_need_heard := ⟨rfl, rfl, rfl, by decide +kernel, rfl, by decide +kernel, by decide +kernel⟩
theorem ok_need_heard (T : Tx K mg) : C8.Cal P w K mg base 3 "need_heard" (sp_need_heard K) [] := by
  have c_are_integers : C8.Cal P w K mg base 2 "are_integers" (sp_are_integers K) [] := ok_are_integers T
  refine mkCal T.d_need_heard T.m_need_heard (fun fd F => ⟨[], .nil, F.bindsN fun _ _ _ _ _ _ us hl => match us, hl with | [_], _ => rfl⟩) sc_need_heard (fun vs H Q E h => ?_) (fun cdv A outer s H vs Q E hr h => ?_)
  · obtain ⟨r, hs, rfl, _⟩ := h; rfl
  · obtain ⟨r, hs, rfl, hS, hl, q⟩ := h
    refine ⟨_, (pss_cons (ps_if (pt_not (pt_val (C8.pe_c c_are_integers hr (by decide) (by rfl) (pa_cons (pv 0) pa_nil)))) (pss_one ps_never) pss_nil)
      (pss_one (ps_ret (pe_callTy (call_tuple_ofK (K := K) rfl) (by rfl) T.f_tuple bb_tuple (pa_cons (pv 0) pa_nil))))), ?_⟩
    refine ⟨_, rfl, r, hs, rfl, hS, by omega, fun H2 s2 => ?_⟩
    have hS2 : Sq K H2 r (hs.map V.int) := hS.mono s2
    refine ⟨true, rfl, iteF ⟨_, rfl, r, hs.map V.int, rfl, ?_⟩⟩
    rcases hS2 with h | h
    · exact .inl ⟨h, fun l hl => q l _ (s2.trans (same_new hl)) (.inl (.inl upd_same))⟩
    · exact .inr ⟨h, q r _ s2 h⟩
end
end K57
set_option Elab.async false
set_option linter.all false
set_option maxRecDepth 100000
set_option maxHeartbeats 4000000
namespace K57
open PySem PySem.Spec PyProof.Rows L2
theorem StAt.mono {K : PySem.W.Frag} {H H2 : Hp} {a : Addr} {s : Sd} (h : StAt K H a s) (m : Same H H2) : StAt K H2 a s :=
  let ⟨dx, ct, st, cvs, h1, h2, h3, h4⟩ := h; ⟨dx, ct, st, cvs, m a _ h1, h2.mono m, h3.mono m, sqt_mono m h4⟩
theorem eqv_cells : ∀ cs : List (Int × Int), PyData.eqvAll (cs.map fun p => PyData.tuple [.int p.1, .int p.2]) (cs.map fun p => PyData.tuple [.int p.1, .int p.2]) = true
  | [] => rfl
  | p :: r => by
    rw [List.map_cons]
    simp [PyData.eqvAll, PyData.eqv, eqv_cells r]
theorem eqv_ints : ∀ cs : List Int, PyData.eqvAll (cs.map PyData.int) (cs.map PyData.int) = true
  | [] => rfl
  | p :: r => by
    rw [List.map_cons]
    simp [PyData.eqvAll, PyData.eqv, eqv_ints r]
theorem eqv_st (s : Sd) : PyData.eqv (stD s) (stD s) = true := by
  simp [stD, PyData.eqvAll, PyData.eqv, eqv_cells, eqv_ints]
theorem can_cells : ∀ cs : List (Int × Int), PyData.canLayAll0 (cs.map fun p => PyData.tuple [.int p.1, .int p.2]) = true
  | [] => rfl
  | p :: r => by
    rw [List.map_cons]
    simp [PyData.canLayAll0, PyData.canLay0, can_cells r]
theorem dep_cells : ∀ cs : List (Int × Int), PyData.depthAll (cs.map fun p => PyData.tuple [.int p.1, .int p.2]) ≤ 1
  | [] => Nat.zero_le _
  | p :: r => by
    rw [List.map_cons]
    have := dep_cells r
    simp only [PyData.depthAll, PyData.depth]
    omega
theorem shaped_st (s : Sd) : SeqAt.shaped (stD s) = true := by
  have h1 := dep_cells s.cells
  have h2 := PySem.W.ke_depthAll s.said
  have h3 := PySem.W.ke_canLayAll0 s.said
  unfold SeqAt.shaped
  rw [Bool.and_eq_true]
  refine ⟨by simp [stD, PyData.canLay0, PyData.canLayAll0, can_cells, h3], decide_eq_true ?_⟩
  simp only [stD, PyData.depth, PyData.depthAll, h2]
  omega
/-- all but instances stays -/
def Sh (H H2 : Hp) : Prop := ∀ b u, (∀ C dx fs, u ≠ .ins C dx fs) → H b = some u → H2 b = some u
theorem SB.sh {H H2 : Hp} {a C dx : Addr} {fs : List (Str × V)} (s : SB a H H2) (h : H a = some (.ins C dx fs)) : Sh H H2 := fun b u hu e => s b u (fun z => by rw [z, h] at e; exact hu _ _ _ (Option.some.inj e).symm) e
theorem sqt_sh {K : PySem.W.Frag} {I I2 : Hp} {a : Addr} {xs : List V} (e : Sh I I2) (h : SqT K I a xs) : SqT K I2 a xs := by
  rcases h with (h | ⟨o, h⟩) | h
  · exact .inl (.inl (e _ _ (fun _ _ _ z => by cases z) h))
  · exact .inl (.inr ⟨o, e _ _ (fun _ _ _ z => by cases z) h⟩)
  · exact .inr h
theorem TzT.sh {I I2 : Hp} {a : Addr} {xs : List V} (h : TzT I a xs) (e : Sh I I2) : TzT I2 a xs := let ⟨o, h, r⟩ := h; ⟨o, e _ _ (fun _ _ _ z => by cases z) h, r⟩
theorem sql_sh {K : PySem.W.Frag} {I I2 : Hp} {a : Addr} {xs : List V} (e : Sh I I2) (h : SqL K I a xs) : SqL K I2 a xs := by
  rcases h with (h | ⟨o, h⟩) | h
  · exact .inl (.inl (e _ _ (fun _ _ _ z => by cases z) h))
  · exact .inl (.inr ⟨o, e _ _ (fun _ _ _ z => by cases z) h⟩)
  · exact .inr h
theorem Sq.sh {K : PySem.W.Frag} {I I2 : Hp} {a : Addr} {xs : List V} (h : Sq K I a xs) (e : Sh I I2) : Sq K I2 a xs := h.elim (fun h => .inl (sql_sh e h)) fun h => .inr (sqt_sh e h)
theorem sh_but {H H2 : Hp} {a C dx : Addr} {fs : List (Str × V)} (h : H a = some (.ins C dx fs)) (e : ∀ b, b ≠ a → H2 b = H b) : Sh H H2 := fun b u hu hb => by
  by_cases hba : b = a
  · subst hba
    rw [h] at hb
    exact absurd (Option.some.inj hb).symm (hu _ _ _)
  · rw [e b hba]; exact hb
mutual
theorem _root_.L2.Dp.sh' {K : PySem.W.Frag} {I I2 : Hp} (e : Sh I I2) : ∀ {v : V} {d : PyData}, Dp K I v d → Dp K I2 v d
  | _, _, .non => .non
  | _, _, .bl b => .bl b
  | _, _, .int i => .int i
  | _, _, .str x => .str x
  | _, _, .lst h hs => .lst (sql_sh e h) (L2.DpAll.sh' e hs)
  | _, _, .tup h hs => .tup (sqt_sh e h) (L2.DpAll.sh' e hs)
theorem _root_.L2.DpAll.sh' {K : PySem.W.Frag} {I I2 : Hp} (e : Sh I I2) : ∀ {vs : List V} {ds : List PyData}, DpAll K I vs ds → DpAll K I2 vs ds
  | _, _, .nil => .nil
  | _, _, .cons h hs => .cons (L2.Dp.sh' e h) (L2.DpAll.sh' e hs)
end
theorem _root_.L2.DpAll.sh {K : PySem.W.Frag} {I I2 : Hp} {vs : List V} {ds : List PyData} (h : DpAll K I vs ds) (e : Sh I I2) : DpAll K I2 vs ds := L2.DpAll.sh' e h
/-- many fields of the instance in slot 0, one behind another -/
def gAt (K : PySem.W.Frag) : List Str → TGs
  | [] => gNil
  | f :: r => gCons (gAttr K (tVar 0) f) (gAt K r)
def AllNo (K : PySem.W.Frag) (C : Addr) : List Str → Prop
  | [] => True
  | f :: r => NoAttr K C f ∧ AllNo K C r
def putAll : List Str → List V → List (Str × V) → List (Str × V)
  | f :: r, v :: vs, fs => putAll r vs (putF f v fs)
  | _, _, fs => fs
theorem len_putF (f : Str) (v : V) : ∀ fs : List (Str × V), (putF f v fs).length ≤ fs.length + 1
  | [] => Nat.le_refl _
  | (g, x) :: r => by
    unfold putF
    by_cases h : g = f
    · rw [if_pos h]; simp
    · rw [if_neg h]
      have := len_putF f v r
      simp only [List.length_cons]
      omega
theorem gAt_run {K : PySem.W.Frag} {a C dx : Addr} (c : Cls K C) : ∀ (names : List Str) (vals : List V) {fs0 : List (Str × V)} {σ : L2.St} {H : Hp} {Q : L2.St → Hp → Prop}, σ[0]? = some (some (.ref a)) → H a = some (.ins C dx fs0) → AllNo K C names → fs0.length + names.length < 1000 → vals.length = names.length →
    (∀ H2, H2 a = some (.ins C dx (putAll names vals fs0)) → (∀ b, b ≠ a → H2 b = H b) → Q σ H2) → gAt K names vals σ H Q
  | [], [], fs0, σ, H, Q, h0, ha, hn, hl, hv, q => ⟨rfl, q H ha fun _ _ => rfl⟩
  | [], _ :: _, fs0, σ, H, Q, h0, ha, hn, hl, hv, q => by cases hv
  | _ :: _, [], fs0, σ, H, Q, h0, ha, hn, hl, hv, q => by cases hv
  | f :: r, v :: vs, fs0, σ, H, Q, h0, ha, hn, hl, hv, q => by
    refine ⟨v, vs, rfl, _, h0, a, C, dx, fs0, rfl, ha, c, hn.1, by rw [List.length_cons] at hl; omega, ?_⟩
    refine gAt_run c r vs h0 upd_same hn.2 ?_ (Nat.succ.inj hv) fun H2 h2 e2 => q H2 h2 fun b hb => by rw [e2 b hb, upd_ne hb]
    have := len_putF f v fs0
    rw [List.length_cons] at hl
    omega
section
variable {P : Program} {w : World} {K : PySem.W.Frag} {mg : Str → Option Value} {base : Heap}
def sp_Stand_init (K : PySem.W.Frag) : Sp := fun vs H Q _ => ∃ a dx ca sa cvs s, vs = [.ref a, .int s.block, .int s.room, .bl s.tick, .bl s.flag, .bl s.test, .int s.mode, .int s.first, .int s.second, .ref ca, .int s.heard, .ref sa, .bl s.done] ∧
  H a = some (.ins (He.ga K "Stand") dx []) ∧ -1 ≤ s.block ∧ 0 ≤ s.mode ∧ s.mode ≤ 2 ∧ 0 ≤ s.heard ∧ Sq K H ca cvs ∧ DpAll K H cvs (s.cells.map cellD) ∧ CellsOk s.cells ∧ s.cells.length < 100000 ∧ Sq K H sa (s.said.map V.int) ∧ s.said.length < 100000 ∧
  ∀ H3, SB a H H3 → StAt K H3 a s → Q .non H3
abbrev N_Stand_init : List Str := ["self", "block", "room", "tick", "flag", "test", "mode", "first", "second", "cells", "heard", "said", "is_done", "pair"]
abbrev sco_Stand_init : Scope := defScope s_Stand_init
theorem sc_Stand_init : FnScope N_Stand_init ["self", "block", "room", "tick", "flag", "test", "mode", "first", "second", "cells", "heard", "said", "is_done"] sco_Stand_init := ⟨rfl, rfl, rfl, by decide +kernel, rfl, by decide +kernel, by decide +kernel⟩
theorem ok_Stand_init (T : Tx K mg) : C8.Mak P w K mg base 4 "Stand" (He.ga K "Stand") (sp_Stand_init K) [] := by
  have c_need_that : C8.Cal P w K mg base 1 "need_that" sp_need_that [] := ok_need_that T
  have c_is_within : C8.Cal P w K mg base 2 "is_within" sp_is_within [] := ok_is_within T
  have c_is_integer : C8.Cal P w K mg base 1 "is_integer" sp_is_integer [] := ok_is_integer T
  have c_is_truth : C8.Cal P w K mg base 1 "is_truth" sp_is_truth [] := ok_is_truth T
  have c_are_cells : C8.Cal P w K mg base 3 "are_cells" (sp_are_cells K) [] := ok_are_cells T
  have c_are_integers : C8.Cal P w K mg base 2 "are_integers" (sp_are_integers K) [] := ok_are_integers T
  refine mkMak T.mk_Stand T.d_Stand_init T.m_Stand .nil (fun fd F => F.bindsN fun _ _ _ _ _ _ us hl => match us, hl with | [_, _, _, _, _, _, _, _, _, _, _, _, _], _ => rfl) sc_Stand_init (fun vs H Q E h => ?_) (fun cdv A outer s H vs Q E hr h => ?_)
  · obtain ⟨a, dx, ca, sa, cvs, s, rfl, _⟩ := h; rfl
  · obtain ⟨a, dx, ca, sa, cvs, s, rfl, ha, hb, hm0, hm2, hh, hca, hcd, hok, hcl, hsa, hsl, q⟩ := h
    refine ⟨_, (pss_cons (ps_expr (C8.pe_c c_need_that hr (by decide) (by rfl) (pa_cons (C8.pe_c c_is_within hr (by decide) (by rfl) (pa_cons (pv 1) (pa_cons (pe_un un_neg pe_int) (pa_cons pe_non pa_nil)))) (pa_cons pe_str pa_nil))))
      (pss_cons (ps_expr (C8.pe_c c_need_that hr (by decide) (by rfl) (pa_cons (C8.pe_c c_is_integer hr (by decide) (by rfl) (pa_cons (pv 2) pa_nil)) (pa_cons pe_str pa_nil))))
      (pss_cons (ps_expr (C8.pe_c c_need_that hr (by decide) (by rfl) (pa_cons (C8.pe_c c_is_truth hr (by decide) (by rfl) (pa_cons (pv 3) pa_nil)) (pa_cons pe_str pa_nil))))
      (pss_cons (ps_expr (C8.pe_c c_need_that hr (by decide) (by rfl) (pa_cons (C8.pe_c c_is_truth hr (by decide) (by rfl) (pa_cons (pv 4) pa_nil)) (pa_cons pe_str pa_nil))))
      (pss_cons (ps_expr (C8.pe_c c_need_that hr (by decide) (by rfl) (pa_cons (C8.pe_c c_is_truth hr (by decide) (by rfl) (pa_cons (pv 5) pa_nil)) (pa_cons pe_str pa_nil))))
      (pss_cons (ps_expr (C8.pe_c c_need_that hr (by decide) (by rfl) (pa_cons (C8.pe_c c_is_within hr (by decide) (by rfl) (pa_cons (pv 6) (pa_cons pe_int (pa_cons (C8.pe_gc (by rfl) T.g_ANYWAY_MODE) pa_nil)))) (pa_cons pe_str pa_nil))))
      (pss_cons (ps_expr (C8.pe_c c_need_that hr (by decide) (by rfl) (pa_cons (C8.pe_c c_is_integer hr (by decide) (by rfl) (pa_cons (pv 7) pa_nil)) (pa_cons pe_str pa_nil))))
      (pss_cons (ps_expr (C8.pe_c c_need_that hr (by decide) (by rfl) (pa_cons (C8.pe_c c_is_integer hr (by decide) (by rfl) (pa_cons (pv 8) pa_nil)) (pa_cons pe_str pa_nil))))
      (pss_cons (ps_expr (C8.pe_c c_need_that hr (by decide) (by rfl) (pa_cons (C8.pe_c c_are_cells hr (by decide) (by rfl) (pa_cons (pv 9) pa_nil)) (pa_cons pe_str pa_nil))))
      (pss_cons (ps_expr (C8.pe_c c_need_that hr (by decide) (by rfl) (pa_cons (C8.pe_c c_is_within hr (by decide) (by rfl) (pa_cons (pv 10) (pa_cons pe_int (pa_cons pe_non pa_nil)))) (pa_cons pe_str pa_nil))))
      (pss_cons (ps_expr (C8.pe_c c_need_that hr (by decide) (by rfl) (pa_cons (C8.pe_c c_are_integers hr (by decide) (by rfl) (pa_cons (pv 11) pa_nil)) (pa_cons pe_str pa_nil))))
      (pss_cons (ps_expr (C8.pe_c c_need_that hr (by decide) (by rfl) (pa_cons (C8.pe_c c_is_truth hr (by decide) (by rfl) (pa_cons (pv 12) pa_nil)) (pa_cons pe_str pa_nil))))
      (pss_cons (ps_asg (pe_tup (pa_cons (pv 1) (pa_cons (pv 2) (pa_cons (pv 3) (pa_cons (pv 4) (pa_cons (pv 5) (pa_cons (pv 6) pa_nil))))))) (pg_tupK (K := K) (n := 6) rfl rfl (pgs_cons (pg_attr (K := K) rfl (pv 0)) (pgs_cons (pg_attr (K := K) rfl (pv 0)) (pgs_cons (pg_attr (K := K) rfl (pv 0)) (pgs_cons (pg_attr (K := K) rfl (pv 0)) (pgs_cons (pg_attr (K := K) rfl (pv 0)) (pgs_cons (pg_attr (K := K) rfl (pv 0)) pgs_nil))))))))
      (pss_cons (ps_asg (pe_tup (pa_cons (pv 7) (pa_cons (pv 8) (pa_cons (pe_callTy (call_tuple_ofZ (K := K) rfl) (by rfl) T.f_tuple bb_tuple (pa_cons (pe_lc (own := [("pair", 13)]) rfl sc_Stand_init.nd (pi_seq (pv 9)) (blkOk_by (own := [("pair", 13)]) (N := N_Stand_init) (sc := sco_Stand_init) (by decide +kernel)) (fun _ _ _ _ _ => (pg_name (i := 13) sc_Stand_init.nd rfl (Or.inl rfl))) (fun _ _ _ _ _ => pts_nil) (fun _ _ _ _ _ => (pe_callTy (call_tuple_ofK (K := K) rfl) (by rfl) T.f_tuple bb_tuple (pa_cons (pv 13) pa_nil)))) pa_nil)) pa_nil)))) (pg_tupK (K := K) (n := 3) rfl rfl (pgs_cons (pg_attr (K := K) rfl (pv 0)) (pgs_cons (pg_attr (K := K) rfl (pv 0)) (pgs_cons (pg_attr (K := K) rfl (pv 0)) pgs_nil)))))
      (pss_one (ps_asg (pe_tup (pa_cons (pv 10) (pa_cons (pe_callTy (call_tuple_ofK (K := K) rfl) (by rfl) T.f_tuple bb_tuple (pa_cons (pv 11) pa_nil)) (pa_cons (pv 12) pa_nil)))) (pg_tupK (K := K) (n := 3) rfl rfl (pgs_cons (pg_attr (K := K) rfl (pv 0)) (pgs_cons (pg_attr (K := K) rfl (pv 0)) (pgs_cons (pg_attr (K := K) rfl (pv 0)) pgs_nil)))))))))))))))))))), ?_⟩
    have m0 : Same H H := Same.refl H
    refine ⟨_, rfl, 1, rfl, s.block, some (-1), none, rfl, ⟨fun l e => by cases e; omega, fun l e => by cases e⟩, fun H0a s0a => ⟨_, rfl, fun H0 s0 => ?_⟩⟩
    have m1 : Same H H0 := m0.trans (s0a.trans s0)
    refine ⟨_, rfl, s.room, rfl, fun H1a s1a => ⟨_, rfl, fun H1 s1 => ?_⟩⟩
    have m2 : Same H H1 := m1.trans (s1a.trans s1)
    refine ⟨_, rfl, s.tick, rfl, fun H2a s2a => ⟨_, rfl, fun H2 s2 => ?_⟩⟩
    have m3 : Same H H2 := m2.trans (s2a.trans s2)
    refine ⟨_, rfl, s.flag, rfl, fun H3a s3a => ⟨_, rfl, fun H3 s3 => ?_⟩⟩
    have m4 : Same H H3 := m3.trans (s3a.trans s3)
    refine ⟨_, rfl, s.test, rfl, fun H4a s4a => ⟨_, rfl, fun H4 s4 => ?_⟩⟩
    have m5 : Same H H4 := m4.trans (s4a.trans s4)
    refine ⟨_, rfl, s.mode, some 0, some 2, rfl, ⟨fun l e => by cases e; omega, fun l e => by cases e; omega⟩, fun H5a s5a => ⟨_, rfl, fun H5 s5 => ?_⟩⟩
    have m6 : Same H H5 := m5.trans (s5a.trans s5)
    refine ⟨_, rfl, s.first, rfl, fun H6a s6a => ⟨_, rfl, fun H6 s6 => ?_⟩⟩
    have m7 : Same H H6 := m6.trans (s6a.trans s6)
    refine ⟨_, rfl, s.second, rfl, fun H7a s7a => ⟨_, rfl, fun H7 s7 => ?_⟩⟩
    have m8 : Same H H7 := m7.trans (s7a.trans s7)
    refine ⟨_, rfl, ca, cvs, s.cells, rfl, hca.mono m8, hcd.mono m8, hok, hcl, fun H8a s8a => ⟨_, rfl, fun H8 s8 => ?_⟩⟩
    have m9 : Same H H8 := m8.trans (s8a.trans s8)
    refine ⟨_, rfl, s.heard, some 0, none, rfl, ⟨fun l e => by cases e; omega, fun l e => by cases e⟩, fun H9a s9a => ⟨_, rfl, fun H9 s9 => ?_⟩⟩
    have m10 : Same H H9 := m9.trans (s9a.trans s9)
    refine ⟨_, rfl, sa, s.said, rfl, hsa.mono m10, by omega, fun H10a s10a => ⟨_, rfl, fun H10 s10 => ?_⟩⟩
    have m11 : Same H H10 := m10.trans (s10a.trans s10)
    refine ⟨_, rfl, s.done, rfl, fun H11a s11a => ⟨_, rfl, fun H11 s11 => ?_⟩⟩
    have m12 : Same H H11 := m11.trans (s11a.trans s11)
    have hcx : CellsOk s.cells := hok
    refine ⟨_, rfl, _, rfl, _, rfl, _, rfl, _, rfl, _, rfl, by show 6 ≤ sizeLine; decide, fun p1 hp1 => ?_⟩
    have n1 := m12.trans (same_new (o := .tup [.int s.block, .int s.room, .bl s.tick, .bl s.flag, .bl s.test, .int s.mode]) hp1)
    refine ⟨p1, _, rfl, .inl (.inl upd_same), rfl, gAt_run T.k_Stand ["block", "room", "tick", "flag", "test", "mode"] _ rfl (n1 a _ ha) ⟨T.n_Stand_block, T.n_Stand_room, T.n_Stand_tick, T.n_Stand_flag, T.n_Stand_test, T.n_Stand_mode, trivial⟩ (by decide) rfl fun G1 ga1 ge1 => ?_⟩
    have b1 : SB a H G1 := fun b u hb e => by rw [ge1 b hb]; exact n1 b u e
    have hca1 := hca.sh (b1.sh ha)
    have hcd1 := hcd.sh (b1.sh ha)
    have hsa1 := hsa.sh (b1.sh ha)
    have hlen : cvs.length = s.cells.length := by rw [hcd.length, List.length_map]
    refine ⟨_, rfl, _, rfl, ?_⟩
    refine lc_seq hca1 rfl (by omega) (fun _ => true) (fun i => cvs.getD i .non) (by intro x; rfl) (fun i x H' _ _ _ Qt qt => yes_ok qt) (fun i x H' hi _ s' hx Qe qe => ?_) (fun D G2 hD2 g2 hy => ?_)
    · obtain ⟨d, hd, hx2⟩ := hcd1.at hx
      rw [List.getElem?_map] at hd
      obtain ⟨c, hc, rfl⟩ := Option.map_eq_some_iff.mp hd
      obtain ⟨t, xs, rfl, h1, h2⟩ := dp_tup hx2
      have q2 := qe H' (Same.refl _)
      rw [show cvs.getD i .non = .ref t by rw [List.getD_eq_getElem?_getD, hx] <;> rfl] at q2
      exact ⟨_, rfl, t, xs, rfl, .inr ⟨sqt_mono s' h1, q2⟩⟩
    rw [given_all, range_getD] at hy
    refine ⟨D, cvs, rfl, .inl (.inl hy), fun ct co hct hco1 hco2 => ?_⟩
    refine ⟨by show 3 ≤ sizeLine; decide, fun p2 hp2 => ?_⟩
    have g3 : Same G1 (upd (upd G2 ct (.frz co (.tup cvs))) p2 (.tup [.int s.first, .int s.second, .ref ct])) := (g2.trans (same_new hct)).trans (same_new hp2)
    have hct3 : TzT (upd (upd G2 ct (.frz co (.tup cvs))) p2 (.tup [.int s.first, .int s.second, .ref ct])) ct cvs := ⟨co, same_new hp2 ct _ upd_same, hco1, hco2⟩
    refine ⟨p2, _, rfl, .inl (.inl upd_same), rfl, gAt_run T.k_Stand ["first", "second", "cells"] _ rfl (g3 a _ ga1) ⟨T.n_Stand_first, T.n_Stand_second, T.n_Stand_cells, trivial⟩ (by show 6 + 3 < 1000; decide) rfl fun G4 ga4 ge4 => ?_⟩
    have b3 : SB a G1 G4 := fun b u hb e => by rw [ge4 b hb]; exact g3 b u e
    have hct4 : TzT G4 ct cvs := hct3.sh (sh_but (g3 a _ ga1) ge4)
    have hsa4 := hsa1.sh (b3.sh ga1)
    have hcd4 := hcd1.sh (b3.sh ga1)
    have fin : ∀ (st : Addr) (G5 : Hp), Same G4 G5 → SqT K G5 st (s.said.map V.int) → ∀ p3, G5 p3 = none → gAt K ["heard", "said", "is_done"] [.int s.heard, .ref st, .bl s.done] (L2.start N_Stand_init [.ref a, .int s.block, .int s.room, .bl s.tick, .bl s.flag, .bl s.test, .int s.mode, .int s.first, .int s.second, .ref ca, .int s.heard, .ref sa, .bl s.done]) (upd G5 p3 (.tup [.int s.heard, .ref st, .bl s.done])) (fun _ H' => Q .non H') := by
      intro st G5 g5 hst p3 hp3
      have g6 : Same G4 (upd G5 p3 (.tup [.int s.heard, .ref st, .bl s.done])) := g5.trans (same_new hp3)
      have hst6 := sqt_mono (same_new (o := .tup [.int s.heard, .ref st, .bl s.done]) hp3) hst
      refine gAt_run T.k_Stand ["heard", "said", "is_done"] _ rfl (g6 a _ ga4) ⟨T.n_Stand_heard, T.n_Stand_said, T.n_Stand_is_done, trivial⟩ (by show 9 + 3 < 1000; decide) rfl fun G7 ga7 ge7 => ?_
      have b6 : SB a G4 G7 := fun b u hb e => by rw [ge7 b hb]; exact g6 b u e
      exact q G7 ((b1.trans b3).trans b6) ⟨dx, ct, st, cvs, ga7, hct4.sh (b6.sh ga4), hcd4.sh (b6.sh ga4), sqt_sh (sh_but (g6 a _ ga4) ge7) hst6⟩
    rcases hsa4 with h | h
    · exact ⟨_, rfl, _, rfl, sa, _, rfl, .inl ⟨h, fun st hst => ⟨_, rfl, (by show 3 ≤ sizeLine; decide), fun p3 hp3 => ⟨p3, _, rfl, .inl (.inl upd_same), rfl, fin st _ (same_new hst) (.inl (.inl upd_same)) p3 hp3⟩⟩⟩⟩
    · exact ⟨_, rfl, _, rfl, sa, _, rfl, .inr ⟨h, _, rfl, (by show 3 ≤ sizeLine; decide), fun p3 hp3 => ⟨p3, _, rfl, .inl (.inl upd_same), rfl, fin sa _ (Same.refl _) h p3 hp3⟩⟩⟩
def sp_begun (K : PySem.W.Frag) : Sp := fun vs H Q _ => vs = [] ∧ ∀ a H2, Same H H2 → H a = none → StAt K H2 a ⟨-1, 0, false, false, false, 2, 0, 0, [], 0, [], false⟩ → Q (.ref a) H2
abbrev N_begun : List Str := []
abbrev sco_begun : Scope := defScope s_begun
theorem sc_begun : FnScope N_begun [] sco_begun := ⟨rfl, rfl, rfl, by decide +kernel, rfl, by decide +kernel, by decide +kernel⟩
theorem ok_begun (T : Tx K mg) : C8.Cal P w K mg base 6 "begun" (sp_begun K) [] := by
  have c_Stand : C8.Mak P w K mg base 4 "Stand" (He.ga K "Stand") (sp_Stand_init K) [] := ok_Stand_init T
  refine mkCal T.d_begun T.m_begun (fun fd F => ⟨[], .nil, F.bindsN fun _ _ _ _ _ _ us hl => match us, hl with | [], _ => rfl⟩) sc_begun (fun vs H Q E h => ?_) (fun cdv A outer s H vs Q E hr h => ?_)
  · obtain ⟨rfl, _⟩ := h; rfl
  · obtain ⟨rfl, q⟩ := h
    refine ⟨_, (pss_one (ps_ret (C8.pe_mk c_Stand hr (by decide) (by rfl) (pa_cons (pe_un un_neg pe_int) (pa_cons pe_int (pa_cons pe_bl (pa_cons pe_bl (pa_cons pe_bl (pa_cons (C8.pe_gc (by rfl) T.g_ANYWAY_MODE) (pa_cons pe_int (pa_cons pe_int (pa_cons (pe_tup pa_nil) (pa_cons pe_int (pa_cons (pe_tup pa_nil) (pa_cons pe_bl pa_nil))))))))))))))), ?_⟩
    refine ⟨1, rfl, by show 0 ≤ sizeLine; decide, fun ct hct => ?_⟩
    have s1 : Same H (upd H ct (.tup [])) := same_new hct
    refine ⟨by show 0 ≤ sizeLine; decide, fun st hst => ?_⟩
    have s2 := s1.trans (same_new (o := .tup []) hst)
    have hct2 : SqT K (upd (upd H ct (.tup [])) st (.tup [])) ct [] := .inl (.inl (same_new hst ct _ upd_same))
    have hst2 : SqT K (upd (upd H ct (.tup [])) st (.tup [])) st [] := .inl (.inl upd_same)
    intro x dx hx hdx hne
    have s3 : Same (upd (upd H ct (.tup [])) st (.tup [])) (upd (upd (upd (upd H ct (.tup [])) st (.tup [])) dx (.own x)) x (.ins (He.ga K "Stand") dx [])) := fun b u e => by
      rw [upd_ne (ne_of_none e hx), upd_ne (ne_of_none e hdx)]
      exact e
    refine ⟨x, dx, ct, st, [], ⟨-1, 0, false, false, false, 2, 0, 0, [], 0, [], false⟩, rfl, upd_same, by decide, by decide, by decide, by decide, .inr (sqt_mono s3 hct2), .nil, ⟨.nil, by simp⟩, by decide, .inr (sqt_mono s3 hst2), by decide, fun H3 b3 h3 => ⟨rfl, ?_⟩⟩
    refine q x H3 (fun b u e => b3 b u (fun z => ?_) ((s2.trans s3) b u e)) (s2.free hx) h3
    rw [z] at e
    exact absurd (s2 x _ e) (by rw [hx]; simp)
def EqSt (K : PySem.W.Frag) (a b : Addr) (H : Hp) : Prop := ∃ s, StAt K H a s ∧ StAt K H b s
abbrev N_Stand_eq : List Str := ["self", "other"]
abbrev sco_Stand_eq : Scope := defScope s_Stand_eq
theorem sc_Stand_eq : FnScope N_Stand_eq ["self", "other"] sco_Stand_eq := ⟨rfl, rfl, rfl, by decide +kernel, rfl, by decide +kernel, by decide +kernel⟩
theorem ok_Stand_eq (T : Tx K mg) : ∃ fd, FnOk P w K mg base CX0 3 (He.ma K (He.ga K "Stand") "__eq__") fd ["self", "other"] (spEq (EqSt K)) ∧ Binds K fd ["self", "other"] [] := by
  have c_parts_of_stand : C8.Cal P w K mg base 1 "parts_of_stand" (sp_parts_of_stand K) [] := ok_parts_of_stand T
  obtain ⟨fd, _, F⟩ := T.d_Stand_eq
  refine ⟨fd, mkFnOk F sc_Stand_eq (fun vs H Q E h => ?_) (fun cdv A outer s H vs Q E hr h => ?_), F.bindsN fun _ _ _ _ _ _ us hl => match us, hl with | [_, _], _ => rfl⟩
  · obtain ⟨a, b, rfl, _⟩ := h; rfl
  · obtain ⟨a, b, rfl, ⟨s, ha, hb⟩, q⟩ := h
    have c_parts_of_stand := ok_parts_of_stand (P := P) (w := w) (base := base) T
    refine ⟨_, (pss_cons (ps_if (pt_not (pt_val (pe_callB (C8.call_isC T.i_Stand) (by rfl) T.f_isinstance bb_isinstance (pa_cons (pv 1) (pa_cons (C8.pe_gc (by rfl) T.c_Stand) pa_nil))))) (pss_one (ps_ret pe_bl)) pss_nil)
      (pss_one (ps_ret (pe_callTy call_bool1 (by rfl) T.f_bool bb_bool (pa_cons (pe_cmpR (op_eqDK (K := K) rfl hr.units) (C8.pe_c c_parts_of_stand hr (by decide) (by rfl) (pa_cons (pv 0) pa_nil)) (C8.pe_c c_parts_of_stand hr (by decide) (by rfl) (pa_cons (pv 1) pa_nil)) (nomark _)) pa_nil))))), ?_⟩
    have hb2 := hb
    obtain ⟨dx2, ct2, st2, cvs2, hb0, _⟩ := hb2
    refine ⟨_, rfl, b, dx2, _, rfl, hb0, true, rfl, iteF ?_⟩
    refine ⟨_, rfl, a, s, rfl, ha, fun p1 I1 H1 A1 D1 => ?_⟩
    refine ⟨_, rfl, b, s, rfl, hb.mono A1.hh, fun p2 I2 H2 A2 D2 => ?_⟩
    refine ⟨stD s, stD s, (D1.mono A1.ih).mono A2.hh, D2.mono A2.ih, shaped_st s, shaped_st s, .inr ⟨true, ?_, ?_⟩⟩
    · rw [eqv_st]
    · exact q H2 (A1.hh.trans A2.hh)
end
end K57
set_option Elab.async false
set_option linter.all false
set_option maxRecDepth 100000
set_option maxHeartbeats 4000000
namespace K57
open PySem PySem.Spec PyProof.Rows L2
/-- pairs of ints, laid as tuples -/
def PrAt (H : Hp) (acc : List V) (cs : List (Int × Int)) : Prop := Paired (fun x c => ∃ t, x = V.ref t ∧ H t = some (.tup [.int c.1, .int c.2])) acc cs
theorem PrAt.mono {H H2 : Hp} {acc : List V} {cs : List (Int × Int)} (h : PrAt H acc cs) (m : ∀ t p, H t = some (.tup p) → H2 t = some (.tup p)) : PrAt H2 acc cs := Paired.mapP h fun _ _ ⟨t, e, h⟩ => ⟨t, e, m t _ h⟩
def nz (cs : List (Int × Int)) : List (Int × Int) := cs.filter fun p => decide (p.2 ≠ 0)
def kO (H : Hp) : V → Int × Int
  | .ref t => match H t with
    | some (.tup [.int i, .int j]) => (i, j)
    | _ => (0, 0)
  | _ => (0, 0)
theorem kO_at {H : Hp} {t : Addr} {i j : Int} (h : H t = some (.tup [.int i, .int j])) : kO H (.ref t) = (i, j) := by
  simp only [kO, h]
theorem PrAt.all {H : Hp} {acc : List V} {cs : List (Int × Int)} (h : PrAt H acc cs) : ∀ x ∈ acc, ∃ t, x = V.ref t ∧ H t = some (.tup [.int (kO H x).1, .int (kO H x).2]) := by
  unfold PrAt at h
  induction h with
  | nil => intro x hx; cases hx
  | cons h _ ih =>
    intro x hx
    rcases List.mem_cons.mp hx with rfl | hx
    · obtain ⟨t, rfl, e⟩ := h
      exact ⟨t, rfl, by rw [kO_at e]; exact e⟩
    · exact ih x hx
theorem PrAt.map {H : Hp} {acc : List V} {cs : List (Int × Int)} (h : PrAt H acc cs) : acc.map (kO H) = cs := by
  unfold PrAt at h
  induction h with
  | nil => rfl
  | cons h _ ih =>
    obtain ⟨t, rfl, e⟩ := h
    rw [List.map_cons, kO_at e, ih]
theorem prAt_of {H : Hp} : ∀ {ys : List V}, (∀ x ∈ ys, ∃ t, x = V.ref t ∧ H t = some (.tup [.int (kO H x).1, .int (kO H x).2])) → PrAt H ys (ys.map (kO H))
  | [], _ => .nil
  | y :: r, h => by
    rw [List.map_cons]
    exact .cons (h y (List.mem_cons_self ..)) (prAt_of fun x hx => h x (List.mem_cons_of_mem _ hx))
theorem prAt_dp {K : PySem.W.Frag} {H : Hp} {acc : List V} {cs : List (Int × Int)} (h : PrAt H acc cs) : DpAll K H acc (cs.map cellD) := by
  unfold PrAt at h
  induction h with
  | nil => exact .nil
  | cons h _ ih =>
    obtain ⟨t, rfl, e⟩ := h
    exact .cons (.tup (.inl (.inl e)) (.cons (.int _) (.cons (.int _) .nil))) ih
theorem sorted_keys {k : V → Int × Int} {ys acc : List V} (hs : SrtO.Srtd (ltP k) ys) (hb : SrtO.Stb (ltP k) ys acc) (hn : ((acc.map k).map (·.1)).Nodup) : (ys.map k).Perm (acc.map k) ∧ (ys.map k).Pairwise (fun p q => p.1 < q.1) := by
  have hp : (ys.map k).Perm (acc.map k) := hb.perm.map k
  refine ⟨hp, ?_⟩
  have hn2 : ((ys.map k).map (·.1)).Nodup := (hp.map (·.1)).nodup_iff.mpr hn
  have h1 : (ys.map k).Pairwise fun p q => SrtO.lexB q p = false := List.pairwise_map.mpr hs
  have h2 : (ys.map k).Pairwise fun p q => p.1 ≠ q.1 := List.pairwise_map.mp hn2
  refine (h1.and h2).imp ?_
  rintro p q ⟨a, b⟩
  have := SrtO.lexB_no.mp a
  omega
section
variable {P : Program} {w : World} {K : PySem.W.Frag} {mg : Str → Option Value} {base : Heap}
def sp_Live_init (K : PySem.W.Frag) : Sp := fun vs H Q _ => ∃ a dx sa nu s, vs = [.ref a, .ref sa, .ref nu] ∧ H a = some (.ins (He.ga K "Live") dx []) ∧ StAt K H sa s ∧ s.cells = [] ∧
  ∀ H3 cd sl, SB a H H3 → H cd = none → H sl = none → LvAt K H3 a dx cd sl nu s → Q .non H3
abbrev N_Live_init : List Str := ["self", "stand", "numbers"]
abbrev sco_Live_init : Scope := defScope s_Live_init
theorem sc_Live_init : FnScope N_Live_init ["self", "stand", "numbers"] sco_Live_init := ⟨rfl, rfl, rfl, by decide +kernel, rfl, by decide +kernel, by decide +kernel⟩
theorem ok_Live_init (T : Tx K mg) : C8.Mak P w K mg base 1 "Live" (He.ga K "Live") (sp_Live_init K) [] := by
  refine mkMak T.mk_Live T.d_Live_init T.m_Live .nil (fun fd F => F.bindsN fun _ _ _ _ _ _ us hl => match us, hl with | [_, _, _], _ => rfl) sc_Live_init (fun vs H Q E h => ?_) (fun cdv A outer s H vs Q E hr h => ?_)
  · obtain ⟨a, dx, sa, nu, s, rfl, _⟩ := h; rfl
  · obtain ⟨a, dx, sa, nu, s, rfl, ha, hs, hc0, q⟩ := h
    refine ⟨_, (pss_cons (ps_asg (pe_tup (pa_cons (pe_fldK (K := K) rfl (pv 1) rfl) (pa_cons (pe_fldK (K := K) rfl (pv 1) rfl) (pa_cons (pe_fldK (K := K) rfl (pv 1) rfl) (pa_cons (pe_fldK (K := K) rfl (pv 1) rfl) pa_nil))))) (pg_tupK (K := K) (n := 4) rfl rfl (pgs_cons (pg_attr (K := K) rfl (pv 0)) (pgs_cons (pg_attr (K := K) rfl (pv 0)) (pgs_cons (pg_attr (K := K) rfl (pv 0)) (pgs_cons (pg_attr (K := K) rfl (pv 0)) pgs_nil))))))
      (pss_cons (ps_asg (pe_tup (pa_cons (pe_fldK (K := K) rfl (pv 1) rfl) (pa_cons (pe_fldK (K := K) rfl (pv 1) rfl) (pa_cons (pe_fldK (K := K) rfl (pv 1) rfl) (pa_cons (pe_fldK (K := K) rfl (pv 1) rfl) pa_nil))))) (pg_tupK (K := K) (n := 4) rfl rfl (pgs_cons (pg_attr (K := K) rfl (pv 0)) (pgs_cons (pg_attr (K := K) rfl (pv 0)) (pgs_cons (pg_attr (K := K) rfl (pv 0)) (pgs_cons (pg_attr (K := K) rfl (pv 0)) pgs_nil))))))
      (pss_cons (ps_fld (pv 0) (pe_callTy (call_dict0T rfl) (by rfl) T.f_dict bb_dict (pa_cons (pe_fldK (K := K) rfl (pv 1) rfl) pa_nil)) rfl)
      (pss_cons (ps_asg (pe_tup (pa_cons (pe_fldK (K := K) rfl (pv 1) rfl) (pa_cons (pe_callTy (call_list_ofK (K := K) rfl) (by rfl) T.f_list bb_list (pa_cons (pe_fldK (K := K) rfl (pv 1) rfl) pa_nil)) (pa_cons (pe_fldK (K := K) rfl (pv 1) rfl) pa_nil)))) (pg_tupK (K := K) (n := 3) rfl rfl (pgs_cons (pg_attr (K := K) rfl (pv 0)) (pgs_cons (pg_attr (K := K) rfl (pv 0)) (pgs_cons (pg_attr (K := K) rfl (pv 0)) pgs_nil)))))
      (pss_one (ps_fld (pv 0) (pv 2) rfl)))))), ?_⟩
    obtain ⟨dx2, ct, st, cvs, hsa, hct, hcd, hst⟩ := hs
    rw [hc0] at hcd
    cases hcd
    have hne : sa ≠ a := fun e => by rw [e, ha] at hsa; exact nomatch (show ([] : List (Str × V)) = sf s ct st from by injection hsa with z; injection z)
    refine ⟨_, rfl, sa, _, dx2, _, _, rfl, hsa, T.k_Stand, T.n_Stand_block, q_block s ct st, _, rfl, sa, _, dx2, _, _, rfl, hsa, T.k_Stand, T.n_Stand_room, q_room s ct st, _, rfl, sa, _, dx2, _, _, rfl, hsa, T.k_Stand, T.n_Stand_tick, q_tick s ct st, _, rfl, sa, _, dx2, _, _, rfl, hsa, T.k_Stand, T.n_Stand_flag, q_flag s ct st, by show 4 ≤ sizeLine; decide, fun p1 hp1 => ?_⟩
    have n1 : Same H (upd H p1 (.tup [.int s.block, .int s.room, .bl s.tick, .bl s.flag])) := same_new hp1
    refine ⟨p1, _, rfl, .inl (.inl upd_same), rfl, gAt_run T.k_Live ["block", "room", "tick", "flag"] _ rfl (n1 a _ ha) ⟨T.n_Live_block, T.n_Live_room, T.n_Live_tick, T.n_Live_flag, trivial⟩ (by decide) rfl fun G1 ga1 ge1 => ?_⟩
    have b1 : SB a H G1 := fun b u hb e => by rw [ge1 b hb]; exact n1 b u e
    have hsa1 := b1 sa _ hne hsa
    refine ⟨_, rfl, sa, _, dx2, _, _, rfl, hsa1, T.k_Stand, T.n_Stand_test, q_test s ct st, _, rfl, sa, _, dx2, _, _, rfl, hsa1, T.k_Stand, T.n_Stand_mode, q_mode s ct st, _, rfl, sa, _, dx2, _, _, rfl, hsa1, T.k_Stand, T.n_Stand_first, q_first s ct st, _, rfl, sa, _, dx2, _, _, rfl, hsa1, T.k_Stand, T.n_Stand_second, q_second s ct st, by show 4 ≤ sizeLine; decide, fun p2 hp2 => ?_⟩
    have n2 : Same G1 (upd G1 p2 (.tup [.bl s.test, .int s.mode, .int s.first, .int s.second])) := same_new hp2
    refine ⟨p2, _, rfl, .inl (.inl upd_same), rfl, gAt_run T.k_Live ["test", "mode", "first", "second"] _ rfl (n2 a _ ga1) ⟨T.n_Live_test, T.n_Live_mode, T.n_Live_first, T.n_Live_second, trivial⟩ (by show 4 + 4 < 1000; decide) rfl fun G2 ga2 ge2 => ?_⟩
    have b2 : SB a H G2 := b1.trans fun b u hb e => by rw [ge2 b hb]; exact n2 b u e
    have hsa2 := b2 sa _ hne hsa
    refine ⟨_, rfl, sa, _, dx2, _, _, rfl, hsa2, T.k_Stand, T.n_Stand_cells, q_cells s ct st, ct, rfl, hct.sh (b2.sh ha), fun cd hcd => ?_⟩
    have n3 : Same G2 (upd G2 cd (.dK [])) := same_new hcd
    refine ⟨_, rfl, a, _, dx, _, rfl, n3 a _ ga2, T.k_Live, T.n_Live_cells, (by show 8 < 1000; decide), ?_⟩
    have hca : cd ≠ a := fun e => by rw [e, ga2] at hcd; cases hcd
    have b3 : ∀ o, SB a G2 (upd (upd G2 cd (.dK [])) a o) := fun o b u hb e => by rw [upd_ne hb]; exact n3 b u e
    have hc3 : ∀ o, (upd (upd G2 cd (.dK [])) a o) cd = some (.dK []) := fun o => by rw [upd_ne hca]; exact upd_same
    have hsa3 := fun o => b3 o sa _ hne hsa2
    refine ⟨_, rfl, sa, _, dx2, _, _, rfl, hsa3 _, T.k_Stand, T.n_Stand_heard, q_heard s ct st, _, rfl, sa, _, dx2, _, _, rfl, hsa3 _, T.k_Stand, T.n_Stand_said, q_said s ct st, st, _, rfl, .inr (sqt_sh ((b3 _).sh ga2) (sqt_sh (b2.sh ha) hst)), fun sl hsl => ?_⟩
    have hla : sl ≠ a := fun e => by rw [e, upd_same] at hsl; cases hsl
    have hlc : sl ≠ cd := fun e => by rw [e, hc3] at hsl; cases hsl
    have hslH : H sl = none := by
      cases e : H sl with
      | none => rfl
      | some u => rw [(b3 _) sl u hla (b2 sl u hla e)] at hsl; cases hsl
    have hcdH : H cd = none := by
      cases e : H cd with
      | none => rfl
      | some u => rw [b2 cd u hca e] at hcd; cases hcd
    have n4 := same_new (o := .lst (s.said.map V.int)) hsl
    have hsa4 := n4 sa _ (hsa3 _)
    refine ⟨_, rfl, sa, _, dx2, _, _, rfl, hsa4, T.k_Stand, T.n_Stand_is_done, q_done s ct st, by show 3 ≤ sizeLine; decide, fun p3 hp3 => ?_⟩
    have n5 := n4.trans (same_new (o := .tup [.int s.heard, .ref sl, .bl s.done]) hp3)
    refine ⟨p3, _, rfl, .inl (.inl upd_same), rfl, gAt_run T.k_Live ["heard", "said", "is_done"] _ rfl (n5 a _ upd_same) ⟨T.n_Live_heard, T.n_Live_said, T.n_Live_is_done, trivial⟩ (by show 9 + 3 < 1000; decide) rfl fun G5 ga5 ge5 => ?_⟩
    have b5 : SB a H G5 := fun b u hb e => by rw [ge5 b hb]; exact n5 b u (b3 _ b u hb (b2 b u hb e))
    refine ⟨_, rfl, _, rfl, a, _, dx, _, rfl, ga5, T.k_Live, T.n_Live_numbers, (by show 12 < 1000; decide), ?_⟩
    refine q _ cd sl (fun b u hb e => by rw [upd_ne hb]; exact b5 b u hb e) hcdH hslH ⟨upd_same, ?_, ?_⟩
    · rw [upd_ne hca, ge5 cd hca, hc0]
      exact n5 cd _ (hc3 _)
    · rw [upd_ne hla, ge5 sl hla]
      refine (same_new hp3) sl _ upd_same
def sp_Live_kept (K : PySem.W.Frag) : Sp := fun vs H Q _ => ∃ a dx cd sl nu s, vs = [.ref a] ∧ LvAt K H a dx cd sl nu s ∧ Sz s ∧ -1 ≤ s.block ∧ 0 ≤ s.mode ∧ s.mode ≤ 2 ∧ (s.cells.map (·.1)).Nodup ∧
  ∀ cs b H2, cs.Perm (nz s.cells) → cs.Pairwise (fun p q => p.1 < q.1) → Same H H2 → H b = none → StAt K H2 b { s with cells := cs } → Q (.ref b) H2
abbrev N_Live_kept : List Str := ["self", "cells", "gears", "pair"]
abbrev sco_Live_kept : Scope := defScope s_Live_kept
theorem sc_Live_kept : FnScope N_Live_kept ["self"] sco_Live_kept := ⟨rfl, rfl, rfl, by decide +kernel, rfl, by decide +kernel, by decide +kernel⟩
theorem ok_Live_kept (T : Tx K mg) : C8.Met P w K mg base 6 (He.ga K "Live") "kept" (sp_Live_kept K) [] := by
  have c_Stand : C8.Mak P w K mg base 4 "Stand" (He.ga K "Stand") (sp_Stand_init K) [] := ok_Stand_init T
  refine mkMet T.k_Live T.me_Live_kept T.d_Live_kept (fun fd F => F.bindsN fun _ _ _ _ _ _ us hl => match us, hl with | [_], _ => rfl) sc_Live_kept (fun vs H Q E h => ?_) (fun cdv A outer s H vs Q E hr h => ?_)
  · obtain ⟨a, dx, cd, sl, nu, s, rfl, _⟩ := h; rfl
  · obtain ⟨a, dx, cd, sl, nu, s, rfl, hL, hz, hb0, hm0, hm2, hnd, q⟩ := h
    have c_Stand : C8.Mak P w K mg base 4 "Stand" (He.ga K "Stand") (sp_Stand_init K) [] := ok_Stand_init T
    refine ⟨_, (pss_cons (ps_set (i := 1) sc_Live_kept.nd rfl (Or.inl rfl) (pe_callB (cr_sortedPOK (K := K) rfl) (by rfl) T.f_sorted bb_sorted (pa_cons (pe_lock (pe_lc (own := [("pair", 3)]) rfl sc_Live_kept.nd (pi_itemsN (pe_fldK (K := K) rfl (pv 0) rfl)) (blkOk_by (own := [("pair", 3)]) (N := N_Live_kept) (sc := sco_Live_kept) (by decide +kernel)) (fun _ _ _ _ _ => (pg_name (i := 3) sc_Live_kept.nd rfl (Or.inl rfl))) (fun _ _ _ _ _ => (pts_one (pt_cmpR op_ne (pe_ix (ix_tupK (K := K) rfl) (pv 3) pe_int (fun _ _ => rfl)) pe_int (nomark _)))) (fun _ _ _ _ _ => (pv 3)))) pa_nil)))
      (pss_cons (ps_set (i := 2) sc_Live_kept.nd rfl (Or.inl rfl) (pe_tup (pa_cons (pe_fldK (K := K) rfl (pv 0) rfl) (pa_cons (pe_fldK (K := K) rfl (pv 0) rfl) (pa_cons (pe_fldK (K := K) rfl (pv 0) rfl) (pa_cons (pe_fldK (K := K) rfl (pv 0) rfl) (pa_cons (pe_fldK (K := K) rfl (pv 0) rfl) (pa_cons (pe_fldK (K := K) rfl (pv 0) rfl) pa_nil))))))))
      (pss_one (ps_ret (pe_mkS c_Stand hr (by decide) (by rfl) (StX.pa_star (pv 2) (pa_cons (pe_fldK (K := K) rfl (pv 0) rfl) (pa_cons (pe_fldK (K := K) rfl (pv 0) rfl) (pa_cons (pv 1) (pa_cons (pe_fldK (K := K) rfl (pv 0) rfl) (pa_cons (pe_fldK (K := K) rfl (pv 0) rfl) (pa_cons (pe_fldK (K := K) rfl (pv 0) rfl) pa_nil)))))))))))), ?_⟩
    obtain ⟨ha, hc, hl⟩ := id hL
    have hca : a ≠ cd := fun e => by rw [← e, ha] at hc; cases hc
    refine ⟨cd, _, hc, trivial, fun od => ?_⟩
    refine ⟨_, rfl, a, _, dx, _, _, rfl, by rw [upd_ne hca]; exact ha, T.k_Live, T.n_Live_cells, l_cells s cd sl nu, cd, od, _, rfl, upd_same, fun D hD => ?_⟩
    have hDc : D ≠ cd := fun e => by rw [e, upd_same] at hD; cases hD
    have hDH : H D = none := by rw [upd_ne hDc] at hD; exact hD
    generalize hHL : upd H cd (.frz od (.dK (kvI s.cells))) = HL at *
    refine lc_it (walk_items (d := cd) (o := od) (kvs := kvI s.cells)) (fun i H' => ∃ acc, H' D = some (.lst acc) ∧ PrAt H' acc (nz (s.cells.take i)) ∧ ∀ b u, b ≠ D → HL b = some u → H' b = some u) ?_ ?_ ?_ ?_
    · exact ⟨[], upd_same, .nil, fun b u hb e => by rw [upd_ne hb]; exact e⟩
    · rintro i H' _ ⟨acc, _, _, h⟩
      refine h cd _ (Ne.symm hDc) ?_
      rw [← hHL]
      exact upd_same
    · rintro i x H0 H' hi ⟨acc, h1, h2, h3⟩ ⟨t, k, v, rfl, ht, rfl, hk, hv⟩
      obtain ⟨c, hci, rfl, rfl⟩ : ∃ c, s.cells[i]? = some c ∧ k = .int c.1 ∧ v = .int c.2 := by
        cases e : s.cells[i]? with
        | none => simp [kvI, e] at hk
        | some c =>
          simp [kvI, e] at hk hv
          exact ⟨c, rfl, hk.symm, hv.symm⟩
      have hDt : D ≠ t := fun e => by rw [e, ht] at h1; cases h1
      have en : nz (s.cells.take (i + 1)) = nz (s.cells.take i) ++ nz [c] := by
        unfold nz
        rw [List.take_add_one, hci, Option.toList_some, List.filter_append]
      have h3' : ∀ b u, b ≠ D → HL b = some u → upd H0 t (.tup [.int c.1, .int c.2]) b = some u := fun b u hb e => same_new ht b u (h3 b u hb e)
      have h2' : PrAt (upd H0 t (.tup [.int c.1, .int c.2])) acc (nz (s.cells.take i)) := h2.mono fun b p e => same_new ht b _ e
      have h1' : upd H0 t (.tup [.int c.1, .int c.2]) D = some (.lst acc) := same_new ht D _ h1
      refine ⟨rfl, ?_⟩
      refine ⟨_, rfl, t, _, 1, .int c.2, rfl, rfl, .inl (.inl upd_same), rfl, rfl, !decide (V.int c.2 = V.int 0), rfl, ?_⟩
      by_cases h0 : c.2 = 0
      · rw [show (!decide (V.int c.2 = V.int 0)) = false by rw [h0]; decide]
        refine iteF ⟨acc, h1', ?_, h3'⟩
        rw [en, show nz [c] = [] by simp [nz, h0], List.append_nil]
        exact h2'
      · rw [show (!decide (V.int c.2 = V.int 0)) = true by rw [decide_eq_false (fun z => h0 (by injection z))]; rfl]
        refine iteT ⟨_, rfl, acc, h1', ?_, _, upd_same, ?_, fun b u hb e => by rw [upd_ne hb]; exact h3' b u hb e⟩
        · have e1 := Paired.length h2'
          have e2 : (nz (s.cells.take i)).length ≤ s.cells.length := Nat.le_trans (List.length_filter_le _ _) (by rw [List.length_take]; omega)
          have := hz.c
          exact lt_line (by omega)
        · rw [en, show nz [c] = [c] by simp [nz, h0]]
          refine Paired.snoc ?_ ⟨t, rfl, by rw [upd_ne (Ne.symm hDt)]; exact upd_same⟩
          refine PrAt.mono h2' fun b p e => ?_
          rw [upd_ne (fun z => by rw [z, h1'] at e; cases e)]
          exact e
    · rintro H0 ⟨acc, h1, h2, h3⟩
      have hcd : H0 cd = some (.frz od (.dK (kvI s.cells))) := h3 cd _ (Ne.symm hDc) (by rw [← hHL]; exact upd_same)
      refine ⟨hcd, ?_⟩
      have h1' : upd H0 cd (.dK (kvI s.cells)) D = some (.lst acc) := by rw [upd_ne hDc]; exact h1
      rw [show s.cells.take (kvI s.cells).length = s.cells by rw [kvI, List.length_map, List.take_length]] at h2
      have h2' : PrAt (upd H0 cd (.dK (kvI s.cells))) acc (nz s.cells) := h2.mono fun b p e => by
        rw [upd_ne (fun z => by rw [z, hcd] at e; cases e)]; exact e
      have m1 : Same H (upd H0 cd (.dK (kvI s.cells))) := fun b u e => by
        by_cases hb : b = cd
        · rw [hb] at e ⊢; rw [hc] at e; rw [upd_same]; exact e
        · rw [upd_ne hb]; exact h3 b u (fun z => by rw [z, hDH] at e; cases e) (by rw [← hHL, upd_ne hb]; exact e)
      generalize upd H0 cd (.dK (kvI s.cells)) = H1 at *
      have hnd2 : ((acc.map (kO H1)).map (·.1)).Nodup := by
        rw [h2'.map]
        exact hnd.sublist ((List.filter_sublist).map _)
      refine ⟨D, acc, kO H1, rfl, .inl (.inl h1'), h2'.all, fun ys L hs hb hL => ?_⟩
      obtain ⟨hp, hpw⟩ := sorted_keys hs hb hnd2
      rw [h2'.map] at hp
      have hya : PrAt H1 ys (ys.map (kO H1)) := prAt_of fun x hx => h2'.all x (hb.perm.mem_iff.mp hx)
      have m2 : Same H1 (upd H1 L (.lst ys)) := same_new hL
      generalize hcs : ys.map (kO H1) = cs at *
      have m := m1.trans m2
      have ha2 := m a _ ha
      refine ⟨_, rfl, a, _, dx, _, _, rfl, ha2, T.k_Live, T.n_Live_block, l_block s cd sl nu, _, rfl, a, _, dx, _, _, rfl, ha2, T.k_Live, T.n_Live_room, l_room s cd sl nu, _, rfl, a, _, dx, _, _, rfl, ha2, T.k_Live, T.n_Live_tick, l_tick s cd sl nu, _, rfl, a, _, dx, _, _, rfl, ha2, T.k_Live, T.n_Live_flag, l_flag s cd sl nu, _, rfl, a, _, dx, _, _, rfl, ha2, T.k_Live, T.n_Live_test, l_test s cd sl nu, _, rfl, a, _, dx, _, _, rfl, ha2, T.k_Live, T.n_Live_mode, l_mode s cd sl nu, by show 6 ≤ sizeLine; decide, fun p1 hp1 => ?_⟩
      have m3 := m.trans (same_new (o := .tup [.int s.block, .int s.room, .bl s.tick, .bl s.flag, .bl s.test, .int s.mode]) hp1)
      have ha3 := m3 a _ ha
      refine ⟨_, rfl, p1, _, rfl, .inl (.inl (.inl upd_same)), _, rfl, a, _, dx, _, _, rfl, ha3, T.k_Live, T.n_Live_first, l_first s cd sl nu, _, rfl, a, _, dx, _, _, rfl, ha3, T.k_Live, T.n_Live_second, l_second s cd sl nu, _, rfl, _, rfl, a, _, dx, _, _, rfl, ha3, T.k_Live, T.n_Live_heard, l_heard s cd sl nu, _, rfl, a, _, dx, _, _, rfl, ha3, T.k_Live, T.n_Live_said, l_said s cd sl nu, _, rfl, a, _, dx, _, _, rfl, ha3, T.k_Live, T.n_Live_is_done, l_done s cd sl nu, fun x dx2 hx hdx hne => ?_⟩
      have m4 : ∀ o, Same (upd (upd H1 L (.lst ys)) p1 (.tup [.int s.block, .int s.room, .bl s.tick, .bl s.flag, .bl s.test, .int s.mode])) (upd (upd (upd (upd H1 L (.lst ys)) p1 (.tup [.int s.block, .int s.room, .bl s.tick, .bl s.flag, .bl s.test, .int s.mode])) dx2 (.own x)) x o) := fun o b u e => by
        rw [upd_ne (ne_of_none e hx), upd_ne (ne_of_none e hdx)]
        exact e
      have mL := (same_new (o := .tup [.int s.block, .int s.room, .bl s.tick, .bl s.flag, .bl s.test, .int s.mode]) hp1).trans (m4 (.ins (He.ga K "Stand") dx2 []))
      have hlen : cs.length ≤ s.cells.length := by rw [hp.length_eq]; exact List.length_filter_le _ _
      have hzc := hz.c
      have hzd := hz.d
      refine ⟨x, dx2, L, sl, ys, { s with cells := cs }, rfl, upd_same, hb0, hm0, hm2, hz.h, .inl (.inl (.inl (mL L _ upd_same))), ?_, ⟨hpw, fun p hm => ?_⟩, (by show cs.length < 100000; omega), .inl (.inl (.inl (m4 _ sl _ (m3 sl _ hl)))), hz.d, fun H3 b3 h3 => ⟨rfl, ?_⟩⟩
      · exact prAt_dp (hya.mono fun b p e => mL b _ (m2 b _ e))
      · have := hp.mem_iff.mp hm
        simpa [nz] using (List.mem_filter.mp this).2
      · refine q cs x H3 hp hpw (fun b u e => b3 b u (fun z => ?_) (m4 _ b u (m3 b u e))) (m3.free hx) h3
        rw [z] at e
        exact absurd (m3 x _ e) (by rw [hx]; simp)
theorem fr3_any {K : PySem.W.Frag} {H H2 : Hp} {a dx cd sl nu p : Addr} {s : Sd} {xs : List V} (h : LvAt K H a dx cd sl nu s) (f : Fr3 a cd sl H H2) (hn : SqT K H p xs) : SqT K H2 p xs := by
  obtain ⟨h1, h2, h3⟩ := h
  rcases hn with (hn | ⟨o, hn⟩) | hn
  · exact .inl (.inl (f p _ (fun e => by rw [e, h1] at hn; cases hn) (fun e => by rw [e, h2] at hn; cases hn) (fun e => by rw [e, h3] at hn; cases hn) hn))
  · exact .inl (.inr ⟨o, f p _ (fun e => by rw [e, h1] at hn; cases hn) (fun e => by rw [e, h2] at hn; cases hn) (fun e => by rw [e, h3] at hn; cases hn) hn⟩)
  · exact .inr hn
def sp_passed (K : PySem.W.Frag) : Sp := fun vs H Q _ => ∃ sa r hr s ns, ∃ hs : List Int, vs = [.ref sa, .ref r, .ref hr] ∧ StAt K H sa s ∧ s.cells = [] ∧ Sq K H r (nV ns) ∧ ns.length ≤ 10000 ∧ (∀ n ∈ ns, n < 30) ∧ Sq K H hr (hs.map V.int) ∧ hs.length ≤ 10000 ∧
  (∀ i, Sz (runS hs s (ns.take i))) ∧ -1 ≤ (runS hs s ns).block ∧ 0 ≤ (runS hs s ns).mode ∧ (runS hs s ns).mode ≤ 2 ∧ ((runS hs s ns).cells.map (·.1)).Nodup ∧
  ∀ cs b H2, cs.Perm (nz (runS hs s ns).cells) → cs.Pairwise (fun p q => p.1 < q.1) → Same H H2 → H b = none → StAt K H2 b { runS hs s ns with cells := cs } → Q (.ref b) H2
abbrev N_passed : List Str := ["stand", "row", "heard", "told", "live", "number"]
abbrev sco_passed : Scope := defScope s_passed
theorem sc_passed : FnScope N_passed ["stand", "row", "heard"] sco_passed := ⟨rfl, rfl, rfl, by decide +kernel, rfl, by decide +kernel, by decide +kernel⟩
theorem ok_passed (T : Tx K mg) : C8.Cal P w K mg base 7 "passed" (sp_passed K) [] := by
  have c_need_stand : C8.Cal P w K mg base 1 "need_stand" (sp_need_stand K) [] := ok_need_stand T
  have c_need_plain_row : C8.Cal P w K mg base 4 "need_plain_row" (sp_need_plain_row K) [] := ok_need_plain_row T
  have c_Live : C8.Mak P w K mg base 1 "Live" (He.ga K "Live") (sp_Live_init K) [] := ok_Live_init T
  have m_kept : C8.Met P w K mg base 6 (He.ga K "Live") "kept" (sp_Live_kept K) [] := ok_Live_kept T
  have c_need_heard : C8.Cal P w K mg base 3 "need_heard" (sp_need_heard K) [] := ok_need_heard T
  have c_do_word : C8.Cal P w K mg base 4 "do_word" (sp_do_word K) [] := ok_do_word T
  refine mkCal T.d_passed T.m_passed (fun fd F => ⟨[], .nil, F.bindsN fun _ _ _ _ _ _ us hl => match us, hl with | [_, _, _], _ => rfl⟩) sc_passed (fun vs H Q E h => ?_) (fun cdv A outer s H vs Q E hr h => ?_)
  · obtain ⟨sa, r, hr, s, ns, hs, rfl, _⟩ := h; rfl
  · obtain ⟨sa, r, hr', s, ns, hs, rfl, hst, hc0, hr1, hrl, hr30, hh1, hhl, hsz, hb0, hm0, hm2, hnd, q⟩ := h
    have c_need_stand := ok_need_stand (P := P) (w := w) (base := base) T
    have c_need_plain_row := ok_need_plain_row (P := P) (w := w) (base := base) T
    have c_need_heard := ok_need_heard (P := P) (w := w) (base := base) T
    have c_Live := ok_Live_init (P := P) (w := w) (base := base) T
    have c_do_word := ok_do_word (P := P) (w := w) (base := base) T
    have m_kept := ok_Live_kept (P := P) (w := w) (base := base) T
    refine ⟨_, (pss_cons (ps_expr (C8.pe_c c_need_stand hr (by decide) (by rfl) (pa_cons (pv 0) pa_nil)))
      (pss_cons (ps_set (i := 3) sc_passed.nd rfl (Or.inl rfl) (C8.pe_c c_need_plain_row hr (by decide) (by rfl) (pa_cons (pv 1) pa_nil)))
      (pss_cons (ps_set (i := 4) sc_passed.nd rfl (Or.inl rfl) (C8.pe_mk c_Live hr (by decide) (by rfl) (pa_cons (pv 0) (pa_cons (C8.pe_c c_need_heard hr (by decide) (by rfl) (pa_cons (pv 2) pa_nil)) pa_nil))))
      (pss_cons (ps_for PassesOwn.never rfl (pi_tupK (K := K) rfl (pv 3)) (pg_name (i := 5) sc_passed.nd rfl (Or.inl rfl))
      (pss_one (ps_expr (C8.pe_c c_do_word hr (by decide) (by rfl) (pa_cons (pv 4) (pa_cons (pv 5) pa_nil))))))
      (pss_one (ps_ret (C8.pe_mt0 m_kept hr (by decide) (pv 4)))))))), ?_⟩
    refine ⟨_, rfl, sa, s, rfl, hst, fun H1 s1 => ⟨_, rfl, r, ns, rfl, hr1.mono s1, hrl, hr30, fun tp H2 s2 htp => ?_⟩⟩
    refine ⟨_, rfl, _, rfl, hr', hs, rfl, hh1.mono (s1.trans s2), hhl, fun nu H3 s3 hnu => ?_⟩
    intro a dx ha hdx hne
    have s4 : ∀ o, Same H3 (upd (upd H3 dx (.own a)) a o) := fun o b u e => by
      rw [upd_ne (ne_of_none e ha), upd_ne (ne_of_none e hdx)]
      exact e
    have m3 := (s1.trans s2).trans s3
    refine ⟨a, dx, sa, nu, s, rfl, upd_same, hst.mono (m3.trans (s4 _)), hc0, fun H4 cd sl b4 hcd hsl hL => ⟨rfl, ?_⟩⟩
    have mH : ∀ b u, b ≠ a → H3 b = some u → H4 b = some u := fun b u hb e => b4 b u hb (s4 _ b u e)
    have aH : H a = none := m3.free ha
    have cH : H cd = none := (m3.trans (s4 _)).free hcd
    have lH : H sl = none := (m3.trans (s4 _)).free hsl
    have sq4 : ∀ {p : Addr} {xs : List V}, SqT K H3 p xs → SqT K H4 p xs := fun {p xs} h => by
      rcases h with (h | ⟨o, h⟩) | h
      · exact .inl (.inl (mH p _ (fun z => by rw [z, ha] at h; cases h) h))
      · exact .inl (.inr ⟨o, mH p _ (fun z => by rw [z, ha] at h; cases h) h⟩)
      · exact .inr h
    have htp4 := sq4 (sqt_mono s3 htp)
    have hnu4 := sq4 hnu
    refine ⟨_, rfl, tp, rfl, ⟨_, htp4⟩, for_it (w_tup (xs := nV ns)) (fun i σ H' => (∃ z, σ = [some (V.ref sa), some (V.ref r), some (V.ref hr'), some (V.ref tp), some (V.ref a), z]) ∧ LvAt K H' a dx cd sl nu (runS hs s (ns.take i)) ∧ Fr3 a cd sl H4 H') ⟨⟨_, rfl⟩, hL, Fr3.refl _ _ _ _⟩ (fun i σ H' _ p => fr3_any hL p.2.2 htp4) ?_ ?_⟩
    · rintro i x σ H5 H' hi ⟨⟨z, rfl⟩, hL5, f5⟩ ⟨rfl, hx⟩
      rw [nV, List.getElem?_map] at hx
      obtain ⟨n, hn, rfl⟩ := Option.map_eq_some_iff.mp hx
      have hmem : n ∈ ns := List.mem_of_getElem? hn
      have h30 := hr30 n hmem
      have et : runS hs s (ns.take (i + 1)) = wordS hs (runS hs s (ns.take i)) n := by
        unfold runS
        rw [List.take_add_one, hn, Option.toList_some, List.foldl_append]
        rfl
      refine ⟨_, rfl, _, rfl, a, dx, cd, sl, nu, runS hs s (ns.take i), hs, n, rfl, hL5, fr3_any hL f5 hnu4, hsz i, by omega, fun H6 f6 L6 => ?_⟩
      refine ⟨⟨_, rfl⟩, ?_, f5.trans f6⟩
      rw [et]
      exact L6
    · rintro σ H5 ⟨⟨z, rfl⟩, hL5, f5⟩
      have el : (nV ns).length = ns.length := by rw [nV, List.length_map]
      rw [el, List.take_length] at hL5
      have hz := hsz ns.length
      rw [List.take_length] at hz
      have mHf : Same H H5 := fun b u e => f5 b u (fun z => by rw [z, aH] at e; cases e) (fun z => by rw [z, cH] at e; cases e) (fun z => by rw [z, lH] at e; cases e) (mH b u (fun z => by rw [z, aH] at e; cases e) (m3 b u e))
      refine ⟨_, rfl, a, dx, _, rfl, hL5.1, rfl, a, dx, cd, sl, nu, runS hs s ns, rfl, hL5, hz, hb0, hm0, hm2, hnd, fun cs b H6 hp hw m6 hb hst6 => ?_⟩
      exact q cs b H6 hp hw (mHf.trans m6) (mHf.free hb) hst6
end
end K57
set_option Elab.async false
set_option linter.all false
set_option maxRecDepth 100000
set_option maxHeartbeats 4000000
namespace K57
open PySem PySem.Spec PyProof.Rows L2
theorem cut_one (ns : List Nat) : cutV (nV ns) none (some 1) = nV (ns.take 1) := by
  unfold cutV
  cases ns with
  | nil => rfl
  | cons n r => simp [nV, HT.sIx]
theorem SB.free' {p c t : Addr} {b : Nat} {H H2 : Hp} (h : SB p H H2) (hP : Press H2 p c b) (ht : H2 t = none) : H t = none := by
  have htp : t ≠ p := (hP.new ht).1
  cases e : H t with
  | none => rfl
  | some u => rw [h t u htp e] at ht; cases ht
theorem sb_mut {p D : Addr} {H H2 : Hp} {o : HO} (h : SB p H H2) (hD : H D = none) : SB p H (upd H2 D o) := fun b u hb e => by
  rw [upd_ne (fun z => by rw [z, hD] at e; cases e)]
  exact h b u hb e
theorem cut_nv (ns : List Nat) (lo hi : Option Int) : ∃ ds : List Nat, cutV (nV ns) lo hi = nV ds ∧ ds.length ≤ ns.length ∧ ∀ d ∈ ds, d ∈ ns := by
  unfold cutV
  rw [← List.map_drop, ← List.map_take]
  exact ⟨_, rfl, Nat.le_trans (List.length_take_le' ..) (by rw [List.length_drop]; omega), fun d h => List.mem_of_mem_drop (List.mem_of_mem_take h)⟩
def lets (ds : List Nat) : T := TL.joinL [] (ds.map wd)
theorem lets_ok : ∀ {ds : List Nat}, (∀ d ∈ ds, d < 30) → (lets ds).length ≤ 12 * ds.length ∧ ∀ c ∈ lets ds, isL c
  | [], _ => ⟨Nat.le_refl _, fun c h => nomatch h⟩
  | [a], h => by
    obtain ⟨_, h2, h3⟩ := book_ok _ (wd_mem (h a (by simp)))
    exact ⟨h2, h3⟩
  | a :: b :: r, h => by
    obtain ⟨_, h2, h3⟩ := book_ok _ (wd_mem (h a (by simp)))
    obtain ⟨i1, i2⟩ := lets_ok (ds := b :: r) fun d hd => h d (List.mem_cons_of_mem _ hd)
    have e : lets (a :: b :: r) = wd a ++ lets (b :: r) := rfl
    rw [e]
    refine ⟨by rw [List.length_append]; simp only [List.length_cons] at i1 ⊢; omega, fun c hc => ?_⟩
    rcases List.mem_append.mp hc with hc | hc
    · exact h3 c hc
    · exact i2 c hc
theorem sp_len13 : ∀ {ws : List T}, (∀ w ∈ ws, w.length ≤ 12) → (sp ws).length ≤ 13 * ws.length
  | [], _ => Nat.le_refl _
  | a :: r, h => by
    have h1 := h a List.mem_cons_self
    have h2 := sp_len13 (ws := r) fun w hw => h w (List.mem_cons_of_mem _ hw)
    show (a ++ 32 :: sp r).length ≤ _
    rw [List.length_append, List.length_cons, List.length_cons]
    omega
theorem its_ok {ns : List Nat} {k : Nat} (h30 : ∀ n ∈ ns, n < 30) : ∀ w ∈ rowIts ns k, w.length ≤ 12 ∧ ∀ c ∈ w, isL c := by
  intro w hw
  obtain ⟨n, hn, hw⟩ := List.mem_flatMap.mp hw
  rw [List.eq_of_mem_replicate hw]
  obtain ⟨_, h2, h3⟩ := book_ok _ (wd_mem (h30 n hn))
  exact ⟨h2, h3⟩
theorem txt_len {ns : List Nat} {k : Nat} (h30 : ∀ n ∈ ns, n < 30) (hl : ns.length ≤ 8) (hk : k ≤ 9) : (txt ns k).length ≤ 1000 := by
  by_cases h : rowIts ns k = []
  · unfold txt; rw [h]; exact Nat.zero_le _
  · have h1 := joinB_sp2 h
    have h2 := congrArg List.length h1
    rw [List.length_append] at h2
    have h3 := sp_len13 (ws := rowIts ns k) fun w hw => (its_ok h30 w hw).1
    have h4 := rowIts_len ns k
    have h5 : ns.length * k ≤ 8 * 9 := Nat.mul_le_mul hl hk
    show (joinB (rowIts ns k)).length ≤ _
    simp only [List.length_singleton] at h2
    omega
theorem joinB_isT : ∀ {ws : List T}, (∀ w ∈ ws, ∀ c ∈ w, isL c) → isT (joinB ws)
  | [], _ => fun c h => nomatch h
  | [a], h => fun c hc => .inr (h a (by simp) c hc)
  | a :: b :: r, h => fun c hc => by
    have ih := joinB_isT (ws := b :: r) fun w hw => h w (List.mem_cons_of_mem _ hw)
    rcases List.mem_append.mp (show c ∈ a ++ 32 :: joinB (b :: r) from hc) with hc | hc
    · exact .inr (h a List.mem_cons_self c hc)
    · rcases List.mem_cons.mp hc with hc | hc
      · exact .inl hc
      · exact ih c hc
theorem txt_isT {ns : List Nat} {k : Nat} (h30 : ∀ n ∈ ns, n < 30) : isT (txt ns k) := joinB_isT fun w hw => (its_ok h30 w hw).2
theorem go_isT {l : T} {e : Ed} (h : isT l) (ho : okSg e) : isT (e.go l) := by
  intro c hc
  cases e with
  | lost p =>
    rcases List.mem_append.mp (show c ∈ l.take p ++ l.drop (p + 1) from hc) with hc | hc
    · exact h c (List.mem_of_mem_take hc)
    · exact h c (List.mem_of_mem_drop hc)
  | put p d =>
    rcases List.mem_append.mp (show c ∈ l.take p ++ d :: l.drop p from hc) with hc | hc
    · exact h c (List.mem_of_mem_take hc)
    · rcases List.mem_cons.mp hc with hc | hc
      · rw [hc]; exact ho
      · exact h c (List.mem_of_mem_drop hc)
  | chg p d =>
    rcases List.mem_append.mp (show c ∈ l.take p ++ d :: l.drop (p + 1) from hc) with hc | hc
    · exact h c (List.mem_of_mem_take hc)
    · rcases List.mem_cons.mp hc with hc | hc
      · rw [hc]; exact ho
      · exact h c (List.mem_of_mem_drop hc)
theorem goAll_isT : ∀ {es : List Ed} {l : T}, isT l → CanAll l es → isT (goAll l es)
  | [], _, h, _ => h
  | e :: es, l, h, hc => goAll_isT (es := es) (l := e.go l) (go_isT h hc.1) hc.2.2
/-- all but lists stays -/
def Nl (H H2 : Hp) : Prop := ∀ b u, (∀ xs, u ≠ .lst xs) → H b = some u → H2 b = some u
theorem SB.nl {p c : Addr} {b : Nat} {H H2 : Hp} (s : SB p H H2) (h : Press H p c b) : Nl H H2 := fun x u hu e => by
  obtain ⟨_, _, _, _, hp, _⟩ := h
  exact s x u (fun z => by rw [z, hp] at e; exact hu _ (Option.some.inj e).symm) e
theorem sqt_nl {K : PySem.W.Frag} {H H2 : Hp} {a : Addr} {xs : List V} (e : Nl H H2) (h : SqT K H a xs) : SqT K H2 a xs := by
  rcases h with (h | ⟨o, h⟩) | h
  · exact .inl (.inl (e _ _ (fun _ z => by cases z) h))
  · exact .inl (.inr ⟨o, e _ _ (fun _ z => by cases z) h⟩)
  · exact .inr h
theorem bk_nl {K : PySem.W.Frag} {H H2 : Hp} {a : Addr} (e : Nl H H2) (h : Bk K H a) : Bk K H2 a := let ⟨dx, h⟩ := h; ⟨dx, e _ _ (fun _ z => by cases z) h⟩
theorem cells_nl {K : PySem.W.Frag} {H H2 : Hp} (e : Nl H H2) : ∀ {cs : List (Int × Int)} {vs : List V}, DpAll K H vs (cs.map cellD) → DpAll K H2 vs (cs.map cellD)
  | [], _, h => by cases h; exact .nil
  | c :: cs, _, h => by
    cases h with
    | cons a b =>
      obtain ⟨t, xs, rfl, h1, h2⟩ := dp_tup a
      refine .cons (.tup (sqt_nl e h1) ?_) (cells_nl e b)
      rw [dpAll_ints_eq (ns := [c.1, c.2]) h2]
      exact dpAll_ints [c.1, c.2]
theorem st_nl {K : PySem.W.Frag} {H H2 : Hp} {a : Addr} {s : Sd} (e : Nl H H2) (h : StAt K H a s) : StAt K H2 a s := by
  obtain ⟨dx, ct, st, cvs, h1, ⟨o, h2, h3⟩, h4, h5⟩ := h
  exact ⟨dx, ct, st, cvs, e _ _ (fun _ z => by cases z) h1, ⟨o, e _ _ (fun _ z => by cases z) h2, h3⟩, cells_nl e h4, sqt_nl e h5⟩
theorem bd_sz {s : Sd} (h : Bd (sqs 8 16) 8 s) : Sz s := ⟨Nat.lt_of_le_of_lt h.f sqs_lt, Nat.lt_of_le_of_lt h.g sqs_lt, by have := h.c; omega, by have := h.d; omega, h.h⟩
theorem Th.refl : ∀ r : List Nat, Th r r
  | [] => .nil
  | n :: r => .cons n 0 (Th.refl r)
section
variable {P : Program} {w : World} {K : PySem.W.Frag} {mg : Str → Option Value} {base : Heap}
def sp__law_row_right (K : PySem.W.Frag) : Sp := fun vs H Q _ => ∃ p c b W bk, ∃ m : Nat, vs = [.ref p, .ref W, .ref bk, .int m] ∧ 1 ≤ m ∧ m ≤ 3 ∧ W ≠ p ∧ H W = some (.lst wordsV) ∧ Bk K H bk ∧ Press H p c (b + 200) ∧
  ∀ H2, SB p H H2 → Press H2 p c b → Q (.bl true) H2
abbrev N__law_row_right : List Str := ["_law_press_here", "_law_words", "_law_book", "_law_many", "_law_row", "_law_text", "_law_due", "_law_letters", "_law_turn_here", "_law_way", "_law_edits_here", "_law_hurt_here", "_law_told", "_law_at", "_law_number"]
abbrev sco__law_row_right : Scope := defScope s__law_row_right
theorem sc__law_row_right : FnScope N__law_row_right ["_law_press_here", "_law_words", "_law_book", "_law_many"] sco__law_row_right := ⟨rfl, rfl, rfl, by decide +kernel, rfl, by decide +kernel, by decide +kernel⟩
theorem ok__law_row_right (T : Tx K mg) : C8.Cal P w K mg base 8 "_law_row_right" (sp__law_row_right K) [] := by
  have c_spelled : C8.Cal P w K mg base 6 "spelled" (sp_spelled K) [] := ok_spelled T
  have c__law_turn : C8.Cal P w K mg base 1 "_law_turn" (sp__law_turn K) [] := ok__law_turn T
  have c__law_spelled : C8.Cal P w K mg base 1 "_law_spelled" (sp__law_spelled K) [] := ok__law_spelled T
  have c_passed : C8.Cal P w K mg base 7 "passed" (sp_passed K) [] := ok_passed T
  have c__law_hurt : C8.Cal P w K mg base 1 "_law_hurt" (sp__law_hurt K) [] := ok__law_hurt T
  have c_read : C8.Cal P w K mg base 4 "read" (sp_read K) [] := ok_read T
  have c_begun : C8.Cal P w K mg base 6 "begun" (sp_begun K) [] := ok_begun T
  have c__law_edits : C8.Cal P w K mg base 3 "_law_edits" sp__law_edits [] := ok__law_edits T
  have c_damaged : C8.Cal P w K mg base 7 "damaged" (sp_damaged K) [] := ok_damaged T
  have c__law_aimed : C8.Cal P w K mg base 3 "_law_aimed" (sp__law_aimed K) [] := ok__law_aimed T
  have c__law_cut_up : C8.Cal P w K mg base 3 "_law_cut_up" sp__law_cut_up [] := ok__law_cut_up T
  have c__law_read : C8.Cal P w K mg base 1 "_law_read" (sp__law_read K) [] := ok__law_read T
  have c__law_is_thick : C8.Cal P w K mg base 1 "_law_is_thick" (sp__law_is_thick K) [] := ok__law_is_thick T
  refine mkCal T.d__law_row_right T.m__law_row_right (fun fd F => ⟨[], .nil, F.bindsN fun _ _ _ _ _ _ us hl => match us, hl with | [_, _, _, _], _ => rfl⟩) sc__law_row_right (fun vs H Q E h => ?_) (fun cdv A outer s H vs Q E hr h => ?_)
  · obtain ⟨p, c, b, W, bk, m, rfl, _⟩ := h; rfl
  · obtain ⟨p, c, b, W, bk, m, rfl, hm1, hm3, hWp, hW, hbk, hp, q⟩ := h
    have c__law_turn := ok__law_turn (P := P) (w := w) (base := base) T
    have c_spelled := ok_spelled (P := P) (w := w) (base := base) T
    have c__law_spelled := ok__law_spelled (P := P) (w := w) (base := base) T
    have c_begun := ok_begun (P := P) (w := w) (base := base) T
    have c_passed := ok_passed (P := P) (w := w) (base := base) T
    have c__law_edits := ok__law_edits (P := P) (w := w) (base := base) T
    have c__law_aimed := ok__law_aimed (P := P) (w := w) (base := base) T
    have c__law_cut_up := ok__law_cut_up (P := P) (w := w) (base := base) T
    have c__law_hurt := ok__law_hurt (P := P) (w := w) (base := base) T
    have c_read := ok_read (P := P) (w := w) (base := base) T
    have c_damaged := ok_damaged (P := P) (w := w) (base := base) T
    have c__law_read := ok__law_read (P := P) (w := w) (base := base) T
    have c__law_is_thick := ok__law_is_thick (P := P) (w := w) (base := base) T
    obtain ⟨fdE, F_eq, B_eq⟩ := ok_Stand_eq (P := P) (w := w) (base := base) T
    refine ⟨_, (pss_cons (ps_setLc (i := 4) (own := [("_law_at", 13)]) rfl sc__law_row_right.nd rfl rfl (sw_true rfl rfl rfl (by decide +kernel)) (pi_range1 (by rfl) T.f_range (pa_cons (pe_op op_add pe_int (C8.pe_c c__law_turn hr (by decide) (by rfl) (pa_cons (pv 0) (pa_cons pe_int pa_nil)))) pa_nil)) (blkOk_by (own := [("_law_at", 13)]) (N := N__law_row_right) (sc := sco__law_row_right) (by decide +kernel)) (fun _ _ _ _ _ => (pg_name (i := 13) sc__law_row_right.nd rfl (Or.inl rfl))) (fun _ _ _ _ _ => pts_nil) (fun _ _ _ _ _ => (C8.pe_c c__law_turn hr (by decide) (by rfl) (pa_cons (pv 0) (pa_cons pe_int pa_nil)))))
      (C8.pss_cut (ps_if (pt_cmpR op_eq (C8.pe_c c__law_turn hr (by decide) (by rfl) (pa_cons (pv 0) (pa_cons pe_int pa_nil))) pe_int (nomark _)) (pss_one (ps_set (i := 4) sc__law_row_right.nd rfl (Or.inl rfl) (pe_op op_cat (pe_slice (sl_listK (K := K) rfl) (pv 4) po_none (po_some pe_int)) (pv 4)))) pss_nil)
      (pss_cons (ps_set (i := 5) sc__law_row_right.nd rfl (Or.inl rfl) (C8.pe_c c_spelled hr (by decide) (by rfl) (pa_cons (pv 2) (pa_cons (pv 4) (pa_cons (pe_op op_add (pe_op op_mul pe_int (pv 3)) pe_int) pa_nil)))))
      (pss_cons (ps_if (pt_cmpR op_ne (pv 5) (C8.pe_c c__law_spelled hr (by decide) (by rfl) (pa_cons (pv 1) (pa_cons (pv 4) (pa_cons (pe_op op_add (pe_op op_mul pe_int (pv 3)) pe_int) pa_nil)))) (nomark _)) (pss_one (ps_ret pe_bl)) pss_nil)
      (pss_cons (ps_par (i := 6) (j := 7) rfl sc__law_row_right.nd rfl rfl (by decide) rfl rfl (pa_cons (C8.pe_c c_passed hr (by decide) (by rfl) (pa_cons (pe_c0 c_begun hr (by decide) (by rfl)) (pa_cons (pv 4) (pa_cons (pe_tup (pa_cons pe_int (pa_cons (pe_un un_neg pe_int) pa_nil))) pa_nil)))) (pa_cons (pe_op op_add_str (pe_join pe_str (pe_lc (own := [("_law_number", 14)]) rfl sc__law_row_right.nd (pi_listK (K := K) rfl (pe_slice (sl_listK (K := K) rfl) (pv 4) po_none (po_some pe_int))) (blkOk_by (own := [("_law_number", 14)]) (N := N__law_row_right) (sc := sco__law_row_right) (by decide +kernel)) (fun _ _ _ _ _ => (pg_name (i := 14) sc__law_row_right.nd rfl (Or.inl rfl))) (fun _ _ _ _ _ => pts_nil) (fun _ _ _ _ _ => (pe_ix (ix_listK (K := K) rfl) (pv 1) (pv 14) (fun _ _ => rfl))))) pe_str) pa_nil)) rfl)
      (pss_cons (ps_for PassesOwn.never rfl (pi_range1 (by rfl) T.f_range (pa_cons pe_int pa_nil)) (pg_name (i := 8) sc__law_row_right.nd rfl (Or.inl rfl))
      (pss_cons (ps_set (i := 9) sc__law_row_right.nd rfl (Or.inl rfl) (C8.pe_c c__law_turn hr (by decide) (by rfl) (pa_cons (pv 0) (pa_cons pe_int pa_nil))))
      (C8.pss_cut (ps_set (i := 10) sc__law_row_right.nd rfl (Or.inl rfl) (pe_ifExp (pt_cmpR op_eq (pv 9) pe_int (nomark _)) (C8.pe_c c__law_edits hr (by decide) (by rfl) (pa_cons (pv 0) (pa_cons (pv 5) (pa_cons (pv 3) (pa_cons (pv 7) pa_nil))))) (pe_ifExp (pt_cmpR op_eq (pv 9) pe_int (nomark _)) (C8.pe_c c__law_aimed hr (by decide) (by rfl) (pa_cons (pv 0) (pa_cons (pv 1) (pa_cons (pv 5) (pa_cons (pv 3) pa_nil))))) (C8.pe_c c__law_cut_up hr (by decide) (by rfl) (pa_cons (pv 0) (pa_cons (pv 5) (pa_cons (pv 3) pa_nil)))))))
      (pss_cons (ps_set (i := 11) sc__law_row_right.nd rfl (Or.inl rfl) (C8.pe_c c__law_hurt hr (by decide) (by rfl) (pa_cons (pv 5) (pa_cons (pv 10) pa_nil))))
      (pss_cons (ps_set (i := 12) sc__law_row_right.nd rfl (Or.inl rfl) (C8.pe_c c_read hr (by decide) (by rfl) (pa_cons (pv 2) (pa_cons (C8.pe_c c_damaged hr (by decide) (by rfl) (pa_cons (pv 5) (pa_cons (pv 10) pa_nil))) pa_nil))))
      (pss_one (ps_if (PW.pt (pw_or (pt_cmpR op_isN (pv 11) pe_non (nomark _)) (pw_or (pt_cmpR (op_neDK (K := K) rfl hr.units) (pe_callTy (call_list_ofK (K := K) rfl) (by rfl) T.f_list bb_list (pa_cons (pv 12) pa_nil)) (C8.pe_c c__law_read hr (by decide) (by rfl) (pa_cons (pv 1) (pa_cons (pv 11) pa_nil))) (nomark _)) (pw_or (pt_not (pt_val (C8.pe_c c__law_is_thick hr (by decide) (by rfl) (pa_cons (pv 4) (pa_cons (pe_callTy (call_list_ofK (K := K) rfl) (by rfl) T.f_list bb_list (pa_cons (pv 12) pa_nil)) pa_nil))))) (pw_or1 (pt_cmpR (op_neI (E := C8.E0) F_eq (hr.mono (by decide)) T.ne_Stand T.i_Stand.hm T.q_Stand.1 T.q_Stand.2 B_eq C8.pass0) (C8.pe_c c_passed hr (by decide) (by rfl) (pa_cons (pe_c0 c_begun hr (by decide) (by rfl)) (pa_cons (pv 12) (pa_cons (pe_tup (pa_cons pe_int (pa_cons (pe_un un_neg pe_int) pa_nil))) pa_nil)))) (pv 6) (nomark _))))))) (pss_one (ps_ret pe_bl)) pss_nil)))))))
      (pss_one (ps_ret pe_bl)))))))), ?_⟩
    refine ⟨_, rfl, p, c, b + 199, 6, rfl, by decide, by decide, hp, fun k0 hk0 H1 s1 hP1 => ⟨_, _, rfl, rfl, _, rfl, by omega, by omega, fun D hD => ?_⟩⟩
    obtain ⟨hDp, hDc⟩ := hP1.new hD
    have hDH : H D = none := by
      cases e : H D with
      | none => rfl
      | some u => rw [s1 D u hDp e] at hD; cases hD
    refine lc_it (w_range (lo := 0) (n := ((2 : Int) + (k0 : Int)).toNat)) (fun i H' => ∃ ns : List Nat, H' D = some (.lst (nV ns)) ∧ ns.length = i ∧ (∀ n ∈ ns, n < 30) ∧ SB p H H' ∧ Press H' p c (b + 199 - i)) ?_ ?_ ?_ ?_
    · exact ⟨[], upd_same, rfl, fun n hn => (nomatch hn), s1.trans (same_new hD).sb, (hP1.mut ⟨hDp, hDc⟩).le (by omega)⟩
    · exact fun _ _ _ _ => trivial
    · rintro i x H0 H' hi ⟨ns, h1, h2, h3, h4, h5⟩ ⟨rfl, rfl⟩
      refine ⟨rfl, ?_⟩
      unfold tYes
      refine iteT ?_
      refine ⟨_, rfl, p, c, b + 199 - (i + 1), 30, rfl, by decide, by decide, h5.le (by omega), fun k hk H5 s5 hP5 => ?_⟩
      refine ⟨_, s5 D _ hDp h1, lt_line (by rw [nV, List.length_map]; omega), ns ++ [k], by rw [upd_same, nV, nV, List.map_append]; rfl, by rw [List.length_append, h2]; rfl, ?_, ?_, hP5.mut ⟨hDp, hDc⟩⟩
      · intro n hn
        rcases List.mem_append.mp hn with hn | hn
        · exact h3 n hn
        · rw [List.mem_singleton.mp hn]; exact hk
      · exact sb_mut (h4.trans s5) hDH
    · rintro H2 ⟨ns, h1, h2, h3, h4, h5⟩
      have hl : ns.length = 2 + k0 := by omega
      refine ⟨fun σ' H' => ∃ r ns, σ' = (L2.start N__law_row_right [V.ref p, V.ref W, V.ref bk, V.int (m : Int)]).set 4 (some (V.ref r)) ∧ H' r = some (.lst (nV ns)) ∧ 2 ≤ ns.length ∧ ns.length ≤ 8 ∧ (∀ n ∈ ns, n < 30) ∧ r ≠ p ∧ H r = none ∧ SB p H H' ∧ Press H' p c (b + 186), ?_, ?_⟩
      · refine ⟨_, rfl, p, c, b + 186, 3, rfl, by decide, by decide, h5.le (by omega), fun k1 hk1 H3 s3 hP3 => ⟨rfl, decide (V.int (k1 : Int) = V.int 0), rfl, ?_⟩⟩
        have h13 := s3 D _ hDp h1
        by_cases hk : k1 = 0
        · rw [show decide (V.int (k1 : Int) = V.int 0) = true by rw [hk]; rfl]
          refine iteT ?_
          refine ⟨_, rfl, 1, rfl, D, _, rfl, .inl (.inl h13), fun t1 ht1 => ?_⟩
          rw [cut_one]
          have h14 := (same_new (o := .lst (nV (ns.take 1))) ht1) D _ h13
          refine ⟨_, rfl, t1, D, _, _, rfl, rfl, upd_same, h14, Nat.le_of_lt (lt_line (by simp only [nV, List.length_map, List.length_take]; omega)), fun r hr0 => ?_⟩
          have ht1H : H t1 = none := SB.free' (h4.trans s3) hP3 ht1
          have hP4 := hP3.mut (o := .lst (nV (ns.take 1))) (hP3.new ht1)
          have s4 := sb_mut (o := .lst (nV (ns.take 1))) (h4.trans s3) ht1H
          have hrH : H r = none := SB.free' s4 hP4 hr0
          refine ⟨r, ns.take 1 ++ ns, rfl, by rw [upd_same, nV, nV, nV, List.map_append], by rw [List.length_append]; omega, by rw [List.length_append, List.length_take]; omega, ?_, (hP4.new hr0).1, hrH, sb_mut s4 hrH, hP4.mut (hP4.new hr0)⟩
          intro n hn
          rcases List.mem_append.mp hn with hn | hn
          · exact h3 n (List.mem_of_mem_take hn)
          · exact h3 n hn
        · rw [decide_eq_false (fun z => hk (by injection z with z; omega))]
          exact iteF ⟨D, ns, rfl, h13, by omega, by omega, h3, hDp, hDH, h4.trans s3, hP3⟩
      · rintro σ' G0 ⟨r, ns, rfl, hr0, hl2, hl8, h30, hrp, hrH, b0, P0⟩
        have n0 : Nl H G0 := b0.nl hp
        have hbk0 : Bk K G0 bk := bk_nl n0 hbk
        have hW0 : G0 W = some (.lst wordsV) := b0 W _ hWp hW
--@
        refine ⟨_, rfl, _, rfl, _, rfl, _, _, rfl, rfl, .inl ⟨by decide, by decide⟩, _, _, rfl, rfl, bk, r, ns, 2 * m + 1, rfl, hbk0, .inl (.inl (.inl hr0)), h30, by omega, by omega, fun G1 g1 => ?_⟩
        refine ⟨_, rfl, _, rfl, _, rfl, _, rfl, _, _, rfl, rfl, .inl ⟨by decide, by decide⟩, _, _, rfl, rfl, W, r, ns, 2 * m + 1, rfl, .inl (.inl (g1 W _ hW0)), .inl (.inl (g1 r _ hr0)), h30, by omega, by omega, fun G2 g2 => ?_⟩
        refine ⟨rfl, false, congrArg V.bl (by rw [decide_eq_true rfl]; rfl), iteF ?_⟩
        refine ⟨rfl, fun sa G3 g3 hsa hst => ⟨_, rfl, _, rfl, by show 2 ≤ sizeLine; decide, fun ht hht => ?_⟩⟩
        have g02 := (g1.trans g2).trans g3
        have g4 := g02.trans (same_new (o := .tup [.int 5, .int (-7)]) hht)
        refine ⟨sa, r, ht, s0, ns, [5, -7], rfl, hst.mono (same_new hht), rfl, .inl (.inl (.inl (g4 r _ hr0))), by omega, h30, .inr (.inl (.inl upd_same)), by decide, fun i => bd_sz (thick_bd (Th.refl ns) hl8 h30 i), ?_⟩
        have hbd := thick_bd (Th.refl ns) hl8 h30 ns.length
        rw [List.take_length] at hbd
        refine ⟨hbd.b, hbd.m0, hbd.m2, hbd.n, fun cs du G5 hcs hcs2 g5 hdu hSt => ?_⟩
        have hr5 : G5 r = some (.lst (nV ns)) := g5 r _ (g4 r _ hr0)
        have hW5 : G5 W = some (.lst wordsV) := g5 W _ (g4 W _ hW0)
        obtain ⟨ds, ed, dl, dm⟩ := cut_nv ns none (some 3)
        have d30 : ∀ d ∈ ds, d < 30 := fun d hd => h30 d (dm d hd)
        refine ⟨⟨_, rfl⟩, _, rfl, 3, rfl, r, _, rfl, .inl (.inl hr5), fun t1 ht1 => ?_⟩
        rw [ed]
        refine ⟨t1, rfl, ⟨_, .inl (.inl upd_same)⟩, fun D2 hD2 => ?_⟩
        have g6 : Same G5 (upd G5 t1 (.lst (nV ds))) := same_new ht1
        refine lc_flat hD2 (w_list (xs := nV ds)) (fun _ => true) (fun i => tx (wd (ds.getD i 0))) ?_ ?_ ?_ ?_ ?_ ?_
        · rw [nV, List.length_map]; omega
        · exact fun H' s' => .inl (.inl (s' t1 _ upd_same))
        · exact fun x => rfl
        · exact fun i x H' _ _ _ Qt qt => yes_ok qt
        · intro i x H' hi _ s' hx Qe qe
          obtain ⟨n, hn, rfl⟩ := nV_at hx
          have q2 := qe H' (Same.refl _)
          rw [show ds.getD i 0 = n by rw [List.getD_eq_getElem?_getD, hn] <;> rfl] at q2
          exact ⟨_, rfl, _, rfl, W, wordsV, _, _, rfl, rfl, .inl (.inl (s' W _ (g6 W _ hW5))), atI_nat (words_at (d30 n (List.mem_of_getElem? hn))), q2⟩
        · intro G7 g7 hD7
          rw [given_all, show (nV ds).length = ds.length from List.length_map .., map_getD 0 (fun n => tx (wd n)) ds] at hD7
          refine ⟨_, D2, ds.map fun n => SX.S (wd n), rfl, rfl, .inl (.inl (.inl ?_)), ?_, ?_⟩
          · rw [hD7, List.map_map]; rfl
          · rw [show (List.map (fun x : Str => x.length) (List.map (fun n => SX.S (wd n)) ds)) = (ds.map wd).map (fun x => (SX.S x).length) by rw [List.map_map, List.map_map]; rfl]
            have h3 : ((ds.map wd).map fun x => (SX.S x).length).sum ≤ (ds.map wd).length * 12 := by
              refine sum_le_mul fun x hx => ?_
              obtain ⟨n, hn2, rfl⟩ := List.mem_map.mp hx
              show (SX.S (wd n)).length ≤ 12
              rw [SX.S_len]
              exact (book_ok _ (wd_mem (d30 n hn2))).2.1
            rw [List.length_map] at h3
            have h4 : (Str.ofString "").length = 0 := rfl
            rw [h4]
            omega
          · obtain ⟨lo1, lo2⟩ := lets_ok d30
            have eL : Txt.join (Str.ofString "") (ds.map fun n => SX.S (wd n)) = SX.S (lets ds) := by
              rw [show (ds.map fun n => SX.S (wd n)) = (ds.map wd).map SX.S by rw [List.map_map]; rfl, show Str.ofString "" = SX.S [] from rfl, SX.join_S] <;> rfl
            rw [eL]
            refine ⟨_, _, rfl, rfl, by rw [SX.S_len]; show _ + 1 ≤ sizeLine; exact le_line (by omega), ?_⟩
            have eL2 : SX.S (lets ds) ++ Str.ofString " " = SX.S (lets ds ++ [32]) := by rw [show Str.ofString " " = SX.S [32] from rfl, SX.S_cat]
            rw [eL2]
            refine ⟨_, _, rfl, ?_⟩
            have g8 : Same G0 G7 := ((g4.trans g5).trans g6).trans g7
            have b7 : SB p H G7 := b0.trans g8.sb
            have P7 : Press G7 p c (b + 186) := P0.same g8
            have hSt7 : StAt K G7 du { runS [5, -7] s0 ns with cells := cs } := (hSt.mono g6).mono g7
            have hr7 : G7 r = some (.lst (nV ns)) := g8 r _ hr0
            have hW7 : G7 W = some (.lst wordsV) := g8 W _ hW0
            have hbk7 : Bk K G7 bk := hbk0.mono g8
            have tl1 := txt_len (k := 2 * m + 1) h30 hl8 (by omega)
            have tT := txt_isT (k := 2 * m + 1) h30
            generalize htx : txt ns (2 * m + 1) = l at *
            refine ⟨(6 : Int), rfl, by omega, by omega, for_it (w_range (lo := 0) (n := 6)) (fun i σ G => (∃ z8 z9 z10 z11 z12 z13 z14, σ = [some (V.ref p), some (V.ref W), some (V.ref bk), some (V.int (m : Int)), some (V.ref r), some (tx l), some (V.ref du), some (tx (lets ds ++ [32])), z8, z9, z10, z11, z12, z13, z14]) ∧ SB p G7 G ∧ Press G p c (b + 31 * (6 - i))) ⟨⟨_, _, _, _, _, _, _, rfl⟩, SB.refl _ _, P7.le (by omega)⟩ (fun _ _ _ _ _ => trivial) ?_ ?_⟩
            · rintro i x σ G H' hi ⟨⟨z8, z9, z10, z11, z12, z13, z14, rfl⟩, b8, P8⟩ ⟨rfl, rfl⟩
              have g9 : ∀ {x : Addr} {u : HO}, x ≠ p → G7 x = some u → H' x = some u := fun {x u} hx e => b8 x u hx e
              refine ⟨_, rfl, p, c, b + 31 * (6 - i) - 1, 3, rfl, by decide, by decide, P8.le (by omega), fun k hk G9 b9 P9 => ?_⟩
              have b79 : SB p G7 G9 := b8.trans b9
              have nl9 : Nl G7 G9 := b79.nl P7
              have hW9 : G9 W = some (.lst wordsV) := b79 W _ hWp hW7
              refine ⟨fun σ' G => ∃ E es z11 z12 z13 z14, σ' = [some (V.ref p), some (V.ref W), some (V.ref bk), some (V.int (m : Int)), some (V.ref r), some (tx l), some (V.ref du), some (tx (lets ds ++ [32])), some (V.int ((0 : Int) + (i : Int))), some (V.int (k : Int)), some (V.ref E), z11, z12, z13, z14] ∧ SB p G9 G ∧ EdL G E es ∧ es.length ≤ m ∧ CanAll l es ∧ Press G p c (b + 31 * (6 - (i + 1))), ?_, ?_⟩
              · have fin : ∀ (E : Addr) (es : List Ed) (G : Hp), SB p G9 G → G9 E = none → EdL G E es → es.length ≤ m → CanAll l es → Press G p c (b + 31 * (6 - (i + 1))) → ∃ E' es' z11' z12' z13' z14', [some (V.ref p), some (V.ref W), some (V.ref bk), some (V.int (m : Int)), some (V.ref r), some (tx l), some (V.ref du), some (tx (lets ds ++ [32])), some (V.int ((0 : Int) + (i : Int))), some (V.int (k : Int)), some (V.ref E), z11, z12, z13, z14] = [some (V.ref p), some (V.ref W), some (V.ref bk), some (V.int (m : Int)), some (V.ref r), some (tx l), some (V.ref du), some (tx (lets ds ++ [32])), some (V.int ((0 : Int) + (i : Int))), some (V.int (k : Int)), some (V.ref E'), z11', z12', z13', z14'] ∧ SB p G9 G ∧ EdL G E' es' ∧ es'.length ≤ m ∧ CanAll l es' ∧ Press G p c (b + 31 * (6 - (i + 1))) := fun E es G h1 _ h2 h3 h4 h5 => ⟨E, es, _, _, _, _, rfl, h1, h2, h3, h4, h5⟩
                refine ⟨_, rfl, rfl, decide (V.int (k : Int) = V.int 0), rfl, ?_⟩
                by_cases hk0 : k = 0
                · rw [show decide (V.int (k : Int) = V.int 0) = true by rw [hk0]; rfl]
                  refine iteT ⟨_, rfl, _, rfl, _, rfl, _, rfl, p, c, b + 31 * (6 - (i + 1)), l, m, lets ds ++ [32], rfl, by omega, tl1, ?_, by simp, by simp; omega, P9.le (by omega), fun E es G h1 h2 h3 h4 h5 h6 => fin E es G h1 h2 h3 h4 h5 h6⟩
                  intro ch hch
                  rcases List.mem_append.mp hch with h | h
                  · exact .inr (lo2 ch h)
                  · exact .inl (List.mem_singleton.mp h)
                · rw [decide_eq_false (fun z => hk0 (by injection z with z; omega))]
                  refine iteF ⟨_, rfl, rfl, decide (V.int (k : Int) = V.int 1), rfl, ?_⟩
                  by_cases hk1 : k = 1
                  · rw [show decide (V.int (k : Int) = V.int 1) = true by rw [hk1]; rfl]
                    exact iteT ⟨_, rfl, _, rfl, _, rfl, _, rfl, p, c, b + 31 * (6 - (i + 1)), W, l, m, rfl, hWp, hW9, by omega, tl1, P9.le (by omega), fun E es G h1 h2 h3 h4 h5 h6 => fin E es G h1 h2 h3 h4 h5 h6⟩
                  · rw [decide_eq_false (fun z => hk1 (by injection z with z; omega))]
                    exact iteF ⟨_, rfl, _, rfl, _, rfl, p, c, b + 31 * (6 - (i + 1)), l, m, rfl, by omega, tl1, P9.le (by omega), fun E es G h1 h2 h3 h4 h5 h6 => fin E es G h1 h2 h3 h4 h5 h6⟩
              · rintro σ' Ga ⟨E, es, z11, z12, z13, z14, rfl, ba, ⟨evs, hE, hEs⟩, hel, hca, Pa⟩
                have b7a : SB p G7 Ga := b79.trans ba
                have nla : Nl G7 Ga := b7a.nl P7
                have hWa : Ga W = some (.lst wordsV) := b7a W _ hWp hW7
                have hra : Ga r = some (.lst (nV ns)) := b7a r _ hrp hr7
                have hbka : Bk K Ga bk := bk_nl nla hbk7
                have hSta := st_nl nla hSt7
                have hDp : ∀ {G : Hp}, Same Ga G → Dp K G (.ref E) (.list (es.map edD)) := fun {G} s => .lst (.inl (.inl (s E _ hE))) ((EdAts.dp hEs).mono s)
                refine ⟨_, rfl, _, rfl, l, E, es, rfl, .inl (hDp (Same.refl _)), by omega, hca, fun Gb gb => ?_⟩
                refine ⟨_, rfl, _, rfl, _, rfl, l, E, es, rfl, .inl (hDp gb), by omega, by omega, tT, hca, fun Gc gc => ?_⟩
                have gac := gb.trans gc
                have tl2 := goAll_len es l
                refine ⟨bk, goAll l es, rfl, hbka.mono gac, by omega, goAll_isT tT hca, fun tl Gd gd htl => ?_⟩
                have gad := gac.trans gd
                have gad := gac.trans gd
                have hth : Th ns (told (goAll l es)) := by
                  refine row_thick (k := m) (c := 2 * m + 1) h30 (fun z => by rw [z] at hl2; exact absurd hl2 (by decide)) hm3 (Nat.le_refl _) ?_
                  rw [htx]
                  have := Al.edits es (Al.refl l)
                  exact this.mono (by omega)
                have tlen : (told (goAll l es)).length ≤ 2000 := by
                  have h1 := its_len (goAll l es)
                  have h2 : (told (goAll l es)).length ≤ (its (goAll l es)).length := by unfold told; rw [List.length_map]; exact List.length_filter_le _ _
                  omega
                have t30 := told_lt (goAll l es)
                generalize htl' : told (goAll l es) = tn at *
                refine ⟨_, rfl, rfl, false, rfl, iteF ?_⟩
                refine ⟨_, rfl, tl, nV tn, rfl, .inr htl, fun l1 hl1 => ⟨_, rfl, _, rfl, W, goAll l es, rfl, .inl (.inl (same_new hl1 W _ (gad W _ hWa))), by omega, fun D3 Ge ge hD3 hDe => ?_⟩⟩
                rw [htl'] at hDe
                have gl1 : Same Gd (upd Gd l1 (.lst (nV tn))) := same_new hl1
                have hl1e : Ge l1 = some (.lst (nV tn)) := ge l1 _ upd_same
                have dpi : ∀ {x : Addr}, Ge x = some (.lst (nV tn)) → Dp K Ge (.ref x) (.list ((tn.map fun n : Nat => (n : Int)).map PyData.int)) := fun {x} h => .lst (.inl (.inl (by rw [h, nV_eq]))) (dpAll_ints _)
                refine ⟨_, _, dpi hl1e, dpi hDe, shaped_ints _, shaped_ints _, false, ?_, iteF ?_⟩
                · have e0 : PyData.eqv (.list ((tn.map fun n : Nat => (n : Int)).map PyData.int)) (.list ((tn.map fun n : Nat => (n : Int)).map PyData.int)) = true := by
                    simp only [PyData.eqv]
                    exact eqv_ints _
                  rw [e0]; rfl
                have gae : Same Ga Ge := (gad.trans gl1).trans ge
                have htle := sqt_mono (gl1.trans ge) htl
                refine ⟨_, rfl, _, rfl, tl, nV tn, rfl, .inr htle, fun l2 hl2' => ?_⟩
                have gl2 : Same Ge (upd Ge l2 (.lst (nV tn))) := same_new hl2'
                refine ⟨r, l2, ns, tn, rfl, .inl (.inl (gl2 r _ (gae r _ hra))), .inl (.inl upd_same), hth, by omega, by omega, fun Gf gf => ⟨true, rfl, iteF ?_⟩⟩
                have gaf : Same Ga Gf := (gae.trans gl2).trans gf
                have htlf := sqt_mono (gl2.trans gf) htle
                refine ⟨rfl, fun sa2 Gg gg hsa2 hst2 => ⟨_, rfl, _, rfl, by show 2 ≤ sizeLine; decide, fun ht2 hht2 => ?_⟩⟩
                have gt2 := gg.trans (same_new (o := .tup [.int 5, .int (-7)]) hht2)
                refine ⟨sa2, tl, ht2, s0, tn, [5, -7], rfl, hst2.mono (same_new hht2), rfl, .inr (sqt_mono gt2 htlf), by omega, t30, .inr (.inl (.inl upd_same)), by decide, fun j => bd_sz (thick_bd hth hl8 h30 j), ?_⟩
                have hbd2 := thick_bd hth hl8 h30 tn.length
                rw [List.take_length] at hbd2
                refine ⟨hbd2.b, hbd2.m0, hbd2.m2, hbd2.n, fun cs2 du2 Gh hc1 hc2 gh hdu2 hSt2 => ?_⟩
                have gah : Same Ga Gh := (gaf.trans gt2).trans gh
                rw [run_th [5, -7] hth s0] at hc1 hSt2
                have ecs : cs2 = cs := perm_asc (hc1.trans hcs.symm) hc2 hcs2
                rw [ecs] at hSt2
                have hSt3 := hSta.mono gah
                obtain ⟨dx1, _, _, _, hi1, _⟩ := id hSt2
                obtain ⟨dx2, _, _, _, hi2, _⟩ := id hSt3
                refine ⟨_, rfl, ⟨du2, du, _, _, _, _, rfl, rfl, hi1, hi2, _, hSt2, hSt3⟩, fun Gi gi => ⟨false, rfl, iteF ?_⟩⟩
                have gai : SB p Ga Gi := fun x u hx e => gi x u (gah x u e)
                exact ⟨⟨_, _, _, _, _, _, _, rfl⟩, b7a.trans gai, Pa.same (gah.trans gi)⟩
            · rintro σ G ⟨⟨z8, z9, z10, z11, z12, z13, z14, rfl⟩, b8, P8⟩
              exact q G (b7.trans b8) (P8.le (by omega))
end
end K57
set_option Elab.async false
set_option linter.all false
set_option maxRecDepth 100000
set_option maxHeartbeats 4000000
namespace K57
open PySem PySem.Spec PyProof.Rows L2
theorem w_range0 {n : Nat} : Walk (Itr 0 n) n (fun _ => True) (fun i H x H' => H' = H ∧ x = .int (i : Int)) :=
  ⟨w_range.goes, w_range.stops, fun i H x H' hi q y => by
    obtain ⟨a, b⟩ := (w_range (lo := 0) (n := n)).yields i H x H' hi q y
    exact ⟨a, by rw [b, Int.zero_add]⟩⟩
theorem w_range1 {n : Nat} : Walk (Itr 1 n) n (fun _ => True) (fun i H x H' => H' = H ∧ x = .int ((i + 1 : Nat) : Int)) :=
  ⟨w_range.goes, w_range.stops, fun i H x H' hi q y => by
    obtain ⟨a, b⟩ := (w_range (lo := 1) (n := n)).yields i H x H' hi q y
    exact ⟨a, by rw [b]; congr 1; omega⟩⟩
def cutB (t : T) (e : Nat) : Bool := decide (0 < e ∧ t.getD (e - 1) 0 ≠ 32)
theorem sgn_at {t : T} {e : Nat} (h : e < t.length) : t[e]? = some (t.getD e 0) := by rw [List.getD_eq_getElem?_getD, List.getElem?_eq_getElem h] <;> rfl
theorem tx1_inj {a b : Nat} : (tx [a] = tx [b]) ↔ a = b := by
  constructor
  · intro h
    have := SX.S_inj (V.str.inj h)
    exact (List.cons.inj this).1
  · rintro rfl; rfl
section
variable {P : Program} {w : World} {K : PySem.W.Frag} {mg : Str → Option Value} {base : Heap}
def sp_is_cut : Sp := fun vs H Q _ => ∃ t, ∃ e : Nat, vs = [tx t, .int e] ∧ e ≤ t.length ∧ t.length ≤ 10000 ∧ RetF (.bl (cutB t e)) H Q
abbrev N_is_cut : List Str := ["text", "at"]
abbrev sco_is_cut : Scope := defScope s_is_cut
theorem sc_is_cut : FnScope N_is_cut ["text", "at"] sco_is_cut := ⟨rfl, rfl, rfl, by decide +kernel, rfl, by decide +kernel, by decide +kernel⟩
theorem ok_is_cut (T : Tx K mg) : C8.Cal P w K mg base 1 "is_cut" sp_is_cut [] := by
  refine mkCal T.d_is_cut T.m_is_cut (fun fd F => ⟨[], .nil, F.bindsN fun _ _ _ _ _ _ us hl => match us, hl with | [_, _], _ => rfl⟩) sc_is_cut (fun vs H Q E h => ?_) (fun cdv A outer s H vs Q E hr h => ?_)
  · obtain ⟨t, e, rfl, _⟩ := h; rfl
  · obtain ⟨t, e, rfl, he, hl, q⟩ := h
    refine ⟨_, (pss_one (ps_ret (pe_and (pe_cmpR op_gt (pv 1) pe_int (nomark _)) (pe_one (pe_cmpR op_ne (pe_ix ix_str (pv 0) (pe_op op_sub (pv 1) pe_int) (fun _ _ => rfl)) (C8.pe_gc (by rfl) T.g_BLANK) (nomark _)))))), ?_⟩
    refine ⟨_, rfl, _, _, rfl, rfl, decide ((0 : Int) < (e : Int)), rfl, ?_⟩
    by_cases h0 : 0 < e
    · rw [decide_eq_true (show (0 : Int) < (e : Int) by omega)]
      have hs := sgn_at (t := t) (e := e - 1) (by omega)
      refine iteT ⟨_, rfl, _, rfl, _, _, rfl, rfl, _, _, _, rfl, rfl, le_line (by rw [SX.S_len]; omega), by rw [show (e : Int) - 1 = ((e - 1 : Nat) : Int) by omega]; exact atI_nat hs, rfl, ?_⟩
      have q2 := q H (Same.refl _)
      unfold cutB at q2
      refine Eq.mp (congrArg (fun z => Q (V.bl z) H) ?_) q2
      by_cases h32 : t.getD (e - 1) 0 = 32
      · rw [decide_eq_false (fun z => z.2 h32), h32]; rfl
      · rw [decide_eq_true ⟨h0, h32⟩, dec_sign, decide_eq_false h32]; rfl
    · rw [decide_eq_false (show ¬ (0 : Int) < (e : Int) by omega)]
      have q2 := q H (Same.refl _)
      unfold cutB at q2
      rw [decide_eq_false (fun z => h0 z.1)] at q2
      exact iteF q2
def sp_copies_told : Sp := fun vs H Q _ => ∃ u w : T, vs = [tx u, tx w] ∧ u.length ≤ 1000 ∧ w.length ≤ 1000 ∧ RetF (.int (copiesTold u w : Nat)) H Q
abbrev N_copies_told : List Str := ["word", "other"]
abbrev sco_copies_told : Scope := defScope s_copies_told
theorem sc_copies_told : FnScope N_copies_told ["word", "other"] sco_copies_told := ⟨rfl, rfl, rfl, by decide +kernel, rfl, by decide +kernel, by decide +kernel⟩
theorem ok_copies_told (T : Tx K mg) : C8.Cal P w K mg base 1 "copies_told" sp_copies_told [] := by
  refine mkCal T.d_copies_told T.m_copies_told (fun fd F => ⟨[], .nil, F.bindsN fun _ _ _ _ _ _ us hl => match us, hl with | [_, _], _ => rfl⟩) sc_copies_told (fun vs H Q E h => ?_) (fun cdv A outer s H vs Q E hr h => ?_)
  · obtain ⟨t, e, rfl, _⟩ := h; rfl
  · obtain ⟨u, w', rfl, hu, hw, q⟩ := h
    refine ⟨_, (pss_one (ps_ret (pe_op op_add (pe_op op_fdiv (pe_op op_add (pe_op op_mul pe_int (pe_callB call_len_str (by rfl) T.f_len bb_len (pa_cons (pv 1) pa_nil))) pe_int) (pe_op op_add (pe_callB call_len_str (by rfl) T.f_len bb_len (pa_cons (pv 0) pa_nil)) pe_int)) pe_int))), ?_⟩
    refine ⟨_, rfl, _, rfl, le_line (by rw [SX.S_len]; omega), _, _, rfl, rfl, .inl ⟨by decide, by decide⟩, _, _, rfl, rfl, _, rfl, _, rfl, le_line (by rw [SX.S_len]; omega), _, _, rfl, rfl, _, _, rfl, rfl, ⟨by omega, by rw [SX.S_len]; omega⟩, _, _, rfl, rfl, ?_⟩
    have q2 := q H (Same.refl _)
    unfold copiesTold at q2
    rw [SX.S_len, SX.S_len]
    exact q2
def sp_raised (K : PySem.W.Frag) : Sp := fun vs H Q _ => ∃ x p, ∃ k : Nat, vs = [x, .int k] ∧ Dp K H x (prD p) ∧ ∀ q H2, Same H H2 → H q = none → H2 q = some (.tup ((prL (pr p k)).map V.int)) → Q (.ref q) H2
abbrev N_raised : List Str := ["pair", "more"]
abbrev sco_raised : Scope := defScope s_raised
theorem sc_raised : FnScope N_raised ["pair", "more"] sco_raised := ⟨rfl, rfl, rfl, by decide +kernel, rfl, by decide +kernel, by decide +kernel⟩
theorem ok_raised (T : Tx K mg) : C8.Cal P w K mg base 1 "raised" (sp_raised K) [] := by
  refine mkCal T.d_raised T.m_raised (fun fd F => ⟨[], .nil, F.bindsN fun _ _ _ _ _ _ us hl => match us, hl with | [_, _], _ => rfl⟩) sc_raised (fun vs H Q E h => ?_) (fun cdv A outer s H vs Q E hr h => ?_)
  · obtain ⟨x, p, k, rfl, _⟩ := h; rfl
  · obtain ⟨x, p, k, rfl, hx, q⟩ := h
    refine ⟨_, (pss_one (ps_ret (pe_tup (pa_cons (pe_op op_add (pe_ix (ix_tupK (K := K) rfl) (pv 0) pe_int (fun _ _ => rfl)) (pv 1)) (pa_cons (pe_ix (ix_tupK (K := K) rfl) (pv 0) pe_int (fun _ _ => rfl)) pa_nil))))), ?_⟩
    obtain ⟨a, rfl, ha⟩ := pr_at hx
    exact ⟨_, rfl, a, _, (0 : Int), _, rfl, rfl, ha, rfl, _, rfl, _, _, rfl, rfl, _, rfl, a, _, (1 : Int), _, rfl, rfl, ha, rfl, by show 2 ≤ sizeLine; decide, fun p0 hp0 => q p0 _ (same_new hp0) hp0 (by rw [upd_same]; rfl)⟩
/-- the rows of best_begins -/
def rowD (w t : T) (e : Nat) : PyData := .list ((List.range (w.length + 1)).map fun m => prD (tb w t e m))
def bbD (w t : T) : PyData := .list ((List.range (t.length + 1)).map (rowD w t))
theorem dp_snoc {I : Hp} : ∀ {ds : List PyData} {d : PyData} {ys : List V}, DpAll K I ys (ds ++ [d]) → ∃ ys' x, ys = ys' ++ [x] ∧ DpAll K I ys' ds ∧ Dp K I x d
  | [], d, _, h => by
    cases h with
    | cons a b => cases b; exact ⟨[], _, rfl, .nil, a⟩
  | e :: ds, d, _, h => by
    cases h with
    | cons a b =>
      obtain ⟨ys', x, rfl, h1, h2⟩ := dp_snoc (ds := ds) b
      exact ⟨_ :: ys', x, rfl, .cons a h1, h2⟩
theorem rng_dp {α : Type} {I : Hp} {f : Nat → PyData} {n : Nat} {xs : List V} (h : DpAll K I xs ((List.range n).map f)) {m : Nat} (hm : m < n) : ∃ y, xs[m]? = some y ∧ Dp K I y (f m) :=
  h.at' (by rw [List.getElem?_map, List.getElem?_range hm] <;> rfl)
theorem row_cell {I : Hp} {x : V} {w' t : T} {e m : Nat} (h : Dp K I x (rowD w' t e)) (hm : m ≤ w'.length) : ∃ a xs y, x = .ref a ∧ SqL K I a xs ∧ xs[m]? = some y ∧ Dp K I y (prD (tb w' t e m)) := by
  obtain ⟨a, xs, rfl, h1, h2⟩ := dp_lst h
  obtain ⟨y, h3, h4⟩ := rng_dp (α := Nat) h2 (show m < w'.length + 1 by omega)
  exact ⟨a, xs, y, rfl, h1, h3, h4⟩
theorem min_dp {I : Hp} {x y : V} {a b : Pr} (hx : Dp K I x (prD a)) (hy : Dp K I y (prD b)) : Dp K I (if plt b a = true then y else x) (prD (pmin a b)) := by
  unfold pmin
  by_cases c : plt b a = true
  · rw [if_pos c, if_pos c]; exact hy
  · rw [if_neg c, if_neg c]; exact hx
theorem ne_int (c d : Nat) : (if (!decide (V.str ⟨#[c]⟩ = V.str ⟨#[d]⟩)) = true then (1 : Int) else 0) = ((neq c d : Nat) : Int) := by
  rw [neq_ite]
  by_cases h : c = d
  · subst h; rw [decide_eq_true rfl, if_pos rfl]; rfl
  · rw [decide_eq_false (fun z => h (tx1_inj.mp z)), if_neg h]; rfl
def firstP (t : T) (e : Nat) : Pr := ((if cutB t e = true then 1 else 0), e)
theorem first_0 (w' t : T) : tb w' t 0 0 = firstP t 0 := by
  unfold firstP cutB
  rw [decide_eq_false (by omega)] <;> rfl
theorem first_s (w' t : T) (e : Nat) : tb w' t (e + 1) 0 = pmin (firstP t (e + 1)) (pr (tb w' t e 0) 1) := by
  rw [tb_s0]
  have : cut (t.getD e 0) = if cutB t (e + 1) = true then 1 else 0 := by
    unfold cut cutB
    rw [neq_ite]
    by_cases h : t.getD e 0 = 32
    · rw [if_pos h, decide_eq_false (fun z => z.2 h)]; rfl
    · rw [if_neg h, decide_eq_true ⟨by omega, h⟩]; rfl
  rw [this]
  rfl
def sp_best_begins (K : PySem.W.Frag) : Sp := fun vs H Q _ => ∃ I, ∃ t w : T, vs = [tx t, tx w, .int (t.length : Nat)] ∧ Same I H ∧ t.length ≤ 1000 ∧ w.length ≤ 100 ∧ ∀ D I2 H2, Adv I H I2 H2 → Dp K I2 (.ref D) (bbD w t) → Q (.ref D) H2
abbrev N_best_begins : List Str := ["text", "word", "last", "none", "rows", "end", "first", "row", "many", "found"]
abbrev sco_best_begins : Scope := defScope s_best_begins
theorem sc_best_begins : FnScope N_best_begins ["text", "word", "last"] sco_best_begins := ⟨rfl, rfl, rfl, by decide +kernel, rfl, by decide +kernel, by decide +kernel⟩
theorem ok_best_begins (T : Tx K mg) : C8.Cal P w K mg base 2 "best_begins" (sp_best_begins K) [] := by
  have c_raised : C8.Cal P w K mg base 1 "raised" (sp_raised K) [] := ok_raised T
  have c_is_cut : C8.Cal P w K mg base 1 "is_cut" sp_is_cut [] := ok_is_cut T
  refine mkCal T.d_best_begins T.m_best_begins (fun fd F => ⟨[], .nil, F.bindsN fun _ _ _ _ _ _ us hl => match us, hl with | [_, _, _], _ => rfl⟩) sc_best_begins (fun vs H Q E h => ?_) (fun cdv A outer s H vs Q E hr h => ?_)
  · obtain ⟨I, t, w, rfl, _⟩ := h; rfl
  · obtain ⟨I, t, w', rfl, hI, ht, hw, q⟩ := h
    refine ⟨_, (pss_cons (ps_set (i := 3) sc_best_begins.nd rfl (Or.inl rfl) (pe_tup (pa_cons (pe_op op_add (pe_op op_add (pe_op op_mul pe_int (pe_callB call_len_str (by rfl) T.f_len bb_len (pa_cons (pv 0) pa_nil))) (pe_callB call_len_str (by rfl) T.f_len bb_len (pa_cons (pv 1) pa_nil))) pe_int) (pa_cons pe_int pa_nil))))
      (pss_cons (ps_set (i := 4) sc_best_begins.nd rfl (Or.inl rfl) (pe_lst pa_nil))
      (pss_cons (ps_for PassesOwn.never rfl (pi_range1 (by rfl) T.f_range (pa_cons (pe_op op_add (pe_callB call_len_str (by rfl) T.f_len bb_len (pa_cons (pv 0) pa_nil)) pe_int) pa_nil)) (pg_name (i := 5) sc_best_begins.nd rfl (Or.inl rfl))
      (pss_cons (ps_set (i := 6) sc_best_begins.nd rfl (Or.inl rfl) (pe_ifExp (pt_cmpR op_le (pv 5) (pv 2) (nomark _)) (pe_tup (pa_cons (pe_callTy call_int1 (by rfl) T.f_int bb_int (pa_cons (C8.pe_c c_is_cut hr (by decide) (by rfl) (pa_cons (pv 0) (pa_cons (pv 5) pa_nil))) pa_nil)) (pa_cons (pv 5) pa_nil))) (pv 3)))
      (C8.pss_cut (ps_set (i := 7) sc_best_begins.nd rfl (Or.inl rfl) (pe_lst (pa_cons (pe_ifExp (pt_cmpR op_gt (pv 5) pe_int (nomark _)) (pe_callB (call_minPK (K := K) rfl rfl (hu_of hr)) (by rfl) T.f_min bb_min (pa_cons (pv 6) (pa_cons (C8.pe_c c_raised hr (by decide) (by rfl) (pa_cons (pe_ix (ix_listK (K := K) rfl) (pe_ix (ix_listK (K := K) rfl) (pv 4) (pe_un un_neg pe_int) (fun _ _ => rfl)) pe_int (fun _ _ => rfl)) (pa_cons pe_int pa_nil))) pa_nil))) (pv 6)) pa_nil)))
      (pss_cons (ps_for PassesOwn.never rfl (pi_range2 (by rfl) T.f_range (pa_cons pe_int (pa_cons (pe_op op_add (pe_callB call_len_str (by rfl) T.f_len bb_len (pa_cons (pv 1) pa_nil)) pe_int) pa_nil))) (pg_name (i := 8) sc_best_begins.nd rfl (Or.inl rfl))
      (pss_cons (ps_set (i := 9) sc_best_begins.nd rfl (Or.inl rfl) (C8.pe_c c_raised hr (by decide) (by rfl) (pa_cons (pe_ix (ix_listK (K := K) rfl) (pv 7) (pe_op op_sub (pv 8) pe_int) (fun _ _ => rfl)) (pa_cons pe_int pa_nil))))
      (C8.pss_cut (ps_if (pt_cmpR op_gt (pv 5) pe_int (nomark _)) (pss_cons (ps_set (i := 9) sc_best_begins.nd rfl (Or.inl rfl) (pe_callB (call_minPK (K := K) rfl rfl (hu_of hr)) (by rfl) T.f_min bb_min (pa_cons (pv 9) (pa_cons (C8.pe_c c_raised hr (by decide) (by rfl) (pa_cons (pe_ix (ix_listK (K := K) rfl) (pe_ix (ix_listK (K := K) rfl) (pv 4) (pe_un un_neg pe_int) (fun _ _ => rfl)) (pv 8) (fun _ _ => rfl)) (pa_cons pe_int pa_nil))) pa_nil))))
      (pss_one (ps_set (i := 9) sc_best_begins.nd rfl (Or.inl rfl) (pe_callB (call_minPK (K := K) rfl rfl (hu_of hr)) (by rfl) T.f_min bb_min (pa_cons (pv 9) (pa_cons (C8.pe_c c_raised hr (by decide) (by rfl) (pa_cons (pe_ix (ix_listK (K := K) rfl) (pe_ix (ix_listK (K := K) rfl) (pv 4) (pe_un un_neg pe_int) (fun _ _ => rfl)) (pe_op op_sub (pv 8) pe_int) (fun _ _ => rfl)) (pa_cons (pe_callTy call_int1 (by rfl) T.f_int bb_int (pa_cons (pe_cmpR op_ne (pe_ix ix_str (pv 0) (pe_op op_sub (pv 5) pe_int) (fun _ _ => rfl)) (pe_ix ix_str (pv 1) (pe_op op_sub (pv 8) pe_int) (fun _ _ => rfl)) (nomark _)) pa_nil)) pa_nil))) pa_nil)))))) pss_nil)
      (pss_one (ps_expr (pe_bmK (K := K) rfl PySem.F.plainAttrs_list PySem.F.slot_list_append PySem.F.type_list_append mt_append (pv 7) (pa_cons (pv 9) pa_nil)))))))
      (pss_one (ps_expr (pe_bmK (K := K) rfl PySem.F.plainAttrs_list PySem.F.slot_list_append PySem.F.type_list_append mt_append (pv 4) (pa_cons (pv 7) pa_nil))))))))
      (pss_one (ps_ret (pv 4)))))), ?_⟩
    have zt : (SX.S t).length ≤ sizeLine := le_line (by rw [SX.S_len]; omega)
    have zw : (SX.S w').length ≤ sizeLine := le_line (by rw [SX.S_len]; omega)
    refine ⟨_, rfl, _, rfl, zt, _, _, rfl, rfl, .inl ⟨by decide, by decide⟩, _, rfl, _, rfl, zw, _, _, rfl, rfl, _, _, rfl, rfl, by show 2 ≤ sizeLine; decide, fun p0 hp0 => ?_⟩
    refine ⟨by show 0 ≤ sizeLine; decide, fun R hR => ?_⟩
    have a0 := ((Adv.refl hI).alloc (o := .tup [V.int (3 * ((SX.S t).length : Int) + ((SX.S w').length : Int) + 9), .int 0]) hp0).alloc (o := .lst []) hR
    have hRH : H R = none := (same_new hp0).free hR
    refine ⟨_, rfl, _, rfl, zt, _, _, rfl, rfl, _, rfl, by rw [SX.S_len]; omega, by rw [SX.S_len]; omega, for_it (w_range0 (n := t.length + 1)) (fun i σ H' => (∃ z5 z6 z7 z8 z9, σ = [some (tx t), some (tx w'), some (.int (t.length : Nat)), some (.ref p0), some (.ref R), z5, z6, z7, z8, z9]) ∧ ∃ I2 ys, Adv I H I2 H' ∧ I2 R = none ∧ H' R = some (.lst ys) ∧ DpAll K I2 ys ((List.range i).map (rowD w' t)))
      ⟨⟨_, _, _, _, _, rfl⟩, I, [], a0, hI.free hRH, upd_same, .nil⟩ (fun _ _ _ _ _ => trivial) ?_ ?_⟩
    · rintro i x σ _ H1 hi ⟨⟨z5, z6, z7, z8, z9, rfl⟩, I1, ys, a1, hR1, hR2, hys⟩ ⟨rfl, rfl⟩
      refine ⟨_, rfl, _, rfl, _, _, rfl, rfl, true, congrArg V.bl (decide_eq_true (by omega)), iteT ⟨_, rfl, _, rfl, t, i, rfl, by omega, by omega, fun H3 s3 => .inr ⟨_, rfl, _, rfl, by show 2 ≤ sizeLine; decide, fun pf hpf => ?_⟩⟩⟩
      have ef : [V.int (if cutB t i = true then 1 else 0), V.int (i : Int)] = (prL (firstP t i)).map V.int := by
        unfold firstP
        cases cutB t i <;> rfl
      rw [ef]
      have a2 := (a1.grow s3).new (o := .tup ((prL (firstP t i)).map V.int)) hpf
      have hRf : R ≠ pf := fun e => by rw [← e, s3 R _ hR2] at hpf; cases hpf
      have hR3 : (upd I1 pf (.tup ((prL (firstP t i)).map V.int))) R = none := by rw [upd_ne hRf]; exact hR1
      have hR4 : (upd H3 pf (.tup ((prL (firstP t i)).map V.int))) R = some (.lst ys) := by rw [upd_ne hRf]; exact s3 R _ hR2
      have hI1pf : I1 pf = none := (a1.grow s3).free hpf
      have hys2 := hys.mono (same_new (o := .tup ((prL (firstP t i)).map V.int)) hI1pf)
      have hpf2 : Dp K (upd I1 pf (.tup ((prL (firstP t i)).map V.int))) (.ref pf) (prD (firstP t i)) := pr_dp (.inl (.inl upd_same))
      generalize upd I1 pf (.tup ((prL (firstP t i)).map V.int)) = I2 at *
      generalize upd H3 pf (.tup ((prL (firstP t i)).map V.int)) = H4 at *
      clear s3 hpf hI1pf
      refine ⟨fun σ' G => ∃ z8 z9 rw x I3, σ' = [some (tx t), some (tx w'), some (.int (t.length : Nat)), some (.ref p0), some (.ref R), some (.int (i : Int)), some (.ref pf), some (.ref rw), z8, z9] ∧ Adv I H I3 G ∧ I3 R = none ∧ G R = some (.lst ys) ∧ DpAll K I3 ys ((List.range i).map (rowD w' t)) ∧ H rw = none ∧ I3 rw = none ∧ G rw = some (.lst [x]) ∧ Dp K I3 x (prD (tb w' t i 0)) ∧ rw ≠ R, ?_, ?_⟩
      · refine ⟨_, rfl, _, _, rfl, rfl, decide ((0 : Int) < (i : Int)), rfl, ?_⟩
        cases i with
        | zero =>
          refine iteF ⟨_, rfl, by show 1 ≤ sizeLine; decide, fun rw hrw => ?_⟩
          have hne : R ≠ rw := fun e => by rw [← e, hR4] at hrw; cases hrw
          exact ⟨_, _, rw, _, I2, rfl, a2.alloc hrw, hR3, by rw [upd_ne hne]; exact hR4, hys2, a2.free0 hrw, a2.free hrw, upd_same, by rw [first_0]; exact hpf2, hne.symm⟩
        | succ k =>
          rw [decide_eq_true (show (0 : Int) < ((k + 1 : Nat) : Int) by omega)]
          have hl := hys2
          rw [List.range_succ, List.map_append] at hl
          obtain ⟨ys', x, rfl, _, hx⟩ := dp_snoc (d := rowD w' t k) hl
          obtain ⟨ar, xs, y, rfl, har, hy0, hy⟩ := row_cell (m := 0) hx (Nat.zero_le _)
          refine iteT ⟨_, rfl, _, rfl, 1, rfl, R, _, (-1 : Int), _, rfl, rfl, .inl (.inl hR4), atI_last _ _, ar, xs, (0 : Int), y, rfl, rfl, sql_mono a2.ih har, atI_nat (j := 0) hy0, y, _, 1, rfl, hy.mono a2.ih, fun q0 H5 s5 hq0 hq => ?_⟩
          have a3 := (a2.grow s5).freeze hq (a2.free0 hq0) (a2.free hq0)
          have hIs : Same I2 (upd I2 q0 (.tup ((prL (pr (tb w' t k 0) 1)).map V.int))) := same_new (a2.free hq0)
          have hpf3 := hpf2.mono hIs
          have hq3 : Dp K (upd I2 q0 (.tup ((prL (pr (tb w' t k 0) 1)).map V.int))) (.ref q0) (prD (pr (tb w' t k 0) 1)) := pr_dp (.inl (.inl upd_same))
          have hRq : R ≠ q0 := fun e => by rw [← e, hR4] at hq0; cases hq0
          refine ⟨_, _, _, _, rfl, hpf3.mono a3.ih, hq3.mono a3.ih, by show 1 ≤ sizeLine; decide, fun rw hrw => ?_⟩
          have hne : R ≠ rw := fun e => by rw [← e, s5 R _ hR4] at hrw; cases hrw
          exact ⟨_, _, rw, _, _, rfl, a3.alloc hrw, by rw [upd_ne hRq]; exact hR3, by rw [upd_ne hne]; exact s5 R _ hR4, hys2.mono hIs, a3.free0 hrw, a3.free hrw, upd_same, by rw [first_s]; exact min_dp hpf3 hq3, hne.symm⟩
      · rintro σ' G ⟨z8, z9, rw', x, I3, rfl, a3, hR5, hR6, hys3, hw0, hw1, hw2, hx, hwR⟩
        refine ⟨_, rfl, _, rfl, zw, _, _, rfl, rfl, (1 : Int), _, rfl, ⟨by decide, by decide, by rw [SX.S_len]; omega, by rw [SX.S_len]; omega⟩, ?_⟩
        have en : (((SX.S w').length : Int) + 1 - 1).toNat = w'.length := by rw [SX.S_len]; omega
        refine for_it (w_range1 (n := (((SX.S w').length : Int) + 1 - 1).toNat)) (fun j σ G' => (∃ z8 z9, σ = [some (tx t), some (tx w'), some (.int (t.length : Nat)), some (.ref p0), some (.ref R), some (.int (i : Int)), some (.ref pf), some (.ref rw'), z8, z9]) ∧ ∃ I4 zs, Adv I H I4 G' ∧ I4 R = none ∧ G' R = some (.lst ys) ∧ DpAll K I4 ys ((List.range i).map (rowD w' t)) ∧ I4 rw' = none ∧ G' rw' = some (.lst zs) ∧ DpAll K I4 zs ((List.range (j + 1)).map fun m => prD (tb w' t i m)))
          ⟨⟨_, _, rfl⟩, I3, [x], a3, hR5, hR6, hys3, hw1, hw2, .cons hx .nil⟩ (fun _ _ _ _ _ => trivial) ?_ ?_
        · rintro j y0 σ _ G1 hj ⟨⟨z8, z9, rfl⟩, I4, zs, a4, hRa, hRb, hys4, hwa, hwb, hzs⟩ ⟨rfl, rfl⟩
          rw [en] at hj
          obtain ⟨y1, hy1, hy1d⟩ := rng_dp (α := Nat) hzs (show j < j + 1 by omega)
          refine ⟨_, rfl, _, rfl, _, _, rfl, rfl, rw', zs, _, y1, rfl, rfl, .inl (.inl hwb), by rw [show (((j + 1 : Nat) : Int) - 1) = (j : Int) by omega]; exact atI_nat hy1, y1, _, 1, rfl, hy1d.mono a4.ih, fun q1 G2 s2 hq1n hq1 => ?_⟩
          have a5 := (a4.grow s2).freeze hq1 (a4.free0 hq1n) (a4.free hq1n)
          have hI5 : Same I4 (upd I4 q1 (.tup ((prL (pr (tb w' t i j) 1)).map V.int))) := same_new (a4.free hq1n)
          have hq1d : Dp K (upd I4 q1 (.tup ((prL (pr (tb w' t i j) 1)).map V.int))) (.ref q1) (prD (pr (tb w' t i j) 1)) := pr_dp (.inl (.inl upd_same))
          have hne1 : ∀ {b : Addr} {u : HO}, G1 b = some u → b ≠ q1 := fun {b u} h e => by rw [← e, h] at hq1n; cases hq1n
          have hRc : (upd I4 q1 (.tup ((prL (pr (tb w' t i j) 1)).map V.int))) R = none := by rw [upd_ne (hne1 hRb)]; exact hRa
          have hwc : (upd I4 q1 (.tup ((prL (pr (tb w' t i j) 1)).map V.int))) rw' = none := by rw [upd_ne (hne1 hwb)]; exact hwa
          have hRd := s2 R _ hRb
          have hwd := s2 rw' _ hwb
          have hys5 := hys4.mono hI5
          have hzs5 := hzs.mono hI5
          generalize upd I4 q1 (.tup ((prL (pr (tb w' t i j) 1)).map V.int)) = I5 at *
          refine ⟨fun σ' G => ∃ x9 I6, σ' = [some (tx t), some (tx w'), some (.int (t.length : Nat)), some (.ref p0), some (.ref R), some (.int (i : Int)), some (.ref pf), some (.ref rw'), some (.int ((j + 1 : Nat) : Int)), some x9] ∧ Adv I H I6 G ∧ I6 R = none ∧ G R = some (.lst ys) ∧ DpAll K I6 ys ((List.range i).map (rowD w' t)) ∧ I6 rw' = none ∧ G rw' = some (.lst zs) ∧ DpAll K I6 zs ((List.range (j + 1)).map fun m => prD (tb w' t i m)) ∧ Dp K I6 x9 (prD (tb w' t i (j + 1))), ?_, ?_⟩
          · refine ⟨_, rfl, _, _, rfl, rfl, decide ((0 : Int) < (i : Int)), rfl, ?_⟩
            cases i with
            | zero => exact iteF ⟨_, I5, rfl, a5, hRc, hRd, hys5, hwc, hwd, hzs5, hq1d⟩
            | succ k =>
              rw [decide_eq_true (show (0 : Int) < ((k + 1 : Nat) : Int) by omega)]
              refine iteT ?_
              have hl := hys5
              rw [List.range_succ, List.map_append] at hl
              obtain ⟨ys', x, rfl, _, hx⟩ := dp_snoc (d := rowD w' t k) hl
              obtain ⟨ar, xs, y, rfl, har, hy0, hy⟩ := row_cell (m := j + 1) hx hj
              obtain ⟨ar2, xs2, y2, e2, har2, hy20, hy2⟩ := row_cell (m := j) hx (by omega)
              cases e2
              refine ⟨_, rfl, _, rfl, 1, rfl, R, _, (-1 : Int), _, rfl, rfl, .inl (.inl hRd), atI_last _ _, _, rfl, ar, xs, _, y, rfl, rfl, sql_mono a5.ih har, atI_nat (j := j + 1) hy0, y, _, 1, rfl, hy.mono a5.ih, fun q2 G3 s3 hq2n hq2 => ?_⟩
              have a6 := (a5.grow s3).freeze hq2 (a5.free0 hq2n) (a5.free hq2n)
              have hI6 : Same I5 (upd I5 q2 (.tup ((prL (pr (tb w' t k (j + 1)) 1)).map V.int))) := same_new (a5.free hq2n)
              have hq2d : Dp K (upd I5 q2 (.tup ((prL (pr (tb w' t k (j + 1)) 1)).map V.int))) (.ref q2) (prD (pr (tb w' t k (j + 1)) 1)) := pr_dp (.inl (.inl upd_same))
              have hne2 : ∀ {b : Addr} {u : HO}, G2 b = some u → b ≠ q2 := fun {b u} h e => by rw [← e, h] at hq2n; cases hq2n
              have hRe : (upd I5 q2 (.tup ((prL (pr (tb w' t k (j + 1)) 1)).map V.int))) R = none := by rw [upd_ne (hne2 hRd)]; exact hRc
              have hwe : (upd I5 q2 (.tup ((prL (pr (tb w' t k (j + 1)) 1)).map V.int))) rw' = none := by rw [upd_ne (hne2 hwd)]; exact hwc
              have hRf := s3 R _ hRd
              have hwf := s3 rw' _ hwd
              generalize upd I5 q2 (.tup ((prL (pr (tb w' t k (j + 1)) 1)).map V.int)) = I6 at *
              have hm1 := min_dp (hq1d.mono hI6) hq2d
              refine ⟨_, _, _, _, rfl, (hq1d.mono hI6).mono a6.ih, hq2d.mono a6.ih, ?_⟩
              have hst := sgn_at (t := t) (e := k) (by omega)
              have hsw := sgn_at (t := w') (e := j) (by omega)
              refine ⟨_, rfl, _, rfl, 1, rfl, R, _, (-1 : Int), _, rfl, rfl, .inl (.inl hRf), atI_last _ _, _, rfl, _, _, rfl, rfl, ar, xs2, _, y2, rfl, rfl, sql_mono a6.ih (sql_mono hI6 har2), by rw [show (((j + 1 : Nat) : Int) - 1) = (j : Int) by omega]; exact atI_nat hy20, ?_⟩
              refine ⟨_, rfl, _, rfl, _, _, rfl, rfl, _, _, t.getD k 0, rfl, rfl, zt, by rw [show (((k + 1 : Nat) : Int) - 1) = (k : Int) by omega]; exact atI_nat hst, _, rfl, _, rfl, _, _, rfl, rfl, _, _, w'.getD j 0, rfl, rfl, zw, by rw [show (((j + 1 : Nat) : Int) - 1) = (j : Int) by omega]; exact atI_nat hsw, rfl, .inr ⟨_, rfl, ?_⟩⟩
              rw [ne_int]
              refine ⟨y2, _, neq (t.getD k 0) (w'.getD j 0), rfl, (hy2.mono hI6).mono a6.ih, fun q3 G4 s4 hq3n hq3 => ?_⟩
              have a7 := (a6.grow s4).freeze hq3 (a6.free0 hq3n) (a6.free hq3n)
              have hI7 : Same I6 (upd I6 q3 (.tup ((prL (pr (tb w' t k j) (neq (t.getD k 0) (w'.getD j 0)))).map V.int))) := same_new (a6.free hq3n)
              have hq3d : Dp K (upd I6 q3 (.tup ((prL (pr (tb w' t k j) (neq (t.getD k 0) (w'.getD j 0)))).map V.int))) (.ref q3) (prD (pr (tb w' t k j) (neq (t.getD k 0) (w'.getD j 0)))) := pr_dp (.inl (.inl upd_same))
              have hne3 : ∀ {b : Addr} {u : HO}, G3 b = some u → b ≠ q3 := fun {b u} h e => by rw [← e, h] at hq3n; cases hq3n
              have hRg : (upd I6 q3 (.tup ((prL (pr (tb w' t k j) (neq (t.getD k 0) (w'.getD j 0)))).map V.int))) R = none := by rw [upd_ne (hne3 hRf)]; exact hRe
              have hwg : (upd I6 q3 (.tup ((prL (pr (tb w' t k j) (neq (t.getD k 0) (w'.getD j 0)))).map V.int))) rw' = none := by rw [upd_ne (hne3 hwf)]; exact hwe
              have hRh := s4 R _ hRf
              have hwh := s4 rw' _ hwf
              generalize upd I6 q3 (.tup ((prL (pr (tb w' t k j) (neq (t.getD k 0) (w'.getD j 0)))).map V.int)) = I7 at *
              refine ⟨_, _, _, _, rfl, (hm1.mono hI7).mono a7.ih, hq3d.mono a7.ih, ?_⟩
              exact ⟨_, I7, rfl, a7, hRg, hRh, (hys5.mono hI6).mono hI7, hwg, hwh, (hzs5.mono hI6).mono hI7, by rw [tb_ss]; exact min_dp (hm1.mono hI7) hq3d⟩
          · rintro σ' G ⟨x9, I6, rfl, a6, hRe, hRf, hys6, hwe, hwf, hzs6, hx9⟩
            have hzl : zs.length = j + 1 := by rw [hzs6.length, List.length_map, List.length_range]
            refine ⟨_, rfl, .inl ⟨rfl, _, .inl (.inl hwf)⟩, _, rfl, rw', _, _, rfl, rfl, hwf, lt_line (by omega), ⟨_, _, rfl⟩, I6, zs ++ [x9], a6.mut hw0 hwe, hRe, by rw [upd_ne hwR.symm]; exact hRf, hys6, hwe, upd_same, ?_⟩
            rw [List.range_succ, List.map_append]
            exact hzs6.app (.cons hx9 .nil)
        · rintro σ G1 ⟨⟨z8, z9, rfl⟩, I4, zs, a4, hRa, hRb, hys4, hwa, hwb, hzs⟩
          rw [en] at hzs
          have a5 := a4.freeze hwb hw0 hwa
          have hyl : ys.length = i := by rw [hys4.length, List.length_map, List.length_range]
          have hI5 : Same I4 (upd I4 rw' (.lst zs)) := same_new hwa
          refine ⟨_, rfl, .inl ⟨rfl, _, .inl (.inl hRb)⟩, _, rfl, R, _, _, rfl, rfl, hRb, lt_line (by omega), ⟨_, _, _, _, _, rfl⟩, upd I4 rw' (.lst zs), ys ++ [.ref rw'], a5.mut hRH (by rw [upd_ne hwR.symm]; exact hRa), by rw [upd_ne hwR.symm]; exact hRa, upd_same, ?_⟩
          rw [List.range_succ, List.map_append]
          exact (hys4.mono hI5).app (.cons (.lst (.inl (.inl upd_same)) (hzs.mono hI5)) .nil)
    · rintro σ H1 ⟨⟨z5, z6, z7, z8, z9, rfl⟩, I1, ys, a1, hR1, hR2, hys⟩
      have a2 := a1.freeze hR2 hRH hR1
      exact ⟨_, rfl, q R _ _ a2 (.lst (.inl (.inl upd_same)) (hys.mono (same_new hR1)))⟩
end
end K57
set_option Elab.async false
set_option linter.all false
set_option maxRecDepth 100000
set_option maxHeartbeats 4000000
namespace K57
open PySem PySem.Spec PyProof.Rows L2
theorem join_rep (u : T) (k : Nat) : Txt.join (Str.ofString " ") (List.replicate k (SX.S u)) = SX.S (joinB (rep k u)) := by
  have e : List.replicate k (SX.S u) = (rep k u).map SX.S := by unfold rep; rw [List.map_replicate]
  rw [e, show Str.ofString " " = SX.S [32] from rfl, SX.join_S, joinL_eq] <;> rfl
theorem sum_rep (u : T) (k : Nat) : ((List.replicate k (SX.S u)).map fun x : Str => x.length).sum = k * u.length := by
  rw [List.map_replicate, SX.S_len]
  induction k with
  | zero => simp
  | succ k ih => rw [List.replicate_succ, List.sum_cons, ih, Nat.succ_mul, Nat.add_comm]
theorem copies_le {u w : T} (hw : w.length ≤ 12) : copiesTold u w ≤ 27 := by
  unfold copiesTold
  have := Nat.div_le_self (2 * w.length + 1) (u.length + 1)
  omega
theorem textC_le {u w : T} (hu : u.length ≤ 12) (hw : w.length ≤ 12) : (textC u w).length ≤ 1000 := by
  unfold textC
  have h := copies_le (u := u) hw
  have h2 := copies_pos u w
  generalize copiesTold u w = k at *
  obtain ⟨n, rfl⟩ : ∃ n, k = n + 1 := ⟨k - 1, by omega⟩
  have h3 := joinB_len u n
  have h4 : (n + 1) * (u.length + 1) ≤ 27 * 13 := Nat.mul_le_mul h (by omega)
  omega
theorem behAt_1 {t : T} {e : Nat} (h1 : e < t.length) (h2 : t.getD e 0 ≠ 32) : behAt t e = 1 := if_pos ⟨h1, h2⟩
theorem behAt_32 {t : T} {e : Nat} (h : t.getD e 0 = 32) : behAt t e = 0 := if_neg fun z => z.2 h
theorem behAt_end {t : T} {e : Nat} (h : ¬ e < t.length) : behAt t e = 0 := if_neg fun z => h z.1
section
variable {P : Program} {w : World} {K : PySem.W.Frag} {mg : Str → Option Value} {base : Heap}
theorem row_last {I : Hp} {x : V} {w' t : T} {e : Nat} (h : Dp K I x (rowD w' t e)) : ∃ a xs y, x = .ref a ∧ SqL K I a (xs ++ [y]) ∧ Dp K I y (prD (tb w' t e w'.length)) := by
  obtain ⟨a, xs, rfl, h1, h2⟩ := dp_lst h
  rw [List.range_succ, List.map_append] at h2
  obtain ⟨ys, y, rfl, _, h3⟩ := dp_snoc h2
  exact ⟨a, ys, y, rfl, h1, h3⟩
abbrev RetMin (L : List Nat) (H : Hp) (Q : VK) : Prop := ∀ c : Nat, c ∈ L → (∀ y ∈ L, c ≤ y) → ∀ H2, Same H H2 → Q (.int (c : Int)) H2
def sp_alone_cost : Sp := fun vs H Q _ => ∃ u w : T, vs = [tx u, tx w] ∧ u.length ≤ 12 ∧ w.length ≤ 12 ∧ RetMin (aloneL u w) H Q
abbrev N_alone_cost : List Str := ["mine", "word", "text", "rows", "end", "row"]
abbrev sco_alone_cost : Scope := defScope s_alone_cost
theorem sc_alone_cost : FnScope N_alone_cost ["mine", "word"] sco_alone_cost := ⟨rfl, rfl, rfl, by decide +kernel, rfl, by decide +kernel, by decide +kernel⟩
theorem ok_alone_cost (T : Tx K mg) : C8.Cal P w K mg base 3 "alone_cost" sp_alone_cost [] := by
  have c_best_begins : C8.Cal P w K mg base 2 "best_begins" (sp_best_begins K) [] := ok_best_begins T
  have c_copies_told : C8.Cal P w K mg base 1 "copies_told" sp_copies_told [] := ok_copies_told T
  refine mkCal T.d_alone_cost T.m_alone_cost (fun fd F => ⟨[], .nil, F.bindsN fun _ _ _ _ _ _ us hl => match us, hl with | [_, _], _ => rfl⟩) sc_alone_cost (fun vs H Q E h => ?_) (fun cdv A outer s H vs Q E hr h => ?_)
  · obtain ⟨u, w, rfl, _⟩ := h; rfl
  · obtain ⟨u, w', rfl, hu, hw, q⟩ := h
    refine ⟨_, (pss_cons (ps_set (i := 2) sc_alone_cost.nd rfl (Or.inr rfl) (pe_join (C8.pe_gc (by rfl) T.g_BLANK) (pe_op op_rep (pe_lst (pa_cons (pv 0) pa_nil)) (C8.pe_c c_copies_told hr (by decide) (by rfl) (pa_cons (pv 0) (pa_cons (pv 1) pa_nil))))))
      (pss_cons (ps_set (i := 3) sc_alone_cost.nd rfl (Or.inl rfl) (C8.pe_c c_best_begins hr (by decide) (by rfl) (pa_cons (pv 2) (pa_cons (pv 1) (pa_cons (pe_callB call_len_str (by rfl) T.f_len bb_len (pa_cons (pv 2) pa_nil)) pa_nil)))))
      (pss_one (ps_ret (pe_callB (cr_minK0 (K := K) rfl rfl) (by rfl) T.f_min bb_min (pa_cons (pe_lc (own := [("end", 4), ("row", 5)]) rfl sc_alone_cost.nd (pi_enum (by rfl) T.f_enumerate (pa_cons (pv 3) pa_nil)) (blkOk_by (own := [("end", 4), ("row", 5)]) (N := N_alone_cost) (sc := sco_alone_cost) (by decide +kernel)) (fun _ _ _ _ _ => (pg_tupK (K := K) (n := 2) rfl rfl (pgs_cons (pg_name (i := 4) sc_alone_cost.nd rfl (Or.inl rfl)) (pgs_cons (pg_name (i := 5) sc_alone_cost.nd rfl (Or.inl rfl)) pgs_nil)))) (fun _ _ _ _ _ => pts_nil) (fun _ _ _ _ _ => (pe_op op_add (pe_ix (ix_tupK (K := K) rfl) (pe_ix (ix_listK (K := K) rfl) (pv 5) (pe_un un_neg pe_int) (fun _ _ => rfl)) pe_int (fun _ _ => rfl)) (pe_callTy call_int1 (by rfl) T.f_int bb_int (pa_cons (pe_and (pe_cmpR op_lt (pv 4) (pe_callB call_len_str (by rfl) T.f_len bb_len (pa_cons (pv 2) pa_nil)) (nomark _)) (pe_one (pe_cmpR op_ne (pe_ix ix_str (pv 2) (pv 4) (fun _ _ => rfl)) (C8.pe_gc (by rfl) T.g_BLANK) (nomark _)))) pa_nil))))) pa_nil)))))), ?_⟩
    refine ⟨⟨_, rfl⟩, _, rfl, by show 1 ≤ sizeLine; decide, fun p hp => ⟨_, rfl, _, rfl, u, w', rfl, by omega, by omega, fun H1 s1 => ?_⟩⟩
    have hc := copies_le (u := u) hw
    refine ⟨p, _, _, rfl, rfl, s1 p _ upd_same, by omega, by omega, by show 1 * (copiesTold u w') ≤ sizeLine; exact le_line (by omega), fun p2 hp2 => ?_⟩
    rw [flat_rep]
    refine ⟨_, p2, List.replicate (copiesTold u w') (SX.S u), rfl, rfl, .inl (.inl (.inl ?_)), ?_, ?_⟩
    · rw [upd_same, List.map_replicate]
    · rw [sum_rep, List.length_replicate]
      have h1 : copiesTold u w' * u.length ≤ 27 * 12 := Nat.mul_le_mul hc hu
      have h2 : (Str.ofString " ").length = 1 := rfl
      rw [h2]
      omega
    rw [join_rep]
    have tl := textC_le hu hw
    have s2 : Same H (upd H1 p2 (.lst (List.replicate (copiesTold u w') (V.str (SX.S u))))) := ((same_new hp).trans s1).trans (same_new hp2)
    have zt : (SX.S (textC u w')).length ≤ sizeLine := le_line (by rw [SX.S_len]; omega)
    have et : joinB (rep (copiesTold u w') u) = textC u w' := rfl
    rw [et]
    generalize htx : textC u w' = t at *
    refine ⟨_, rfl, _, rfl, _, rfl, _, rfl, zt, _, t, w', by rw [SX.S_len]; rfl, Same.refl _, tl, by omega, fun R I2 H2 a2 hR => ?_⟩
    obtain ⟨Ra, rows, eR, hRl, hrows⟩ := dp_lst hR
    cases eR
    refine ⟨_, rfl, R, rows, rfl, sql_mono a2.ih hRl, fun D hD => ?_⟩
    have hrl : rows.length = t.length + 1 := by rw [hrows.length, List.length_map, List.length_range]
    refine walkW (w_enum (xs := rows)) (fun i H' => Same H2 H' ∧ H' D = some (.lst (nV ((List.range i).map fun e => (tb w' t e w'.length).1 + behAt t e)))) ⟨(Same.refl _).mut hD, upd_same⟩ (fun i H' _ p => sql_mono p.1 (sql_mono a2.ih hRl)) ?_ ?_
    · rintro i H3 x _ hi ⟨s3, hy⟩ ⟨Tp, xr, rfl, hTp, rfl, hxr⟩
      have hne : D ≠ Tp := fun e => by rw [e, hTp] at hy; cases hy
      have sT : Same H3 (upd H3 Tp (.tup [.int (i : Int), xr])) := same_new hTp
      obtain ⟨d, hd1, hd2⟩ := hrows.at hxr
      rw [List.getElem?_map, List.getElem?_range (by omega)] at hd1
      cases hd1
      obtain ⟨ar, xs, y, rfl, har, hyd⟩ := row_last hd2
      have sX := (a2.ih.trans s3).trans sT
      obtain ⟨ap, rfl, hap⟩ := pr_at hyd
      refine ⟨Tp, [_, _], rfl, .inl (.inl upd_same), rfl, _, _, rfl, _, _, rfl, rfl, rfl, ?_⟩
      unfold tYes
      refine iteT ⟨_, rfl, 1, rfl, ar, _, (-1 : Int), _, rfl, rfl, sql_mono sX har, atI_last _ _, ap, _, (0 : Int), _, rfl, rfl, sqt_mono sX hap, rfl, _, rfl, _, rfl, _, rfl, zt, _, _, rfl, rfl, decide ((i : Int) < ((SX.S t).length : Int)), rfl, ?_⟩
      have fin : ∀ b : Bool, (if b = true then 1 else 0) = behAt t i → ∀ H4, Same (upd H3 Tp (.tup [.int (i : Int), .ref ar])) H4 → ∃ acc, H4 D = some (.lst acc) ∧ acc.length < sizeLine ∧ Same H2 (upd H4 D (.lst (acc ++ [V.int (((tb w' t i w'.length).1 : Int) + (if b = true then 1 else 0))]))) ∧ (upd H4 D (.lst (acc ++ [V.int (((tb w' t i w'.length).1 : Int) + (if b = true then 1 else 0))]))) D = some (.lst (nV ((List.range (i + 1)).map fun e => (tb w' t e w'.length).1 + behAt t e))) := by
        intro b hb H4 s4
        refine ⟨_, s4 D _ (sT D _ hy), lt_line (by rw [List.length_map, List.length_map, List.length_range]; omega), ((s3.trans sT).trans s4).mut hD, ?_⟩
        rw [upd_same, List.range_succ, List.map_append, show ∀ a b : List Nat, nV (a ++ b) = nV a ++ nV b from fun a b => List.map_append .., List.map_singleton, ← hb]
        cases b <;> rfl
      by_cases hlt : i < t.length
      · rw [decide_eq_true (show (i : Int) < ((SX.S t).length : Int) by rw [SX.S_len]; omega)]
        refine iteT ⟨_, rfl, _, rfl, _, _, t.getD i 0, rfl, rfl, zt, atI_nat (sgn_at hlt), rfl, .inr ⟨_, rfl, _, _, rfl, rfl, fin _ ?_ _ (Same.refl _)⟩⟩
        rw [dec_sign]
        by_cases h32 : t.getD i 0 = 32
        · rw [decide_eq_true h32, behAt_32 h32]; rfl
        · rw [decide_eq_false h32, behAt_1 hlt h32]; rfl
      · rw [decide_eq_false (show ¬ (i : Int) < ((SX.S t).length : Int) by rw [SX.S_len]; omega)]
        refine iteF (.inr ⟨_, rfl, _, _, rfl, rfl, fin false ?_ _ (Same.refl _)⟩)
        rw [behAt_end hlt]; rfl
    · rintro H3 ⟨s3, hy⟩
      have eL : ((List.range rows.length).map fun e => (tb w' t e w'.length).1 + behAt t e) = aloneL u w' := by rw [hrl, ← htx]; rfl
      rw [eL] at hy
      refine ⟨D, (aloneL u w').map fun n : Nat => (n : Int), rfl, .inl (.inl (by rw [hy, nV_eq])), by rw [List.length_map]; unfold aloneL; simp, fun m hm hmin => ?_⟩
      obtain ⟨c, hc1, rfl⟩ := List.mem_map.mp hm
      exact q c hc1 (fun y hy => by have := hmin (y : Int) (List.mem_map.mpr ⟨y, hy, rfl⟩); omega) H3 ((s2.trans a2.hh).trans s3)
def sp_side_costs : Sp := fun vs H Q _ => ∃ u w : T, vs = [tx u, tx w] ∧ u.length ≤ 12 ∧ w.length ≤ 12 ∧ ∀ D H2, Same H H2 → H D = none → H2 D = some (.lst (nV (sideL u w))) → Q (.ref D) H2
abbrev N_side_costs : List Str := ["mine", "word", "text", "pair"]
abbrev sco_side_costs : Scope := defScope s_side_costs
theorem sc_side_costs : FnScope N_side_costs ["mine", "word"] sco_side_costs := ⟨rfl, rfl, rfl, by decide +kernel, rfl, by decide +kernel, by decide +kernel⟩
theorem ok_side_costs (T : Tx K mg) : C8.Cal P w K mg base 3 "side_costs" sp_side_costs [] := by
  have c_copies_told : C8.Cal P w K mg base 1 "copies_told" sp_copies_told [] := ok_copies_told T
  have c_best_begins : C8.Cal P w K mg base 2 "best_begins" (sp_best_begins K) [] := ok_best_begins T
  refine mkCal T.d_side_costs T.m_side_costs (fun fd F => ⟨[], .nil, F.bindsN fun _ _ _ _ _ _ us hl => match us, hl with | [_, _], _ => rfl⟩) sc_side_costs (fun vs H Q E h => ?_) (fun cdv A outer s H vs Q E hr h => ?_)
  · obtain ⟨u, w, rfl, _⟩ := h; rfl
  · obtain ⟨u, w', rfl, hu, hw, q⟩ := h
    refine ⟨_, (pss_cons (ps_set (i := 2) sc_side_costs.nd rfl (Or.inl rfl) (pe_join (C8.pe_gc (by rfl) T.g_BLANK) (pe_op op_rep (pe_lst (pa_cons (pv 0) pa_nil)) (C8.pe_c c_copies_told hr (by decide) (by rfl) (pa_cons (pv 0) (pa_cons (pv 1) pa_nil))))))
      (pss_one (ps_ret (pe_lc (own := [("pair", 3)]) rfl sc_side_costs.nd (pi_listK (K := K) rfl (pe_ix (ix_listK (K := K) rfl) (C8.pe_c c_best_begins hr (by decide) (by rfl) (pa_cons (pv 2) (pa_cons (pv 1) (pa_cons (pe_callB call_len_str (by rfl) T.f_len bb_len (pa_cons (pv 2) pa_nil)) pa_nil)))) (pe_un un_neg pe_int) (fun _ _ => rfl))) (blkOk_by (own := [("pair", 3)]) (N := N_side_costs) (sc := sco_side_costs) (by decide +kernel)) (fun _ _ _ _ _ => (pg_name (i := 3) sc_side_costs.nd rfl (Or.inl rfl))) (fun _ _ _ _ _ => pts_nil) (fun _ _ _ _ _ => (pe_ix (ix_tupK (K := K) rfl) (pv 3) pe_int (fun _ _ => rfl))))))), ?_⟩
    refine ⟨⟨_, rfl⟩, _, rfl, by show 1 ≤ sizeLine; decide, fun p hp => ⟨_, rfl, _, rfl, u, w', rfl, by omega, by omega, fun H1 s1 => ?_⟩⟩
    have hc := copies_le (u := u) hw
    refine ⟨p, _, _, rfl, rfl, s1 p _ upd_same, by omega, by omega, by show 1 * (copiesTold u w') ≤ sizeLine; exact le_line (by omega), fun p2 hp2 => ?_⟩
    rw [flat_rep]
    refine ⟨_, p2, List.replicate (copiesTold u w') (SX.S u), rfl, rfl, .inl (.inl (.inl ?_)), ?_, ?_⟩
    · rw [upd_same, List.map_replicate]
    · rw [sum_rep, List.length_replicate]
      have h1 : copiesTold u w' * u.length ≤ 27 * 12 := Nat.mul_le_mul hc hu
      have h2 : (Str.ofString " ").length = 1 := rfl
      rw [h2]
      omega
    rw [join_rep]
    have tl := textC_le hu hw
    have s2 : Same H (upd H1 p2 (.lst (List.replicate (copiesTold u w') (V.str (SX.S u))))) := ((same_new hp).trans s1).trans (same_new hp2)
    have zt : (SX.S (textC u w')).length ≤ sizeLine := le_line (by rw [SX.S_len]; omega)
    have et : joinB (rep (copiesTold u w') u) = textC u w' := rfl
    rw [et]
    generalize htx : textC u w' = t at *
    refine ⟨_, rfl, _, rfl, _, rfl, _, rfl, zt, _, t, w', by rw [SX.S_len]; rfl, Same.refl _, tl, by omega, fun R I2 H2 a2 hR => ?_⟩
    obtain ⟨Ra, rows, eR, hRl, hrows⟩ := dp_lst hR
    cases eR
    rw [List.range_succ, List.map_append] at hrows
    obtain ⟨ys, y, rfl, _, hyd⟩ := dp_snoc (d := rowD w' t t.length) hrows
    obtain ⟨ar, xs, rfl, har, hxs⟩ := dp_lst hyd
    have hxl : xs.length = w'.length + 1 := by rw [hxs.length, List.length_map, List.length_range]
    refine ⟨1, rfl, R, _, (-1 : Int), _, rfl, rfl, sql_mono a2.ih hRl, atI_last _ _, ar, rfl, ⟨_, sql_mono a2.ih har⟩, fun D hD => ?_⟩
    refine lc_flat hD (w_list (xs := xs)) (fun _ => true) (fun i => .int ((tb w' t t.length i).1 : Int)) ?_ ?_ ?_ ?_ ?_ ?_
    · omega
    · exact fun H' s' => sql_mono s' (sql_mono a2.ih har)
    · exact fun x => rfl
    · exact fun i x H' _ _ _ Qt qt => yes_ok qt
    · intro i x H' hi _ s' hx Qe qe
      obtain ⟨d, hd1, hd2⟩ := hxs.at hx
      rw [List.getElem?_map, List.getElem?_range (by omega)] at hd1
      cases hd1
      obtain ⟨ap, rfl, hap⟩ := pr_at hd2
      exact ⟨_, rfl, ap, _, (0 : Int), _, rfl, rfl, sqt_mono s' (sqt_mono a2.ih hap), rfl, qe _ (Same.refl _)⟩
    · intro H3 s3 hy
      refine q D H3 ((s2.trans a2.hh).trans s3) (s2.free (a2.hh.free hD)) ?_
      rw [hy, given_all, hxl]
      unfold sideL nV
      rw [List.map_map, htx]
      rfl
def sp_border_cost (K : PySem.W.Frag) : Sp := fun vs H Q _ => ∃ a b, ∃ A B : List Nat, vs = [.ref a, .ref b] ∧ SqL K H a (nV A) ∧ SqL K H b (nV B) ∧ A.length = B.length ∧ 0 < A.length ∧ A.length ≤ 100 ∧ RetMin (borderL A B) H Q
abbrev N_border_cost : List Str := ["ahead", "behind", "many", "lost", "changed", "at"]
abbrev sco_border_cost : Scope := defScope s_border_cost
theorem sc_border_cost : FnScope N_border_cost ["ahead", "behind"] sco_border_cost := ⟨rfl, rfl, rfl, by decide +kernel, rfl, by decide +kernel, by decide +kernel⟩
theorem ok_border_cost (T : Tx K mg) : C8.Cal P w K mg base 1 "border_cost" (sp_border_cost K) [] := by
  refine mkCal T.d_border_cost T.m_border_cost (fun fd F => ⟨[], .nil, F.bindsN fun _ _ _ _ _ _ us hl => match us, hl with | [_, _], _ => rfl⟩) sc_border_cost (fun vs H Q E h => ?_) (fun cdv A outer s H vs Q E hr h => ?_)
  · obtain ⟨a, b, A, B, rfl, _⟩ := h; rfl
  · obtain ⟨a, b, A, B, rfl, ha, hb, hAB, h0, h100, q⟩ := h
    refine ⟨_, (pss_cons (ps_set (i := 2) sc_border_cost.nd rfl (Or.inr rfl) (pe_op op_sub (pe_callB (call_len_seqK (K := K) rfl) (by rfl) T.f_len bb_len (pa_cons (pv 0) pa_nil)) pe_int))
      (pss_cons (ps_setLc (i := 3) (own := [("at", 5)]) rfl sc_border_cost.nd rfl rfl (sw_true rfl rfl rfl (by decide +kernel)) (pi_range1 (by rfl) T.f_range (pa_cons (pe_op op_add (pv 2) pe_int) pa_nil)) (blkOk_by (own := [("at", 5)]) (N := N_border_cost) (sc := sco_border_cost) (by decide +kernel)) (fun _ _ _ _ _ => (pg_name (i := 5) sc_border_cost.nd rfl (Or.inl rfl))) (fun _ _ _ _ _ => pts_nil) (fun _ _ _ _ _ => (pe_op op_add (pe_op op_add (pe_ix (ix_listK (K := K) rfl) (pv 0) (pv 5) (fun _ _ => rfl)) pe_int) (pe_ix (ix_listK (K := K) rfl) (pv 1) (pe_op op_sub (pv 2) (pv 5)) (fun _ _ => rfl)))))
      (pss_cons (ps_setLc (i := 4) (own := [("at", 5)]) rfl sc_border_cost.nd rfl rfl (sw_true rfl rfl rfl (by decide +kernel)) (pi_range1 (by rfl) T.f_range (pa_cons (pv 2) pa_nil)) (blkOk_by (own := [("at", 5)]) (N := N_border_cost) (sc := sco_border_cost) (by decide +kernel)) (fun _ _ _ _ _ => (pg_name (i := 5) sc_border_cost.nd rfl (Or.inl rfl))) (fun _ _ _ _ _ => pts_nil) (fun _ _ _ _ _ => (pe_op op_add (pe_op op_add (pe_ix (ix_listK (K := K) rfl) (pv 0) (pv 5) (fun _ _ => rfl)) pe_int) (pe_ix (ix_listK (K := K) rfl) (pv 1) (pe_op op_sub (pe_op op_sub (pv 2) (pv 5)) pe_int) (fun _ _ => rfl)))))
      (pss_one (ps_ret (pe_callB (cr_minK0 (K := K) rfl rfl) (by rfl) T.f_min bb_min (pa_cons (pe_op op_cat (pv 3) (pv 4)) pa_nil))))))), ?_⟩
    obtain ⟨n, hn⟩ : ∃ n, A.length = n + 1 := ⟨A.length - 1, by omega⟩
    have e1 : ((nV A).length : Int) - 1 = (n : Int) := by rw [List.length_map, hn]; omega
    have aA : ∀ i, i < A.length → (nV A)[i]? = some (V.int ((A.getD i 0 : Nat) : Int)) := fun i hi => by rw [List.getElem?_map, sgn_at hi] <;> rfl
    have aB : ∀ i, i < B.length → (nV B)[i]? = some (V.int ((B.getD i 0 : Nat) : Int)) := fun i hi => by rw [List.getElem?_map, sgn_at hi] <;> rfl
    refine ⟨_, rfl, a, _, rfl, .inl ha, _, _, rfl, rfl, ?_⟩
    rw [show ((fun i j : Int => V.int (i - j)) ((nV A).length : Int) 1) = V.int (n : Int) from congrArg V.int e1]
    refine ⟨_, rfl, _, _, rfl, rfl, _, rfl, by omega, by omega, fun D hD => ?_⟩
    refine lc_flat hD (w_range0 (n := n + 1)) (fun _ => true) (fun i => .int ((A.getD i 0 + 1 + B.getD (n - i) 0 : Nat) : Int)) ?_ ?_ ?_ ?_ ?_ ?_
    · omega
    · exact fun _ _ => trivial
    · exact fun x => rfl
    · exact fun i x H' _ _ _ Qt qt => yes_ok qt
    · intro i x H' hi _ s' hx Qe qe
      obtain rfl : x = .int (i : Int) := hx
      exact ⟨_, rfl, _, rfl, a, _, _, _, rfl, rfl, sql_mono s' ha, atI_nat (aA i (by omega)), _, _, rfl, rfl, _, rfl, _, rfl, _, rfl, _, _, rfl, rfl, b, _, _, _, rfl, rfl, sql_mono s' hb, by rw [show (n : Int) - (i : Int) = ((n - i : Nat) : Int) by omega]; exact atI_nat (aB (n - i) (by omega)), _, _, rfl, rfl, qe H' (Same.refl _)⟩
    intro H2 s2 hy2
    refine ⟨_, rfl, _, rfl, by omega, by omega, fun D2 hD2 => ?_⟩
    refine lc_flat hD2 (w_range0 (n := n)) (fun _ => true) (fun i => .int ((A.getD i 0 + 1 + B.getD (n - i - 1) 0 : Nat) : Int)) ?_ ?_ ?_ ?_ ?_ ?_
    · omega
    · exact fun _ _ => trivial
    · exact fun x => rfl
    · exact fun i x H' _ _ _ Qt qt => yes_ok qt
    · intro i x H' hi _ s' hx Qe qe
      obtain rfl : x = .int (i : Int) := hx
      exact ⟨_, rfl, _, rfl, a, _, _, _, rfl, rfl, sql_mono (s2.trans s') ha, atI_nat (aA i (by omega)), _, _, rfl, rfl, _, rfl, _, rfl, _, rfl, _, _, rfl, rfl, _, _, rfl, rfl, b, _, _, _, rfl, rfl, sql_mono (s2.trans s') hb, by rw [show (n : Int) - (i : Int) - 1 = ((n - i - 1 : Nat) : Int) by omega]; exact atI_nat (aB (n - i - 1) (by omega)), _, _, rfl, rfl, qe H' (Same.refl _)⟩
    intro H3 s3 hy3
    rw [given_all] at hy2 hy3
    refine ⟨_, rfl, _, rfl, D, D2, _, _, rfl, rfl, s3 D _ hy2, hy3, le_line (by rw [List.length_map, List.length_map, List.length_range, List.length_range]; omega), fun p hp => ?_⟩
    have eL : (List.range (n + 1)).map (fun i => V.int ((A.getD i 0 + 1 + B.getD (n - i) 0 : Nat) : Int)) ++ (List.range n).map (fun i => V.int ((A.getD i 0 + 1 + B.getD (n - i - 1) 0 : Nat) : Int)) = nV (borderL A B) := by
      unfold borderL nV
      rw [hn, List.map_append, List.map_map, List.map_map]
      rfl
    refine ⟨p, (borderL A B).map fun n : Nat => (n : Int), rfl, .inl (.inl (by rw [upd_same, eL, nV_eq])), by rw [List.length_map]; unfold borderL; simp; omega, fun m hm hmin => ?_⟩
    obtain ⟨c, hc1, rfl⟩ := List.mem_map.mp hm
    exact q c hc1 (fun y hy => by have := hmin (y : Int) (List.mem_map.mpr ⟨y, hy, rfl⟩); omega) _ ((s2.trans s3).trans (same_new hp))
end
end K57
set_option Elab.async false
set_option linter.all false
set_option maxRecDepth 100000
set_option maxHeartbeats 4000000
namespace K57
open PySem PySem.Spec PyProof.Rows L2
def MinOf (v : Nat) (L : List Nat) : Prop := v ∈ L ∧ ∀ y ∈ L, v ≤ y
def kk (m w : Nat) : List Key := [.inl (m : Int), .inl (w : Int)]
theorem kk_inj {m w a b : Nat} (h : kk m w = kk a b) : m = a ∧ w = b := by
  unfold kk at h
  injection h with h1 h2
  injection h2 with h2 _
  injection h1 with h1
  injection h2 with h2
  omega
def cf (K : PySem.W.Frag) (da dh db : Addr) : List (Str × V) := [("words", .ref (Wd K)), ("alone", .ref da), ("ahead", .ref dh), ("behind", .ref db)]
/-- the costs at c, with the pairs of S worked out -/
structure CoAt (K : PySem.W.Frag) (H : Hp) (c dx da dh db : Addr) (S : Nat → Nat → Prop) (n : Nat) (A Bh Bb : List (List Key × V)) : Prop where
  o : H c = some (.ins (He.ga K "Costs") dx (cf K da dh db))
  a : H da = some (.dT A)
  h : H dh = some (.dT Bh)
  b : H db = some (.dT Bb)
  la : A.length ≤ n
  lh : Bh.length ≤ n
  lb : Bb.length ≤ n
  ah : da ≠ dh
  ab : da ≠ db
  hb : dh ≠ db
  yes : ∀ m w, S m w → ∃ v : Nat, ∃ x y, valV A (kk m w) = some (.int (v : Int)) ∧ MinOf v (aloneL (wd m) (wd w)) ∧ valV Bh (kk m w) = some (.ref x) ∧ H x = some (.lst (nV (sideL (wd m) (wd w)))) ∧ valV Bb (kk m w) = some (.ref y) ∧ H y = some (.lst (nV (sideL (wd m).reverse (wd w).reverse)))
  no : ∀ m w, ¬ S m w → valV A (kk m w) = none
def Co (K : PySem.W.Frag) (H : Hp) (c dx da dh db : Addr) (S : Nat → Nat → Prop) (n : Nat) : Prop := ∃ A Bh Bb, CoAt K H c dx da dh db S n A Bh Bb
theorem Co.mono {K : PySem.W.Frag} {H H2 : Hp} {c dx da dh db : Addr} {S S2 : Nat → Nat → Prop} {n n2 : Nat} (h : Co K H c dx da dh db S n) (s : Same H H2) (hS : ∀ m w, S2 m w ↔ S m w) (hn : n ≤ n2) : Co K H2 c dx da dh db S2 n2 := by
  obtain ⟨A, Bh, Bb, h⟩ := h
  refine ⟨A, Bh, Bb, s _ _ h.o, s _ _ h.a, s _ _ h.h, s _ _ h.b, Nat.le_trans h.la hn, Nat.le_trans h.lh hn, Nat.le_trans h.lb hn, h.ah, h.ab, h.hb, fun m w hs => ?_, fun m w hs => h.no m w fun z => hs ((hS m w).mpr z)⟩
  obtain ⟨v, x, y, h1, h2, h3, h4, h5, h6⟩ := h.yes m w ((hS m w).mp hs)
  exact ⟨v, x, y, h1, h2, h3, s _ _ h4, h5, s _ _ h6⟩
theorem wd_len {n : Nat} (h : n < 30) : (wd n).length ≤ 12 := (book_ok _ (wd_mem h)).2.1
theorem HandS_putK_len (c : List (List Key × V)) (k : List Key) (x : V) : (putK c k x).length ≤ c.length + 1 := by
  unfold putK
  split
  · rw [List.length_map]; omega
  · rw [List.length_append]; exact Nat.le_refl _
section
variable {P : Program} {w : World} {K : PySem.W.Frag} {mg : Str → Option Value} {base : Heap}
def sp_Costs_init (K : PySem.W.Frag) : Sp := fun vs H Q _ => ∃ c dx, vs = [.ref c, .ref (Wd K)] ∧ H c = some (.ins (He.ga K "Costs") dx []) ∧ ∀ da dh db H2, H da = none → H dh = none → H db = none → SB c H H2 → Co K H2 c dx da dh db (fun _ _ => False) 0 → Q .non H2
abbrev N_Costs_init : List Str := ["self", "words"]
abbrev sco_Costs_init : Scope := defScope s_Costs_init
theorem sc_Costs_init : FnScope N_Costs_init ["self", "words"] sco_Costs_init := ⟨rfl, rfl, rfl, by decide +kernel, rfl, by decide +kernel, by decide +kernel⟩
theorem ok_Costs_init (T : Tx K mg) : C8.Mak P w K mg base 1 "Costs" (He.ga K "Costs") (sp_Costs_init K) [] := by
  refine mkMak T.mk_Costs T.d_Costs_init T.m_Costs .nil (fun fd F => F.bindsN fun _ _ _ _ _ _ us hl => match us, hl with | [_, _], _ => rfl) sc_Costs_init (fun vs H Q E h => ?_) (fun cdv A outer s H vs Q E hr h => ?_)
  · obtain ⟨c, dx, rfl, _⟩ := h; rfl
  · obtain ⟨c, dx, rfl, hc, q⟩ := h
    refine ⟨_, (pss_cons (ps_fld (pv 0) (pe_callTy (call_tuple_ofK (K := K) rfl) (by rfl) T.f_tuple bb_tuple (pa_cons (pv 1) pa_nil)) rfl)
      (pss_cons (ps_fld (pv 0) pe_dnewT rfl)
      (pss_cons (ps_fld (pv 0) pe_dnewT rfl)
      (pss_one (ps_fld (pv 0) pe_dnewT rfl))))), ?_⟩
    refine ⟨_, rfl, Wd K, wordsV, rfl, .inr ⟨T.wordsT _, _, rfl, c, _, dx, _, rfl, hc, T.k_Costs, T.n_Costs_words, (by show 0 < 1000; decide), fun da hda => ?_⟩⟩
    have n1 : da ≠ c := fun e => by rw [e, upd_same] at hda; cases hda
    refine ⟨_, rfl, c, _, dx, _, rfl, by rw [upd_ne n1.symm]; exact upd_same, T.k_Costs, T.n_Costs_alone, (by show 1 < 1000; decide), fun dh hdh => ?_⟩
    have n2 : dh ≠ c := fun e => by rw [e, upd_same] at hdh; cases hdh
    have n3 : dh ≠ da := fun e => by rw [e, upd_ne n1, upd_same] at hdh; cases hdh
    refine ⟨_, rfl, c, _, dx, _, rfl, by rw [upd_ne n2.symm]; exact upd_same, T.k_Costs, T.n_Costs_ahead, (by show 2 < 1000; decide), fun db hdb => ?_⟩
    have n4 : db ≠ c := fun e => by rw [e, upd_same] at hdb; cases hdb
    have n5 : db ≠ dh := fun e => by rw [e, upd_ne n2, upd_same] at hdb; cases hdb
    have n6 : db ≠ da := fun e => by rw [e, upd_ne n1, upd_ne n3.symm, upd_ne n1, upd_same] at hdb; cases hdb
    refine ⟨_, rfl, c, _, dx, _, rfl, by rw [upd_ne n4.symm]; exact upd_same, T.k_Costs, T.n_Costs_behind, (by show 3 < 1000; decide), ?_⟩
    have f1 : H da = none := by rw [upd_ne n1] at hda; exact hda
    have f2 : H dh = none := by rw [upd_ne n2, upd_ne n3, upd_ne n2] at hdh; exact hdh
    have f3 : H db = none := by rw [upd_ne n4, upd_ne n5, upd_ne n4, upd_ne n6, upd_ne n4] at hdb; exact hdb
    refine q da dh db _ f1 f2 f3 (fun x u hx e => ?_) ⟨[], [], [], upd_same, ?_, ?_, ?_, Nat.le_refl _, Nat.le_refl _, Nat.le_refl _, n3.symm, n6.symm, n5.symm, fun _ _ z => z.elim, fun _ _ _ => rfl⟩
    · rw [upd_ne hx, upd_ne (ne_of_none e f3), upd_ne hx, upd_ne (ne_of_none e f2), upd_ne hx, upd_ne (ne_of_none e f1), upd_ne hx]
      exact e
    · rw [upd_ne n1, upd_ne n6.symm, upd_ne n1, upd_ne n3.symm, upd_ne n1, upd_same]
    · rw [upd_ne n2, upd_ne n5.symm, upd_ne n2, upd_same]
    · rw [upd_ne n4, upd_same]
def sp_Costs_of (K : PySem.W.Frag) : Sp := fun vs H Q _ => ∃ c dx da dh db S n, ∃ m w : Nat, vs = [.ref c, .int (m : Int), .int (w : Int)] ∧ m < 30 ∧ w < 30 ∧ Co K H c dx da dh db S n ∧ n < 1000000 ∧
  ∀ (v : Nat) H2, MinOf v (aloneL (wd m) (wd w)) → Fr3 da dh db H H2 → Co K H2 c dx da dh db (fun a b => S a b ∨ (a = m ∧ b = w)) (n + 1) → Q (.int (v : Int)) H2
abbrev N_Costs_of : List Str := ["self", "mine", "word", "one", "other"]
abbrev sco_Costs_of : Scope := defScope s_Costs_of
theorem sc_Costs_of : FnScope N_Costs_of ["self", "mine", "word"] sco_Costs_of := ⟨rfl, rfl, rfl, by decide +kernel, rfl, by decide +kernel, by decide +kernel⟩
theorem ok_Costs_of (T : Tx K mg) : C8.Met P w K mg base 4 (He.ga K "Costs") "of" (sp_Costs_of K) [] := by
  have c_alone_cost : C8.Cal P w K mg base 3 "alone_cost" sp_alone_cost [] := ok_alone_cost T
  have c_side_costs : C8.Cal P w K mg base 3 "side_costs" sp_side_costs [] := ok_side_costs T
  refine mkMet T.k_Costs T.me_Costs_of T.d_Costs_of (fun fd F => F.bindsN fun _ _ _ _ _ _ us hl => match us, hl with | [_, _, _], _ => rfl) sc_Costs_of (fun vs H Q E h => ?_) (fun cdv A outer s H vs Q E hr h => ?_)
  · obtain ⟨c, dx, da, dh, db, S, n, m, w, rfl, _⟩ := h; rfl
  · obtain ⟨c, dx, da, dh, db, S, n, m, w', rfl, hm, hw, hco, hn, q⟩ := h
    refine ⟨_, (C8.pss_cut (ps_if (pt_cmp (pc_dnotin (hu_of hr) (pe_tup (pa_cons (pv 1) (pa_cons (pv 2) pa_nil))) (pe_fldK (K := K) rfl (pv 0) rfl))) (pss_cons (ps_par (i := 3) (j := 4) rfl sc_Costs_of.nd rfl rfl (by decide) rfl rfl (pa_cons (pe_ix (ix_tupK (K := K) rfl) (pe_fldK (K := K) rfl (pv 0) rfl) (pv 1) (fun _ _ => rfl)) (pa_cons (pe_ix (ix_tupK (K := K) rfl) (pe_fldK (K := K) rfl (pv 0) rfl) (pv 2) (fun _ _ => rfl)) pa_nil)) rfl)
      (pss_cons (ps_dput (hu_of hr) (pe_fldK (K := K) rfl (pv 0) rfl) (pe_tup (pa_cons (pv 1) (pa_cons (pv 2) pa_nil))) (C8.pe_c c_alone_cost hr (by decide) (by rfl) (pa_cons (pv 3) (pa_cons (pv 4) pa_nil))) rfl)
      (pss_cons (ps_dput (hu_of hr) (pe_fldK (K := K) rfl (pv 0) rfl) (pe_tup (pa_cons (pv 1) (pa_cons (pv 2) pa_nil))) (C8.pe_c c_side_costs hr (by decide) (by rfl) (pa_cons (pv 3) (pa_cons (pv 4) pa_nil))) rfl)
      (pss_one (ps_dput (hu_of hr) (pe_fldK (K := K) rfl (pv 0) rfl) (pe_tup (pa_cons (pv 1) (pa_cons (pv 2) pa_nil))) (C8.pe_c c_side_costs hr (by decide) (by rfl) (pa_cons (pe_revS (pv 3)) (pa_cons (pe_revS (pv 4)) pa_nil))) rfl))))) pss_nil)
      (pss_one (ps_ret (pe_dget (hu_of hr) (pe_fldK (K := K) rfl (pv 0) rfl) (pe_tup (pa_cons (pv 1) (pa_cons (pv 2) pa_nil))) (fun _ _ => rfl))))), ?_⟩
    refine ⟨fun σ' G => (∃ z3 z4, σ' = [some (.ref c), some (.int (m : Int)), some (.int (w' : Int)), z3, z4]) ∧ Fr3 da dh db H G ∧ Co K G c dx da dh db (fun a b => S a b ∨ (a = m ∧ b = w')) (n + 1), ?_, ?_⟩
    · obtain ⟨A, Bh, Bb, h⟩ := hco
      refine ⟨_, rfl, _, rfl, by show 2 ≤ sizeLine; decide, fun t ht => ?_⟩
      have s1 : Same H (upd H t (.tup [.int (m : Int), .int (w' : Int)])) := same_new ht
      refine ⟨_, rfl, c, _, dx, _, _, rfl, s1 c _ h.o, T.k_Costs, T.n_Costs_alone, rfl, da, _, rfl, DGet.t (k := kk m w') (s1 da _ h.a) upd_same, _, rfl, ?_⟩
      by_cases hS : S m w'
      · obtain ⟨v, x, y, h1, _⟩ := h.yes m w' hS
        rw [h1]
        exact iteF ⟨⟨_, _, rfl⟩, s1.fr3, Co.mono ⟨A, Bh, Bb, h⟩ s1 (fun a b => ⟨fun z => z.elim id fun ⟨e1, e2⟩ => by rw [e1, e2]; exact hS, .inl⟩) (Nat.le_succ _)⟩
      · rw [h.no m w' hS]
        refine iteT ?_
        refine ⟨_, rfl, c, _, dx, _, _, rfl, s1 c _ h.o, T.k_Costs, T.n_Costs_words, rfl, _, rfl, Wd K, wordsV, _, _, rfl, rfl, T.wordsT _, atI_nat (words_at hm), _, rfl, c, _, dx, _, _, rfl, s1 c _ h.o, T.k_Costs, T.n_Costs_words, rfl, _, rfl, Wd K, wordsV, _, _, rfl, rfl, T.wordsT _, atI_nat (words_at hw), _, _, rfl, ?_⟩
        have cda : c ≠ da := fun e => by have := h.o; rw [e, h.a] at this; cases this
        have cdh : c ≠ dh := fun e => by have := h.o; rw [e, h.h] at this; cases this
        have cdb : c ≠ db := fun e => by have := h.o; rw [e, h.b] at this; cases this
        have hnS := h.no m w' hS
        refine ⟨_, rfl, _, rfl, wd m, wd w', rfl, wd_len hm, wd_len hw, fun v hv1 hv2 G1 g1 => ?_⟩
        have f1 := s1.trans g1
        refine ⟨_, rfl, c, _, dx, _, _, rfl, f1 c _ h.o, T.k_Costs, T.n_Costs_alone, rfl, _, rfl, _, rfl, by show 2 ≤ sizeLine; decide, fun t2 ht2 => ?_⟩
        have s2 : Same G1 (upd G1 t2 (.tup [.int (m : Int), .int (w' : Int)])) := same_new ht2
        have f2 := f1.trans s2
        refine ⟨da, _, rfl, DPut.t (k := kk m w') (f2 da _ h.a) upd_same (lt_line (by have := h.la; omega)), ?_⟩
        have k3 : ∀ {x : Addr} {u : HO}, x ≠ da → H x = some u → (upd (upd G1 t2 (.tup [.int (m : Int), .int (w' : Int)])) da (.dT (putK A (kk m w') (.int (v : Int))))) x = some u := fun {x u} hx e => by rw [upd_ne hx]; exact f2 x u e
        have a3 : (upd (upd G1 t2 (.tup [.int (m : Int), .int (w' : Int)])) da (.dT (putK A (kk m w') (.int (v : Int))))) da = some (.dT (putK A (kk m w') (.int (v : Int)))) := upd_same
        have fr3 : ∀ {x : Addr}, (upd (upd G1 t2 (.tup [.int (m : Int), .int (w' : Int)])) da (.dT (putK A (kk m w') (.int (v : Int))))) x = none → H x = none := fun {x} e => by
          by_cases hx : x = da
          · rw [hx, a3] at e; cases e
          · rw [upd_ne hx] at e; exact f2.free e
        generalize upd (upd G1 t2 (.tup [.int (m : Int), .int (w' : Int)])) da (.dT (putK A (kk m w') (.int (v : Int)))) = G3 at *
        refine ⟨_, rfl, _, rfl, wd m, wd w', rfl, wd_len hm, wd_len hw, fun x G4 g4 hxn hx => ?_⟩
        refine ⟨_, rfl, c, _, dx, _, _, rfl, g4 c _ (k3 cda h.o), T.k_Costs, T.n_Costs_ahead, rfl, _, rfl, _, rfl, by show 2 ≤ sizeLine; decide, fun t5 ht5 => ?_⟩
        have s5 : Same G4 (upd G4 t5 (.tup [.int (m : Int), .int (w' : Int)])) := same_new ht5
        have f5 := g4.trans s5
        refine ⟨dh, _, rfl, DPut.t (k := kk m w') (f5 dh _ (k3 h.ah.symm h.h)) upd_same (lt_line (by have := h.lh; omega)), ?_⟩
        have hxH : H x = none := fr3 hxn
        have xdh : x ≠ dh := fun e => by rw [e, h.h] at hxH; cases hxH
        have xdb : x ≠ db := fun e => by rw [e, h.b] at hxH; cases hxH
        have xda : x ≠ da := fun e => by rw [e, h.a] at hxH; cases hxH
        have k6 : ∀ {y : Addr} {u : HO}, y ≠ dh → G3 y = some u → (upd (upd G4 t5 (.tup [.int (m : Int), .int (w' : Int)])) dh (.dT (putK Bh (kk m w') (.ref x)))) y = some u := fun {y u} hy e => by rw [upd_ne hy]; exact f5 y u e
        have h6 : (upd (upd G4 t5 (.tup [.int (m : Int), .int (w' : Int)])) dh (.dT (putK Bh (kk m w') (.ref x)))) dh = some (.dT (putK Bh (kk m w') (.ref x))) := upd_same
        have x6 : (upd (upd G4 t5 (.tup [.int (m : Int), .int (w' : Int)])) dh (.dT (putK Bh (kk m w') (.ref x)))) x = some (.lst (nV (sideL (wd m) (wd w')))) := by rw [upd_ne xdh]; exact s5 x _ hx
        have fr6 : ∀ {y : Addr}, (upd (upd G4 t5 (.tup [.int (m : Int), .int (w' : Int)])) dh (.dT (putK Bh (kk m w') (.ref x)))) y = none → G3 y = none := fun {y} e => by
          by_cases hy : y = dh
          · rw [hy, h6] at e; cases e
          · rw [upd_ne hy] at e; exact f5.free e
        generalize upd (upd G4 t5 (.tup [.int (m : Int), .int (w' : Int)])) dh (.dT (putK Bh (kk m w') (.ref x))) = G6 at *
        have lm := wd_len hm
        have lw := wd_len hw
        refine ⟨_, rfl, wd m, rfl, le_line (by omega), _, rfl, wd w', rfl, le_line (by omega), (wd m).reverse, (wd w').reverse, rfl, by rw [List.length_reverse]; exact lm, by rw [List.length_reverse]; exact lw, fun y G7 g7 hyn hy => ?_⟩
        refine ⟨_, rfl, c, _, dx, _, _, rfl, g7 c _ (k6 cdh (k3 cda h.o)), T.k_Costs, T.n_Costs_behind, rfl, _, rfl, _, rfl, by show 2 ≤ sizeLine; decide, fun t8 ht8 => ?_⟩
        have s8 : Same G7 (upd G7 t8 (.tup [.int (m : Int), .int (w' : Int)])) := same_new ht8
        have f8 := g7.trans s8
        have hyH : H y = none := fr3 (fr6 hyn)
        have ydh : y ≠ dh := fun e => by rw [e, h.h] at hyH; cases hyH
        have ydb : y ≠ db := fun e => by rw [e, h.b] at hyH; cases hyH
        have yda : y ≠ da := fun e => by rw [e, h.a] at hyH; cases hyH
        refine ⟨db, _, rfl, DPut.t (k := kk m w') (f8 db _ (k6 h.hb.symm (k3 h.ab.symm h.b))) upd_same (lt_line (by have := h.lb; omega)), ?_⟩
        have old : ∀ {z : Addr} {u : HO}, z ≠ da → z ≠ dh → z ≠ db → H z = some u → (upd (upd G7 t8 (.tup [.int (m : Int), .int (w' : Int)])) db (.dT (putK Bb (kk m w') (.ref y)))) z = some u := fun {z u} h1 h2 h3 e => by rw [upd_ne h3]; exact f8 z u (k6 h2 (k3 h1 e))
        refine ⟨⟨_, _, rfl⟩, fun z u h1 h2 h3 e => old h1 h2 h3 e, _, _, _, old cda cdh cdb h.o, by rw [upd_ne h.ab]; exact f8 da _ (k6 h.ah a3), by rw [upd_ne h.hb]; exact f8 dh _ h6, upd_same, Nat.le_trans (HandS_putK_len ..) (by have := h.la; omega), Nat.le_trans (HandS_putK_len ..) (by have := h.lh; omega), Nat.le_trans (HandS_putK_len ..) (by have := h.lb; omega), h.ah, h.ab, h.hb, fun a b hs => ?_, fun a b hs => ?_⟩
        · rw [valV_put, valV_put, valV_put]
          by_cases e : kk a b = kk m w'
          · obtain ⟨rfl, rfl⟩ := kk_inj e
            rw [if_pos rfl, if_pos rfl, if_pos rfl]
            exact ⟨v, x, y, rfl, ⟨hv1, hv2⟩, rfl, by rw [upd_ne xdb]; exact f8 x _ x6, rfl, by rw [upd_ne ydb]; exact s8 y _ hy⟩
          · rw [if_neg e, if_neg e, if_neg e]
            obtain ⟨v0, x0, y0, h1, h2, h3, h4, h5, h6'⟩ := h.yes a b (hs.elim id fun ⟨e1, e2⟩ => absurd (by rw [e1, e2]) e)
            have ne : ∀ {z : Addr} {us : List V}, H z = some (.lst us) → z ≠ da ∧ z ≠ dh ∧ z ≠ db := fun {z us} e => ⟨fun q => (by rw [q, h.a] at e; cases e), fun q => (by rw [q, h.h] at e; cases e), fun q => (by rw [q, h.b] at e; cases e)⟩
            exact ⟨v0, x0, y0, h1, h2, h3, old (ne h4).1 (ne h4).2.1 (ne h4).2.2 h4, h5, old (ne h6').1 (ne h6').2.1 (ne h6').2.2 h6'⟩
        · rw [valV_put, if_neg (fun e => by obtain ⟨rfl, rfl⟩ := kk_inj e; exact hs (.inr ⟨rfl, rfl⟩))]
          exact h.no a b fun z => hs (.inl z)
    · rintro σ' G ⟨⟨z3, z4, rfl⟩, f, A, Bh, Bb, h⟩
      obtain ⟨v, x, y, h1, h2, _⟩ := h.yes m w' (.inr ⟨rfl, rfl⟩)
      refine ⟨_, rfl, c, _, dx, _, _, rfl, h.o, T.k_Costs, T.n_Costs_alone, rfl, _, rfl, _, rfl, by show 2 ≤ sizeLine; decide, fun t ht => ?_⟩
      have s1 : Same G (upd G t (.tup [.int (m : Int), .int (w' : Int)])) := same_new ht
      exact ⟨da, .int (v : Int), rfl, h1 ▸ DGet.t (k := kk m w') (s1 da _ h.a) upd_same, q v _ h2 (f.trans s1.fr3) (Co.mono ⟨A, Bh, Bb, h⟩ s1 (fun _ _ => Iff.rfl) (Nat.le_refl _))⟩
def CoE (K : PySem.W.Frag) (H : Hp) (c dx da dh db : Addr) (n : Nat) : Prop := ∃ S, Co K H c dx da dh db S n
theorem CoE.mono {H H2 : Hp} {c dx da dh db : Addr} {n n2 : Nat} (h : CoE K H c dx da dh db n) (s : Same H H2) (hn : n ≤ n2) : CoE K H2 c dx da dh db n2 := let ⟨S, h⟩ := h; ⟨S, h.mono s (fun _ _ => Iff.rfl) hn⟩
def sp_Costs_over (K : PySem.W.Frag) : Sp := fun vs H Q _ => ∃ c dx da dh db n, ∃ f s w : Nat, vs = [.ref c, .int (f : Int), .int (s : Int), .int (w : Int)] ∧ f < 30 ∧ s < 30 ∧ w < 30 ∧ CoE K H c dx da dh db n ∧ n < 900000 ∧
  ∀ (v : Nat) H2, MinOf v (borderL (sideL (wd f) (wd w)) (sideL (wd s).reverse (wd w).reverse)) → Fr3 da dh db H H2 → CoE K H2 c dx da dh db (n + 2) → Q (.int (v : Int)) H2
abbrev N_Costs_over : List Str := ["self", "first", "second", "word"]
abbrev sco_Costs_over : Scope := defScope s_Costs_over
theorem sc_Costs_over : FnScope N_Costs_over ["self", "first", "second", "word"] sco_Costs_over := ⟨rfl, rfl, rfl, by decide +kernel, rfl, by decide +kernel, by decide +kernel⟩
theorem ok_Costs_over (T : Tx K mg) : C8.Met P w K mg base 5 (He.ga K "Costs") "over" (sp_Costs_over K) [] := by
  have m_of : C8.Met P w K mg base 4 (He.ga K "Costs") "of" (sp_Costs_of K) [] := ok_Costs_of T
  have c_border_cost : C8.Cal P w K mg base 1 "border_cost" (sp_border_cost K) [] := ok_border_cost T
  refine mkMet T.k_Costs T.me_Costs_over T.d_Costs_over (fun fd F => F.bindsN fun _ _ _ _ _ _ us hl => match us, hl with | [_, _, _, _], _ => rfl) sc_Costs_over (fun vs H Q E h => ?_) (fun cdv A outer s H vs Q E hr h => ?_)
  · obtain ⟨c, dx, da, dh, db, n, f, s, w, rfl, _⟩ := h; rfl
  · obtain ⟨c, dx, da, dh, db, n, f, s', w', rfl, hf, hs, hw, ⟨S, hco⟩, hn, q⟩ := h
    refine ⟨_, (pss_cons (ps_expr (C8.pe_mt m_of hr (by decide) (pv 0) (pa_cons (pv 1) (pa_cons (pv 3) pa_nil))))
      (pss_cons (ps_expr (C8.pe_mt m_of hr (by decide) (pv 0) (pa_cons (pv 2) (pa_cons (pv 3) pa_nil))))
      (pss_one (ps_ret (C8.pe_c c_border_cost hr (by decide) (by rfl) (pa_cons (pe_dget (hu_of hr) (pe_fldK (K := K) rfl (pv 0) rfl) (pe_tup (pa_cons (pv 1) (pa_cons (pv 3) pa_nil))) (fun _ _ => rfl)) (pa_cons (pe_dget (hu_of hr) (pe_fldK (K := K) rfl (pv 0) rfl) (pe_tup (pa_cons (pv 2) (pa_cons (pv 3) pa_nil))) (fun _ _ => rfl)) pa_nil))))))), ?_⟩
    have hat : ∀ {H S n}, Co K H c dx da dh db S n → H c = some (.ins (He.ga K "Costs") dx (cf K da dh db)) := fun ⟨_, _, _, h⟩ => h.o
    refine ⟨_, rfl, c, dx, _, rfl, hat hco, rfl, _, rfl, _, rfl, c, dx, da, dh, db, S, n, f, w', rfl, hf, hw, hco, by omega, fun v1 G1 _ f1 co1 => ?_⟩
    refine ⟨_, rfl, c, dx, _, rfl, hat co1, rfl, _, rfl, _, rfl, c, dx, da, dh, db, _, n + 1, s', w', rfl, hs, hw, co1, by omega, fun v2 G2 _ f2 co2 => ?_⟩
    obtain ⟨A, Bh, Bb, h⟩ := id co2
    obtain ⟨_, x, _, _, _, hx1, hx2, _, _⟩ := h.yes f w' (.inl (.inr ⟨rfl, rfl⟩))
    obtain ⟨_, _, y, _, _, _, _, hy1, hy2⟩ := h.yes s' w' (.inr ⟨rfl, rfl⟩)
    refine ⟨_, rfl, c, _, dx, _, _, rfl, h.o, T.k_Costs, T.n_Costs_ahead, rfl, _, rfl, _, rfl, by show 2 ≤ sizeLine; decide, fun t ht => ?_⟩
    have s1 : Same G2 (upd G2 t (.tup [.int (f : Int), .int (w' : Int)])) := same_new ht
    refine ⟨dh, .ref x, rfl, hx1 ▸ DGet.t (k := kk f w') (s1 dh _ h.h) upd_same, ?_⟩
    refine ⟨_, rfl, c, _, dx, _, _, rfl, s1 c _ h.o, T.k_Costs, T.n_Costs_behind, rfl, _, rfl, _, rfl, by show 2 ≤ sizeLine; decide, fun t2 ht2 => ?_⟩
    have s2 := s1.trans (same_new (o := .tup [.int (s' : Int), .int (w' : Int)]) ht2)
    refine ⟨db, .ref y, rfl, hy1 ▸ DGet.t (k := kk s' w') (s2 db _ h.b) upd_same, ?_⟩
    have lw := wd_len hw
    exact ⟨x, y, _, _, rfl, .inl (.inl (s2 x _ hx2)), .inl (.inl (s2 y _ hy2)), by rw [side_len, side_len, List.length_reverse], by rw [side_len]; omega, by rw [side_len]; omega, fun v h1 h2 G3 g3 => q v G3 ⟨h1, h2⟩ ((f1.trans f2).trans (s2.trans g3).fr3) ⟨_, co2.mono (s2.trans g3) (fun _ _ => Iff.rfl) (Nat.le_refl _)⟩⟩
def sp_Costs_triple (K : PySem.W.Frag) : Sp := fun vs H Q _ => ∃ c dx da dh db n, ∃ f s w : Nat, vs = [.ref c, .int (f : Int), .int (s : Int), .int (w : Int)] ∧ f < 30 ∧ s < 30 ∧ w < 30 ∧ CoE K H c dx da dh db n ∧ n < 900000 ∧
  ∀ (v : Nat) H2, MinOf v (costL f s w) → Fr3 da dh db H H2 → CoE K H2 c dx da dh db (n + 2) → Q (.int (v : Int)) H2
abbrev N_Costs_triple : List Str := ["self", "first", "second", "word"]
abbrev sco_Costs_triple : Scope := defScope s_Costs_triple
theorem sc_Costs_triple : FnScope N_Costs_triple ["self", "first", "second", "word"] sco_Costs_triple := ⟨rfl, rfl, rfl, by decide +kernel, rfl, by decide +kernel, by decide +kernel⟩
theorem ok_Costs_triple (T : Tx K mg) : C8.Met P w K mg base 6 (He.ga K "Costs") "triple" (sp_Costs_triple K) [] := by
  have m_of : C8.Met P w K mg base 4 (He.ga K "Costs") "of" (sp_Costs_of K) [] := ok_Costs_of T
  have m_over : C8.Met P w K mg base 5 (He.ga K "Costs") "over" (sp_Costs_over K) [] := ok_Costs_over T
  refine mkMet T.k_Costs T.me_Costs_triple T.d_Costs_triple (fun fd F => F.bindsN fun _ _ _ _ _ _ us hl => match us, hl with | [_, _, _, _], _ => rfl) sc_Costs_triple (fun vs H Q E h => ?_) (fun cdv A outer s H vs Q E hr h => ?_)
  · obtain ⟨c, dx, da, dh, db, n, f, s, w, rfl, _⟩ := h; rfl
  · obtain ⟨c, dx, da, dh, db, n, f, s', w', rfl, hf, hs, hw, ⟨S, hco⟩, hn, q⟩ := h
    refine ⟨_, (pss_one (ps_ret (pe_ifExp (pt_cmpR op_eq (pv 1) (pv 2) (nomark _)) (C8.pe_mt m_of hr (by decide) (pv 0) (pa_cons (pv 1) (pa_cons (pv 3) pa_nil))) (C8.pe_mt m_over hr (by decide) (pv 0) (pa_cons (pv 1) (pa_cons (pv 2) (pa_cons (pv 3) pa_nil))))))), ?_⟩
    have hat : ∀ {H S n}, Co K H c dx da dh db S n → H c = some (.ins (He.ga K "Costs") dx (cf K da dh db)) := fun ⟨_, _, _, h⟩ => h.o
    refine ⟨_, rfl, _, rfl, rfl, decide (V.int (f : Int) = V.int (s' : Int)), rfl, ?_⟩
    by_cases e : f = s'
    · rw [decide_eq_true (by rw [e])]
      refine iteT ⟨_, rfl, c, dx, _, rfl, hat hco, rfl, _, rfl, _, rfl, c, dx, da, dh, db, S, n, f, w', rfl, hf, hw, hco, by omega, fun v G hv fr co => q v G ?_ fr (CoE.mono ⟨_, co⟩ (Same.refl _) (by omega))⟩
      unfold costL
      rw [if_pos e]
      exact hv
    · rw [decide_eq_false (fun z => e (by injection z with z; omega))]
      refine iteF ⟨_, rfl, c, dx, _, rfl, hat hco, rfl, _, rfl, _, rfl, _, rfl, c, dx, da, dh, db, n, f, s', w', rfl, hf, hs, hw, ⟨S, hco⟩, hn, fun v G hv fr co => q v G ?_ fr co⟩
      unfold costL
      rw [if_neg e]
      exact hv
end
end K57
set_option Elab.async false
set_option linter.all false
set_option maxRecDepth 100000
set_option maxHeartbeats 4000000
namespace K57
open PySem PySem.Spec PyProof.Rows L2
section
variable {K : PySem.W.Frag} {J : It} {n : Nat} {G : Hp → Prop} {Yv : Nat → V → Prop} {te : TE} {tt : TT} {vs : List Nat} {j : Nat} {σ : L2.St} {H1 I1 : Hp} {Qd : Hp → Prop}
/-- lc_data, the new list told as one's own -/
theorem lc_own {D : Addr} (hD : H1 D = none) (w : Walk J n G (fun i H x H' => H' = H ∧ Yv i x)) (hI : Same I1 H1) (p : Nat → Bool) (d : Nat → PyData) (hn : n < 1000000) (hG : ∀ H, Same H1 H → G H)
    (hw : ∀ x, wipe ((wipe σ vs).set j (some x)) vs = wipe σ vs)
    (ht : ∀ i x I H, i < n → Adv I1 H1 I H → Yv i x → ∀ Qt : Bool → Hp → Prop, (∀ H3, Same H H3 → Qt (p i) H3) → tt ((wipe σ vs).set j (some x)) H Qt)
    (he : ∀ i x I H, i < n → p i = true → Adv I1 H1 I H → Yv i x → ∀ Qe : VK, (∀ y I2 H2, Adv I H I2 H2 → Dp K I2 y (d i) → Qe y H2) → te ((wipe σ vs).set j (some x)) H Qe)
    (hd : ∀ I2 H2 ys, Adv I1 H1 I2 H2 → I2 D = none → H2 D = some (.lst ys) → DpAll K I2 ys (given n p d) → Qd H2) :
    ∃ W : Nat → Nat → Hp → Prop, (∃ m, W 0 m (upd H1 D (.lst []))) ∧ ∀ i m H, W i m H →
      (J.stop i H ∧ Qd H) ∨ (J.go i H ∧ ∃ Nx : Hp → Prop, (∀ H', Nx H' → ∃ m', m' < m ∧ W (i + 1) m' H') ∧ ∀ x H', J.yld i H x H' → gName j x (wipe σ vs) H' fun σ2 H2 => wipe σ2 vs = wipe σ vs ∧ tt σ2 H2 fun b H3 =>
        if b = true then te σ2 H3 fun y H4 => ∃ acc, H4 D = some (.lst acc) ∧ acc.length < sizeLine ∧ Nx (upd H4 D (.lst (acc ++ [y]))) else Nx H3) := by
  refine lc_it w (Qd := Qd) (fun i H => ∃ I ys, Adv I1 H1 I H ∧ I D = none ∧ H D = some (.lst ys) ∧ DpAll K I ys (given i p d)) ?_ ?_ ?_ ?_
  · exact ⟨I1, [], (Adv.refl hI).alloc hD, hI.free hD, upd_same, .nil⟩
  · rintro i H _ ⟨I, ys, a, _⟩
    exact hG H a.hh
  · rintro i x H H' hi ⟨I, ys, a, hf, hy, hds⟩ ⟨rfl, hx⟩
    refine ⟨hw x, ht i x I H' hi a hx _ fun H3 s3 => ?_⟩
    have a3 : Adv I1 H1 I H3 := a.grow s3
    cases hp : p i with
    | true =>
      refine iteT ?_
      refine he i x I H3 hi hp a3 hx _ fun y I4 H4 a4 hy4 => ?_
      have o4 := a4.own (s3 D _ hy) hf
      refine ⟨ys, o4.1, lt_line ?_, I4, ys ++ [y], (a3.trans a4).mut hD o4.2, o4.2, upd_same, ?_⟩
      · have := given_len i p d
        rw [hds.length]
        omega
      · rw [given_yes hp]
        exact (hds.mono a4.ii).app (.cons hy4 .nil)
    | false =>
      refine iteF ?_
      refine ⟨I, ys, a3, hf, s3 D _ hy, ?_⟩
      rw [given_no hp]
      exact hds
  · rintro H ⟨I, ys, a, hf, hy, hds⟩
    exact hd I H ys a hf hy hds
end
def trD (t : Nat × Nat × Nat) : PyData := .tuple [.int (t.1 : Int), .int (t.2.1 : Int), .int (t.2.2 : Int)]
def trS (n f s : Nat) : List (Nat × Nat × Nat) := given n (fun w => decide (w ≠ f ∧ w ≠ s)) fun w => (f, s, w)
def trF (n f : Nat) : List (Nat × Nat × Nat) := (List.range n).flatMap (trS n f)
def trips (n : Nat) : List (Nat × Nat × Nat) := (List.range n).flatMap (trF n)
theorem trS_len (n f s : Nat) : (trS n f s).length ≤ n := given_len ..
theorem flat_len {α β : Type} {c : Nat} {f : α → List β} : ∀ {l : List α}, (∀ x ∈ l, (f x).length ≤ c) → (l.flatMap f).length ≤ l.length * c
  | [], _ => by simp
  | a :: r, h => by
    have h1 := h a List.mem_cons_self
    have h2 := flat_len (l := r) fun x hx => h x (List.mem_cons_of_mem _ hx)
    rw [List.flatMap_cons, List.length_append, List.length_cons, Nat.succ_mul]
    omega
theorem trF_len (n f m : Nat) : ((List.range m).flatMap (trS n f)).length ≤ m * n := by
  have := flat_len (l := List.range m) (c := n) fun s _ => trS_len n f s
  rwa [List.length_range] at this
theorem trips_len (n m : Nat) : ((List.range m).flatMap (trF n)).length ≤ m * (n * n) := by
  have := flat_len (l := List.range m) (c := n * n) fun f _ => trF_len n f n
  rwa [List.length_range] at this
theorem flat_snoc {α β : Type} (f : α → List β) (l : List α) (a : α) : (l ++ [a]).flatMap f = l.flatMap f ++ f a := by
  rw [List.flatMap_append]; simp
section
variable {P : Program} {w : World} {K : PySem.W.Frag} {mg : Str → Option Value} {base : Heap}
def sp_triples_of (K : PySem.W.Frag) : Sp := fun vs H Q _ => ∃ I, ∃ n : Nat, vs = [.int (n : Int)] ∧ n ≤ 40 ∧ Same I H ∧ ∀ D I2 H2, Adv I H I2 H2 → Dp K I2 (.ref D) (.list ((trips n).map trD)) → Q (.ref D) H2
abbrev N_triples_of : List Str := ["many", "found", "first", "second", "word"]
abbrev sco_triples_of : Scope := defScope s_triples_of
theorem sc_triples_of : FnScope N_triples_of ["many"] sco_triples_of := ⟨rfl, rfl, rfl, by decide +kernel, rfl, by decide +kernel, by decide +kernel⟩
theorem ok_triples_of (T : Tx K mg) : C8.Cal P w K mg base 1 "triples_of" (sp_triples_of K) [] := by
  refine mkCal T.d_triples_of T.m_triples_of (fun fd F => ⟨[], .nil, F.bindsN fun _ _ _ _ _ _ us hl => match us, hl with | [_], _ => rfl⟩) sc_triples_of (fun vs H Q E h => ?_) (fun cdv A outer s H vs Q E hr h => ?_)
  · obtain ⟨I, n, rfl, _⟩ := h; rfl
  · obtain ⟨I, n, rfl, hn, hI, q⟩ := h
    refine ⟨_, (pss_cons (ps_set (i := 1) sc_triples_of.nd rfl (Or.inl rfl) (pe_lst pa_nil))
      (pss_cons (ps_for PassesOwn.never rfl (pi_range1 (by rfl) T.f_range (pa_cons (pv 0) pa_nil)) (pg_name (i := 2) sc_triples_of.nd rfl (Or.inr rfl))
      (pss_one (ps_for PassesOwn.never rfl (pi_range1 (by rfl) T.f_range (pa_cons (pv 0) pa_nil)) (pg_name (i := 3) sc_triples_of.nd rfl (Or.inr rfl))
      (pss_one (ps_expr (pe_bmK (K := K) rfl PySem.F.plainAttrs_list PySem.F.slot_list_extend PySem.F.type_list_extend mt_extend (pv 1) (pa_cons (pe_lc (own := [("word", 4)]) rfl sc_triples_of.nd (pi_range1 (by rfl) T.f_range (pa_cons (pv 0) pa_nil)) (blkOk_by (own := [("word", 4)]) (N := N_triples_of) (sc := sco_triples_of) (by decide +kernel)) (fun _ _ _ _ _ => (pg_name (i := 4) sc_triples_of.nd rfl (Or.inl rfl))) (fun _ _ _ _ _ => (pts_one (pt_cmpR (op_notIn_seqK (K := K) rfl) (pv 4) (pe_tup (pa_cons (pv 2) (pa_cons (pv 3) pa_nil))) rfl))) (fun _ _ _ _ _ => (pe_tup (pa_cons (pv 2) (pa_cons (pv 3) (pa_cons (pv 4) pa_nil)))))) pa_nil)))))))
      (pss_one (ps_ret (pv 1))))), ?_⟩
    refine ⟨by show 0 ≤ sizeLine; decide, fun F hF => ?_⟩
    have a0 := (Adv.refl hI).alloc (o := .lst []) hF
    refine ⟨_, rfl, (n : Int), rfl, by omega, by omega, for_it (w_range0 (n := n)) (fun f σ H' => (∃ z2 z3 z4, σ = [some (.int (n : Int)), some (.ref F), z2, z3, z4]) ∧ ∃ I1 ys, Adv I H I1 H' ∧ I1 F = none ∧ H' F = some (.lst ys) ∧ DpAll K I1 ys (((List.range f).flatMap (trF n)).map trD))
      ⟨⟨_, _, _, rfl⟩, I, [], a0, hI.free hF, upd_same, .nil⟩ (fun _ _ _ _ _ => trivial) ?_ ?_⟩
    · rintro f x σ _ H1 hf ⟨⟨z2, z3, z4, rfl⟩, I1, ys, a1, hF1, hF2, hys⟩ ⟨rfl, rfl⟩
      refine ⟨_, rfl, (n : Int), rfl, by omega, by omega, for_it (w_range0 (n := n)) (fun s σ H' => (∃ z3 z4, σ = [some (.int (n : Int)), some (.ref F), some (.int (f : Int)), z3, z4]) ∧ ∃ I1 ys, Adv I H I1 H' ∧ I1 F = none ∧ H' F = some (.lst ys) ∧ DpAll K I1 ys (((List.range f).flatMap (trF n) ++ (List.range s).flatMap (trS n f)).map trD))
        ⟨⟨_, _, rfl⟩, I1, ys, a1, hF1, hF2, by simpa using hys⟩ (fun _ _ _ _ _ => trivial) ?_ ?_⟩
      · rintro s' x σ _ H2 hs ⟨⟨z3, z4, rfl⟩, I2, ys2, a2, hG1, hG2, hys2⟩ ⟨rfl, rfl⟩
        refine ⟨_, rfl, .inl ⟨rfl, _, .inl (.inl hG2)⟩, _, rfl, (n : Int), rfl, by omega, by omega, fun D hD => ?_⟩
        have hFD : F ≠ D := fun e => by rw [← e, hG2] at hD; cases hD
        refine lc_own (K := K) hD (w_range0 (n := n)) a2.ih (fun w => decide (w ≠ f ∧ w ≠ s')) (fun w => trD (f, s', w)) ?_ ?_ ?_ ?_ ?_ ?_
        · omega
        · exact fun _ _ => trivial
        · exact fun x => rfl
        · intro i x I3 H3 hi a3 hx Qt qt
          obtain rfl : x = .int (i : Int) := hx
          refine ⟨_, rfl, _, rfl, _, rfl, by show 2 ≤ sizeLine; decide, fun p hp => ⟨p, _, rfl, .inr (.inl (.inl upd_same)), rfl, rfl, _, rfl, ?_⟩⟩
          have q2 := qt _ (same_new (o := .tup [.int (f : Int), .int (s' : Int)]) hp)
          have e : (!inV (.int (i : Int)) (nV [f, s'])) = decide (i ≠ f ∧ i ≠ s') := by
            rw [inV_nV]
            by_cases h1 : i = f
            · subst h1; simp
            · by_cases h2 : i = s'
              · subst h2; simp
              · simp [h1, h2]
          show Qt (!inV (.int (i : Int)) (nV [f, s'])) _
          rw [e]
          exact q2
        · intro i x I3 H3 hi _ a3 hx Qe qe
          obtain rfl : x = .int (i : Int) := hx
          refine ⟨_, rfl, _, rfl, _, rfl, by show 3 ≤ sizeLine; decide, fun p hp => ?_⟩
          exact qe (.ref p) _ _ ((Adv.refl a3.ih).new hp) (.tup (.inl (.inl upd_same)) (.cons (.int _) (.cons (.int _) (.cons (.int _) .nil))))
        · intro I3 H3 us a3 hD1 hD2 hus
          have a4 := a2.trans a3
          obtain ⟨o1, o2⟩ := a3.own hG2 hG1
          have hl1 : ys2.length ≤ 40 * 1600 + 1600 := by
            rw [hys2.length, List.length_map, List.length_append]
            have h1 := trips_len n f
            have h2 := trF_len n f s'
            have h3 : f * (n * n) ≤ 40 * (40 * 40) := Nat.mul_le_mul (by omega) (Nat.mul_le_mul hn hn)
            have h4 : s' * n ≤ 40 * 40 := Nat.mul_le_mul (by omega) hn
            omega
          have hl2 : us.length ≤ 40 := by
            rw [hus.length]
            have := given_len n (fun w => decide (w ≠ f ∧ w ≠ s')) (fun w => trD (f, s', w))
            omega
          refine ⟨F, D, ys2, us, rfl, rfl, o1, hD2, le_line (by omega), ⟨_, _, rfl⟩, I3, ys2 ++ us, a4.mut hF o2, o2, upd_same, ?_⟩
          rw [List.range_succ, flat_snoc, ← List.append_assoc, List.map_append]
          refine (hys2.mono a3.ii).app ?_
          have e : (trS n f s').map trD = given n (fun w => decide (w ≠ f ∧ w ≠ s')) (fun w => trD (f, s', w)) := by
            unfold trS given
            rw [List.map_map]
            rfl
          rw [e]
          exact hus
      · rintro σ H2 ⟨⟨z3, z4, rfl⟩, I2, ys2, a2, hG1, hG2, hys2⟩
        refine ⟨⟨_, _, _, rfl⟩, I2, ys2, a2, hG1, hG2, ?_⟩
        rw [List.range_succ, flat_snoc]
        exact hys2
    · rintro σ H1 ⟨⟨z2, z3, z4, rfl⟩, I1, ys, a1, hF1, hF2, hys⟩
      exact ⟨_, rfl, q F _ _ (a1.freeze hF2 hF hF1) (.lst (.inl (.inl upd_same)) (hys.mono (same_new hF1)))⟩
end
end K57
set_option Elab.async false
set_option linter.all false
set_option maxRecDepth 100000
set_option maxHeartbeats 4000000
namespace K57
open PySem PySem.Spec PyProof.Rows L2
/-- all but dicts stays -/
def Nd (H H2 : Hp) : Prop := ∀ b u, (∀ kvs, u ≠ .dT kvs) → H b = some u → H2 b = some u
theorem Nd.trans {H H1 H2 : Hp} (a : Nd H H1) (b : Nd H1 H2) : Nd H H2 := fun x u hu e => b x u hu (a x u hu e)
theorem _root_.L2.Same.nd {H H2 : Hp} (a : Same H H2) : Nd H H2 := fun x u _ e => a x u e
theorem CoE.nd {K : PySem.W.Frag} {H H2 : Hp} {c dx da dh db : Addr} {n : Nat} (h : CoE K H c dx da dh db n) (f : Fr3 da dh db H H2) : Nd H H2 := fun x u hu e => by
  obtain ⟨_, A, Bh, Bb, h⟩ := h
  refine f x u (fun z => ?_) (fun z => ?_) (fun z => ?_) e
  · rw [z, h.a] at e; exact hu _ (Option.some.inj e).symm
  · rw [z, h.h] at e; exact hu _ (Option.some.inj e).symm
  · rw [z, h.b] at e; exact hu _ (Option.some.inj e).symm
theorem sqt_nd {K : PySem.W.Frag} {H H2 : Hp} {a : Addr} {xs : List V} (e : Nd H H2) (h : SqT K H a xs) : SqT K H2 a xs := by
  rcases h with (h | ⟨o, h⟩) | h
  · exact .inl (.inl (e _ _ (fun _ z => by cases z) h))
  · exact .inl (.inr ⟨o, e _ _ (fun _ z => by cases z) h⟩)
  · exact .inr h
theorem sql_nd {K : PySem.W.Frag} {H H2 : Hp} {a : Addr} {xs : List V} (e : Nd H H2) (h : SqL K H a xs) : SqL K H2 a xs := by
  rcases h with (h | ⟨o, h⟩) | h
  · exact .inl (.inl (e _ _ (fun _ z => by cases z) h))
  · exact .inl (.inr ⟨o, e _ _ (fun _ z => by cases z) h⟩)
  · exact .inr h
def trV (t : Nat × Nat × Nat) : List V := [.int (t.1 : Int), .int (t.2.1 : Int), .int (t.2.2 : Int)]
theorem tr_at {K : PySem.W.Frag} {H : Hp} {v : V} {t : Nat × Nat × Nat} (h : Dp K H v (trD t)) : ∃ a, v = .ref a ∧ SqT K H a (trV t) := by
  obtain ⟨a, xs, rfl, h1, h2⟩ := dp_tup h
  rw [dpAll_ints_eq (ns := [(t.1 : Int), (t.2.1 : Int), (t.2.2 : Int)]) h2] at h1
  exact ⟨a, rfl, h1⟩
theorem trip_ok {t : Nat × Nat × Nat} (h : t ∈ trips 30) : t.1 < 30 ∧ t.2.1 < 30 ∧ t.2.2 < 30 ∧ t.2.2 ≠ t.1 ∧ t.2.2 ≠ t.2.1 := by
  obtain ⟨f, hf, h⟩ := List.mem_flatMap.mp h
  obtain ⟨s, hs, h⟩ := List.mem_flatMap.mp h
  obtain ⟨w, hw, rfl⟩ := List.mem_map.mp h
  obtain ⟨hw, h2⟩ := List.mem_filter.mp hw
  obtain ⟨h3, h4⟩ := of_decide_eq_true h2
  exact ⟨List.mem_range.mp hf, List.mem_range.mp hs, List.mem_range.mp hw, h3, h4⟩
theorem trip_0 : (trips 30)[0]? = some (0, 0, 1) := by decide +kernel
theorem trip_1 : (trips 30)[1]? = some (0, 0, 2) := by decide +kernel
theorem trip_2 : (trips 30)[2]? = some (0, 0, 3) := by decide +kernel
theorem trip_3 : (trips 30)[3]? = some (0, 0, 4) := by decide +kernel
/-- the best so far, behind i triples -/
def BestAt (i k : Nat) (t : Nat × Nat × Nat) : Prop := (i ≤ 3 → 5 ≤ k) ∧ (4 ≤ i → k = 4 ∧ t = (0, 0, 4))
theorem best_first {t : Nat × Nat × Nat} {v : Nat} (ht : (trips 30)[0]? = some t) (hv : MinOf v (costL t.1 t.2.1 t.2.2)) : BestAt 1 v t := by
  rw [trip_0] at ht
  cases ht
  exact ⟨fun _ => cost_1 v hv.1, fun h => absurd h (by decide)⟩
theorem best_more {i v k : Nat} {t t0 : Nat × Nat × Nat} (hi : 0 < i) (ht : (trips 30)[i]? = some t) (hv : MinOf v (costL t.1 t.2.1 t.2.2)) (hb : BestAt i k t0) : (v < k → BestAt (i + 1) v t) ∧ (¬ v < k → BestAt (i + 1) k t0) := by
  obtain ⟨o1, o2, o3, o4, o5⟩ := trip_ok (List.mem_of_getElem? ht)
  have hge := cost_ge o1 o2 o3 o4 o5 v hv.1
  by_cases h3 : i ≤ 2
  · have h5 : 5 ≤ v := by
      obtain rfl | rfl : i = 1 ∨ i = 2 := by omega
      · rw [trip_1] at ht; cases ht; exact cost_2 v hv.1
      · rw [trip_2] at ht; cases ht; exact cost_3 v hv.1
    exact ⟨fun _ => ⟨fun _ => h5, fun h => by omega⟩, fun _ => ⟨fun _ => hb.1 (by omega), fun h => by omega⟩⟩
  · by_cases h4 : i = 3
    · subst h4
      rw [trip_3] at ht
      cases ht
      have hv4 : v = 4 := by have := hv.2 4 cost_4; omega
      have hk := hb.1 (by omega)
      exact ⟨fun _ => ⟨fun h => by omega, fun _ => ⟨hv4, rfl⟩⟩, fun h => by omega⟩
    · obtain ⟨rfl, rfl⟩ := hb.2 (by omega)
      exact ⟨fun h => by omega, fun _ => ⟨fun h => by omega, fun _ => ⟨rfl, rfl⟩⟩⟩
theorem trips_all : 4 ≤ (trips 30).length := by
  have := (List.getElem?_eq_some_iff.mp trip_3).1
  omega
section
variable {P : Program} {w : World} {K : PySem.W.Frag} {mg : Str → Option Value} {base : Heap}
def sp_cheapest (K : PySem.W.Frag) : Sp := fun vs H Q _ => vs = [.ref (Wd K)] ∧ ∀ b t H2, Same H H2 → H2 b = some (.tup [.int 4, .ref t]) → SqT K H2 t [.int 0, .int 0, .int 4] → Q (.ref b) H2
abbrev N_cheapest : List Str := ["words", "costs", "best", "triple", "cost"]
abbrev sco_cheapest : Scope := defScope s_cheapest
theorem sc_cheapest : FnScope N_cheapest ["words"] sco_cheapest := ⟨rfl, rfl, rfl, by decide +kernel, rfl, by decide +kernel, by decide +kernel⟩
theorem ok_cheapest (T : Tx K mg) : C8.Cal P w K mg base 7 "cheapest" (sp_cheapest K) [] := by
  have c_triples_of : C8.Cal P w K mg base 1 "triples_of" (sp_triples_of K) [] := ok_triples_of T
  have c_Costs : C8.Mak P w K mg base 1 "Costs" (He.ga K "Costs") (sp_Costs_init K) [] := ok_Costs_init T
  have m_triple : C8.Met P w K mg base 6 (He.ga K "Costs") "triple" (sp_Costs_triple K) [] := ok_Costs_triple T
  refine mkCal T.d_cheapest T.m_cheapest (fun fd F => ⟨[], .nil, F.bindsN fun _ _ _ _ _ _ us hl => match us, hl with | [_], _ => rfl⟩) sc_cheapest (fun vs H Q E h => ?_) (fun cdv A outer s H vs Q E hr h => ?_)
  · obtain ⟨rfl, _⟩ := h; rfl
  · obtain ⟨rfl, q⟩ := h
    have c_Costs : C8.Mak P w K mg base 1 "Costs" (He.ga K "Costs") (sp_Costs_init K) [] := ok_Costs_init T
    have m_triple : C8.Met P w K mg base 6 (He.ga K "Costs") "triple" (sp_Costs_triple K) [] := ok_Costs_triple T
    refine ⟨_, (pss_cons (ps_par (i := 1) (j := 2) rfl sc_cheapest.nd rfl rfl (by decide) rfl rfl (pa_cons (C8.pe_mk c_Costs hr (by decide) (by rfl) (pa_cons (pv 0) pa_nil)) (pa_cons pe_non pa_nil)) rfl)
      (pss_cons (ps_for PassesOwn.never rfl (pi_listK (K := K) rfl (C8.pe_c c_triples_of hr (by decide) (by rfl) (pa_cons (pe_callB (call_len_seqK (K := K) rfl) (by rfl) T.f_len bb_len (pa_cons (pv 0) pa_nil)) pa_nil))) (pg_name (i := 3) sc_cheapest.nd rfl (Or.inl rfl))
      (pss_cons (ps_set (i := 4) sc_cheapest.nd rfl (Or.inl rfl) (C8.pe_mt m_triple hr (by decide) (pv 1) (pa_cons (pe_ix (ix_tupK (K := K) rfl) (pv 3) pe_int (fun _ _ => rfl)) (pa_cons (pe_ix (ix_tupK (K := K) rfl) (pv 3) pe_int (fun _ _ => rfl)) (pa_cons (pe_ix (ix_tupK (K := K) rfl) (pv 3) pe_int (fun _ _ => rfl)) pa_nil)))))
      (pss_one (ps_if (PW.pt (pw_or (pt_cmpR op_isN (pv 2) pe_non (nomark _)) (pw_or1 (pt_cmpR op_lt (pv 4) (pe_ix (ix_tupK (K := K) rfl) (pv 2) pe_int (fun _ _ => rfl)) (nomark _))))) (pss_one (ps_set (i := 2) sc_cheapest.nd rfl (Or.inl rfl) (pe_tup (pa_cons (pv 4) (pa_cons (pv 3) pa_nil))))) pss_nil))))
      (pss_one (ps_ret (pv 2))))), ?_⟩
    refine ⟨_, rfl, fun c dx hc hdx hne => ⟨c, dx, rfl, upd_same, fun da dh db H1 fa fh fb b1 co1 => ⟨rfl, ?_⟩⟩⟩
    have sx : Same H (upd (upd H dx (.own c)) c (.ins (He.ga K "Costs") dx [])) := fun b u e => by
      rw [upd_ne (ne_of_none e hc), upd_ne (ne_of_none e hdx)]
      exact e
    have s1 : Same H H1 := fun b u e => b1 b u (ne_of_none e hc) (sx b u e)
    have na := sx.free fa
    have nh := sx.free fh
    have nb := sx.free fb
    refine ⟨_, _, rfl, _, rfl, Wd K, wordsV, rfl, .inr (T.wordsT _), H1, 30, by rw [wordsV_len]; rfl, by omega, Same.refl _, fun L I2 H2 a2 hL => ?_⟩
    obtain ⟨_, ts, eL, hLl, hts⟩ := dp_lst hL
    cases eL
    have htl : ts.length = (trips 30).length := by rw [hts.length, List.length_map]
    have hcap : (trips 30).length ≤ 27000 := trips_len 30 30
    have co2 := CoE.mono (n2 := 2 * 0) ⟨_, co1⟩ a2.hh (Nat.le_refl _)
    refine ⟨L, rfl, ⟨_, sql_mono a2.ih hLl⟩, for_it (w_list (xs := ts)) (fun i σ H' => (∃ bv z3 z4, σ = [some (.ref (Wd K)), some (.ref c), some bv, z3, z4] ∧ (i = 0 → bv = .non) ∧ (0 < i → ∃ b k t tt, bv = .ref b ∧ H' b = some (.tup [.int ((k : Nat) : Int), .ref t]) ∧ SqT K H' t (trV tt) ∧ BestAt i k tt)) ∧ CoE K H' c dx da dh db (2 * i) ∧ Same H H' ∧ Nd H2 H')
      ⟨⟨_, _, _, rfl, fun _ => rfl, fun h => absurd h (by omega)⟩, co2, s1.trans a2.hh, (Same.refl _).nd⟩ (fun i σ H' _ p => sql_nd p.2.2.2 (sql_mono a2.ih hLl)) ?_ ?_⟩
    · rintro i x σ _ H3 hi ⟨⟨bv, z3, z4, rfl, hb0, hb1⟩, co3, s3, n3⟩ ⟨rfl, hx⟩
      obtain ⟨d, hd1, hd2⟩ := hts.at hx
      rw [List.getElem?_map] at hd1
      obtain ⟨tt, htt, rfl⟩ := Option.map_eq_some_iff.mp hd1
      obtain ⟨ta, rfl, hta⟩ := tr_at hd2
      obtain ⟨o1, o2, o3, o4, o5⟩ := trip_ok (List.mem_of_getElem? htt)
      have hta3 := sqt_nd n3 (sqt_mono a2.ih hta)
      obtain ⟨S3, A3, B3, C3, h3⟩ := id co3
      refine ⟨_, rfl, c, dx, _, rfl, h3.o, rfl, _, rfl, ta, _, (0 : Int), _, rfl, rfl, hta3, rfl, _, rfl, ta, _, (1 : Int), _, rfl, rfl, hta3, rfl, _, rfl, ta, _, (2 : Int), _, rfl, rfl, hta3, rfl, c, dx, da, dh, db, 2 * i, tt.1, tt.2.1, tt.2.2, rfl, o1, o2, o3, co3, by omega, fun v H4 hv f4 co4 => ?_⟩
      have nd4 := CoE.nd co3 f4
      have s4 : Same H H4 := fun b u e => f4 b u (ne_of_none e na) (ne_of_none e nh) (ne_of_none e nb) (s3 b u e)
      have n4 := n3.trans nd4
      have hta4 := sqt_nd nd4 hta3
      have co5 : CoE K H4 c dx da dh db (2 * (i + 1)) := by rw [show 2 * (i + 1) = 2 * i + 2 by omega]; exact co4
      have fin : ∀ k, BestAt (i + 1) k tt → ∀ b, H4 b = none → (∃ bv z3 z4, [some (V.ref (Wd K)), some (V.ref c), some (V.ref b), some (V.ref ta), some (V.int (v : Int))] = [some (V.ref (Wd K)), some (V.ref c), some bv, z3, z4] ∧ (i + 1 = 0 → bv = .non) ∧ (0 < i + 1 → ∃ b' k' t tt', bv = .ref b' ∧ (upd H4 b (.tup [.int ((k : Nat) : Int), .ref ta])) b' = some (.tup [.int ((k' : Nat) : Int), .ref t]) ∧ SqT K (upd H4 b (.tup [.int ((k : Nat) : Int), .ref ta])) t (trV tt') ∧ BestAt (i + 1) k' tt')) ∧ CoE K (upd H4 b (.tup [.int ((k : Nat) : Int), .ref ta])) c dx da dh db (2 * (i + 1)) ∧ Same H (upd H4 b (.tup [.int ((k : Nat) : Int), .ref ta])) ∧ Nd H2 (upd H4 b (.tup [.int ((k : Nat) : Int), .ref ta])) := fun k hk b hb =>
        have sb : Same H4 (upd H4 b (.tup [.int ((k : Nat) : Int), .ref ta])) := same_new hb
        ⟨⟨_, _, _, rfl, fun h => absurd h (by omega), fun _ => ⟨b, k, ta, tt, rfl, upd_same, sqt_mono sb hta4, hk⟩⟩, co5.mono sb (Nat.le_refl _), s4.trans sb, n4.trans sb.nd⟩
      by_cases h0 : i = 0
      · subst h0
        rw [hb0 rfl]
        refine ⟨_, rfl, rfl, true, rfl, iteT ⟨_, rfl, _, rfl, by show 2 ≤ sizeLine; decide, fun b hb => ?_⟩⟩
        exact fin v (best_first htt hv) b hb
      · obtain ⟨b, k, t, t0, rfl, hbb, htb, hbest⟩ := hb1 (by omega)
        obtain ⟨m1, m2⟩ := best_more (by omega) htt hv hbest
        have hbb4 := nd4 b _ (fun _ z => by cases z) hbb
        refine ⟨_, rfl, rfl, false, rfl, iteF ⟨_, rfl, _, rfl, b, _, (0 : Int), _, rfl, rfl, .inl (.inl hbb4), rfl, _, _, rfl, rfl, decide ((v : Int) < (k : Int)), rfl, ?_⟩⟩
        by_cases hlt : v < k
        · rw [decide_eq_true (show (v : Int) < (k : Int) by omega)]
          exact iteT ⟨_, rfl, _, rfl, by show 2 ≤ sizeLine; decide, fun b hb => fin v (m1 hlt) b hb⟩
        · rw [decide_eq_false (show ¬ (v : Int) < (k : Int) by omega)]
          exact iteF ⟨⟨_, _, _, rfl, fun h => absurd h (by omega), fun _ => ⟨b, k, t, t0, rfl, hbb4, sqt_nd nd4 htb, m2 hlt⟩⟩, co5, s4, n4⟩
    · rintro σ H3 ⟨⟨bv, z3, z4, rfl, hb0, hb1⟩, co3, s3, n3⟩
      obtain ⟨b, k, t, tt, rfl, hb, ht, hbest⟩ := hb1 (by have := trips_all; omega)
      obtain ⟨rfl, rfl⟩ := hbest.2 (by have := trips_all; omega)
      exact ⟨_, rfl, q b t H3 s3 hb ht⟩
end
end K57
set_option Elab.async false
set_option linter.all false
set_option maxRecDepth 100000
set_option maxHeartbeats 4000000
namespace K57
open PySem PySem.Spec PyProof.Rows L2
section
variable {P : Program} {w : World} {K : PySem.W.Frag} {mg : Str → Option Value} {base : Heap}
def sp_begins_of (K : PySem.W.Frag) : Sp := fun vs H Q _ => ∃ t, vs = [tx t] ∧ t.length ≤ 10000 ∧ isT t ∧ ∀ p H2, Same H H2 → H2 p = some (.tup (nV (begL t))) → Q (.ref p) H2
abbrev N_begins_of : List Str := ["text", "at", "sign"]
abbrev sco_begins_of : Scope := defScope s_begins_of
theorem sc_begins_of : FnScope N_begins_of ["text"] sco_begins_of := ⟨rfl, rfl, rfl, by decide +kernel, rfl, by decide +kernel, by decide +kernel⟩
theorem ok_begins_of (T : Tx K mg) : C8.Cal P w K mg base 3 "begins_of" (sp_begins_of K) [] := by
  have c_need_text : C8.Cal P w K mg base 2 "need_text" sp_need_text [.str "text"] := ok_need_text T
  refine mkCal T.d_begins_of T.m_begins_of (fun fd F => ⟨[], .nil, F.bindsN fun _ _ _ _ _ _ us hl => match us, hl with | [_], _ => rfl⟩) sc_begins_of (fun vs H Q E h => ?_) (fun cdv A outer s H vs Q E hr h => ?_)
  · obtain ⟨t, rfl, _⟩ := h; rfl
  · obtain ⟨t, rfl, hl, ht, q⟩ := h
    refine ⟨_, (pss_cons (ps_expr (C8.pe_c c_need_text hr (by decide) (by rfl) (pa_cons (pv 0) pa_nil)))
      (pss_one (ps_ret (pe_callTy (call_tuple_ofK (K := K) rfl) (by rfl) T.f_tuple bb_tuple (pa_cons (pe_op op_cat (pe_lst (pa_cons pe_int pa_nil)) (pe_lc (own := [("at", 1), ("sign", 2)]) rfl sc_begins_of.nd (pi_enumS (by rfl) T.f_enumerate (pv 0)) (blkOk_by (own := [("at", 1), ("sign", 2)]) (N := N_begins_of) (sc := sco_begins_of) (by decide +kernel)) (fun _ _ _ _ _ => (pg_tupK (K := K) (n := 2) rfl rfl (pgs_cons (pg_name (i := 1) sc_begins_of.nd rfl (Or.inl rfl)) (pgs_cons (pg_name (i := 2) sc_begins_of.nd rfl (Or.inl rfl)) pgs_nil)))) (fun _ _ _ _ _ => (pts_one (pt_cmpR op_eq (pv 2) (C8.pe_gc (by rfl) T.g_BLANK) (nomark _)))) (fun _ _ _ _ _ => (pe_op op_add (pv 1) pe_int)))) pa_nil))))), ?_⟩
    refine ⟨_, rfl, t, _, rfl, by omega, ht, fun H1 s1 => ?_⟩
    refine ⟨by show 1 ≤ sizeLine; decide, fun p1 hp1 => ?_⟩
    refine ⟨_, rfl, SX.S t, rfl, fun DB hDB => ?_⟩
    have s2 : Same H1 (upd H1 p1 (.lst [.int 0])) := same_new hp1
    refine walkW (w_enumS (z := SX.S t)) (fun i H' => Same (upd H1 p1 (.lst [.int 0])) H' ∧ H' DB = some (.lst (nV (((List.range i).filter fun j => decide (t.getD j 0 = 32)).map (· + 1))))) ⟨(Same.refl _).mut hDB, upd_same⟩ (fun _ _ _ _ => trivial) ?_ ?_
    · rintro i H2 x _ hi ⟨a, hy⟩ ⟨Tp, c0, rfl, hTp, rfl, hc0⟩
      have hc0' : t[i]? = some c0 := by simpa using hc0
      have hil : i < t.length := (List.getElem?_eq_some_iff.mp hc0').1
      have hg : t.getD i 0 = c0 := by rw [List.getD_eq_getElem?_getD, hc0'] <;> rfl
      have sT : Same H2 (upd H2 Tp (.tup [.int (i : Int), .str ⟨#[c0]⟩])) := same_new hTp
      refine ⟨Tp, [_, _], rfl, .inl (.inl upd_same), rfl, _, _, rfl, _, _, rfl, rfl, rfl, _, rfl, rfl, decide (c0 = 32), congrArg V.bl (dec_sign c0), ?_⟩
      by_cases h32 : c0 = 32
      · rw [decide_eq_true h32]
        refine iteT ⟨_, rfl, _, _, rfl, rfl, _, sT DB _ hy, ?_, (a.trans sT).mut hDB, ?_⟩
        · rw [List.length_map, List.length_map]
          have h1 := List.length_filter_le (fun j => decide (t.getD j 0 = 32)) (List.range i)
          rw [List.length_range] at h1
          exact lt_line (by omega)
        · rw [upd_same, List.range_succ, List.filter_append, filt_yes (by rw [hg, h32]; rfl), List.map_append, show ∀ a b : List Nat, nV (a ++ b) = nV a ++ nV b from fun a b => List.map_append ..] <;> rfl
      · rw [decide_eq_false h32]
        refine iteF ⟨a.trans sT, ?_⟩
        rw [sT DB _ hy, List.range_succ, List.filter_append, filt_no (by rw [hg]; simp [h32]), List.append_nil]
    · rintro H2 ⟨a, hy⟩
      rw [show (SX.S t).cps.size = t.length from SX.S_len t] at hy
      refine ⟨p1, DB, _, _, rfl, rfl, a p1 _ upd_same, hy, ?_, fun p2 hp2 => ?_⟩
      · rw [List.length_map, List.length_map]
        have h1 := List.length_filter_le (fun j => decide (t.getD j 0 = 32)) (List.range t.length)
        rw [List.length_range] at h1
        refine le_line ?_
        simp only [List.length_singleton]
        omega
      · refine ⟨p2, _, rfl, .inl ⟨.inl (.inl upd_same), fun p3 hp3 => ?_⟩⟩
        refine q p3 _ ((((s1.trans s2).trans a).trans (same_new hp2)).trans (same_new hp3)) ?_
        rw [upd_same]
        rfl
theorem best_ix (ps : List Pr) : ∀ k, argBest (fun i j => plt (ps.getD i (0, 0)) (ps.getD j (0, 0))) k = bestIx ps k
  | 0 => rfl
  | k + 1 => by
    show (if _ then _ else _) = _
    rw [best_ix ps k]
    rfl
theorem bestIx_le (ps : List Pr) : ∀ k, bestIx ps k ≤ k
  | 0 => Nat.le_refl _
  | k + 1 => by
    have := bestIx_le ps k
    show (if _ then _ else _) ≤ k + 1
    split
    · exact Nat.le_refl _
    · omega
def sp_stretch_in (K : PySem.W.Frag) : Sp := fun vs H Q _ => ∃ t w : T, ∃ ix : Nat, vs = [tx t, tx w, .non] ∧ t.length ≤ 1000 ∧ w.length ≤ 100 ∧ bestIx (strL w t) t.length = ix ∧
  ∀ p H2, Same H H2 → H2 p = some (.tup [.int ((tb w t ix w.length).2 : Nat), .int (ix : Nat)]) → Q (.ref p) H2
abbrev N_stretch_in : List Str := ["text", "word", "border", "last", "rows", "ends", "cost", "end"]
abbrev sco_stretch_in : Scope := defScope s_stretch_in
theorem sc_stretch_in : FnScope N_stretch_in ["text", "word", "border"] sco_stretch_in := ⟨rfl, rfl, rfl, by decide +kernel, rfl, by decide +kernel, by decide +kernel⟩
theorem ok_stretch_in (T : Tx K mg) : C8.Cal P w K mg base 3 "stretch_in" (sp_stretch_in K) [] := by
  have c_best_begins : C8.Cal P w K mg base 2 "best_begins" (sp_best_begins K) [] := ok_best_begins T
  refine mkCal T.d_stretch_in T.m_stretch_in (fun fd F => ⟨[], .nil, F.bindsN fun _ _ _ _ _ _ us hl => match us, hl with | [_, _, _], _ => rfl⟩) sc_stretch_in (fun vs H Q E h => ?_) (fun cdv A outer s H vs Q E hr h => ?_)
  · obtain ⟨t, w, ix, rfl, _⟩ := h; rfl
  · obtain ⟨t, w', ix, rfl, hl, hw, hix, q⟩ := h
    refine ⟨_, (pss_cons (ps_set (i := 3) sc_stretch_in.nd rfl (Or.inl rfl) (pe_ifExp (pt_cmpR op_isN (pv 2) pe_non (nomark _)) (pe_callB call_len_str (by rfl) T.f_len bb_len (pa_cons (pv 0) pa_nil)) (pv 2)))
      (pss_cons (ps_set (i := 4) sc_stretch_in.nd rfl (Or.inr rfl) (C8.pe_c c_best_begins hr (by decide) (by rfl) (pa_cons (pv 0) (pa_cons (pv 1) (pa_cons (pv 3) pa_nil)))))
      (pss_cons (ps_setLc (i := 5) (own := [("end", 7)]) rfl sc_stretch_in.nd rfl rfl (sw_true rfl rfl rfl (by decide +kernel)) (pi_range1 (by rfl) T.f_range (pa_cons (pe_op op_add (pe_callB call_len_str (by rfl) T.f_len bb_len (pa_cons (pv 0) pa_nil)) pe_int) pa_nil)) (blkOk_by (own := [("end", 7)]) (N := N_stretch_in) (sc := sco_stretch_in) (by decide +kernel)) (fun _ _ _ _ _ => (pg_name (i := 7) sc_stretch_in.nd rfl (Or.inl rfl))) (fun _ _ _ _ _ => (pts_one (PW.pt (pw_or (pt_cmpR op_isN (pv 2) pe_non (nomark _)) (pw_or1 (pt_cmpR op_gt (pv 7) (pv 2) (nomark _))))))) (fun _ _ _ _ _ => (pv 7)))
      (pss_cons (ps_asg (pe_callB (call_minPLK (K := K) rfl rfl (hu_of hr)) (by rfl) T.f_min bb_min (pa_cons (pe_lc (own := [("end", 7)]) rfl sc_stretch_in.nd (pi_listK (K := K) rfl (pv 5)) (blkOk_by (own := [("end", 7)]) (N := N_stretch_in) (sc := sco_stretch_in) (by decide +kernel)) (fun _ _ _ _ _ => (pg_name (i := 7) sc_stretch_in.nd rfl (Or.inl rfl))) (fun _ _ _ _ _ => pts_nil) (fun _ _ _ _ _ => (pe_tup (pa_cons (pe_op op_add (pe_ix (ix_tupK (K := K) rfl) (pe_ix (ix_listK (K := K) rfl) (pe_ix (ix_listK (K := K) rfl) (pv 4) (pv 7) (fun _ _ => rfl)) (pe_un un_neg pe_int) (fun _ _ => rfl)) pe_int (fun _ _ => rfl)) (pe_callTy call_int1 (by rfl) T.f_int bb_int (pa_cons (pe_and (pe_cmpR op_lt (pv 7) (pe_callB call_len_str (by rfl) T.f_len bb_len (pa_cons (pv 0) pa_nil)) (nomark _)) (pe_one (pe_cmpR op_ne (pe_ix ix_str (pv 0) (pv 7) (fun _ _ => rfl)) (C8.pe_gc (by rfl) T.g_BLANK) (nomark _)))) pa_nil))) (pa_cons (pv 7) pa_nil))))) pa_nil)) (pg_tupK (K := K) (n := 2) rfl rfl (pgs_cons (pg_name (i := 6) sc_stretch_in.nd rfl (Or.inl rfl)) (pgs_cons (pg_name (i := 7) sc_stretch_in.nd rfl (Or.inl rfl)) pgs_nil))))
      (pss_one (ps_ret (pe_tup (pa_cons (pe_ix (ix_tupK (K := K) rfl) (pe_ix (ix_listK (K := K) rfl) (pe_ix (ix_listK (K := K) rfl) (pv 4) (pv 7) (fun _ _ => rfl)) (pe_un un_neg pe_int) (fun _ _ => rfl)) pe_int (fun _ _ => rfl)) (pa_cons (pv 7) pa_nil))))))))), ?_⟩
    have zt : (SX.S t).length ≤ sizeLine := le_line (by rw [SX.S_len]; omega)
    refine ⟨_, rfl, rfl, true, rfl, iteT ⟨_, rfl, _, rfl, zt, ?_⟩⟩
    refine ⟨_, rfl, _, rfl, _, rfl, H, t, w', by rw [SX.S_len]; rfl, Same.refl _, hl, hw, fun R I2 H2 a2 hR => ?_⟩
    obtain ⟨_, rows, eR, hRl, hrows⟩ := dp_lst hR
    cases eR
    refine ⟨_, rfl, _, rfl, zt, _, _, rfl, rfl, _, rfl, by rw [SX.S_len]; omega, by rw [SX.S_len]; omega, fun D hD => ?_⟩
    refine lc_flat hD (w_range0 (n := t.length + 1)) (fun _ => true) (fun i => .int (i : Int)) ?_ ?_ ?_ ?_ ?_ ?_
    · omega
    · exact fun _ _ => trivial
    · exact fun x => rfl
    · intro i x H' _ _ hx Qt qt
      exact ⟨_, rfl, rfl, true, rfl, iteT (qt H' (Same.refl _))⟩
    · intro i x H' _ _ _ hx Qe qe
      obtain rfl : x = .int (i : Int) := hx
      exact ⟨_, rfl, qe H' (Same.refl _)⟩
    intro H3 s3 hy3
    rw [given_all] at hy3
    have a3 := a2.grow s3
    refine ⟨_, rfl, D, rfl, ⟨_, .inl (.inl hy3)⟩, fun D2 hD2 => ?_⟩
    refine lc_data (K := K) (I1 := I2) hD2 (w_list (xs := (List.range (t.length + 1)).map fun i : Nat => V.int (i : Int))) (a2.ih.trans s3) (fun _ => true) (fun i => prD ((tb w' t i w'.length).1 + behAt t i, i)) ?_ ?_ ?_ ?_ ?_ ?_
    · rw [List.length_map, List.length_range]; omega
    · exact fun H' s' => .inl (.inl (s' D _ hy3))
    · exact fun x => rfl
    · exact fun i x I H' _ _ _ Qt qt => yes_ok qt
    · intro i x I4 H4 hi _ a4 hx Qe qe
      rw [List.length_map, List.length_range] at hi
      rw [List.getElem?_map, List.getElem?_range hi] at hx
      cases hx
      obtain ⟨xr, hxr, hd2⟩ := rng_dp (α := Nat) hrows (show i < t.length + 1 from hi)
      obtain ⟨ar, xs, y, rfl, har, hyd⟩ := row_last hd2
      obtain ⟨ap, rfl, hap⟩ := pr_at hyd
      have sX : Same I2 H4 := a4.ii.trans a4.ih
      have fin : ∀ b : Bool, (if b = true then 1 else 0) = behAt t i → ∀ p, H4 p = none → Qe (.ref p) (upd H4 p (.tup [V.int (((tb w' t i w'.length).1 : Int) + (if b = true then 1 else 0)), .int (i : Int)])) := by
        intro b hb p hp
        refine qe (.ref p) _ _ ((Adv.refl a4.ih).new hp) (pr_dp (.inl (.inl ?_)))
        rw [upd_same, ← hb]
        unfold prL
        cases b <;> rfl
      refine ⟨_, rfl, _, rfl, R, rows, _, _, rfl, rfl, sql_mono sX hRl, atI_nat hxr, 1, rfl, ar, _, (-1 : Int), _, rfl, rfl, sql_mono sX har, atI_last _ _, ap, _, (0 : Int), _, rfl, rfl, sqt_mono sX hap, rfl, _, rfl, _, rfl, _, rfl, zt, _, _, rfl, rfl, decide ((i : Int) < ((SX.S t).length : Int)), rfl, ?_⟩
      by_cases hlt : i < t.length
      · rw [decide_eq_true (show (i : Int) < ((SX.S t).length : Int) by rw [SX.S_len]; omega)]
        refine iteT ⟨_, rfl, _, rfl, _, _, t.getD i 0, rfl, rfl, zt, atI_nat (sgn_at hlt), rfl, .inr ⟨_, rfl, _, _, rfl, rfl, _, rfl, by show 2 ≤ sizeLine; decide, fun p hp => fin _ ?_ p hp⟩⟩
        rw [dec_sign]
        by_cases h32 : t.getD i 0 = 32
        · rw [decide_eq_true h32, behAt_32 h32]; rfl
        · rw [decide_eq_false h32, behAt_1 hlt h32]; rfl
      · rw [decide_eq_false (show ¬ (i : Int) < ((SX.S t).length : Int) by rw [SX.S_len]; omega)]
        refine iteF (.inr ⟨_, rfl, _, _, rfl, rfl, _, rfl, by show 2 ≤ sizeLine; decide, fun p hp => fin false ?_ p hp⟩)
        rw [behAt_end hlt]; rfl
    · intro I4 H4 a4 hD4
      obtain ⟨_, vs, e4', hvl, hvs⟩ := dp_lst hD4
      cases e4'
      rw [given_all, List.length_map, List.length_range] at hvs
      have e5 : (List.range (t.length + 1)).map (fun i => prD ((tb w' t i w'.length).1 + behAt t i, i)) = (strL w' t).map prD := by
        unfold strL
        rw [List.map_map]
        rfl
      rw [e5] at hvs
      have hsl : (strL w' t).length = t.length + 1 := by unfold strL; simp
      refine ⟨D2, vs, strL w' t, rfl, sql_mono a4.ih hvl, hvs.mono a4.ih, by omega, fun v hv => ?_⟩
      rw [hsl, Nat.add_sub_cancel, best_ix, hix] at hv
      have hixl : ix ≤ t.length := hix ▸ bestIx_le _ _
      obtain ⟨d, hd1, hd2⟩ := hvs.at hv
      rw [List.getElem?_map, show (strL w' t)[ix]? = some ((tb w' t ix w'.length).1 + behAt t ix, ix) by unfold strL; rw [List.getElem?_map, List.getElem?_range (by omega)] <;> rfl] at hd1
      cases hd1
      obtain ⟨av, rfl, hav⟩ := pr_at hd2
      refine ⟨av, _, rfl, sqt_mono a4.ih hav, rfl, _, _, rfl, _, _, rfl, rfl, ?_⟩
      obtain ⟨xr, hxr, hd3⟩ := rng_dp (α := Nat) hrows (show ix < t.length + 1 by omega)
      obtain ⟨ar, xs, y, rfl, har, hyd⟩ := row_last hd3
      obtain ⟨ap, rfl, hap⟩ := pr_at hyd
      have sX : Same I2 H4 := a4.ii.trans a4.ih
      exact ⟨_, rfl, _, rfl, R, rows, _, _, rfl, rfl, sql_mono sX hRl, atI_nat hxr, 1, rfl, ar, _, (-1 : Int), _, rfl, rfl, sql_mono sX har, atI_last _ _, ap, _, (1 : Int), _, rfl, rfl, sqt_mono sX hap, rfl, _, rfl, by show 2 ≤ sizeLine; decide, fun p hp => q p _ (((a2.hh.trans s3).trans a4.hh).trans (same_new hp)) (by rw [upd_same])⟩
end
end K57
set_option Elab.async false
set_option linter.all false
set_option maxRecDepth 100000
set_option maxHeartbeats 4000000
namespace K57
open PySem PySem.Spec PyProof.Rows L2
def nD (L : List Nat) : List PyData := (L.map fun n : Nat => (n : Int)).map PyData.int
theorem nd_at {K : PySem.W.Frag} {I : Hp} {x : V} {L : List Nat} (h : Dp K I x (.list (nD L))) : ∃ a, x = .ref a ∧ SqL K I a (nV L) := by
  obtain ⟨a, xs, rfl, h1, h2⟩ := dp_lst h
  rw [dpAll_ints_eq h2, ← nV_eq] at h1
  exact ⟨a, rfl, h1⟩
theorem nd_dp {K : PySem.W.Frag} {I : Hp} {a : Addr} {L : List Nat} (h : SqL K I a (nV L)) : Dp K I (.ref a) (.list (nD L)) := by
  rw [nV_eq] at h
  exact .lst h (dpAll_ints _)
def ctD (a b : T) : PyData := .list ((List.range (a.length + 1)).map fun i => .list (nD (crow a b i)))
theorem nV_get {L : List Nat} {j : Nat} (h : j < L.length) : (nV L)[j]? = some (.int ((g L j : Nat) : Int)) := by
  rw [nV, List.getElem?_map, sgn_at h] <;> rfl
theorem take_g {L : List Nat} {j : Nat} (h : j < L.length) : L.take (j + 1) = L.take j ++ [g L j] := take_snoc h
theorem min3_eq (l d u q : Nat) : (if (l : Int) + 1 < (u : Int) + 1 then (if (d : Int) + (q : Int) < (l : Int) + 1 then (d : Int) + (q : Int) else (l : Int) + 1) else (if (d : Int) + (q : Int) < (u : Int) + 1 then (d : Int) + (q : Int) else (u : Int) + 1)) = ((mn (mn (l + 1) (u + 1)) (d + q) : Nat) : Int) := by
  rw [mn_eq, mn_eq]
  split <;> split <;> omega
section
variable {P : Program} {w : World} {K : PySem.W.Frag} {mg : Str → Option Value} {base : Heap}
def sp_need_two : Sp := fun vs H Q _ => ∃ a b, vs = [tx a, tx b] ∧ a.length ≤ 300 ∧ b.length ≤ 300 ∧ isT a ∧ isT b ∧ RetF .non H Q
abbrev N_need_two : List Str := ["one", "other"]
abbrev sco_need_two : Scope := defScope s_need_two
theorem sc_need_two : FnScope N_need_two ["one", "other"] sco_need_two := ⟨rfl, rfl, rfl, by decide +kernel, rfl, by decide +kernel, by decide +kernel⟩
theorem ok_need_two (T : Tx K mg) : C8.Cal P w K mg base 3 "need_two" sp_need_two [] := by
  have c_need_text2 : C8.Cal P w K mg base 2 "need_text" sp_need_text [] := ok_need_text2 T
  refine mkCal T.d_need_two T.m_need_two (fun fd F => ⟨[], .nil, F.bindsN fun _ _ _ _ _ _ us hl => match us, hl with | [_, _], _ => rfl⟩) sc_need_two (fun vs H Q E h => ?_) (fun cdv A outer s H vs Q E hr h => ?_)
  · obtain ⟨a, b, rfl, _⟩ := h; rfl
  · obtain ⟨a, b, rfl, ha, hb, ta, tb', q⟩ := h
    refine ⟨_, (pss_cons (ps_expr (C8.pe_c c_need_text2 hr (by decide) (by rfl) (pa_cons (pv 0) (pa_cons pe_str pa_nil))))
      (pss_cons (ps_expr (C8.pe_c c_need_text2 hr (by decide) (by rfl) (pa_cons (pv 1) (pa_cons pe_str pa_nil))))
      (pss_one (ps_if (pt_cmpR op_gt (pe_callB (call_max2 rfl) (by rfl) T.f_max bb_max (pa_cons (pe_callB call_len_str (by rfl) T.f_len bb_len (pa_cons (pv 0) pa_nil)) (pa_cons (pe_callB call_len_str (by rfl) T.f_len bb_len (pa_cons (pv 1) pa_nil)) pa_nil))) (C8.pe_gc (by rfl) T.g_MOST_SIGNS_ways) (nomark _)) (pss_one ps_never) pss_nil)))), ?_⟩
    refine ⟨_, rfl, a, _, rfl, by omega, ta, fun H1 s1 => ⟨_, rfl, b, _, rfl, by omega, tb', fun H2 s2 => ?_⟩⟩
    refine ⟨_, rfl, _, rfl, le_line (by rw [SX.S_len]; omega), _, rfl, _, rfl, le_line (by rw [SX.S_len]; omega), _, _, rfl, _, _, rfl, rfl, false, congrArg V.bl (decide_eq_false ?_), iteF (q H2 (s1.trans s2))⟩
    rw [SX.S_len, SX.S_len]
    split <;> omega
def sp_counts_to (K : PySem.W.Frag) : Sp := fun vs H Q _ => ∃ I a b, vs = [tx a, tx b] ∧ Same I H ∧ a.length ≤ 300 ∧ b.length ≤ 300 ∧ ∀ D I2 H2, Adv I H I2 H2 → Dp K I2 (.ref D) (ctD a b) → Q (.ref D) H2
abbrev N_counts_to : List Str := ["one", "other", "rows", "many", "sign", "row", "before", "at", "its"]
abbrev sco_counts_to : Scope := defScope s_counts_to
theorem sc_counts_to : FnScope N_counts_to ["one", "other"] sco_counts_to := ⟨rfl, rfl, rfl, by decide +kernel, rfl, by decide +kernel, by decide +kernel⟩
theorem ok_counts_to (T : Tx K mg) : C8.Cal P w K mg base 1 "counts_to" (sp_counts_to K) [] := by
  refine mkCal T.d_counts_to T.m_counts_to (fun fd F => ⟨[], .nil, F.bindsN fun _ _ _ _ _ _ us hl => match us, hl with | [_, _], _ => rfl⟩) sc_counts_to (fun vs H Q E h => ?_) (fun cdv A outer s H vs Q E hr h => ?_)
  · obtain ⟨I, a, b, rfl, _⟩ := h; rfl
  · obtain ⟨I, a, b, rfl, hI, ha, hb, q⟩ := h
    refine ⟨_, (pss_cons (ps_set (i := 2) sc_counts_to.nd rfl (Or.inl rfl) (pe_lst (pa_cons (pe_listRg rfl (by rfl) T.f_list (prg_1 (by rfl) T.f_range (pe_op op_add (pe_callB call_len_str (by rfl) T.f_len bb_len (pa_cons (pv 1) pa_nil)) pe_int))) pa_nil)))
      (pss_cons (ps_for PassesOwn.never rfl (pi_enumS (by rfl) T.f_enumerate (pv 0)) (pg_tupK (K := K) (n := 2) rfl rfl (pgs_cons (pg_name (i := 3) sc_counts_to.nd rfl (Or.inl rfl)) (pgs_cons (pg_name (i := 4) sc_counts_to.nd rfl (Or.inl rfl)) pgs_nil)))
      (pss_cons (ps_par (i := 5) (j := 6) rfl sc_counts_to.nd rfl rfl (by decide) rfl rfl (pa_cons (pe_lst (pa_cons (pe_op op_add (pv 3) pe_int) pa_nil)) (pa_cons (pe_ix (ix_listK (K := K) rfl) (pv 2) (pe_un un_neg pe_int) (fun _ _ => rfl)) pa_nil)) rfl)
      (pss_cons (ps_for PassesOwn.never rfl (pi_enumS (by rfl) T.f_enumerate (pv 1)) (pg_tupK (K := K) (n := 2) rfl rfl (pgs_cons (pg_name (i := 7) sc_counts_to.nd rfl (Or.inl rfl)) (pgs_cons (pg_name (i := 8) sc_counts_to.nd rfl (Or.inl rfl)) pgs_nil)))
      (pss_one (ps_expr (pe_bmK (K := K) rfl PySem.F.plainAttrs_list PySem.F.slot_list_append PySem.F.type_list_append mt_append (pv 5) (pa_cons (pe_callB (call_min3 rfl) (by rfl) T.f_min bb_min (pa_cons (pe_op op_add (pe_ix (ix_listK (K := K) rfl) (pv 6) (pe_op op_add (pv 7) pe_int) (fun _ _ => rfl)) pe_int) (pa_cons (pe_op op_add (pe_ix (ix_listK (K := K) rfl) (pv 5) (pv 7) (fun _ _ => rfl)) pe_int) (pa_cons (pe_op op_add (pe_ix (ix_listK (K := K) rfl) (pv 6) (pv 7) (fun _ _ => rfl)) (pe_callTy call_int1 (by rfl) T.f_int bb_int (pa_cons (pe_cmpR op_ne (pv 4) (pv 8) (nomark _)) pa_nil))) pa_nil)))) pa_nil)))))
      (pss_one (ps_expr (pe_bmK (K := K) rfl PySem.F.plainAttrs_list PySem.F.slot_list_append PySem.F.type_list_append mt_append (pv 2) (pa_cons (pv 5) pa_nil)))))))
      (pss_one (ps_ret (pv 2))))), ?_⟩
    have zb : (SX.S b).length ≤ sizeLine := le_line (by rw [SX.S_len]; omega)
    refine ⟨_, rfl, _, rfl, zb, _, _, rfl, rfl, _, rfl, RgOk.of_le (Int.le_refl _) (by rw [SX.S_len]; omega) (by decide) (by omega), fun r0 hr0 => ⟨by show 1 ≤ sizeLine; decide, fun R hR => ?_⟩⟩
    have e0 : rgV 0 ((fun i j : Int => i + j) ((SX.S b).length : Int) 1) = nV (crow a b 0) := by
      unfold rgV nV
      refine List.ext_getElem? fun i => ?_
      rw [List.getElem?_map, List.getElem?_map]
      have hn : ((fun i j : Int => i + j) ((SX.S b).length : Int) 1 - 0).toNat = b.length + 1 := by rw [SX.S_len]; show ((b.length : Int) + 1 - 0).toNat = _; omega
      rw [hn]
      by_cases h : i < b.length + 1
      · have h2 : (crow a b 0)[i]? = some i := by
          have := sgn_at (t := crow a b 0) (e := i) (by rw [crow_len]; exact h)
          rw [this]
          exact congrArg some (cst_0 a b (by omega))
        rw [List.getElem?_range h, h2]
        show some (V.int (0 + (i : Int))) = some (V.int (i : Int))
        rw [Int.zero_add]
      · rw [List.getElem?_eq_none (by simp; omega), List.getElem?_eq_none (by rw [crow_len]; omega)]
        rfl
    have hr0R : R ≠ r0 := fun e => by rw [e, upd_same] at hR; cases hR
    have hRH : H R = none := by rw [upd_ne hr0R] at hR; exact hR
    have a1 := ((Adv.refl hI).new (o := .lst (rgV 0 ((fun i j : Int => i + j) ((SX.S b).length : Int) 1))) hr0).alloc (o := .lst [.ref r0]) hR
    have hd0 : DpAll K (upd I r0 (.lst (rgV 0 ((fun i j : Int => i + j) ((SX.S b).length : Int) 1)))) [.ref r0] ((List.range (0 + 1)).map fun i => .list (nD (crow a b i))) := .cons (nd_dp (.inl (.inl (by rw [upd_same, e0])))) .nil
    refine ⟨_, rfl, SX.S a, rfl, for_it (w_enumS (z := SX.S a)) (fun i σ H' => (∃ z3 z4 z5 z6 z7 z8, σ = [some (tx a), some (tx b), some (.ref R), z3, z4, z5, z6, z7, z8]) ∧ ∃ I1 ys, Adv I H I1 H' ∧ I1 R = none ∧ H' R = some (.lst ys) ∧ DpAll K I1 ys ((List.range (i + 1)).map fun i => .list (nD (crow a b i))))
      ⟨⟨_, _, _, _, _, _, rfl⟩, _, _, a1, by rw [upd_ne hr0R]; exact hI.free hRH, upd_same, hd0⟩ (fun _ _ _ _ _ => trivial) ?_ ?_⟩
    · rintro i x σ H1 _ hi ⟨⟨z3, z4, z5, z6, z7, z8, rfl⟩, I1, ys, a1, hR1, hR2, hys⟩ ⟨Tp, c0, rfl, hTp, rfl, hc0⟩
      have hc0' : a[i]? = some c0 := by simpa using hc0
      have hil : i < a.length := (List.getElem?_eq_some_iff.mp hc0').1
      have hg : a.getD i 0 = c0 := by rw [List.getD_eq_getElem?_getD, hc0'] <;> rfl
      have sT : Same H1 (upd H1 Tp (.tup [.int (i : Int), .str ⟨#[c0]⟩])) := same_new hTp
      have a2 := a1.grow sT
      have hl := hys
      rw [List.range_succ, List.map_append] at hl
      obtain ⟨ys', x, rfl, _, hx⟩ := dp_snoc (d := .list (nD (crow a b i))) hl
      obtain ⟨ab, rfl, hab⟩ := nd_at hx
      have hR3 := sT R _ hR2
      refine ⟨Tp, [_, _], rfl, .inl (.inl upd_same), rfl, _, _, rfl, _, _, rfl, rfl, ?_⟩
      refine ⟨_, rfl, _, _, rfl, rfl, by show 1 ≤ sizeLine; decide, fun rw' hrw => ?_⟩
      have hRw : R ≠ rw' := fun e => by rw [← e, hR3] at hrw; cases hrw
      have hw0 := a2.free0 hrw
      have hw1 := a2.free hrw
      have a3 := a2.alloc (o := .lst [.int ((i : Int) + 1)]) hrw
      refine ⟨_, rfl, 1, rfl, R, _, (-1 : Int), _, rfl, rfl, .inl (.inl (by rw [upd_ne hRw]; exact hR3)), atI_last _ _, _, _, rfl, ?_⟩
      have hlen := crow_len a b (i + 1)
      have hlen0 := crow_len a b i
      refine ⟨_, rfl, SX.S b, rfl, for_it (w_enumS (z := SX.S b)) (fun j σ H' => (∃ z7 z8, σ = [some (tx a), some (tx b), some (.ref R), some (.int (i : Int)), some (.str ⟨#[c0]⟩), some (.ref rw'), some (.ref ab), z7, z8]) ∧ ∃ I2, Adv I H I2 H' ∧ I2 R = none ∧ H' R = some (.lst (ys' ++ [.ref ab])) ∧ DpAll K I2 (ys' ++ [.ref ab]) ((List.range (i + 1)).map fun i => .list (nD (crow a b i))) ∧ I2 rw' = none ∧ H' rw' = some (.lst (nV ((crow a b (i + 1)).take (j + 1)))) ∧ SqL K I2 ab (nV (crow a b i)))
        ⟨⟨_, _, rfl⟩, I1, a3, hR1, by rw [upd_ne hRw]; exact hR3, hys, hw1, ?_, hab⟩ (fun _ _ _ _ _ => trivial) ?_ ?_⟩
      · rw [upd_same, take_g (by omega), show g (crow a b (i + 1)) 0 = i + 1 from cst_s0 a b (i + 1)]
        rfl
      · rintro j x σ H2 _ hj ⟨⟨z7, z8, rfl⟩, I2, b2, hS1, hS2, hys2, hv1, hv2, hab2⟩ ⟨Tq, d0, rfl, hTq, rfl, hd0'⟩
        have hd1 : b[j]? = some d0 := by simpa using hd0'
        have hjl : j < b.length := (List.getElem?_eq_some_iff.mp hd1).1
        have hg2 : b.getD j 0 = d0 := by rw [List.getD_eq_getElem?_getD, hd1] <;> rfl
        have sQ : Same H2 (upd H2 Tq (.tup [.int (j : Int), .str ⟨#[d0]⟩])) := same_new hTq
        have b3 := b2.grow sQ
        have hab3 := sql_mono b3.ih hab2
        have hv3 := sQ rw' _ hv2
        have htk : (nV ((crow a b (i + 1)).take (j + 1)))[j]? = some (.int ((cst a b (i + 1) j : Nat) : Int)) := by
          rw [nV, List.getElem?_map, List.getElem?_take_of_lt (by omega), sgn_at (by omega)] <;> rfl
        refine ⟨Tq, [_, _], rfl, .inl (.inl upd_same), rfl, _, _, rfl, _, _, rfl, rfl, ?_⟩
        refine ⟨_, rfl, .inl ⟨rfl, _, .inl (.inl hv3)⟩, _, rfl, _, rfl, _, _, rfl, rfl, ab, _, _, _, rfl, rfl, hab3, atI_nat (j := j + 1) (nV_get (by omega)), _, _, rfl, rfl, _, rfl, _, rfl, rw', _, _, _, rfl, rfl, .inl (.inl hv3), atI_nat htk, _, _, rfl, rfl, _, rfl, _, rfl, ab, _, _, _, rfl, rfl, hab3, atI_nat (nV_get (by omega)), _, rfl, _, rfl, rfl, .inr ⟨_, rfl, _, _, rfl, rfl, _, _, _, rfl, ?_⟩⟩
        rw [ne_int, min3_eq]
        refine ⟨rw', _, _, rfl, rfl, hv3, lt_line (by rw [List.length_map, List.length_take]; omega), ⟨_, _, rfl⟩, I2, b3.mut hw0 hv1, hS1, by rw [upd_ne hRw]; exact sQ R _ hS2, hys2, hv1, ?_, hab2⟩
        rw [upd_same, take_g (L := crow a b (i + 1)) (j := j + 1) (by omega), show g (crow a b (i + 1)) (j + 1) = _ from cst_ss a b hjl, hg, hg2, show ∀ a b : List Nat, nV (a ++ b) = nV a ++ nV b from fun a b => List.map_append ..]
        rfl
      · rintro σ H2 ⟨⟨z7, z8, rfl⟩, I2, b2, hS1, hS2, hys2, hv1, hv2, hab2⟩
        rw [show (SX.S b).cps.size = b.length from SX.S_len b, List.take_of_length_le (by omega)] at hv2
        have b3 := b2.freeze hv2 hw0 hv1
        have hI3 : Same I2 (upd I2 rw' (.lst (nV (crow a b (i + 1))))) := same_new hv1
        refine ⟨_, rfl, .inl ⟨rfl, _, .inl (.inl hS2)⟩, _, rfl, R, _, _, rfl, rfl, hS2, lt_line (by rw [hys2.length, List.length_map, List.length_range]; omega), ⟨_, _, _, _, _, _, rfl⟩, _, _, b3.mut hRH (by rw [upd_ne hRw]; exact hS1), by rw [upd_ne hRw]; exact hS1, upd_same, ?_⟩
        rw [List.range_succ (n := i + 1), List.map_append]
        exact (hys2.mono hI3).app (.cons (nd_dp (.inl (.inl upd_same))) .nil)
    · rintro σ H1 ⟨⟨z3, z4, z5, z6, z7, z8, rfl⟩, I1, ys, a1, hR1, hR2, hys⟩
      rw [show (SX.S a).cps.size = a.length from SX.S_len a] at hys
      have a2 := a1.freeze hR2 hRH hR1
      exact ⟨_, rfl, q R _ _ a2 (.lst (.inl (.inl upd_same)) (hys.mono (same_new hR1)))⟩
theorem EdAts.app {H : Hp} {vs us : List V} {es fs : List Ed} (h : EdAts H vs es) (h2 : EdAts H us fs) : EdAts H (vs ++ us) (es ++ fs) := by
  induction h with
  | nil => exact h2
  | cons a _ ih => exact .cons a ih
theorem EdAts.rev {H : Hp} {vs : List V} {es : List Ed} (h : EdAts H vs es) : EdAts H vs.reverse es.reverse := by
  induction h with
  | nil => exact .nil
  | cons a _ ih =>
    rw [List.reverse_cons, List.reverse_cons]
    exact ih.snoc a
def WInv (a b : T) (r F : Addr) (H : Hp) (m : Nat) (σ : L2.St) (H' : Hp) : Prop := (∃ (i j : Nat) (es : List Ed) (z6 : Option V) (us : List V), σ = [some (tx a), some (tx b), some (.ref r), some (.int (i : Int)), some (.int (j : Int)), some (.ref F), z6] ∧ i ≤ a.length ∧ j ≤ b.length ∧ i + j ≤ m ∧
  es ++ wrun a b m i j = wrun a b (a.length + b.length) a.length b.length ∧ es.length + m ≤ a.length + b.length ∧ H' F = some (.lst us) ∧ EdAts H' us es) ∧ Same H H'
theorem ts_mut {H H1 : Hp} {F : Addr} {us : List V} {o : HO} (h : H F = some (.lst us)) (s : Same H H1) : TS' H (upd H1 F o) := fun t xs e => by
  rw [upd_ne (fun z => by rw [z, h] at e; cases e)]
  exact s t _ e
def sp_way_along (K : PySem.W.Frag) : Sp := fun vs H Q _ => ∃ a b r, vs = [tx a, tx b, .ref r] ∧ Dp K H (.ref r) (ctD a b) ∧ a.length ≤ 300 ∧ b.length ≤ 300 ∧ ∀ p us H2, Same H H2 → H2 p = some (.tup us) → EdAts H2 us (wayE a b) → Q (.ref p) H2
abbrev N_way_along : List Str := ["one", "other", "rows", "at", "its", "found", "cost"]
abbrev sco_way_along : Scope := defScope s_way_along
theorem sc_way_along : FnScope N_way_along ["one", "other", "rows"] sco_way_along := ⟨rfl, rfl, rfl, by decide +kernel, rfl, by decide +kernel, by decide +kernel⟩
theorem ok_way_along (T : Tx K mg) : C8.Cal P w K mg base 1 "way_along" (sp_way_along K) [] := by
  refine mkCal T.d_way_along T.m_way_along (fun fd F => ⟨[], .nil, F.bindsN fun _ _ _ _ _ _ us hl => match us, hl with | [_, _, _], _ => rfl⟩) sc_way_along (fun vs H Q E h => ?_) (fun cdv A outer s H vs Q E hr h => ?_)
  · obtain ⟨a, b, r, rfl, _⟩ := h; rfl
  · obtain ⟨a, b, r, rfl, hr0, ha, hb, q⟩ := h
    refine ⟨_, (pss_cons (ps_par3 (i := 3) (j := 4) (l := 5) rfl sc_way_along.nd rfl rfl rfl (by decide) (by decide) (by decide) rfl rfl rfl (pa_cons (pe_callB call_len_str (by rfl) T.f_len bb_len (pa_cons (pv 0) pa_nil)) (pa_cons (pe_callB call_len_str (by rfl) T.f_len bb_len (pa_cons (pv 1) pa_nil)) (pa_cons (pe_lst pa_nil) pa_nil))) rfl)
      (pss_cons (ps_while PassesOwn.never (PW.pt (pw_or (pt_cmpR op_gt (pv 3) pe_int (nomark _)) (pw_or1 (pt_cmpR op_gt (pv 4) pe_int (nomark _))))) (pss_cons (ps_set (i := 6) sc_way_along.nd rfl (Or.inl rfl) (pe_ix (ix_listK (K := K) rfl) (pe_ix (ix_listK (K := K) rfl) (pv 2) (pv 3) (fun _ _ => rfl)) (pv 4) (fun _ _ => rfl)))
      (pss_one (ps_if (PW.pt (pw_and (pt_cmpR op_gt (pv 3) pe_int (nomark _)) (pw_and (pt_cmpR op_gt (pv 4) pe_int (nomark _)) (pw_and1 (pt_cmpR op_eq (pv 6) (pe_op op_add (pe_ix (ix_listK (K := K) rfl) (pe_ix (ix_listK (K := K) rfl) (pv 2) (pe_op op_sub (pv 3) pe_int) (fun _ _ => rfl)) (pe_op op_sub (pv 4) pe_int) (fun _ _ => rfl)) (pe_callTy call_int1 (by rfl) T.f_int bb_int (pa_cons (pe_cmpR op_ne (pe_ix ix_str (pv 0) (pe_op op_sub (pv 3) pe_int) (fun _ _ => rfl)) (pe_ix ix_str (pv 1) (pe_op op_sub (pv 4) pe_int) (fun _ _ => rfl)) (nomark _)) pa_nil))) (nomark _)))))) (pss_cons (ps_par (i := 3) (j := 4) rfl sc_way_along.nd rfl rfl (by decide) rfl rfl (pa_cons (pe_op op_sub (pv 3) pe_int) (pa_cons (pe_op op_sub (pv 4) pe_int) pa_nil)) rfl)
      (pss_one (ps_if (pt_cmpR op_ne (pe_ix ix_str (pv 0) (pv 3) (fun _ _ => rfl)) (pe_ix ix_str (pv 1) (pv 4) (fun _ _ => rfl)) (nomark _)) (pss_one (ps_expr (pe_bmK (K := K) rfl PySem.F.plainAttrs_list PySem.F.slot_list_append PySem.F.type_list_append mt_append (pv 5) (pa_cons (pe_tup (pa_cons (C8.pe_gc (by rfl) T.g_CHANGED) (pa_cons (pv 4) (pa_cons (pe_ix ix_str (pv 1) (pv 4) (fun _ _ => rfl)) pa_nil)))) pa_nil)))) pss_nil))) (pss_one (ps_if (PW.pt (pw_and (pt_cmpR op_gt (pv 4) pe_int (nomark _)) (pw_and1 (pt_cmpR op_eq (pv 6) (pe_op op_add (pe_ix (ix_listK (K := K) rfl) (pe_ix (ix_listK (K := K) rfl) (pv 2) (pv 3) (fun _ _ => rfl)) (pe_op op_sub (pv 4) pe_int) (fun _ _ => rfl)) pe_int) (nomark _))))) (pss_cons (ps_set (i := 4) sc_way_along.nd rfl (Or.inl rfl) (pe_op op_sub (pv 4) pe_int))
      (pss_one (ps_expr (pe_bmK (K := K) rfl PySem.F.plainAttrs_list PySem.F.slot_list_append PySem.F.type_list_append mt_append (pv 5) (pa_cons (pe_tup (pa_cons (C8.pe_gc (by rfl) T.g_PUT) (pa_cons (pv 4) (pa_cons (pe_ix ix_str (pv 1) (pv 4) (fun _ _ => rfl)) pa_nil)))) pa_nil))))) (pss_cons (ps_set (i := 3) sc_way_along.nd rfl (Or.inl rfl) (pe_op op_sub (pv 3) pe_int))
      (pss_one (ps_expr (pe_bmK (K := K) rfl PySem.F.plainAttrs_list PySem.F.slot_list_append PySem.F.type_list_append mt_append (pv 5) (pa_cons (pe_tup (pa_cons (C8.pe_gc (by rfl) T.g_LOST) (pa_cons (pv 4) pa_nil))) pa_nil)))))))))))
      (pss_one (ps_ret (pe_callTy (call_tuple_ofK (K := K) rfl) (by rfl) T.f_tuple bb_tuple (pa_cons (pe_revL (pv 5)) pa_nil)))))), ?_⟩
    have za : (SX.S a).length ≤ sizeLine := le_line (by rw [SX.S_len]; omega)
    have zb : (SX.S b).length ≤ sizeLine := le_line (by rw [SX.S_len]; omega)
    obtain ⟨_, rows, er, hrl, hrows⟩ := dp_lst hr0
    cases er
    have row_at : ∀ i, i ≤ a.length → ∃ ai, rows[i]? = some (.ref ai) ∧ SqL K H ai (nV (crow a b i)) := fun i hi => by
      obtain ⟨x, hx, hd⟩ := rng_dp (α := Nat) hrows (show i < a.length + 1 by omega)
      obtain ⟨ai, rfl, h⟩ := nd_at hd
      exact ⟨ai, hx, h⟩
    have cl := crow_len a b
    refine ⟨_, rfl, _, rfl, za, _, rfl, _, rfl, zb, by show 0 ≤ sizeLine; decide, fun F hF => ⟨_, _, _, rfl, ?_⟩⟩
    refine ⟨WInv a b r F H, ⟨a.length + b.length, ⟨a.length, b.length, [], _, [], by rw [SX.S_len, SX.S_len]; rfl, Nat.le_refl _, Nat.le_refl _, Nat.le_refl _, rfl, by simp, upd_same, .nil⟩, same_new hF⟩, ?_⟩
    rintro μ σ H1 ⟨⟨i, j, es, z6, us, rfl, hi, hj, hij, hw, hel, hF1, hes⟩, s1⟩
    have hus : us.length ≤ 600 := by rw [hes.len]; omega
    -- one more edit, the names set
    have push : ∀ (m i' j' : Nat) (e : Ed) (z : Option V), μ = m + 1 → i' ≤ a.length → j' ≤ b.length → i' + j' ≤ m → (es ++ [e]) ++ wrun a b m i' j' = wrun a b (a.length + b.length) a.length b.length → ∀ t H2, H1 t = none → H2 = upd H1 t (.tup (edV e)) →
        WInv a b r F H m [some (tx a), some (tx b), some (.ref r), some (.int (i' : Int)), some (.int (j' : Int)), some (.ref F), z] (upd H2 F (.lst (us ++ [.ref t]))) := fun m i' j' e z hm h1 h2 h3 h4 t H2 ht eH => by
      subst eH
      have hFt : F ≠ t := fun q => by rw [← q, hF1] at ht; cases ht
      have st : Same H1 (upd H1 t (.tup (edV e))) := same_new ht
      have ts := ts_mut (o := .lst (us ++ [.ref t])) hF1 st
      refine ⟨⟨i', j', es ++ [e], z, us ++ [.ref t], rfl, h1, h2, h3, h4, by rw [List.length_append]; simp; omega, upd_same, (hes.ts ts).snoc ?_⟩, (s1.trans st).mut hF⟩
      rw [upd_ne hFt.symm]
      exact upd_same
    have sub1 : ∀ n : Nat, (fun i j : Int => V.int (i - j)) ((n + 1 : Nat) : Int) 1 = V.int (n : Int) := fun n => congrArg V.int (by omega)
    have sub2 : ∀ n : Nat, ((n + 1 : Nat) : Int) - 1 = (n : Int) := fun n => by omega
    have dI : ∀ x y : Nat, decide (V.int (x : Int) = V.int (y : Int)) = decide (x = y) := fun x y => by
      by_cases h : x = y
      · rw [decide_eq_true h, h]; exact decide_eq_true rfl
      · rw [decide_eq_false h]; exact decide_eq_false fun z => h (by injection z with z; omega)
    have ad1 : ∀ x y : Nat, (fun i j : Int => V.int (i + j)) (x : Int) (y : Int) = V.int ((x + y : Nat) : Int) := fun x y => rfl
    by_cases hi0 : 0 < i
    · obtain ⟨i, rfl⟩ : ∃ i', i = i' + 1 := ⟨i - 1, by omega⟩
      obtain ⟨m, rfl⟩ : ∃ m, μ = m + 1 := ⟨μ - 1, by omega⟩
      have hws : wrun a b (m + 1) (i + 1) j = (wstep a b (i + 1) j).2.2 ++ wrun a b m (wstep a b (i + 1) j).1 (wstep a b (i + 1) j).2.1 := if_neg (by omega)
      rw [hws] at hw
      obtain ⟨a1, ha1, ha1'⟩ := row_at (i + 1) hi
      obtain ⟨a0, ha0, ha0'⟩ := row_at i (by omega)
      have sa := sgn_at (t := a) (e := i) (by omega)
      refine ⟨_, rfl, _, _, rfl, rfl, true, congrArg V.bl (decide_eq_true (by omega)), iteT (iteT ⟨WInv a b r F H m, fun σ' H' h => ⟨m, by omega, h⟩, ?_⟩)⟩
      refine ⟨_, rfl, _, rfl, r, rows, _, _, rfl, rfl, sql_mono s1 hrl, atI_nat ha1, _, rfl, a1, _, _, _, rfl, rfl, sql_mono s1 ha1', atI_nat (nV_get (by rw [cl]; omega)), ?_⟩
      refine ⟨_, rfl, _, _, rfl, rfl, true, congrArg V.bl (decide_eq_true (by omega)), iteT ⟨_, rfl, _, _, rfl, rfl, decide ((0 : Int) < (j : Int)), rfl, ?_⟩⟩
      cases j with
      | zero =>
        have hst : wstep a b (i + 1) 0 = (i, 0, [.lost 0]) := by
          unfold wstep
          rw [if_neg (by omega), if_neg (by omega)]
          rfl
        refine iteF (iteF ⟨_, rfl, _, _, rfl, rfl, false, rfl, iteF (iteF ?_)⟩)
        refine ⟨_, rfl, _, _, rfl, rfl, ?_⟩
        rw [sub1]
        refine ⟨_, rfl, .inl ⟨rfl, _, .inl (.inl hF1)⟩, _, rfl, by show 2 ≤ sizeLine; decide, fun t ht => ?_⟩
        have hFt : F ≠ t := fun q => by rw [← q, hF1] at ht; cases ht
        refine ⟨F, us, _, rfl, rfl, by rw [upd_ne hFt]; exact hF1, lt_line (by omega), ?_⟩
        rw [hst] at hw
        exact push m i 0 (.lost 0) _ rfl (by omega) hj (by omega) (by rw [List.append_assoc]; exact hw) t _ ht rfl
      | succ j =>
        rw [decide_eq_true (show (0 : Int) < ((j + 1 : Nat) : Int) by omega)]
        have sb := sgn_at (t := b) (e := j) (by omega)
        refine iteT ⟨_, rfl, _, rfl, _, rfl, _, _, rfl, rfl, r, rows, _, _, rfl, rfl, sql_mono s1 hrl, by rw [sub2]; exact atI_nat ha0, _, rfl, _, _, rfl, rfl, a0, _, _, _, rfl, rfl, sql_mono s1 ha0', by rw [sub2]; exact atI_nat (nV_get (by rw [cl]; omega)), _, rfl, _, rfl, _, _, rfl, rfl, _, _, a.getD i 0, rfl, rfl, za, by rw [sub2]; exact atI_nat sa, _, rfl, _, rfl, _, _, rfl, rfl, _, _, b.getD j 0, rfl, rfl, zb, by rw [sub2]; exact atI_nat sb, rfl, .inr ⟨_, rfl, _, _, rfl, rfl, rfl, _, rfl, ?_⟩⟩
        rw [ne_int, ad1, dI]
        by_cases h1 : cst a b (i + 1) (j + 1) = cst a b i j + neq (a.getD i 0) (b.getD j 0)
        · rw [decide_eq_true h1]
          refine iteT ⟨_, rfl, _, _, rfl, rfl, _, rfl, _, _, rfl, rfl, _, _, rfl, ?_⟩
          rw [sub1, sub1]
          refine ⟨_, rfl, _, rfl, _, _, a.getD i 0, rfl, rfl, za, atI_nat sa, _, rfl, _, rfl, _, _, b.getD j 0, rfl, rfl, zb, atI_nat sb, rfl, !decide (V.str ⟨#[a.getD i 0]⟩ = V.str ⟨#[b.getD j 0]⟩), rfl, ?_⟩
          by_cases h2 : a.getD i 0 = b.getD j 0
          · have hst : wstep a b (i + 1) (j + 1) = (i, j, []) := by
              unfold wstep
              rw [if_pos ⟨by omega, by omega, h1⟩]
              show (i, j, if a.getD i 0 = b.getD j 0 then _ else _) = _
              rw [if_pos h2]
            rw [show (!decide (V.str ⟨#[a.getD i 0]⟩ = V.str ⟨#[b.getD j 0]⟩)) = false by rw [h2, decide_eq_true rfl]; rfl]
            rw [hst] at hw
            exact iteF ⟨⟨i, j, es, _, us, rfl, by omega, by omega, by omega, hw, by omega, hF1, hes⟩, s1⟩
          · have hst : wstep a b (i + 1) (j + 1) = (i, j, [.chg j (b.getD j 0)]) := by
              unfold wstep
              rw [if_pos ⟨by omega, by omega, h1⟩]
              show (i, j, if a.getD i 0 = b.getD j 0 then _ else _) = _
              rw [if_neg h2]
              rfl
            rw [show (!decide (V.str ⟨#[a.getD i 0]⟩ = V.str ⟨#[b.getD j 0]⟩)) = true by rw [decide_eq_false (fun z => h2 (tx1_inj.mp z))]; rfl]
            refine iteT ⟨_, rfl, .inl ⟨rfl, _, .inl (.inl hF1)⟩, _, rfl, _, rfl, _, rfl, _, _, b.getD j 0, rfl, rfl, zb, atI_nat sb, by show 3 ≤ sizeLine; decide, fun t ht => ?_⟩
            have hFt : F ≠ t := fun q => by rw [← q, hF1] at ht; cases ht
            refine ⟨F, us, _, rfl, rfl, by rw [upd_ne hFt]; exact hF1, lt_line (by omega), ?_⟩
            rw [hst] at hw
            exact push m i j (.chg j (b.getD j 0)) _ rfl (by omega) (by omega) (by omega) (by rw [List.append_assoc]; exact hw) t _ ht rfl
        · rw [decide_eq_false h1]
          refine iteF ⟨_, rfl, _, _, rfl, rfl, true, congrArg V.bl (decide_eq_true (by omega)), iteT ⟨_, rfl, _, rfl, _, rfl, r, rows, _, _, rfl, rfl, sql_mono s1 hrl, atI_nat ha1, _, rfl, _, _, rfl, rfl, a1, _, _, _, rfl, rfl, sql_mono s1 ha1', by rw [sub2]; exact atI_nat (nV_get (by rw [cl]; omega)), _, _, rfl, rfl, rfl, _, rfl, ?_⟩⟩
          rw [show ((fun i j : Int => V.int (i + j)) ((cst a b (i + 1) j : Nat) : Int) 1) = V.int ((cst a b (i + 1) j + 1 : Nat) : Int) from rfl, dI]
          by_cases h2 : cst a b (i + 1) (j + 1) = cst a b (i + 1) j + 1
          · rw [decide_eq_true h2]
            have hst : wstep a b (i + 1) (j + 1) = (i + 1, j, [.put j (b.getD j 0)]) := by
              unfold wstep
              rw [if_neg (fun z => h1 z.2.2), if_pos ⟨by omega, h2⟩]
              rfl
            refine iteT ?_
            refine ⟨_, rfl, _, _, rfl, rfl, ?_⟩
            rw [sub1]
            refine ⟨_, rfl, .inl ⟨rfl, _, .inl (.inl hF1)⟩, _, rfl, _, rfl, _, rfl, _, _, b.getD j 0, rfl, rfl, zb, atI_nat sb, by show 3 ≤ sizeLine; decide, fun t ht => ?_⟩
            have hFt : F ≠ t := fun q => by rw [← q, hF1] at ht; cases ht
            refine ⟨F, us, _, rfl, rfl, by rw [upd_ne hFt]; exact hF1, lt_line (by omega), ?_⟩
            rw [hst] at hw
            exact push m (i + 1) j (.put j (b.getD j 0)) _ rfl (by omega) (by omega) (by omega) (by rw [List.append_assoc]; exact hw) t _ ht rfl
          · rw [decide_eq_false h2]
            have hst : wstep a b (i + 1) (j + 1) = (i, j + 1, [.lost (j + 1)]) := by
              unfold wstep
              rw [if_neg (fun z => h1 z.2.2), if_neg (fun z => h2 z.2)]
              rfl
            refine iteF ?_
            refine ⟨_, rfl, _, _, rfl, rfl, ?_⟩
            rw [sub1]
            refine ⟨_, rfl, .inl ⟨rfl, _, .inl (.inl hF1)⟩, _, rfl, by show 2 ≤ sizeLine; decide, fun t ht => ?_⟩
            have hFt : F ≠ t := fun q => by rw [← q, hF1] at ht; cases ht
            refine ⟨F, us, _, rfl, rfl, by rw [upd_ne hFt]; exact hF1, lt_line (by omega), ?_⟩
            rw [hst] at hw
            exact push m i (j + 1) (.lost (j + 1)) _ rfl (by omega) hj (by omega) (by rw [List.append_assoc]; exact hw) t _ ht rfl
    · obtain rfl : i = 0 := by omega
      refine ⟨_, rfl, _, _, rfl, rfl, false, rfl, iteF ⟨_, rfl, _, _, rfl, rfl, decide ((0 : Int) < (j : Int)), rfl, ?_⟩⟩
      by_cases hj0 : 0 < j
      · obtain ⟨j, rfl⟩ : ∃ j', j = j' + 1 := ⟨j - 1, by omega⟩
        obtain ⟨m, rfl⟩ : ∃ m, μ = m + 1 := ⟨μ - 1, by omega⟩
        have hws : wrun a b (m + 1) 0 (j + 1) = (wstep a b 0 (j + 1)).2.2 ++ wrun a b m (wstep a b 0 (j + 1)).1 (wstep a b 0 (j + 1)).2.1 := if_neg (by omega)
        rw [hws] at hw
        obtain ⟨a0, ha0, ha0'⟩ := row_at 0 (by omega)
        have sb := sgn_at (t := b) (e := j) (by omega)
        rw [decide_eq_true (show (0 : Int) < ((j + 1 : Nat) : Int) by omega)]
        refine iteT ⟨WInv a b r F H m, fun σ' H' h => ⟨m, by omega, h⟩, ?_⟩
        refine ⟨_, rfl, _, rfl, r, rows, _, _, rfl, rfl, sql_mono s1 hrl, atI_nat ha0, _, rfl, a0, _, _, _, rfl, rfl, sql_mono s1 ha0', atI_nat (nV_get (by rw [cl]; omega)), ?_⟩
        refine ⟨_, rfl, _, _, rfl, rfl, false, rfl, iteF (iteF ⟨_, rfl, _, _, rfl, rfl, true, congrArg V.bl (decide_eq_true (by omega)), iteT ⟨_, rfl, _, rfl, _, rfl, r, rows, _, _, rfl, rfl, sql_mono s1 hrl, atI_nat ha0, _, rfl, _, _, rfl, rfl, a0, _, _, _, rfl, rfl, sql_mono s1 ha0', by rw [sub2]; exact atI_nat (nV_get (by rw [cl]; omega)), _, _, rfl, rfl, rfl, _, rfl, ?_⟩⟩)⟩
        rw [show ((fun i j : Int => V.int (i + j)) ((cst a b 0 j : Nat) : Int) 1) = V.int ((cst a b 0 j + 1 : Nat) : Int) from rfl, dI]
        have h2 : cst a b 0 (j + 1) = cst a b 0 j + 1 := by rw [cst_0 a b hj, cst_0 a b (by omega)]
        rw [decide_eq_true h2]
        have hst : wstep a b 0 (j + 1) = (0, j, [.put j (b.getD j 0)]) := by
          unfold wstep
          rw [if_neg (fun z => absurd z.1 (by omega)), if_pos ⟨by omega, h2⟩]
          rfl
        refine iteT ?_
        refine ⟨_, rfl, _, _, rfl, rfl, ?_⟩
        rw [sub1]
        refine ⟨_, rfl, .inl ⟨rfl, _, .inl (.inl hF1)⟩, _, rfl, _, rfl, _, rfl, _, _, b.getD j 0, rfl, rfl, zb, atI_nat sb, by show 3 ≤ sizeLine; decide, fun t ht => ?_⟩
        have hFt : F ≠ t := fun q => by rw [← q, hF1] at ht; cases ht
        refine ⟨F, us, _, rfl, rfl, by rw [upd_ne hFt]; exact hF1, lt_line (by omega), ?_⟩
        rw [hst] at hw
        exact push m 0 j (.put j (b.getD j 0)) _ rfl (by omega) (by omega) (by omega) (by rw [List.append_assoc]; exact hw) t _ ht rfl
      · obtain rfl : j = 0 := by omega
        have hw0 : wrun a b μ 0 0 = [] := by
          cases μ with
          | zero => rfl
          | succ m => exact if_pos ⟨rfl, rfl⟩
        rw [hw0, List.append_nil] at hw
        refine iteF ⟨_, rfl, F, us, rfl, .inl (.inl hF1), fun p hp => ⟨p, _, rfl, .inl ⟨.inl (.inl upd_same), fun p2 hp2 => ?_⟩⟩⟩
        have sp := (same_new (o := .lst us.reverse) hp).trans (same_new (o := .tup us.reverse) hp2)
        refine q p2 us.reverse _ (s1.trans sp) upd_same ?_
        unfold wayE
        rw [← hw]
        exact (hes.ts fun t xs e => sp t _ e).rev
end
end K57
set_option Elab.async false
set_option linter.all false
set_option maxRecDepth 100000
set_option maxHeartbeats 4000000
namespace K57
open PySem PySem.Spec PyProof.Rows L2
mutual
def fxd : PyData → PyData
  | .list xs => .tuple (fxdAll xs)
  | .tuple xs => .tuple (fxdAll xs)
  | d => d
def fxdAll : List PyData → List PyData
  | [] => []
  | x :: xs => fxd x :: fxdAll xs
end
theorem fxdAll_map : ∀ xs : List PyData, fxdAll xs = xs.map fxd
  | [] => rfl
  | x :: xs => by
    unfold fxdAll
    rw [fxdAll_map xs]
    rfl
mutual
/-- how much there is of it -/
def szD : PyData → Nat
  | .list xs => szAll xs + 1
  | .tuple xs => szAll xs + 1
  | _ => 1
def szAll : List PyData → Nat
  | [] => 0
  | x :: xs => szD x + szAll xs
end
theorem szD_pos (d : PyData) : 1 ≤ szD d := by
  cases d <;> simp [szD]
theorem szAll_len : ∀ xs : List PyData, xs.length ≤ szAll xs
  | [] => Nat.zero_le _
  | x :: xs => by
    have h1 := szAll_len xs
    have h2 := szD_pos x
    unfold szAll
    rw [List.length_cons]
    omega
theorem szAll_at : ∀ {xs : List PyData} {d : PyData}, d ∈ xs → szD d ≤ szAll xs
  | x :: xs, d, h => by
    unfold szAll
    rcases List.mem_cons.mp h with rfl | h
    · omega
    · have := szAll_at h
      omega
theorem depth_at : ∀ {xs : List PyData} {d : PyData}, d ∈ xs → d.depth ≤ PyData.depthAll xs
  | x :: xs, d, h => by
    simp only [PyData.depthAll]
    rcases List.mem_cons.mp h with rfl | h
    · omega
    · have := depth_at h
      omega
theorem k_f {K : PySem.W.Frag} {t : Value} (h1 : PySem.W.kitOne K t (.type "list") = some false) (h2 : PySem.W.kitOne K t (.type "tuple") = some false) : PySem.W.kitAny K t [.type "list", .type "tuple"] = some false :=
  kitAny_cons h1 (fun _ => kitAny_cons h2 (fun _ => rfl) fun h => Bool.noConfusion h) fun h => Bool.noConfusion h
theorem k_fi {K : PySem.W.Frag} : PySem.W.kitAny K (.type "int") [.type "list", .type "tuple"] = some false := k_f (kit_ty (by decide +kernel)) (kit_ty (by decide +kernel))
theorem k_fs {K : PySem.W.Frag} : PySem.W.kitAny K (.type "str") [.type "list", .type "tuple"] = some false := k_f (kit_ty (by decide +kernel)) (kit_ty (by decide +kernel))
theorem k_fb {K : PySem.W.Frag} : PySem.W.kitAny K (.type "bool") [.type "list", .type "tuple"] = some false := k_f (kit_ty (by decide +kernel)) (kit_ty (by decide +kernel))
theorem k_fn {K : PySem.W.Frag} : PySem.W.kitAny K (.type "NoneType") [.type "list", .type "tuple"] = some false := k_f (kit_ty (by decide +kernel)) (kit_ty (by decide +kernel))
section
variable {P : Program} {w : World} {K : PySem.W.Frag} {mg : Str → Option Value} {base : Heap}
def sp_fixed (K : PySem.W.Frag) (k : Nat) : Sp := fun vs H Q _ => ∃ I v d, vs = [v] ∧ Same I H ∧ Dp K I v d ∧ d.depth < k ∧ szD d < 100000 ∧ ∀ r I2 H2, Adv I H I2 H2 → Dp K I2 r (fxd d) → Q r H2
abbrev N_fixed : List Str := ["value", "part"]
abbrev sco_fixed : Scope := defScope s_fixed
theorem sc_fixed : FnScope N_fixed ["value"] sco_fixed := ⟨rfl, rfl, rfl, by decide +kernel, rfl, by decide +kernel, by decide +kernel⟩
theorem ok_fixed (T : Tx K mg) : ∀ k, C8.Cal P w K mg base (k + 1) "fixed" (sp_fixed K k) []
  | 0 => by
    refine mkCal T.d_fixed T.m_fixed (fun fd F => ⟨[], .nil, F.bindsN fun _ _ _ _ _ _ us hl => match us, hl with | [_], _ => rfl⟩) sc_fixed (fun vs H Q E h => ?_) (fun cdv A outer s H vs Q E hr h => ?_)
    · obtain ⟨_, _, _, rfl, _⟩ := h; rfl
    · obtain ⟨_, _, _, _, _, _, h, _⟩ := h
      exact absurd h (by omega)
  | k + 1 => by
    have c_fixed : C8.Cal P w K mg base (k + 1) "fixed" (sp_fixed K k) [] := ok_fixed T k
    refine mkCal T.d_fixed T.m_fixed (fun fd F => ⟨[], .nil, F.bindsN fun _ _ _ _ _ _ us hl => match us, hl with | [_], _ => rfl⟩) sc_fixed (fun vs H Q E h => ?_) (fun cdv A outer s H vs Q E hr h => ?_)
    · obtain ⟨_, _, _, rfl, _⟩ := h; rfl
    · obtain ⟨I, v, d, rfl, hI, hd, hdk, hsz, q⟩ := h
      refine ⟨_, (pss_cons (ps_if (pt_val (pe_callB call_isiT (by rfl) T.f_isinstance bb_isinstance (pa_cons (pv 0) (pa_cons (pe_tup (pa_cons (pe_bltn (by rfl) T.f_list bb_list (rt "list")) (pa_cons (pe_bltn (by rfl) T.f_tuple bb_tuple (rt "tuple")) pa_nil))) pa_nil)))) (pss_one (ps_ret (pe_callTy (call_tuple_ofK (K := K) rfl) (by rfl) T.f_tuple bb_tuple (pa_cons (pe_lc (own := [("part", 1)]) rfl sc_fixed.nd (pi_seq (pv 0)) (blkOk_by (own := [("part", 1)]) (N := N_fixed) (sc := sco_fixed) (by decide +kernel)) (fun _ _ _ _ _ => (pg_name (i := 1) sc_fixed.nd rfl (Or.inl rfl))) (fun _ _ _ _ _ => pts_nil) (fun _ _ _ _ _ => (C8.pe_c c_fixed hr (Nat.le_refl _) (by rfl) (pa_cons (pv 1) pa_nil)))) pa_nil)))) pss_nil)
      (pss_one (ps_ret (pv 0)))), ?_⟩
      refine ⟨_, rfl, by show 2 ≤ sizeLine; decide, fun p hp => ?_⟩
      have s1 : Same H (upd H p (.tup [.ty "list", .ty "tuple"])) := same_new hp
      have a1 := (Adv.refl hI).alloc (o := .tup [.ty "list", .ty "tuple"]) hp
      have seq : ∀ {a xs ds}, v = .ref a → Sq K I a xs → DpAll K I xs ds → fxd d = .tuple (fxdAll ds) → szAll ds < 100000 → PyData.depthAll ds < k →
          tCB (fun xs H Q => ∃ p ys, xs = [V.ref p] ∧ ((SqL K H p ys ∧ ∀ l, H l = none → Q (.ref l) (upd H l (.tup ys))) ∨ SqT K H p ys ∧ Q (.ref p) H)) (tCons (tLc (fun σ H R => iList K (tVar 0) σ H R ∨ iTup K (tVar 0) σ H R) (gName 1) tYes (tCall (sp_fixed K k) [] C8.E0 (tCons (tVar 1) tNil)) [1]) tNil) (L2.start N_fixed [v]) (upd H p (.tup [.ty "list", .ty "tuple"])) Q := by
        intro a xs ds e hS hx hf hz hdp
        subst e
        have hl : xs.length < 1000000 := by
          rw [hx.length]
          have := szAll_len ds
          omega
        have each : ∀ i x I3 H3, i < xs.length → Adv I (upd H p (.tup [.ty "list", .ty "tuple"])) I3 H3 → xs[i]? = some x → ∀ Qe : VK, (∀ y I2 H2, Adv I3 H3 I2 H2 → Dp K I2 y (fxd (ds.getD i .none)) → Qe y H2) → tCall (sp_fixed K k) [] C8.E0 (tCons (tVar 1) tNil) ((wipe (L2.start N_fixed [.ref a]) [1]).set 1 (some x)) H3 Qe := by
          intro i x I3 H3 hi a3 hx3 Qe qe
          obtain ⟨d3, hd3, hv3⟩ := hx.at hx3
          have hm : d3 ∈ ds := List.mem_of_getElem? hd3
          have e3 : ds.getD i .none = d3 := by rw [List.getD_eq_getElem?_getD, hd3] <;> rfl
          rw [e3] at qe
          refine ⟨_, rfl, I3, x, d3, rfl, a3.ih, hv3.mono a3.ii, Nat.lt_of_le_of_lt (depth_at hm) hdp, Nat.lt_of_le_of_lt (szAll_at hm) hz, qe⟩
        have e6 : given xs.length (fun _ => true) (fun i => fxd (ds.getD i .none)) = fxdAll ds := by
          rw [given_all, hx.length, map_getD, fxdAll_map]
        have last : ∀ D I2 H2, Adv I (upd H p (.tup [.ty "list", .ty "tuple"])) I2 H2 → Dp K I2 (.ref D) (.list (given xs.length (fun _ => true) fun i => fxd (ds.getD i .none))) → ∃ p ys, [V.ref D] = [V.ref p] ∧ ((SqL K H2 p ys ∧ ∀ l, H2 l = none → Q (.ref l) (upd H2 l (.tup ys))) ∨ SqT K H2 p ys ∧ Q (.ref p) H2) := by
          intro D I2 H2 a2 hD2
          obtain ⟨_, ys, e, hy, hys⟩ := dp_lst hD2
          cases e
          rw [e6] at hys
          refine ⟨D, ys, rfl, .inl ⟨sql_mono a2.ih hy, fun l hl => q _ _ _ ((a1.trans a2).new hl) ?_⟩⟩
          rw [hf]
          exact .tup (.inl (.inl upd_same)) (hys.mono (same_new (a2.free hl)))
        rcases hS with h | h
        · exact .inl ⟨_, rfl, a, rfl, ⟨_, sql_mono a1.ih h⟩, fun D hD => lc_data (K := K) (I1 := I) hD (w_list (xs := xs)) a1.ih (fun _ => true) (fun i => fxd (ds.getD i .none)) hl (fun H' s' => sql_mono (a1.ih.trans s') h) (fun x => rfl) (fun i x I H' _ _ _ Qt qt => yes_ok qt) (fun i x I3 H3 hi _ => each i x I3 H3 hi) (fun I2 H2 => last D I2 H2)⟩
        · exact .inr ⟨_, rfl, a, rfl, ⟨_, sqt_mono a1.ih h⟩, fun D hD => lc_data (K := K) (I1 := I) hD (w_tup (xs := xs)) a1.ih (fun _ => true) (fun i => fxd (ds.getD i .none)) hl (fun H' s' => sqt_mono (a1.ih.trans s') h) (fun x => rfl) (fun i x I H' _ _ _ Qt qt => yes_ok qt) (fun i x I3 H3 hi _ => each i x I3 H3 hi) (fun I2 H2 => last D I2 H2)⟩
      cases hd with
      | non => exact ⟨_, p, _, _, _, false, rfl, upd_same, .cons (.ty _) (.cons (.ty _) .nil), .base .non, k_fn, _, rfl, iteF ⟨_, rfl, q _ _ _ a1 .non⟩⟩
      | bl b => exact ⟨_, p, _, _, _, false, rfl, upd_same, .cons (.ty _) (.cons (.ty _) .nil), .base (.bl b), k_fb, _, rfl, iteF ⟨_, rfl, q _ _ _ a1 (.bl b)⟩⟩
      | int i => exact ⟨_, p, _, _, _, false, rfl, upd_same, .cons (.ty _) (.cons (.ty _) .nil), .base (.int i), k_fi, _, rfl, iteF ⟨_, rfl, q _ _ _ a1 (.int i)⟩⟩
      | str x => exact ⟨_, p, _, _, _, false, rfl, upd_same, .cons (.ty _) (.cons (.ty _) .nil), .base (.str x), k_fs, _, rfl, iteF ⟨_, rfl, q _ _ _ a1 (.str x)⟩⟩
      | @lst a xs ds h1 h2 =>
        simp only [szD] at hsz
        simp only [PyData.depth] at hdk
        obtain ⟨t, ht, hk⟩ := sq_isi (K := K) (Sq.mono a1.ih (.inl h1))
        exact ⟨_, p, _, t, _, true, rfl, upd_same, .cons (.ty _) (.cons (.ty _) .nil), ht, hk, _, rfl, iteT (seq rfl (.inl h1) h2 rfl (by omega) (by omega))⟩
      | @tup a xs ds h1 h2 =>
        simp only [szD] at hsz
        simp only [PyData.depth] at hdk
        obtain ⟨t, ht, hk⟩ := sq_isi (K := K) (Sq.mono a1.ih (.inr h1))
        exact ⟨_, p, _, t, _, true, rfl, upd_same, .cons (.ty _) (.cons (.ty _) .nil), ht, hk, _, rfl, iteT (seq rfl (.inr h1) h2 rfl (by omega) (by omega))⟩
end
end K57
set_option Elab.async false
set_option linter.all false
set_option maxRecDepth 100000
set_option maxHeartbeats 4000000
namespace K57
open PySem PySem.Spec PyProof.Rows L2
/-- x is an object of one's own, made behind H0 -/
structure Own (I0 H0 I H : Hp) (x : Addr) (o : HO) : Prop where
  z : H0 x = none
  a : Adv I0 H0 I H
  i : I x = none
  h : H x = some o
section
variable {I0 H0 I H I2 H2 : Hp} {x p : Addr} {o u : HO}
theorem Own.adv (w : Own I0 H0 I H x o) (b : Adv I H I2 H2) : Own I0 H0 I2 H2 x o := ⟨w.z, w.a.trans b, (b.own w.h w.i).2, (b.own w.h w.i).1⟩
theorem Own.put (w : Own I0 H0 I H x o) (o' : HO) : Own I0 H0 I (upd H x o') x o' := ⟨w.z, w.a.mut w.z w.i, w.i, upd_same⟩
theorem Own.new (w : Own I0 H0 I H x o) (hp : H p = none) : Own I0 H0 (upd I p u) (upd H p u) x o := w.adv ((Adv.refl w.a.ih).new hp)
theorem Own.alloc (w : Own I0 H0 I H x o) (hp : H p = none) : Own I0 H0 I (upd H p u) x o := w.adv ((Adv.refl w.a.ih).alloc hp)
end
section
variable {P : Program} {w : World} {K : PySem.W.Frag} {mg : Str → Option Value} {base : Heap}
def sp_Paper_in (K : PySem.W.Frag) : Sp := fun vs H Q _ => ∃ I0 H0 I x wd p C dx ds, vs = [.ref x, .str wd, .ref p] ∧ Own I0 H0 I H x (.ins C dx []) ∧ Cls K C ∧ NoAttr K C "word" ∧ NoAttr K C "parts" ∧ Dp K I (.ref p) (.tuple ds) ∧ (PyData.tuple ds).depth < 7 ∧ szD (.tuple ds) < 100000 ∧
  ∀ I2 H2 r, Own I0 H0 I2 H2 x (.ins C dx [("word", .str wd), ("parts", r)]) → Dp K I2 r (fxd (.tuple ds)) → Q .non H2
def sp_Paper (K : PySem.W.Frag) : Sp := fun vs H Q _ => ∃ I0 H0 I x wd rest C dx ds, vs = .ref x :: .str wd :: rest ∧ Own I0 H0 I H x (.ins C dx []) ∧ Cls K C ∧ NoAttr K C "word" ∧ NoAttr K C "parts" ∧ DpAll K I rest ds ∧ (PyData.tuple ds).depth < 7 ∧ szD (.tuple ds) < 100000 ∧
  ∀ I2 H2 r, Own I0 H0 I2 H2 x (.ins C dx [("word", .str wd), ("parts", r)]) → Dp K I2 r (fxd (.tuple ds)) → Q .non H2
abbrev N_Paper_init : List Str := ["self", "word", "parts"]
abbrev sco_Paper_init : Scope := defScope s_Paper_init
theorem sc_Paper_init : FnScope N_Paper_init ["self", "word", "parts"] sco_Paper_init := ⟨rfl, rfl, rfl, by decide +kernel, rfl, by decide +kernel, by decide +kernel⟩
theorem ok_Paper_init (T : Tx K mg) : FnR P w K mg base CX0 9 (He.ma K (He.ga K "Paper") "__init__") (sp_Paper K) := by
  have c_fixed := ok_fixed (P := P) (w := w) (base := base) T 7
  obtain ⟨fd, _, F⟩ := T.d_Paper_init
  obtain ⟨oc, od, dV, kV, doc, pm, an, cdv, ct, osl, rfl, lk, hcd, hD, _⟩ := F.ex
  obtain rfl : dV = .none := by
    rcases hD with ⟨_, h⟩ | ⟨e, _⟩
    · exact h
    · exact absurd rfl e
  have z := StX.fn_star (P := P) (w := w) (mg := mg) (base := base) (CX := CX0) (k := 8) (sp := sp_Paper_in K) (ps := ["self", "word"]) (pv := "parts") lk hcd sc_Paper_init StX.cxUp_none (StX.bind_star2 (B := fun l => bindArgs (PySem.W.fnOf D_Paper_init.name D_Paper_init.qual D_Paper_init.params D_Paper_init.body D_Paper_init.scope .none kV doc pm an cdv ct) ⟨l, []⟩) (fun a b => rfl) (fun a b r rs => rfl)) (fun A outer s H vs Q E hr h => by
    suffices g : ∃ t, PSs (cxOf CX0 P w K mg base N_Paper_init D_Paper_init.qual D_Paper_init.scope (He.fAd K D_Paper_init.at_) cdv A outer s H E).nox D_Paper_init.body t ∧ t { nx := fun _ H' => Q .non H', rt := Q } (start N_Paper_init vs) H by
      obtain ⟨t, a, b⟩ := g
      exact ⟨t, a.nox, b⟩
    obtain ⟨I0, H0, I, x, wd, p, C, dx, ds, rfl, ow, hC, n1, n2, hp, hd, hz, q⟩ := h
    refine ⟨_, (pss_cons (ps_fld (pv 0) (pv 1) rfl)
      (pss_one (ps_fld (pv 0) (C8.pe_c c_fixed hr (by decide) (by rfl) (pa_cons (pv 2) pa_nil)) rfl))), ?_⟩
    refine ⟨_, rfl, _, rfl, x, _, dx, _, rfl, ow.h, hC, n1, (by show 0 < 1000; decide), ?_⟩
    have o1 := ow.put (.ins C dx [("word", .str wd)])
    refine ⟨_, rfl, I, .ref p, .tuple ds, rfl, o1.a.ih, hp, hd, hz, fun r I2 H2 a2 hr2 => ?_⟩
    have o2 := o1.adv a2
    refine ⟨_, rfl, x, _, dx, _, rfl, o2.h, hC, n2, (by show 1 < 1000; decide), ?_⟩
    exact q I2 _ r (o2.put _) hr2)
  refine z.imp fun vs H Q E h => ?_
  obtain ⟨I0, H0, I, x, wd, rest, C, dx, ds, rfl, ow, hC, n1, n2, hp, hd, hz, q⟩ := h
  refine ⟨[.ref x, .str wd], rest, rfl, rfl, le_line ?_, fun p hp0 => ⟨I0, H0, upd I p (.tup rest), x, wd, p, C, dx, ds, rfl, ow.new hp0, hC, n1, n2, .tup (.inl (.inl upd_same)) (hp.mono (same_new (ow.a.free hp0))), hd, hz, q⟩⟩
  rw [hp.length]
  simp only [szD] at hz
  have := szAll_len ds
  omega
abbrev N_Paper_bool : List Str := ["self"]
abbrev sco_Paper_bool : Scope := defScope s_Paper_bool
theorem sc_Paper_bool : FnScope N_Paper_bool ["self"] sco_Paper_bool := ⟨rfl, rfl, rfl, by decide +kernel, rfl, by decide +kernel, by decide +kernel⟩
theorem ok_Paper_bool (T : Tx K mg) : ∃ fd, FnOk P w K mg base CX0 1 (He.ma K (He.ga K "Paper") "__bool__") fd ["self"] (spB true) ∧ Binds K fd ["self"] [] := by
  obtain ⟨fd, _, F⟩ := T.d_Paper_bool
  refine ⟨fd, mkFnOk F sc_Paper_bool (fun vs H Q E h => ?_) (fun cdv A outer s H vs Q E hr h => ?_), F.bindsN fun _ _ _ _ _ _ us hl => match us, hl with | [_], _ => rfl⟩
  · obtain ⟨a, rfl, _⟩ := h; rfl
  · obtain ⟨a, rfl, q⟩ := h
    exact ⟨_, (pss_one (ps_ret pe_bl)), q H (Same.refl H)⟩
abbrev N_Denial_bool : List Str := ["self"]
abbrev sco_Denial_bool : Scope := defScope s_Denial_bool
theorem sc_Denial_bool : FnScope N_Denial_bool ["self"] sco_Denial_bool := ⟨rfl, rfl, rfl, by decide +kernel, rfl, by decide +kernel, by decide +kernel⟩
theorem ok_Denial_bool (T : Tx K mg) : ∃ fd, FnOk P w K mg base CX0 1 (He.ma K (He.ga K "Denial") "__bool__") fd ["self"] (spB false) ∧ Binds K fd ["self"] [] := by
  obtain ⟨fd, _, F⟩ := T.d_Denial_bool
  refine ⟨fd, mkFnOk F sc_Denial_bool (fun vs H Q E h => ?_) (fun cdv A outer s H vs Q E hr h => ?_), F.bindsN fun _ _ _ _ _ _ us hl => match us, hl with | [_], _ => rfl⟩
  · obtain ⟨a, rfl, _⟩ := h; rfl
  · obtain ⟨a, rfl, q⟩ := h
    exact ⟨_, (pss_one (ps_ret pe_bl)), q H (Same.refl H)⟩
end
end K57
set_option Elab.async false
set_option linter.all false
set_option maxRecDepth 100000
set_option maxHeartbeats 4000000
namespace K57
open PySem PySem.Spec PyProof.Rows L2
section
variable {w : World} {K : PySem.W.Frag} {mg : Str → Option Value} {base : Heap}
/-- one part: Ways, Thick -/
def sp_one (K : PySem.W.Frag) (C : Str) (wd f : Str) : Sp := fun vs H Q _ => ∃ I0 H0 I x v d dx, vs = [.ref x, v] ∧ Own I0 H0 I H x (.ins (He.ga K C) dx []) ∧ Dp K I v d ∧ d.depth < 6 ∧ szD d < 90000 ∧
  ∀ I2 H2 r y, Own I0 H0 I2 H2 x (.ins (He.ga K C) dx [("word", .str wd), ("parts", r), (f, y)]) → Dp K I2 y (fxd d) → Q .non H2
theorem one_part {d : PyData} {K : PySem.W.Frag} {I : Hp} {r : V} (h : Dp K I r (fxd (.tuple [d]))) : ∃ p y, r = .ref p ∧ SqT K I p [y] ∧ Dp K I y (fxd d) := by
  obtain ⟨p, ys, rfl, h1, h2⟩ := dp_tup (ds := [fxd d]) h
  cases h2 with
  | cons a b => cases b with
    | nil => exact ⟨p, _, rfl, h1, a⟩
theorem two_parts {d e : PyData} {K : PySem.W.Frag} {I : Hp} {r : V} (h : Dp K I r (fxd (.tuple [d, e]))) : ∃ p y z, r = .ref p ∧ SqT K I p [y, z] ∧ Dp K I y (fxd d) ∧ Dp K I z (fxd e) := by
  obtain ⟨p, ys, rfl, h1, h2⟩ := dp_tup (ds := [fxd d, fxd e]) h
  cases h2 with
  | cons a b => cases b with
    | cons b c => cases c with
      | nil => exact ⟨p, _, _, rfl, h1, a, b⟩
theorem three_parts {d e f : PyData} {K : PySem.W.Frag} {I : Hp} {r : V} (h : Dp K I r (fxd (.tuple [d, e, f]))) : ∃ p y z u, r = .ref p ∧ SqT K I p [y, z, u] ∧ Dp K I y (fxd d) ∧ Dp K I z (fxd e) ∧ Dp K I u (fxd f) := by
  obtain ⟨p, ys, rfl, h1, h2⟩ := dp_tup (ds := [fxd d, fxd e, fxd f]) h
  cases h2 with
  | cons a b => cases b with
    | cons b c => cases c with
      | cons c d => cases d with
        | nil => exact ⟨p, _, _, _, rfl, h1, a, b, c⟩
theorem dep1 {d : PyData} (h : d.depth < 6) : (PyData.tuple [d]).depth < 7 := by
  simp only [PyData.depth, PyData.depthAll]; omega
theorem dep2 {d e : PyData} (h : d.depth < 6) (h2 : e.depth < 6) : (PyData.tuple [d, e]).depth < 7 := by
  simp only [PyData.depth, PyData.depthAll]; omega
theorem dep3 {d e f : PyData} (h : d.depth < 6) (h2 : e.depth < 6) (h3 : f.depth < 6) : (PyData.tuple [d, e, f]).depth < 7 := by
  simp only [PyData.depth, PyData.depthAll]; omega
theorem siz1 {d : PyData} (h : szD d < 90000) : szD (PyData.tuple [d]) < 100000 := by
  simp only [szD, szAll]; omega
theorem siz2 {d e : PyData} (h : szD d < 30000) (h2 : szD e < 30000) : szD (PyData.tuple [d, e]) < 100000 := by
  simp only [szD, szAll]; omega
theorem siz3 {d e f : PyData} (h : szD d < 30000) (h2 : szD e < 30000) (h3 : szD f < 30000) : szD (PyData.tuple [d, e, f]) < 100000 := by
  simp only [szD, szAll]; omega
theorem ns_Ways : NdefX.NScope ["self", "edits", "__class__"] ["self", "edits"] ["__class__"] (defScope s_Ways_init) := NdefX.nscope_by (by decide +kernel)
theorem ok_Ways_init (T : Tx K mg) : FnR prog w K mg base CX0 10 (He.ma K (He.ga K "Ways") "__init__") (sp_one K "Ways" "ways" "edits") := by
  obtain ⟨cc, cda, S⟩ := T.s_Ways
  have FP := ok_Paper_init (P := prog) (w := w) (base := base) T
  refine fnR_sup (k := 9) (j := 9) S rfl ns_Ways rfl rfl rfl rfl rfl rfl T.f_super (fun doc pm an ct us hl => match us, hl with | [_, _], _ => rfl) FP (Nat.le_refl _) (fun _ => rfl) (fun _ => rfl) _ (fun _ => rfl) (fun _ => rfl) (fun _ => rfl) (fun vs H Q E h => ?_) (fun A outer s H vs Q E hr h => ?_)
  · obtain ⟨_, _, _, _, _, _, _, rfl, _⟩ := h; rfl
  · obtain ⟨I0, H0, I, x, v, d, dx, rfl, ow, hv, hd, hz, q⟩ := h
    refine ⟨_, _, x, dx, [], [v], (pa_cons pe_str (pa_cons (pv 1) pa_nil)), (pss_one (ps_fld (pv 0) (pe_ix (ix_tupK (K := K) rfl) (pe_fldK (K := K) rfl (pv 0) rfl) pe_int (fun _ _ => rfl)) rfl)), rfl, ow.h, ?_⟩
    refine ⟨_, rfl, I0, H0, I, x, _, [v], _, dx, [d], rfl, ow, T.k_Ways, T.n_Ways_word, T.n_Ways_parts, .cons hv .nil, dep1 hd, siz1 hz, fun I2 H2 r ow2 hr2 => ?_⟩
    obtain ⟨p, y, rfl, hp, hy⟩ := one_part hr2
    exact ⟨_, rfl, x, _, dx, _, _, rfl, ow2.h, T.k_Ways, T.n_Ways_parts, rfl, p, _, 0, y, rfl, rfl, sqt_mono ow2.a.ih hp, rfl, _, rfl, x, _, dx, _, rfl, ow2.h, T.k_Ways, T.n_Ways_edits, (by show 2 < 1000; decide), q I2 _ _ y (ow2.put _) hy⟩
theorem ns_Thick : NdefX.NScope ["self", "price", "__class__"] ["self", "price"] ["__class__"] (defScope s_Thick_init) := NdefX.nscope_by (by decide +kernel)
theorem ok_Thick_init (T : Tx K mg) : FnR prog w K mg base CX0 10 (He.ma K (He.ga K "Thick") "__init__") (sp_one K "Thick" "thick" "price") := by
  obtain ⟨cc, cda, S⟩ := T.s_Thick
  have FP := ok_Paper_init (P := prog) (w := w) (base := base) T
  refine fnR_sup (k := 9) (j := 9) S rfl ns_Thick rfl rfl rfl rfl rfl rfl T.f_super (fun doc pm an ct us hl => match us, hl with | [_, _], _ => rfl) FP (Nat.le_refl _) (fun _ => rfl) (fun _ => rfl) _ (fun _ => rfl) (fun _ => rfl) (fun _ => rfl) (fun vs H Q E h => ?_) (fun A outer s H vs Q E hr h => ?_)
  · obtain ⟨_, _, _, _, _, _, _, rfl, _⟩ := h; rfl
  · obtain ⟨I0, H0, I, x, v, d, dx, rfl, ow, hv, hd, hz, q⟩ := h
    refine ⟨_, _, x, dx, [], [v], (pa_cons pe_str (pa_cons (pv 1) pa_nil)), (pss_one (ps_fld (pv 0) (pe_ix (ix_tupK (K := K) rfl) (pe_fldK (K := K) rfl (pv 0) rfl) pe_int (fun _ _ => rfl)) rfl)), rfl, ow.h, ?_⟩
    refine ⟨_, rfl, I0, H0, I, x, _, [v], _, dx, [d], rfl, ow, T.k_Thick, T.n_Thick_word, T.n_Thick_parts, .cons hv .nil, dep1 hd, siz1 hz, fun I2 H2 r ow2 hr2 => ?_⟩
    obtain ⟨p, y, rfl, hp, hy⟩ := one_part hr2
    exact ⟨_, rfl, x, _, dx, _, _, rfl, ow2.h, T.k_Thick, T.n_Thick_parts, rfl, p, _, 0, y, rfl, rfl, sqt_mono ow2.a.ih hp, rfl, _, rfl, x, _, dx, _, rfl, ow2.h, T.k_Thick, T.n_Thick_price, (by show 2 < 1000; decide), q I2 _ _ y (ow2.put _) hy⟩
def sp_Strange_init (K : PySem.W.Frag) : Sp := fun vs H Q _ => ∃ I0 H0 I x v1 v2 v3 d1 d2 d3 dx, vs = [.ref x, v1, v2, v3] ∧ Own I0 H0 I H x (.ins (He.ga K "Strange") dx []) ∧ Dp K I v1 d1 ∧ Dp K I v2 d2 ∧ Dp K I v3 d3 ∧ (d1.depth < 6 ∧ d2.depth < 6 ∧ d3.depth < 6) ∧ (szD d1 < 30000 ∧ szD d2 < 30000 ∧ szD d3 < 30000) ∧
  ∀ I2 H2 r y1 y2 y3, Own I0 H0 I2 H2 x (.ins (He.ga K "Strange") dx [("word", .str "strange"), ("parts", r), ("row", y1), ("edits", y2), ("made", y3)]) → Dp K I2 y1 (fxd d1) → Dp K I2 y2 (fxd d2) → Dp K I2 y3 (fxd d3) → Q .non H2
theorem ns_Strange : NdefX.NScope ["self", "row", "edits", "made", "__class__"] ["self", "row", "edits", "made"] ["__class__"] (defScope s_Strange_init) := NdefX.nscope_by (by decide +kernel)
theorem ok_Strange_init (T : Tx K mg) : FnR prog w K mg base CX0 10 (He.ma K (He.ga K "Strange") "__init__") (sp_Strange_init K) := by
  obtain ⟨cc, cda, S⟩ := T.s_Strange
  have FP := ok_Paper_init (P := prog) (w := w) (base := base) T
  refine fnR_sup (k := 9) (j := 9) S rfl ns_Strange rfl rfl rfl rfl rfl rfl T.f_super (fun doc pm an ct us hl => match us, hl with | [_, _, _, _], _ => rfl) FP (Nat.le_refl _) (fun _ => rfl) (fun _ => rfl) _ (fun _ => rfl) (fun _ => rfl) (fun _ => rfl) (fun vs H Q E h => ?_) (fun A outer s H vs Q E hr h => ?_)
  · obtain ⟨_, _, _, _, _, _, _, _, _, _, _, rfl, _⟩ := h; rfl
  · obtain ⟨I0, H0, I, x, v1, v2, v3, d1, d2, d3, dx, rfl, ow, hv1, hv2, hv3, ⟨hd1, hd2, hd3⟩, ⟨hz1, hz2, hz3⟩, q⟩ := h
    refine ⟨_, _, x, dx, [], [v1, v2, v3], (pa_cons pe_str (pa_cons (pv 1) (pa_cons (pv 2) (pa_cons (pv 3) pa_nil)))), (pss_one (ps_asg (pe_fldK (K := K) rfl (pv 0) rfl) (pg_tupK (K := K) (n := 3) rfl rfl (pgs_cons (pg_attr (K := K) rfl (pv 0)) (pgs_cons (pg_attr (K := K) rfl (pv 0)) (pgs_cons (pg_attr (K := K) rfl (pv 0)) pgs_nil)))))), rfl, ow.h, ?_⟩
    refine ⟨_, rfl, _, rfl, _, rfl, I0, H0, I, x, _, [v1, v2, v3], _, dx, [d1, d2, d3], rfl, ow, T.k_Strange, T.n_Strange_word, T.n_Strange_parts, .cons hv1 (.cons hv2 (.cons hv3 .nil)), dep3 hd1 hd2 hd3, siz3 hz1 hz2 hz3, fun I2 H2 r ow2 hr2 => ?_⟩
    obtain ⟨p, y1, y2, y3, rfl, hp, hy1, hy2, hy3⟩ := three_parts hr2
    refine ⟨_, rfl, x, _, dx, _, _, rfl, ow2.h, T.k_Strange, T.n_Strange_parts, rfl, p, _, rfl, sqt_mono ow2.a.ih hp, rfl, ?_⟩
    have o3 := ow2.put (.ins (He.ga K "Strange") dx [("word", .str "strange"), ("parts", .ref p), ("row", y1)])
    have o4 := o3.put (.ins (He.ga K "Strange") dx [("word", .str "strange"), ("parts", .ref p), ("row", y1), ("edits", y2)])
    have o5 := o4.put (.ins (He.ga K "Strange") dx [("word", .str "strange"), ("parts", .ref p), ("row", y1), ("edits", y2), ("made", y3)])
    refine ⟨_, _, rfl, ⟨_, rfl, x, _, dx, _, rfl, ow2.h, T.k_Strange, T.n_Strange_row, (by show 2 < 1000; decide), _, _, rfl, ⟨_, rfl, x, _, dx, _, rfl, o3.h, T.k_Strange, T.n_Strange_edits, (by show 3 < 1000; decide), _, _, rfl, ⟨_, rfl, x, _, dx, _, rfl, o4.h, T.k_Strange, T.n_Strange_made, (by show 4 < 1000; decide), ?_⟩⟩⟩⟩
    exact ⟨rfl, q I2 _ _ y1 y2 y3 o5 hy1 hy2 hy3⟩
def sp_Broken_init (K : PySem.W.Frag) : Sp := fun vs H Q _ => ∃ I0 H0 I x v1 v2 d1 d2 dx, vs = [.ref x, v1, v2] ∧ Own I0 H0 I H x (.ins (He.ga K "Broken") dx []) ∧ Dp K I v1 d1 ∧ Dp K I v2 d2 ∧ (d1.depth < 6 ∧ d2.depth < 6) ∧ (szD d1 < 30000 ∧ szD d2 < 30000) ∧
  ∀ I2 H2 r y1 y2, Own I0 H0 I2 H2 x (.ins (He.ga K "Broken") dx [("word", .str "broken"), ("parts", r), ("row", y1), ("edits", y2)]) → Dp K I2 y1 (fxd d1) → Dp K I2 y2 (fxd d2) → Q .non H2
theorem ns_Broken : NdefX.NScope ["self", "row", "edits", "__class__"] ["self", "row", "edits"] ["__class__"] (defScope s_Broken_init) := NdefX.nscope_by (by decide +kernel)
theorem ok_Broken_init (T : Tx K mg) : FnR prog w K mg base CX0 10 (He.ma K (He.ga K "Broken") "__init__") (sp_Broken_init K) := by
  obtain ⟨cc, cda, S⟩ := T.s_Broken
  have FP := ok_Paper_init (P := prog) (w := w) (base := base) T
  refine fnR_sup (k := 9) (j := 9) S rfl ns_Broken rfl rfl rfl rfl rfl rfl T.f_super (fun doc pm an ct us hl => match us, hl with | [_, _, _], _ => rfl) FP (Nat.le_refl _) (fun _ => rfl) (fun _ => rfl) _ (fun _ => rfl) (fun _ => rfl) (fun _ => rfl) (fun vs H Q E h => ?_) (fun A outer s H vs Q E hr h => ?_)
  · obtain ⟨_, _, _, _, _, _, _, _, _, rfl, _⟩ := h; rfl
  · obtain ⟨I0, H0, I, x, v1, v2, d1, d2, dx, rfl, ow, hv1, hv2, ⟨hd1, hd2⟩, ⟨hz1, hz2⟩, q⟩ := h
    refine ⟨_, _, x, dx, [], [v1, v2], (pa_cons pe_str (pa_cons (pv 1) (pa_cons (pv 2) pa_nil))), (pss_one (ps_asg (pe_fldK (K := K) rfl (pv 0) rfl) (pg_tupK (K := K) (n := 2) rfl rfl (pgs_cons (pg_attr (K := K) rfl (pv 0)) (pgs_cons (pg_attr (K := K) rfl (pv 0)) pgs_nil))))), rfl, ow.h, ?_⟩
    refine ⟨_, rfl, _, rfl, I0, H0, I, x, _, [v1, v2], _, dx, [d1, d2], rfl, ow, T.k_Broken, T.n_Broken_word, T.n_Broken_parts, .cons hv1 (.cons hv2 .nil), dep2 hd1 hd2, siz2 hz1 hz2, fun I2 H2 r ow2 hr2 => ?_⟩
    obtain ⟨p, y1, y2, rfl, hp, hy1, hy2⟩ := two_parts hr2
    refine ⟨_, rfl, x, _, dx, _, _, rfl, ow2.h, T.k_Broken, T.n_Broken_parts, rfl, p, _, rfl, sqt_mono ow2.a.ih hp, rfl, ?_⟩
    have o3 := ow2.put (.ins (He.ga K "Broken") dx [("word", .str "broken"), ("parts", .ref p), ("row", y1)])
    have o4 := o3.put (.ins (He.ga K "Broken") dx [("word", .str "broken"), ("parts", .ref p), ("row", y1), ("edits", y2)])
    refine ⟨_, _, rfl, ⟨_, rfl, x, _, dx, _, rfl, ow2.h, T.k_Broken, T.n_Broken_row, (by show 2 < 1000; decide), _, _, rfl, ⟨_, rfl, x, _, dx, _, rfl, o3.h, T.k_Broken, T.n_Broken_edits, (by show 3 < 1000; decide), ?_⟩⟩⟩
    exact ⟨rfl, q I2 _ _ y1 y2 o4 hy1 hy2⟩
end
end K57
set_option Elab.async false
set_option linter.all false
set_option maxRecDepth 100000
set_option maxHeartbeats 4000000
namespace K57
open PySem PySem.Spec PyProof.Rows L2
/-- from here on all is about this program -/
abbrev P : Program := prog
theorem wrun_len (a b : T) : ∀ f i j, (wrun a b f i j).length ≤ f
  | 0, _, _ => Nat.le_refl _
  | f + 1, i, j => by
    unfold wrun
    split
    · exact Nat.zero_le _
    · rw [List.length_append]
      have h1 := wrun_len a b f (wstep a b i j).1 (wstep a b i j).2.1
      have h2 : (wstep a b i j).2.2.length ≤ 1 := by
        unfold wstep
        split
        · show (if _ then _ else _ : List Ed).length ≤ 1
          split
          · exact Nat.zero_le _
          · exact Nat.le_refl _
        · split
          · exact Nat.le_refl _
          · exact Nat.le_refl _
      omega
theorem wayE_len (a b : T) : (wayE a b).length ≤ a.length + b.length := by
  unfold wayE
  rw [List.length_reverse]
  exact wrun_len ..
theorem fxd_ed (e : Ed) : fxd (edD e) = edD e := by cases e <;> rfl
theorem fxd_eds : ∀ es : List Ed, fxdAll (es.map edD) = es.map edD
  | [] => rfl
  | e :: es => by
    show fxd (edD e) :: fxdAll (es.map edD) = _
    rw [fxd_ed, fxd_eds es]
    rfl
theorem dep_ed (e : Ed) : (edD e).depth ≤ 2 := by cases e <;> simp [edD, PyData.depth, PyData.depthAll]
theorem dep_eds : ∀ es : List Ed, PyData.depthAll (es.map edD) ≤ 2
  | [] => by simp [PyData.depthAll]
  | e :: es => by
    have h1 := dep_ed e
    have h2 := dep_eds es
    simp only [List.map_cons, PyData.depthAll]
    omega
theorem siz_ed (e : Ed) : szD (edD e) ≤ 4 := by cases e <;> simp [edD, szD, szAll]
theorem siz_eds : ∀ es : List Ed, szAll (es.map edD) ≤ 4 * es.length
  | [] => by simp [szAll]
  | e :: es => by
    have h1 := siz_ed e
    have h2 := siz_eds es
    simp only [List.map_cons, szAll, List.length_cons]
    omega
section
variable {w : World} {K : PySem.W.Frag} {mg : Str → Option Value} {base : Heap}
theorem mk_Ways (T : Tx K mg) : MakR P w K mg base 10 "Ways" (He.ga K "Ways") (sp_one K "Ways" "ways" "edits") := ⟨_, T.mk_Ways, ok_Ways_init T, T.m_Ways⟩
theorem mk_Thick (T : Tx K mg) : MakR P w K mg base 10 "Thick" (He.ga K "Thick") (sp_one K "Thick" "thick" "price") := ⟨_, T.mk_Thick, ok_Thick_init T, T.m_Thick⟩
theorem mk_Strange (T : Tx K mg) : MakR P w K mg base 10 "Strange" (He.ga K "Strange") (sp_Strange_init K) := ⟨_, T.mk_Strange, ok_Strange_init T, T.m_Strange⟩
theorem mk_Broken (T : Tx K mg) : MakR P w K mg base 10 "Broken" (He.ga K "Broken") (sp_Broken_init K) := ⟨_, T.mk_Broken, ok_Broken_init T, T.m_Broken⟩
/-- x is made: one's own -/
theorem own_new {H : Hp} {x dx C : Addr} (hx : H x = none) (hdx : H dx = none) (hne : dx ≠ x) : Own H H H (upd (upd H dx (.own x)) x (.ins C dx [])) x (.ins C dx []) :=
  ⟨hx, ((Adv.refl (Same.refl _)).alloc hdx).alloc (by rw [upd_ne hne.symm]; exact hx), hx, upd_same⟩
def sp_least_edits (K : PySem.W.Frag) : Sp := fun vs H Q _ => ∃ a b, vs = [tx a, tx b] ∧ a.length ≤ 300 ∧ b.length ≤ 300 ∧ isT a ∧ isT b ∧
  ∀ x dx r y H2, Same H H2 → H2 x = some (.ins (He.ga K "Ways") dx [("word", .str "ways"), ("parts", r), ("edits", y)]) → Dp K H2 y (.tuple ((wayE a b).map edD)) → Q (.ref x) H2
abbrev N_least_edits : List Str := ["one", "other"]
abbrev sco_least_edits : Scope := defScope s_least_edits
theorem sc_least_edits : FnScope N_least_edits ["one", "other"] sco_least_edits := ⟨rfl, rfl, rfl, by decide +kernel, rfl, by decide +kernel, by decide +kernel⟩
theorem ok_least_edits (T : Tx K mg) : C8.Cal P w K mg base 12 "least_edits" (sp_least_edits K) [] := by
  have c_need_two : C8.Cal P w K mg base 3 "need_two" sp_need_two [] := ok_need_two T
  have c_Ways := mk_Ways (w := w) (base := base) T
  have c_way_along : C8.Cal P w K mg base 1 "way_along" (sp_way_along K) [] := ok_way_along T
  have c_counts_to : C8.Cal P w K mg base 1 "counts_to" (sp_counts_to K) [] := ok_counts_to T
  refine mkCal T.d_least_edits T.m_least_edits (fun fd F => ⟨[], .nil, F.bindsN fun _ _ _ _ _ _ us hl => match us, hl with | [_, _], _ => rfl⟩) sc_least_edits (fun vs H Q E h => ?_) (fun cdv A outer s H vs Q E hr h => ?_)
  · obtain ⟨a, b, rfl, _⟩ := h; rfl
  · obtain ⟨a, b, rfl, ha, hb, ta, tb', q⟩ := h
    refine ⟨_, (pss_cons (ps_expr (C8.pe_c c_need_two hr (by decide) (by rfl) (pa_cons (pv 0) (pa_cons (pv 1) pa_nil))))
      (pss_one (ps_ret (pe_mkR c_Ways hr (by decide) (by rfl) (pa_cons (C8.pe_c c_way_along hr (by decide) (by rfl) (pa_cons (pv 0) (pa_cons (pv 1) (pa_cons (C8.pe_c c_counts_to hr (by decide) (by rfl) (pa_cons (pv 0) (pa_cons (pv 1) pa_nil))) pa_nil)))) pa_nil))))), ?_⟩
    refine ⟨_, rfl, _, rfl, a, b, rfl, ha, hb, ta, tb', fun H1 s1 => ⟨_, rfl, _, rfl, _, rfl, _, rfl, H1, a, b, rfl, Same.refl _, ha, hb, fun D I2 H2 a2 hD => ⟨a, b, D, rfl, hD.mono a2.ih, ha, hb, fun p us H3 s3 hp hus x dx hx hdx hne => ?_⟩⟩⟩
    have hl := wayE_len a b
    have h1 := dep_eds (wayE a b)
    have h2 := siz_eds (wayE a b)
    refine ⟨H3, H3, H3, x, .ref p, .tuple ((wayE a b).map edD), dx, rfl, own_new hx hdx hne, .tup (.inl (.inl hp)) hus.dp, ?_, ?_, fun I4 H4 r y o4 hy => ⟨rfl, ?_⟩⟩
    · simp only [PyData.depth]; omega
    · simp only [szD]; omega
    · refine q x dx r y H4 (((s1.trans a2.hh).trans s3).trans o4.a.hh) o4.h ?_
      have e : fxd (.tuple ((wayE a b).map edD)) = .tuple ((wayE a b).map edD) := congrArg PyData.tuple (fxd_eds _)
      rw [e] at hy
      exact hy.mono o4.a.ih
end
end K57
set_option Elab.async false
set_option linter.all false
set_option maxRecDepth 100000
set_option maxHeartbeats 4000000
namespace K57
open PySem PySem.Spec PyProof.Rows L2
theorem isT_t4 : isT t4 := by
  have h : t4.all (fun c => decide (c = 32 ∨ (97 ≤ c ∧ c ≤ 122))) = true := by decide +kernel
  exact fun c hc => (of_decide_eq_true (List.all_eq_true.mp h c hc) : c = 32 ∨ (97 ≤ c ∧ c ≤ 122))
abbrev sg (K : PySem.W.Frag) (t p2 b R p8 : Addr) (r : List (Option V)) : L2.St := [some (.ref (Wd K)), some (.ref t), some (.int 0), some (.int 0), some (.int 4), some (tx (wd 4)), some (.ref p2), some (.ref b), some (.ref R), some (tx t4), some .non, some (.int 0), some (.int 6), some (.ref p8)] ++ r ++ [none, none, none, none, none]
abbrev sh (K : PySem.W.Frag) (t p2 b R p8 E : Addr) (z : Option V) : L2.St := [some (.ref (Wd K)), some (.ref t), some (.int 0), some (.int 0), some (.int 4), some (tx (wd 4)), some (.ref p2), some (.ref b), some (.ref R), some (tx t4), some .non, some (.int 0), some (.int 6), some (.ref p8), some (.int 0), some (.int 0), some (.ref E), z, none, none, none, none]
theorem sl_t4 : Txt.slice (SX.S t4) (some 0) (some 6) = SX.S (wd 0) := by kernel_rfl
theorem e4_ed {i : Nat} {e : Ed} (h : e4[i]? = some e) : ∃ (a : Str) (p : Nat) (c : Str), edV e = [.str a, .int (p : Int), .str c] ∧ edD e = .tuple [.str a, .int (p : Int), .str c] := by
  match i, h with
  | 0, h => cases h; exact ⟨_, 0, _, rfl, rfl⟩
  | 1, h => cases h; exact ⟨_, 2, _, rfl, rfl⟩
  | 2, h => cases h; exact ⟨_, 3, _, rfl, rfl⟩
  | 3, h => cases h; exact ⟨_, 5, _, rfl, rfl⟩
  | i + 4, h => simp [e4] at h
theorem at_ed {K : PySem.W.Frag} {H : Hp} {ys : List V} {i : Nat} {x : V} (h : DpAll K H ys (e4.map edD)) (hx : ys[i]? = some x) : ∃ (e : Ed) (ta : Addr) (a : Str) (p : Nat) (c : Str), e4[i]? = some e ∧ x = .ref ta ∧ edV e = [.str a, .int (p : Int), .str c] ∧ edD e = .tuple [.str a, .int (p : Int), .str c] ∧ SqT K H ta [.str a, .int (p : Int), .str c] := by
  obtain ⟨d, hd, hv⟩ := h.at hx
  rw [List.getElem?_map] at hd
  cases he : e4[i]? with
  | none => rw [he] at hd; cases hd
  | some e =>
    rw [he] at hd
    cases hd
    obtain ⟨a, p, c, h1, h2⟩ := e4_ed he
    rw [h2] at hv
    obtain ⟨ta, xs, rfl, h3, h4⟩ := dp_tup hv
    cases h4 with
    | cons u1 h4 => cases h4 with
      | cons u2 h4 => cases h4 with
        | cons u3 h4 =>
          cases h4
          rw [dp_str u1, dp_int u2, dp_str u3] at h3
          exact ⟨e, ta, a, p, c, rfl, rfl, h1, h2, h3⟩
section
variable {w : World} {K : PySem.W.Frag} {mg : Str → Option Value} {base : Heap}
def sp_strange_in_prices (K : PySem.W.Frag) : Sp := fun vs H Q _ => ∃ t, vs = [.ref (Wd K), .ref t] ∧ SqT K H t [.int 0, .int 0, .int 4] ∧
  ∀ x dx r y1 y2 y3 H2, Same H H2 → H2 x = some (.ins (He.ga K "Strange") dx [("word", .str "strange"), ("parts", r), ("row", y1), ("edits", y2), ("made", y3)]) → Dp K H2 y1 (.tuple [.int 0]) → Dp K H2 y2 (.tuple (e4.map edD)) → Q (.ref x) H2
abbrev N_strange_in_prices : List Str := ["words", "triple", "first", "second", "made", "word", "ahead", "behind", "row", "text", "border", "begin", "end", "begins", "low", "high", "edits", "edit", "moved", "number", "at", "place"]
abbrev sco_strange_in_prices : Scope := defScope s_strange_in_prices
theorem sc_strange_in_prices : FnScope N_strange_in_prices ["words", "triple"] sco_strange_in_prices := ⟨rfl, rfl, rfl, by decide +kernel, rfl, by decide +kernel, by decide +kernel⟩
theorem ok_strange_in_prices (T : Tx K mg) : C8.Cal P w K mg base 13 "strange_in_prices" (sp_strange_in_prices K) [] := by
  have c_stretch_in : C8.Cal P w K mg base 3 "stretch_in" (sp_stretch_in K) [] := ok_stretch_in T
  have c_begins_of : C8.Cal P w K mg base 3 "begins_of" (sp_begins_of K) [] := ok_begins_of T
  have c_is_cut : C8.Cal P w K mg base 1 "is_cut" sp_is_cut [] := ok_is_cut T
  have c_Strange := mk_Strange (w := w) (base := base) T
  have c_copies_told : C8.Cal P w K mg base 1 "copies_told" sp_copies_told [] := ok_copies_told T
  have c_least_edits : C8.Cal P w K mg base 12 "least_edits" (sp_least_edits K) [] := ok_least_edits T
  refine mkCal T.d_strange_in_prices T.m_strange_in_prices (fun fd F => ⟨[], .nil, F.bindsN fun _ _ _ _ _ _ us hl => match us, hl with | [_, _], _ => rfl⟩) sc_strange_in_prices (fun vs H Q E h => ?_) (fun cdv A outer s H vs Q E hr h => ?_)
  · obtain ⟨t, rfl, _⟩ := h; rfl
  · obtain ⟨t, rfl, ht, q⟩ := h
    refine ⟨_, (pss_cons (ps_asg (pv 1) (pg_tupK (K := K) (n := 3) rfl rfl (pgs_cons (pg_name (i := 2) sc_strange_in_prices.nd rfl (Or.inl rfl)) (pgs_cons (pg_name (i := 3) sc_strange_in_prices.nd rfl (Or.inl rfl)) (pgs_cons (pg_name (i := 4) sc_strange_in_prices.nd rfl (Or.inl rfl)) pgs_nil)))))
      (pss_cons (ps_set (i := 5) sc_strange_in_prices.nd rfl (Or.inl rfl) (pe_ix (ix_tupK (K := K) rfl) (pv 0) (pv 4) (fun _ _ => rfl)))
      (pss_cons (ps_set (i := 6) sc_strange_in_prices.nd rfl (Or.inl rfl) (pe_op op_rep (pe_lst (pa_cons (pv 2) pa_nil)) (C8.pe_c c_copies_told hr (by decide) (by rfl) (pa_cons (pe_ix (ix_tupK (K := K) rfl) (pv 0) (pv 2) (fun _ _ => rfl)) (pa_cons (pv 5) pa_nil)))))
      (pss_cons (ps_set (i := 7) sc_strange_in_prices.nd rfl (Or.inl rfl) (pe_ifExp (pt_cmpR op_ne (pv 2) (pv 3) (nomark _)) (pe_op op_rep (pe_lst (pa_cons (pv 3) pa_nil)) (C8.pe_c c_copies_told hr (by decide) (by rfl) (pa_cons (pe_ix (ix_tupK (K := K) rfl) (pv 0) (pv 3) (fun _ _ => rfl)) (pa_cons (pv 5) pa_nil)))) (pe_lst pa_nil)))
      (pss_cons (ps_set (i := 8) sc_strange_in_prices.nd rfl (Or.inl rfl) (pe_op op_cat (pv 6) (pv 7)))
      (pss_cons (ps_set (i := 9) sc_strange_in_prices.nd rfl (Or.inl rfl) (pe_join (C8.pe_gc (by rfl) T.g_BLANK) (pe_lc (own := [("number", 19)]) rfl sc_strange_in_prices.nd (pi_listK (K := K) rfl (pv 8)) (blkOk_by (own := [("number", 19)]) (N := N_strange_in_prices) (sc := sco_strange_in_prices) (by decide +kernel)) (fun _ _ _ _ _ => (pg_name (i := 19) sc_strange_in_prices.nd rfl (Or.inl rfl))) (fun _ _ _ _ _ => pts_nil) (fun _ _ _ _ _ => (pe_ix (ix_tupK (K := K) rfl) (pv 0) (pv 19) (fun _ _ => rfl))))))
      (pss_cons (ps_set (i := 10) sc_strange_in_prices.nd rfl (Or.inl rfl) (pe_ifExp (pt_cmpR (op_neDK (K := K) rfl hr.units) (pv 7) (pe_lst pa_nil) (nomark _)) (pe_callB call_len_str (by rfl) T.f_len bb_len (pa_cons (pe_join (C8.pe_gc (by rfl) T.g_BLANK) (pe_lc (own := [("number", 19)]) rfl sc_strange_in_prices.nd (pi_listK (K := K) rfl (pv 6)) (blkOk_by (own := [("number", 19)]) (N := N_strange_in_prices) (sc := sco_strange_in_prices) (by decide +kernel)) (fun _ _ _ _ _ => (pg_name (i := 19) sc_strange_in_prices.nd rfl (Or.inl rfl))) (fun _ _ _ _ _ => pts_nil) (fun _ _ _ _ _ => (pe_ix (ix_tupK (K := K) rfl) (pv 0) (pv 19) (fun _ _ => rfl))))) pa_nil)) pe_non))
      (pss_cons (ps_asg (C8.pe_c c_stretch_in hr (by decide) (by rfl) (pa_cons (pv 9) (pa_cons (pv 5) (pa_cons (pv 10) pa_nil)))) (pg_tupK (K := K) (n := 2) rfl rfl (pgs_cons (pg_name (i := 11) sc_strange_in_prices.nd rfl (Or.inr rfl)) (pgs_cons (pg_name (i := 12) sc_strange_in_prices.nd rfl (Or.inr rfl)) pgs_nil))))
      (C8.pss_cut (ps_set (i := 13) sc_strange_in_prices.nd rfl (Or.inr rfl) (C8.pe_c c_begins_of hr (by decide) (by rfl) (pa_cons (pv 9) pa_nil)))
      (C8.pss_cut (ps_set (i := 14) sc_strange_in_prices.nd rfl (Or.inr rfl) (pe_callB (cr_max rfl) (by rfl) T.f_max bb_max (pa_cons (pe_lc (own := [("at", 20), ("place", 21)]) rfl sc_strange_in_prices.nd (pi_enumT (by rfl) T.f_enumerate (pv 13)) (blkOk_by (own := [("at", 20), ("place", 21)]) (N := N_strange_in_prices) (sc := sco_strange_in_prices) (by decide +kernel)) (fun _ _ _ _ _ => (pg_tupK (K := K) (n := 2) rfl rfl (pgs_cons (pg_name (i := 20) sc_strange_in_prices.nd rfl (Or.inl rfl)) (pgs_cons (pg_name (i := 21) sc_strange_in_prices.nd rfl (Or.inl rfl)) pgs_nil)))) (fun _ _ _ _ _ => (pts_one (pt_cmpR op_le (pv 21) (pv 11) (nomark _)))) (fun _ _ _ _ _ => (pv 20))) pa_nil)))
      (C8.pss_cut (ps_set (i := 15) sc_strange_in_prices.nd rfl (Or.inl rfl) (pe_callB (cr_max rfl) (by rfl) T.f_max bb_max (pa_cons (pe_lc (own := [("at", 20), ("place", 21)]) rfl sc_strange_in_prices.nd (pi_enumT (by rfl) T.f_enumerate (pv 13)) (blkOk_by (own := [("at", 20), ("place", 21)]) (N := N_strange_in_prices) (sc := sco_strange_in_prices) (by decide +kernel)) (fun _ _ _ _ _ => (pg_tupK (K := K) (n := 2) rfl rfl (pgs_cons (pg_name (i := 20) sc_strange_in_prices.nd rfl (Or.inl rfl)) (pgs_cons (pg_name (i := 21) sc_strange_in_prices.nd rfl (Or.inl rfl)) pgs_nil)))) (fun _ _ _ _ _ => (pts_one (pt_cmpR op_le (pv 21) (pv 12) (nomark _)))) (fun _ _ _ _ _ => (pv 20))) pa_nil)))
      (C8.pss_cut (ps_set (i := 16) sc_strange_in_prices.nd rfl (Or.inl rfl) (pe_ifExp (PW.pt (pw_and (pt_cmpR op_lt (pv 12) (pe_callB call_len_str (by rfl) T.f_len bb_len (pa_cons (pv 9) pa_nil)) (nomark _)) (pw_and1 (pt_cmpR op_ne (pe_ix ix_str (pv 9) (pv 12) (fun _ _ => rfl)) (C8.pe_gc (by rfl) T.g_BLANK) (nomark _))))) (pe_lst (pa_cons (pe_tup (pa_cons pe_str (pa_cons (pv 12) (pa_cons (C8.pe_gc (by rfl) T.g_BLANK) pa_nil)))) pa_nil)) (pe_lst pa_nil)))
      (pss_cons (ps_for PassesOwn.never rfl (pi_tupK (K := K) rfl (pe_fldK (K := K) rfl (C8.pe_c c_least_edits hr (by decide) (by rfl) (pa_cons (pe_slice C8.sl_txt (pv 9) (po_some (pv 11)) (po_some (pv 12))) (pa_cons (pv 5) pa_nil))) rfl)) (pg_name (i := 17) sc_strange_in_prices.nd rfl (Or.inl rfl))
      (pss_one (ps_expr (pe_bmK (K := K) rfl PySem.F.plainAttrs_list PySem.F.slot_list_append PySem.F.type_list_append mt_append (pv 16) (pa_cons (pe_tup (pa_cons (pe_ix (ix_tupK (K := K) rfl) (pv 17) pe_int (fun _ _ => rfl)) (pa_cons (pe_op op_add (pe_ix (ix_tupK (K := K) rfl) (pv 17) pe_int (fun _ _ => rfl)) (pv 11)) (pa_starK (K := K) rfl (pe_slice (sl_tupAK (K := K) rfl) (pv 17) (po_some pe_int) po_none) pa_nil)))) pa_nil)))))
      (pss_cons (ps_if (pt_val (C8.pe_c c_is_cut hr (by decide) (by rfl) (pa_cons (pv 9) (pa_cons (pv 11) pa_nil)))) (pss_one (ps_expr (pe_bmK (K := K) rfl PySem.F.plainAttrs_list PySem.F.slot_list_append PySem.F.type_list_append mt_append (pv 16) (pa_cons (pe_tup (pa_cons pe_str (pa_cons (pv 11) (pa_cons (C8.pe_gc (by rfl) T.g_BLANK) pa_nil)))) pa_nil)))) pss_nil)
      (pss_cons (ps_setLc (i := 18) (own := [("edit", 17)]) rfl sc_strange_in_prices.nd rfl rfl (sw_true rfl rfl rfl (by decide +kernel)) (pi_listK (K := K) rfl (pv 16)) (blkOk_by (own := [("edit", 17)]) (N := N_strange_in_prices) (sc := sco_strange_in_prices) (by decide +kernel)) (fun _ _ _ _ _ => (pg_name (i := 17) sc_strange_in_prices.nd rfl (Or.inl rfl))) (fun _ _ _ _ _ => pts_nil) (fun _ _ _ _ _ => (pe_tup (pa_cons (pe_ix (ix_tupK (K := K) rfl) (pv 17) pe_int (fun _ _ => rfl)) (pa_cons (pe_op op_sub (pe_ix (ix_tupK (K := K) rfl) (pv 17) pe_int (fun _ _ => rfl)) (pe_ix (ix_tupK (K := K) rfl) (pv 13) (pv 14) (fun _ _ => rfl))) (pa_starK (K := K) rfl (pe_slice (sl_tupAK (K := K) rfl) (pv 17) (po_some pe_int) po_none) pa_nil))))))
      (pss_one (ps_ret (pe_mkR c_Strange hr (by decide) (by rfl) (pa_cons (pe_slice (sl_listK (K := K) rfl) (pv 8) (po_some (pv 14)) (po_some (pe_op op_add (pv 15) pe_int))) (pa_cons (pv 18) (pa_cons (pv 4) pa_nil))))))))))))))))))))), ?_⟩
    refine ⟨_, rfl, t, _, rfl, ht, rfl, _, _, rfl, _, _, rfl, _, _, rfl, rfl, ?_⟩
    refine ⟨_, rfl, _, rfl, Wd K, wordsV, _, _, rfl, rfl, T.wordsT _, atI_nat (words_at (n := 4) (by decide)), ?_⟩
    refine ⟨_, rfl, by show 1 ≤ sizeLine; decide, fun p hp => ⟨_, rfl, _, rfl, Wd K, wordsV, _, _, rfl, rfl, T.wordsT _, atI_nat (words_at (n := 0) (by decide)), _, rfl, wd 0, wd 4, rfl, by decide +kernel, by decide +kernel, fun H1 s1 => ?_⟩⟩
    rw [copies_t4]
    refine ⟨p, _, _, rfl, rfl, s1 p _ upd_same, by omega, by omega, by show 1 * 4 ≤ sizeLine; decide, fun p2 hp2 => ?_⟩
    have s2 : Same H (upd H1 p2 (.lst [.int 0, .int 0, .int 0, .int 0])) := ((same_new hp).trans s1).trans (same_new hp2)
    refine ⟨_, rfl, _, rfl, rfl, false, by simp, iteF ⟨by show 0 ≤ sizeLine; decide, fun b hb => ?_⟩⟩
    have nb : p2 ≠ b := fun e => by rw [← e, upd_same] at hb; cases hb
    have s3 := s2.trans (same_new (o := .lst []) hb)
    refine ⟨_, rfl, _, rfl, p2, b, _, _, rfl, rfl, by rw [upd_ne nb]; exact upd_same, upd_same, by show 4 + 0 ≤ sizeLine; decide, fun R hR => ?_⟩
    have s4 := s3.trans (same_new (o := .lst [.int 0, .int 0, .int 0, .int 0]) hR)
    have et4 : joinB (rep 4 (wd 0)) = t4 := by unfold t4 textC; rw [copies_t4]
    have l4 : t4.length = 27 := t4_len
    have zt : (SX.S t4).length ≤ sizeLine := le_line (by rw [SX.S_len]; omega)
    refine ⟨⟨_, rfl⟩, _, rfl, R, rfl, ⟨_, .inl (.inl upd_same)⟩, fun D hD => ?_⟩
    refine lc_flat hD (w_list (xs := [.int 0, .int 0, .int 0, .int 0])) (fun _ => true) (fun _ => tx (wd 0)) (by decide) (fun H' s' => .inl (.inl (s' R _ upd_same))) (fun x => rfl) (fun i x H' _ _ _ Qt qt => yes_ok qt) ?_ ?_
    · intro i x H' hi _ _ hx Qe qe
      obtain rfl : x = .int 0 := by
        match i, hx with
        | 0, hx => cases hx; rfl
        | 1, hx => cases hx; rfl
        | 2, hx => cases hx; rfl
        | 3, hx => cases hx; rfl
      exact ⟨_, rfl, _, rfl, Wd K, wordsV, _, _, rfl, rfl, T.wordsT _, atI_nat (words_at (n := 0) (by decide)), qe H' (Same.refl _)⟩
    intro H5 s5 hD5
    refine ⟨_, D, List.replicate 4 (SX.S (wd 0)), rfl, rfl, .inl (.inl (.inl ?_)), by rw [sum_rep, List.length_replicate]; show 4 * (wd 0).length + 4 * 1 ≤ 16777216; rw [show (wd 0).length = 6 from by decide +kernel]; decide, ?_⟩
    · rw [hD5]; rfl
    rw [join_rep, et4]
    have hb5 : H5 b = some (.lst []) := s5 b _ (by rw [upd_ne (ne_of_none upd_same hR)]; exact upd_same)
    have hR5 : H5 R = some (.lst [.int 0, .int 0, .int 0, .int 0]) := s5 R _ upd_same
    have s6 : Same H H5 := s4.trans s5
    refine ⟨_, rfl, by show 0 ≤ sizeLine; decide, fun c hc => ?_⟩
    have hb6 : upd H5 c (.lst []) b = some (.lst []) := by rw [upd_ne (ne_of_none hb5 hc)]; exact hb5
    have s7 := s6.trans (same_new (o := .lst []) hc)
    have hR7 : upd H5 c (.lst []) R = some (.lst [.int 0, .int 0, .int 0, .int 0]) := by rw [upd_ne (ne_of_none hR5 hc)]; exact hR5
    refine ⟨.list [], .list [], .lst (.inl (.inl hb6)) .nil, .lst (.inl (.inl upd_same)) .nil, rfl, rfl, false, rfl, iteF ?_⟩
    refine ⟨_, rfl, _, rfl, _, rfl, t4, wd 4, 6, rfl, by omega, by decide +kernel, by rw [l4]; exact str_t4, fun p7 H7 s8 hp7 => ?_⟩
    rw [beg_t4] at hp7
    have s9 := s7.trans s8
    refine ⟨p7, _, rfl, .inl (.inl hp7), rfl, _, _, rfl, ?_⟩
    have hR8 : H7 R = some (.lst [.int 0, .int 0, .int 0, .int 0]) := s8 R _ hR7
    clear hp7 s8 s7 hb6 hc hb5 hD5 hD hR s4 s3 hb nb s2 hp2 s1 hp hR7 hR5 s6 s5
    refine ⟨_, _, rfl, rfl, fun σ H' => ∃ p8, σ = sg K t p2 b R p8 [none, none, none] ∧ Same H H' ∧ H' R = some (.lst [.int 0, .int 0, .int 0, .int 0]) ∧ H' p8 = some (.tup (nV [0, 7, 14, 21])), ⟨_, rfl, t4, rfl, by omega, isT_t4, fun p8 H8 s10 hp8 => ⟨p8, rfl, s9.trans s10, s10 R _ hR8, by rw [← begL_t4]; exact hp8⟩⟩, ?_⟩
    clear s9 hR8
    rintro _ H8 ⟨p8, rfl, s9, hR8, hp8⟩
    refine ⟨fun σ H' => σ = sg K t p2 b R p8 [some (.int 0), none, none] ∧ Same H H' ∧ H' R = some (.lst [.int 0, .int 0, .int 0, .int 0]) ∧ H' p8 = some (.tup (nV [0, 7, 14, 21])), ⟨_, rfl, p8, _, rfl, .inl (.inl hp8), fun D9 hD9 => ?_⟩, ?_⟩
    · refine walkW (w_enumT (xs := nV [0, 7, 14, 21])) (fun i H' => Same H8 H' ∧ H' D9 = some (.lst (if i = 0 then [] else [V.int 0]))) ⟨(Same.refl _).mut hD9, upd_same⟩ (fun i H' _ p => sqt_mono p.1 (.inl (.inl hp8))) ?_ ?_
      · rintro i H' x _ hi ⟨s', hy⟩ ⟨Tp, xr, rfl, hTp, rfl, hxr⟩
        have sT : Same H' (upd H' Tp (.tup [.int (i : Int), xr])) := same_new hTp
        match i, hxr with
        | 0, hxr =>
          cases hxr
          exact ⟨Tp, [_, _], rfl, .inl (.inl upd_same), rfl, _, _, rfl, _, _, rfl, rfl, rfl, _, rfl, _, rfl, _, _, rfl, rfl, true, rfl, iteT ⟨_, rfl, _, sT _ _ hy, by decide, (s'.trans sT).mut hD9, upd_same⟩⟩
        | 1, hxr =>
          cases hxr
          exact ⟨Tp, [_, _], rfl, .inl (.inl upd_same), rfl, _, _, rfl, _, _, rfl, rfl, rfl, _, rfl, _, rfl, _, _, rfl, rfl, false, rfl, iteF ⟨s'.trans sT, sT _ _ hy⟩⟩
        | 2, hxr =>
          cases hxr
          exact ⟨Tp, [_, _], rfl, .inl (.inl upd_same), rfl, _, _, rfl, _, _, rfl, rfl, rfl, _, rfl, _, rfl, _, _, rfl, rfl, false, rfl, iteF ⟨s'.trans sT, sT _ _ hy⟩⟩
        | 3, hxr =>
          cases hxr
          exact ⟨Tp, [_, _], rfl, .inl (.inl upd_same), rfl, _, _, rfl, _, _, rfl, rfl, rfl, _, rfl, _, rfl, _, _, rfl, rfl, false, rfl, iteF ⟨s'.trans sT, sT _ _ hy⟩⟩
      · rintro H9 ⟨s12, hy9⟩
        refine ⟨D9, [0], rfl, .inl (.inl hy9), by decide, fun m hm _ => ?_⟩
        obtain rfl : m = 0 := by simpa using hm
        exact ⟨rfl, s9.trans s12, s12 R _ hR8, s12 p8 _ hp8⟩
    clear s9 hR8 hp8
    rintro _ H8 ⟨rfl, s9, hR8, hp8⟩
    refine ⟨fun σ H' => σ = sg K t p2 b R p8 [some (.int 0), some (.int 0), none] ∧ Same H H' ∧ H' R = some (.lst [.int 0, .int 0, .int 0, .int 0]) ∧ H' p8 = some (.tup (nV [0, 7, 14, 21])), ⟨_, rfl, p8, _, rfl, .inl (.inl hp8), fun D9 hD9 => ?_⟩, ?_⟩
    · refine walkW (w_enumT (xs := nV [0, 7, 14, 21])) (fun i H' => Same H8 H' ∧ H' D9 = some (.lst (if i = 0 then [] else [V.int 0]))) ⟨(Same.refl _).mut hD9, upd_same⟩ (fun i H' _ p => sqt_mono p.1 (.inl (.inl hp8))) ?_ ?_
      · rintro i H' x _ hi ⟨s', hy⟩ ⟨Tp, xr, rfl, hTp, rfl, hxr⟩
        have sT : Same H' (upd H' Tp (.tup [.int (i : Int), xr])) := same_new hTp
        match i, hxr with
        | 0, hxr =>
          cases hxr
          exact ⟨Tp, [_, _], rfl, .inl (.inl upd_same), rfl, _, _, rfl, _, _, rfl, rfl, rfl, _, rfl, _, rfl, _, _, rfl, rfl, true, rfl, iteT ⟨_, rfl, _, sT _ _ hy, by decide, (s'.trans sT).mut hD9, upd_same⟩⟩
        | 1, hxr =>
          cases hxr
          exact ⟨Tp, [_, _], rfl, .inl (.inl upd_same), rfl, _, _, rfl, _, _, rfl, rfl, rfl, _, rfl, _, rfl, _, _, rfl, rfl, false, rfl, iteF ⟨s'.trans sT, sT _ _ hy⟩⟩
        | 2, hxr =>
          cases hxr
          exact ⟨Tp, [_, _], rfl, .inl (.inl upd_same), rfl, _, _, rfl, _, _, rfl, rfl, rfl, _, rfl, _, rfl, _, _, rfl, rfl, false, rfl, iteF ⟨s'.trans sT, sT _ _ hy⟩⟩
        | 3, hxr =>
          cases hxr
          exact ⟨Tp, [_, _], rfl, .inl (.inl upd_same), rfl, _, _, rfl, _, _, rfl, rfl, rfl, _, rfl, _, rfl, _, _, rfl, rfl, false, rfl, iteF ⟨s'.trans sT, sT _ _ hy⟩⟩
      · rintro H9 ⟨s12, hy9⟩
        refine ⟨D9, [0], rfl, .inl (.inl hy9), by decide, fun m hm _ => ?_⟩
        obtain rfl : m = 0 := by simpa using hm
        exact ⟨rfl, s9.trans s12, s12 R _ hR8, s12 p8 _ hp8⟩
    clear s9 hR8 hp8
    rintro _ H8 ⟨rfl, s9, hR8, hp8⟩
    have h6 : t4[6]? = some 32 := by rw [sgn_at (by omega), beh_t4]
    refine ⟨fun σ H' => ∃ E, σ = sg K t p2 b R p8 [some (.int 0), some (.int 0), some (.ref E)] ∧ Same H H' ∧ H E = none ∧ H' E = some (.lst []) ∧ H' R = some (.lst [.int 0, .int 0, .int 0, .int 0]) ∧ H' p8 = some (.tup (nV [0, 7, 14, 21])), ?_, ?_⟩
    · refine ⟨_, rfl, _, rfl, _, rfl, zt, _, _, rfl, rfl, true, congrArg V.bl (decide_eq_true (by rw [SX.S_len, l4]; decide)), iteT ⟨_, rfl, _, rfl, _, _, 32, rfl, rfl, zt, atI_nat h6, rfl, false, congrArg (fun b => V.bl (!b)) (decide_eq_true rfl), iteF ⟨by show 0 ≤ sizeLine; decide, fun E hE => ?_⟩⟩⟩
      exact ⟨E, rfl, s9.trans (same_new hE), s9.free hE, upd_same, same_new hE R _ hR8, same_new hE p8 _ hp8⟩
    clear s9 hR8 hp8
    rintro _ H8 ⟨E, rfl, s9, hE0, hE8, hR8, hp8⟩
    refine ⟨_, rfl, _, rfl, _, rfl, _, rfl, _, rfl, _, rfl, zt, ?_⟩
    rw [sl_t4]
    refine ⟨_, rfl, wd 0, wd 4, rfl, by decide +kernel, by decide +kernel, fun c hc => .inr ((book_ok _ (wd_mem (by decide))).2.2 c hc), fun c hc => .inr ((book_ok _ (wd_mem (by decide))).2.2 c hc), fun x dx r y H9 s10 hx hy => ?_⟩
    rw [way_t4] at hy
    obtain ⟨yp, ys, rfl, hyq, hys⟩ := dp_tup hy
    refine ⟨x, _, dx, _, _, rfl, hx, T.k_Ways, T.n_Ways_edits, rfl, yp, rfl, ⟨_, hyq⟩, ?_⟩
    have hER : R ≠ E := fun e => by rw [e, hE8] at hR8; cases hR8
    have hE9 := s10 E _ hE8
    have hR9 := s10 R _ hR8
    have hp9 := s10 p8 _ hp8
    have s11 := s9.trans s10
    clear s10 s9 hE8 hR8 hp8
    have hyl : ys.length = 4 := by rw [hys.length]; rfl
    refine for_it (w_tup (xs := ys)) (fun i σ H' => (∃ z, σ = sh K t p2 b R p8 E z) ∧ Same H H' ∧ Nl H9 H' ∧ H' R = some (.lst [.int 0, .int 0, .int 0, .int 0]) ∧ ∃ vs, H' E = some (.lst vs) ∧ EdAts H' vs (e4.take i))
      ⟨⟨none, rfl⟩, s11, fun _ _ _ h => h, hR9, [], hE9, .nil⟩ (fun i σ H' _ p => sqt_nl p.2.2.1 hyq) ?_ ?_
    · rintro i x σ _ H' hi ⟨⟨z, rfl⟩, sH, nl, hR, vs, hE, hvs⟩ ⟨rfl, hx⟩
      obtain ⟨e, ta, a, p, c, he, rfl, e1, e2, hta⟩ := at_ed hys hx
      have hta' := sqt_nl nl hta
      refine ⟨_, rfl, .inl ⟨rfl, _, .inl (.inl hE)⟩, ?_⟩
      refine ⟨_, rfl, ta, _, (0 : Int), _, rfl, rfl, hta', rfl, _, rfl, ta, _, (1 : Int), _, rfl, rfl, hta', rfl, _, rfl, _, _, rfl, rfl, _, rfl, _, rfl, ta, _, rfl, hta', (fun h => absurd h.1 (show ¬ ((2 : Nat) = 0) from by decide)), fun _ q hq => ⟨q, [.str c], rfl, .inl (.inl (.inl upd_same)), by show 3 ≤ sizeLine; decide, fun p' hp' => ?_⟩⟩
      have sq1 : Same H' (upd H' q (.tup [.str c])) := same_new hq
      have sq2 := sq1.trans (same_new (o := .tup [.str a, .int ((p : Int) + 0), .str c]) hp')
      have hqE : E ≠ p' := fun e => by have := sq2 E _ hE; rw [e, upd_same] at this; cases this
      refine ⟨E, _, _, rfl, rfl, sq2 E _ hE, lt_line (by rw [hvs.len, List.length_take]; omega), ⟨_, rfl⟩, (sH.trans sq2).mut hE0, fun b' u hu hb' => ?_, by rw [upd_ne hER]; exact sq2 R _ hR, _, upd_same, ?_⟩
      · rw [upd_ne (by rintro rfl; rw [hE9] at hb'; exact hu _ (Option.some.inj hb').symm)]
        exact sq2 _ _ (nl b' u hu hb')
      · have ts : TS' H' (upd (upd (upd H' q (.tup [.str c])) p' (.tup [.str a, .int ((p : Int) + 0), .str c])) E (.lst (vs ++ [.ref p']))) := fun t' xs' ht' => by
          rw [upd_ne (fun z => by rw [z, hE] at ht'; cases ht')]
          exact sq2 _ _ ht'
        have e3 : e4.take (i + 1) = e4.take i ++ [e] := by rw [List.take_add_one, he]; rfl
        rw [e3]
        refine (hvs.ts ts).snoc ?_
        rw [upd_ne hqE.symm, upd_same, e1, Int.add_zero]
    · rintro σ H' ⟨⟨z, rfl⟩, sH, nl, hR, vs, hE, hvs⟩
      rw [hyl] at hvs
      have hvs4 : EdAts H' vs e4 := hvs
      have hl4 : vs.length = 4 := hvs4.len
      refine ⟨_, rfl, _, rfl, t4, 0, rfl, by omega, by omega, fun H10 s12 => ⟨false, rfl, iteF ?_⟩⟩
      have hE10 := s12 E _ hE
      have hR10 := s12 R _ hR
      have hp10 : H10 p8 = some (.tup (nV [0, 7, 14, 21])) := s12 p8 _ (nl p8 _ (fun _ z => by cases z) hp9)
      have hvs10 : EdAts H10 vs e4 := hvs4.ts fun t' xs' h' => s12 _ _ h'
      have s13 := sH.trans s12
      clear s12 hE hR hvs hvs4 sH nl hp9
      refine ⟨_, rfl, E, rfl, ⟨_, .inl (.inl hE10)⟩, fun D hD => ?_⟩
      refine lc_data (K := K) (I1 := H10) hD (w_list (xs := vs)) (Same.refl _) (fun _ => true) (fun i => edD (e4.getD i (.lost 0))) (by omega) (fun H' s' => .inl (.inl (s' E _ hE10))) (fun x => rfl) (fun i x I H' _ _ _ Qt qt => yes_ok qt) ?_ ?_
      · intro i x I3 H3 hi _ a3 hx Qe qe
        obtain ⟨e, ta, a, p, c, he, rfl, e1, e2, hta⟩ := at_ed (hvs10.dp (K := K)) hx
        have hta' := sqt_mono (a3.ii.trans a3.ih) hta
        have hp3 := (a3.ii.trans a3.ih) p8 _ hp10
        have e5 : e4.getD i (.lost 0) = e := by rw [List.getD_eq_getElem?_getD, he] <;> rfl
        rw [e5, e2] at qe
        refine ⟨_, rfl, ta, _, (0 : Int), _, rfl, rfl, hta', rfl, _, rfl, ta, _, (1 : Int), _, rfl, rfl, hta', rfl, _, rfl, _, rfl, p8, _, (0 : Int), _, rfl, rfl, .inl (.inl hp3), rfl, _, _, rfl, rfl, _, rfl, _, rfl, ta, _, rfl, hta', (fun h => absurd h.1 (show ¬ ((2 : Nat) = 0) from by decide)), fun _ q hq => ⟨q, [.str c], rfl, .inl (.inl (.inl upd_same)), by show 3 ≤ sizeLine; decide, fun p' hp' => ?_⟩⟩
        have a4 := ((Adv.refl a3.ih).alloc (o := .tup [.str c]) hq)
        refine qe (.ref p') _ _ (a4.new hp') (.tup (.inl (.inl (by rw [upd_same]; show some (HO.tup [V.str a, V.int ((p : Int) - 0), V.str c]) = _; rw [Int.sub_zero]))) (.cons (.str _) (.cons (.int _) (.cons (.str _) .nil))))
      · intro I2 H2 a2 hD2
        have hR2 := a2.hh R _ hR10
        refine ⟨_, rfl, _, rfl, _, rfl, _, rfl, _, _, rfl, rfl, _, rfl, R, _, rfl, .inl (.inl hR2), fun q' hq' => ⟨_, rfl, _, rfl, fun x dx hx hdx hne => ?_⟩⟩
        rw [given_all, hl4, show (List.range 4).map (fun i => edD (e4.getD i (.lost 0))) = e4.map edD from rfl] at hD2
        have sq' : Same H2 (upd H2 q' (.lst (cutV [V.int 0, V.int 0, V.int 0, V.int 0] (some 0) (some (0 + 1))))) := same_new hq'
        have d1 := dep_eds e4
        have d2 := siz_eds e4
        have d3 : e4.length = 4 := rfl
        refine ⟨_, _, _, x, .ref q', .ref D, .int 4, .list [.int 0], .list (e4.map edD), .int 4, dx, rfl, own_new hx hdx hne, .lst (.inl (.inl upd_same)) (.cons (.int 0) .nil), hD2.mono (a2.ih.trans sq'), .int 4, ⟨by simp [PyData.depth, PyData.depthAll], by simp only [PyData.depth]; omega, by simp [PyData.depth]⟩, ⟨by simp [szD, szAll], by simp only [szD]; omega, by simp [szD]⟩, fun I5 H5 r y1 y2 y3 o5 k1 k2 k3 => ⟨rfl, ?_⟩⟩
        refine q x dx r y1 y2 y3 H5 (((s13.trans a2.hh).trans sq').trans o5.a.hh) o5.h (Dp.mono o5.a.ih k1) ?_
        have e : fxd (.list (e4.map edD)) = .tuple (e4.map edD) := congrArg PyData.tuple (fxd_eds _)
        rw [e] at k2
        exact k2.mono o5.a.ih
end
end K57
set_option Elab.async false
set_option linter.all false
set_option maxRecDepth 100000
set_option maxHeartbeats 4000000
namespace K57
open PySem PySem.Spec PyProof.Rows L2
/-- a Strange of four augments, as price_of tells it -/
def StrAt (K : PySem.W.Frag) (H : Hp) (x : Addr) : Prop := ∃ dx r y1 y2 y3, H x = some (.ins (He.ga K "Strange") dx [("word", .str "strange"), ("parts", r), ("row", y1), ("edits", y2), ("made", y3)]) ∧ Dp K H y1 (.tuple [.int 0]) ∧ Dp K H y2 (.tuple (e4.map edD))
def BrkAt (K : PySem.W.Frag) (H : Hp) (x : Addr) : Prop := ∃ dx r y1 y2, H x = some (.ins (He.ga K "Broken") dx [("word", .str "broken"), ("parts", r), ("row", y1), ("edits", y2)]) ∧ Dp K H y1 (.tuple [.int 0]) ∧ Dp K H y2 (.tuple (e4.map edD))
theorem StrAt.mono {K : PySem.W.Frag} {H H2 : Hp} {x : Addr} (h : StrAt K H x) (s : Same H H2) : StrAt K H2 x := by
  obtain ⟨dx, r, y1, y2, y3, h1, h2, h3⟩ := h
  exact ⟨dx, r, y1, y2, y3, s _ _ h1, h2.mono s, h3.mono s⟩
theorem BrkAt.mono {K : PySem.W.Frag} {H H2 : Hp} {x : Addr} (h : BrkAt K H x) (s : Same H H2) : BrkAt K H2 x := by
  obtain ⟨dx, r, y1, y2, h1, h2, h3⟩ := h
  exact ⟨dx, r, y1, y2, s _ _ h1, h2.mono s, h3.mono s⟩
section
variable {w : World} {K : PySem.W.Frag} {mg : Str → Option Value} {base : Heap}
def sp_price_of (K : PySem.W.Frag) : Sp := fun vs H Q _ => ∃ b, vs = [.ref b] ∧ Bk K H b ∧ ∀ x H2, Same H H2 → StrAt K H2 x → Q (.ref x) H2
abbrev N_price_of : List Str := ["book", "best"]
abbrev sco_price_of : Scope := defScope s_price_of
theorem sc_price_of : FnScope N_price_of ["book"] sco_price_of := ⟨rfl, rfl, rfl, by decide +kernel, rfl, by decide +kernel, by decide +kernel⟩
theorem ok_price_of (T : Tx K mg) : C8.Cal P w K mg base 14 "price_of" (sp_price_of K) [] := by
  have c_need_book : C8.Cal P w K mg base 1 "need_book" (sp_need_book K) [.str "book"] := ok_need_book T
  have c_cheapest : C8.Cal P w K mg base 7 "cheapest" (sp_cheapest K) [] := ok_cheapest T
  have c_strange_in_prices : C8.Cal P w K mg base 13 "strange_in_prices" (sp_strange_in_prices K) [] := ok_strange_in_prices T
  refine mkCal T.d_price_of T.m_price_of (fun fd F => ⟨[], .nil, F.bindsN fun _ _ _ _ _ _ us hl => match us, hl with | [_], _ => rfl⟩) sc_price_of (fun vs H Q E h => ?_) (fun cdv A outer s H vs Q E hr h => ?_)
  · obtain ⟨b, rfl, _⟩ := h; rfl
  · obtain ⟨b, rfl, hb, q⟩ := h
    refine ⟨_, (pss_cons (ps_expr (C8.pe_c c_need_book hr (by decide) (by rfl) (pa_cons (pv 0) pa_nil)))
      (pss_cons (ps_set (i := 1) sc_price_of.nd rfl (Or.inl rfl) (C8.pe_c c_cheapest hr (by decide) (by rfl) (pa_cons (pe_fldK (K := K) rfl (pv 0) rfl) pa_nil)))
      (pss_one (ps_ret (pe_ifExp (pt_cmpR op_isN (pv 1) pe_non (nomark _)) pe_never (C8.pe_c c_strange_in_prices hr (by decide) (by rfl) (pa_cons (pe_fldK (K := K) rfl (pv 0) rfl) (pa_cons (pe_ix (ix_tupK (K := K) rfl) (pv 1) pe_int (fun _ _ => rfl)) pa_nil)))))))), ?_⟩
    obtain ⟨dx, hbo⟩ := id hb
    refine ⟨_, rfl, b, _, rfl, hb, fun H1 s1 => ⟨_, rfl, b, _, dx, _, _, rfl, s1 b _ hbo, T.k_Book, T.n_Book_words, rfl, rfl, fun p t H2 s2 hp ht => ?_⟩⟩
    refine ⟨_, rfl, rfl, false, rfl, iteF ⟨_, rfl, b, _, dx, _, _, rfl, (s1.trans s2) b _ hbo, T.k_Book, T.n_Book_words, rfl, _, rfl, p, _, (1 : Int), _, rfl, rfl, .inl (.inl hp), rfl, t, rfl, ht, fun x dx r y1 y2 y3 H3 s3 h1 h2 h3 => q x H3 ((s1.trans s2).trans s3) ⟨dx, r, y1, y2, y3, h1, h2, h3⟩⟩⟩
def sp_need_asked (K : PySem.W.Frag) : Sp := fun vs H Q _ => ∃ b, ∃ c m : Int, vs = [.ref b, .int c, .int m] ∧ Bk K H b ∧ (1 ≤ c ∧ c ≤ 12) ∧ (1 ≤ m ∧ m ≤ 4) ∧ RetF .non H Q
abbrev N_need_asked : List Str := ["book", "copies", "many"]
abbrev sco_need_asked : Scope := defScope s_need_asked
theorem sc_need_asked : FnScope N_need_asked ["book", "copies", "many"] sco_need_asked := ⟨rfl, rfl, rfl, by decide +kernel, rfl, by decide +kernel, by decide +kernel⟩
theorem ok_need_asked (T : Tx K mg) : C8.Cal P w K mg base 4 "need_asked" (sp_need_asked K) [] := by
  have c_need_book : C8.Cal P w K mg base 1 "need_book" (sp_need_book K) [.str "book"] := ok_need_book T
  have c_need_number : C8.Cal P w K mg base 3 "need_number" sp_need_number [] := ok_need_number T
  refine mkCal T.d_need_asked T.m_need_asked (fun fd F => ⟨[], .nil, F.bindsN fun _ _ _ _ _ _ us hl => match us, hl with | [_, _, _], _ => rfl⟩) sc_need_asked (fun vs H Q E h => ?_) (fun cdv A outer s H vs Q E hr h => ?_)
  · obtain ⟨b, c, m, rfl, _⟩ := h; rfl
  · obtain ⟨b, c, m, rfl, hb, hc, hm, q⟩ := h
    refine ⟨_, (pss_cons (ps_expr (C8.pe_c c_need_book hr (by decide) (by rfl) (pa_cons (pv 0) pa_nil)))
      (pss_cons (ps_expr (C8.pe_c c_need_number hr (by decide) (by rfl) (pa_cons (pv 1) (pa_cons pe_str (pa_cons pe_int (pa_cons (C8.pe_gc (by rfl) T.g_MOST_COPIES_thick) pa_nil))))))
      (pss_one (ps_expr (C8.pe_c c_need_number hr (by decide) (by rfl) (pa_cons (pv 2) (pa_cons pe_str (pa_cons pe_int (pa_cons (C8.pe_gc (by rfl) T.g_MOST_EDITS_thick) pa_nil))))))))), ?_⟩
    have hcB : inB (some 1) (some 12) c := ⟨fun l e => by cases e; exact hc.1, fun l e => by cases e; exact hc.2⟩
    have hmB : inB (some 1) (some 4) m := ⟨fun l e => by cases e; exact hm.1, fun l e => by cases e; exact hm.2⟩
    exact ⟨_, rfl, b, _, rfl, hb, fun H1 s1 => ⟨_, rfl, c, _, some 1, some 12, rfl, hcB, fun H2 s2 => ⟨_, rfl, m, _, some 1, some 4, rfl, hmB, fun H3 s3 => q H3 ((s1.trans s2).trans s3)⟩⟩⟩
def sp_strange_in_thick (K : PySem.W.Frag) : Sp := fun vs H Q _ => ∃ bk s, ∃ c : Int, vs = [.ref bk, .int c, .ref s] ∧ StrAt K H s ∧ ∀ x H2, Same H H2 → BrkAt K H2 x → Q (.ref x) H2
abbrev N_strange_in_thick : List Str := ["book", "copies", "strange", "first", "last", "ahead", "number", "edit"]
abbrev sco_strange_in_thick : Scope := defScope s_strange_in_thick
theorem sc_strange_in_thick : FnScope N_strange_in_thick ["book", "copies", "strange"] sco_strange_in_thick := ⟨rfl, rfl, rfl, by decide +kernel, rfl, by decide +kernel, by decide +kernel⟩
theorem ok_strange_in_thick (T : Tx K mg) : C8.Cal P w K mg base 12 "strange_in_thick" (sp_strange_in_thick K) [] := by
  have c_Broken := mk_Broken (w := w) (base := base) T
  refine mkCal T.d_strange_in_thick T.m_strange_in_thick (fun fd F => ⟨[], .nil, F.bindsN fun _ _ _ _ _ _ us hl => match us, hl with | [_, _, _], _ => rfl⟩) sc_strange_in_thick (fun vs H Q E h => ?_) (fun cdv A outer s H vs Q E hr h => ?_)
  · obtain ⟨b, s, c, rfl, _⟩ := h; rfl
  · obtain ⟨b, s, c, rfl, hs, q⟩ := h
    refine ⟨_, (pss_cons (ps_asg (pe_tup (pa_cons (pe_ix (ix_tupK (K := K) rfl) (pe_fldK (K := K) rfl (pv 2) rfl) pe_int (fun _ _ => rfl)) (pa_cons (pe_ix (ix_tupK (K := K) rfl) (pe_fldK (K := K) rfl (pv 2) rfl) (pe_un un_neg pe_int) (fun _ _ => rfl)) pa_nil))) (pg_tupK (K := K) (n := 2) rfl rfl (pgs_cons (pg_name (i := 3) sc_strange_in_thick.nd rfl (Or.inr rfl)) (pgs_cons (pg_name (i := 4) sc_strange_in_thick.nd rfl (Or.inl rfl)) pgs_nil))))
      (pss_cons (ps_if (pt_cmpR op_eq (pv 3) (pv 4) (nomark _)) (pss_one (ps_ret (pe_mkR c_Broken hr (by decide) (by rfl) (pa_cons (pe_tup (pa_cons (pv 3) pa_nil)) (pa_cons (pe_fldK (K := K) rfl (pv 2) rfl) pa_nil))))) pss_nil)
      (pss_cons ps_never
      (pss_one ps_never)))), ?_⟩
    obtain ⟨dx, r, y1, y2, y3, hs, h1, h2⟩ := hs
    obtain ⟨rp, rs, rfl, hr1, hr2⟩ := dp_tup h1
    have hr3 := dpAll_ints_eq (ns := [0]) hr2
    subst hr3
    refine ⟨_, rfl, s, _, dx, _, _, rfl, hs, T.k_Strange, T.n_Strange_row, rfl, rp, _, (0 : Int), _, rfl, rfl, hr1, rfl, _, rfl, s, _, dx, _, _, rfl, hs, T.k_Strange, T.n_Strange_row, rfl, 1, rfl, rp, _, (-1 : Int), _, rfl, rfl, hr1, rfl, by show 2 ≤ sizeLine; decide, fun p hp => ⟨p, _, rfl, .inl (.inl upd_same), rfl, _, _, rfl, _, _, rfl, rfl, _, rfl, _, rfl, rfl, true, congrArg V.bl (decide_eq_true rfl), iteT ?_⟩⟩
    have s1 : Same H (upd H p (.tup [.int 0, .int 0])) := same_new hp
    refine ⟨_, rfl, by show 1 ≤ sizeLine; decide, fun p2 hp2 => ?_⟩
    have s2 : Same H (upd (upd H p (.tup [.int 0, .int 0])) p2 (.tup [.int 0])) := s1.trans (same_new hp2)
    refine ⟨_, rfl, s, _, dx, _, _, rfl, s2 s _ hs, T.k_Strange, T.n_Strange_edits, rfl, fun x dx' hx hdx hne => ?_⟩
    have d1 := dep_eds e4
    have d2 := siz_eds e4
    have d3 : e4.length = 4 := rfl
    refine ⟨_, _, _, x, .ref p2, y2, .tuple [.int 0], .tuple (e4.map edD), dx', rfl, own_new hx hdx hne, .tup (.inl (.inl upd_same)) (.cons (.int 0) .nil), h2.mono s2, ⟨by simp [PyData.depth, PyData.depthAll], by simp only [PyData.depth]; omega⟩, ⟨by simp [szD, szAll], by simp only [szD]; omega⟩, fun I5 H5 r z1 z2 o5 k1 k2 => ⟨rfl, ?_⟩⟩
    have e : fxd (.tuple (e4.map edD)) = .tuple (e4.map edD) := congrArg PyData.tuple (fxd_eds _)
    rw [e] at k2
    exact q x H5 (s2.trans o5.a.hh) ⟨dx', r, z1, z2, o5.h, Dp.mono o5.a.ih k1, k2.mono o5.a.ih⟩
def sp_judged_book (K : PySem.W.Frag) : Sp := fun vs H Q _ => ∃ b, ∃ c m : Int, vs = [.ref b, .int c, .int m] ∧ Bk K H b ∧ ((c = 9 ∧ m = 4 ∧ ∀ x H2, Same H H2 → BrkAt K H2 x → Q (.ref x) H2) ∨
  (c = 7 ∧ m = 3 ∧ ∀ x dx r H2, Same H H2 → H2 x = some (.ins (He.ga K "Thick") dx [("word", .str "thick"), ("parts", r), ("price", .int 4)]) → Q (.ref x) H2))
abbrev N_judged_book : List Str := ["book", "copies", "many", "strange"]
abbrev sco_judged_book : Scope := defScope s_judged_book
theorem sc_judged_book : FnScope N_judged_book ["book", "copies", "many"] sco_judged_book := ⟨rfl, rfl, rfl, by decide +kernel, rfl, by decide +kernel, by decide +kernel⟩
theorem ok_judged_book (T : Tx K mg) : C8.Cal P w K mg base 15 "judged_book" (sp_judged_book K) [] := by
  have c_need_asked : C8.Cal P w K mg base 4 "need_asked" (sp_need_asked K) [] := ok_need_asked T
  have c_price_of : C8.Cal P w K mg base 14 "price_of" (sp_price_of K) [] := ok_price_of T
  have c_Thick := mk_Thick (w := w) (base := base) T
  have c_Broken := mk_Broken (w := w) (base := base) T
  have c_strange_in_thick : C8.Cal P w K mg base 12 "strange_in_thick" (sp_strange_in_thick K) [] := ok_strange_in_thick T
  refine mkCal T.d_judged_book T.m_judged_book (fun fd F => ⟨[], .nil, F.bindsN fun _ _ _ _ _ _ us hl => match us, hl with | [_, _, _], _ => rfl⟩) sc_judged_book (fun vs H Q E h => ?_) (fun cdv A outer s H vs Q E hr h => ?_)
  · obtain ⟨b, c, m, rfl, _⟩ := h; rfl
  · obtain ⟨b, c, m, rfl, hb, q⟩ := h
    obtain ⟨fdP, F_tru, B_tru⟩ := ok_Paper_bool (P := P) (w := w) (base := base) T
    refine ⟨_, (pss_cons (ps_expr (C8.pe_c c_need_asked hr (by decide) (by rfl) (pa_cons (pv 0) (pa_cons (pv 1) (pa_cons (pv 2) pa_nil)))))
      (pss_cons (ps_if (pt_cmpR op_le (pv 1) (pe_op op_mul pe_int (pv 2)) (nomark _)) (pss_one ps_never) pss_nil)
      (pss_cons (ps_set (i := 3) sc_judged_book.nd rfl (Or.inl rfl) (C8.pe_c c_price_of hr (by decide) (by rfl) (pa_cons (pv 0) pa_nil)))
      (pss_cons (ps_if (PW.pt (pw_and (pt_truthR (pv 3) (tru_ins (E := C8.E0) F_tru (hr.mono (by decide)) T.b_Strange.1 T.b_Strange.2 B_tru C8.pass0) (fun _ => rfl)) (pw_and1 (pt_cmpR op_le (pe_callB (call_len_seqK (K := K) rfl) (by rfl) T.f_len bb_len (pa_cons (pe_fldK (K := K) rfl (pv 3) rfl) pa_nil)) (pv 2) (nomark _))))) (pss_one (ps_ret (C8.pe_c c_strange_in_thick hr (by decide) (by rfl) (pa_cons (pv 0) (pa_cons (pv 1) (pa_cons (pv 3) pa_nil)))))) pss_nil)
      (pss_one (ps_ret (pe_mkR c_Thick hr (by decide) (by rfl) (pa_cons (pe_ifExp (pt_truthR (pv 3) (tru_ins (E := C8.E0) F_tru (hr.mono (by decide)) T.b_Strange.1 T.b_Strange.2 B_tru C8.pass0) (fun _ => rfl)) (pe_callB (call_len_seqK (K := K) rfl) (by rfl) T.f_len bb_len (pa_cons (pe_fldK (K := K) rfl (pv 3) rfl) pa_nil)) pe_non) pa_nil)))))))), ?_⟩
    have hcm : (1 ≤ c ∧ c ≤ 12) ∧ (1 ≤ m ∧ m ≤ 4) ∧ ¬ c ≤ 2 * m := by
      rcases q with ⟨h1, h2, _⟩ | ⟨h1, h2, _⟩ <;> omega
    have hmul : CMul 2 m := by
      rcases q with ⟨_, rfl, _⟩ | ⟨_, rfl, _⟩ <;> exact .inl ⟨by decide, by decide⟩
    refine ⟨_, rfl, _, rfl, _, rfl, b, c, m, rfl, hb, hcm.1, hcm.2.1, fun H1 s1 => ⟨_, rfl, _, rfl, _, _, rfl, rfl, hmul, _, _, rfl, rfl, false, congrArg V.bl (decide_eq_false hcm.2.2), iteF ?_⟩⟩
    refine ⟨_, rfl, b, rfl, hb.mono s1, fun x H2 s2 hx => ?_⟩
    obtain ⟨dx, r, y1, y2, y3, hxo, h1, h2⟩ := id hx
    obtain ⟨ep, es, rfl, he1, he2⟩ := dp_tup h2
    have hel : es.length = 4 := by rw [he2.length]; rfl
    refine ⟨_, rfl, x, dx, _, rfl, hxo, fun H3 s3 => iteT ⟨_, rfl, x, _, dx, _, _, rfl, s3 x _ hxo, T.k_Strange, T.n_Strange_edits, rfl, ep, es, rfl, .inr (sqt_mono s3 he1), _, rfl, _, _, rfl, rfl, decide ((es.length : Int) ≤ m), rfl, ?_⟩⟩
    rw [hel]
    have s4 := (s1.trans s2).trans s3
    rcases q with ⟨rfl, rfl, q⟩ | ⟨rfl, rfl, q⟩
    · rw [decide_eq_true (by decide)]
      exact iteT ⟨_, rfl, _, rfl, _, rfl, b, x, 9, rfl, hx.mono s3, fun y H4 s5 hy => q y H4 (s4.trans s5) hy⟩
    · rw [decide_eq_false (by decide)]
      refine iteF ⟨_, rfl, x, dx, _, rfl, s3 x _ hxo, fun H4 s5 => iteT ⟨_, rfl, x, _, dx, _, _, rfl, (s3.trans s5) x _ hxo, T.k_Strange, T.n_Strange_edits, rfl, ep, es, rfl, .inr (sqt_mono (s3.trans s5) he1), fun z dz hz hdz hne => ?_⟩⟩
      refine ⟨_, _, _, z, _, .int (es.length : Nat), dz, rfl, own_new hz hdz hne, .int _, by simp [PyData.depth], by simp [szD], fun I5 H5 r y o5 k1 => ⟨rfl, ?_⟩⟩
      have e1 : y = .int (4 : Int) := by
        rw [hel] at k1
        exact dp_int k1
      subst e1
      exact q z dz r H5 ((s4.trans s5).trans o5.a.hh) o5.h
end
end K57
set_option Elab.async false
set_option linter.all false
set_option maxRecDepth 100000
set_option maxHeartbeats 4000000
namespace K57
open PySem PySem.Spec PyProof.Rows L2
section
variable {w : World} {K : PySem.W.Frag} {mg : Str → Option Value} {base : Heap}
def sp__law_spelled_t (K : PySem.W.Frag) : Sp := fun vs H Q _ => ∃ W r ns, ∃ k : Nat, vs = [.ref W, .ref r, .int k] ∧ SqL K H W wordsV ∧ SqT K H r (nV ns) ∧ (∀ n ∈ ns, n < 30) ∧ ns.length ≤ 20 ∧ k ≤ 12 ∧ RetF (tx (txt ns k)) H Q
theorem ok__law_spelled_t (T : Tx K mg) : C8.Cal P w K mg base 1 "_law_spelled" (sp__law_spelled_t K) [] := by
  refine mkCal T.d__law_spelled T.m__law_spelled (fun fd F => ⟨[], .nil, F.bindsN fun _ _ _ _ _ _ us hl => match us, hl with | [_, _, _], _ => rfl⟩) sc__law_spelled (fun vs H Q E h => ?_) (fun cdv A outer s H vs Q E hr h => ?_)
  · obtain ⟨W, r, ns, k, rfl, _⟩ := h; rfl
  · obtain ⟨W, r, ns, k, rfl, hW, hr', hn, hl, hk, q⟩ := h
    refine ⟨_, (pss_cons (ps_set (i := 3) sc__law_spelled.nd rfl (Or.inl rfl) (pe_lst pa_nil))
      (pss_cons (ps_for PassesOwn.never rfl (pi_seq (pv 1)) (pg_name (i := 4) sc__law_spelled.nd rfl (Or.inl rfl))
      (pss_one (ps_set (i := 3) sc__law_spelled.nd rfl (Or.inl rfl) (pe_op op_cat (pv 3) (pe_op op_rep (pe_lst (pa_cons (pe_ix (ix_listK (K := K) rfl) (pv 0) (pv 4) (fun _ _ => rfl)) pa_nil)) (pv 2))))))
      (pss_one (ps_ret (pe_join pe_str (pv 3)))))), ?_⟩
    refine ⟨by show 0 ≤ sizeLine; decide, fun p0 hp0 => ?_⟩
    have s0 : Same H (upd H p0 (.lst [])) := same_new hp0
    refine .inr ⟨_, rfl, r, rfl, ⟨_, sqt_mono s0 hr'⟩, for_it (w_tup (xs := nV ns)) (fun i σ H' => (∃ l z, σ = [some (V.ref W), some (V.ref r), some (V.int (k : Int)), some (V.ref l), z] ∧ H' l = some (.lst ((rowIts (ns.take i) k).map tx))) ∧ Same H H')
      ⟨⟨p0, _, rfl, upd_same⟩, s0⟩ (fun i σ H' _ q => sqt_mono q.2 hr') ?_ ?_⟩
    · rintro i x σ _ H1 hi ⟨⟨l, z, rfl, hl1⟩, s1⟩ ⟨rfl, hx⟩
      obtain ⟨n, hni, rfl⟩ := nV_at hx
      have hn30 := hn n (List.mem_of_getElem? hni)
      have hil : i < ns.length := (List.getElem?_eq_some_iff.mp hni).1
      refine ⟨_, rfl, _, rfl, _, rfl, W, _, _, _, rfl, rfl, sql_mono s1 hW, atI_nat (words_at hn30), by show 1 ≤ sizeLine; decide, fun p hp => ⟨_, rfl, p, _, _, rfl, rfl, upd_same, by omega, by omega, ?_, fun p2 hp2 => ?_⟩⟩
      · show 1 * k ≤ sizeLine
        exact le_line (by omega)
      · have s2 := (same_new hp (o := .lst [tx (wd n)])).trans (same_new hp2 (o := .lst (List.replicate ((k : Nat) : Int).toNat [tx (wd n)]).flatten))
        refine ⟨l, p2, _, _, rfl, rfl, s2 l _ hl1, upd_same, ?_, fun p3 hp3 => ⟨⟨p3, _, rfl, ?_⟩, (s1.trans s2).trans (same_new hp3)⟩⟩
        · have h1 := rowIts_len (ns.take i) k
          have h2 : (ns.take i).length ≤ 20 := Nat.le_trans (List.length_take_le' ..) hl
          have h3 : (ns.take i).length * k ≤ 20 * 12 := Nat.mul_le_mul h2 hk
          rw [List.length_map, flat_rep, List.length_replicate]
          refine le_line ?_
          omega
        · rw [upd_same, flat_rep, take_next hil, rowIts_app, List.map_append]
          have e : ns[i] = n := by rw [List.getElem?_eq_getElem hil] at hni; exact Option.some.inj hni
          rw [e]
          simp [rowIts]
    · rintro σ H1 ⟨⟨l, z, rfl, hl1⟩, s1⟩
      have e1 : ns.take (nV ns).length = ns := by rw [List.length_map]; exact List.take_length
      rw [e1] at hl1
      refine ⟨⟨_, rfl⟩, _, rfl, _, l, (rowIts ns k).map SX.S, rfl, rfl, .inl (.inl (.inl ?_)), ?_, ?_⟩
      · rw [hl1, List.map_map] <;> rfl
      · rw [List.map_map, List.length_map]
        have h1 := rowIts_len ns k
        have h2 : ns.length * k ≤ 20 * 12 := Nat.mul_le_mul hl hk
        have h3 : ((rowIts ns k).map ((fun x : Str => x.length) ∘ SX.S)).sum ≤ (rowIts ns k).length * 12 := by
          refine sum_le_mul fun x hx => ?_
          obtain ⟨n, hn2, hx2⟩ := List.mem_flatMap.mp hx
          rw [List.eq_of_mem_replicate hx2]
          show (SX.S (wd n)).length ≤ 12
          rw [SX.S_len]
          exact (book_ok _ (wd_mem (hn n hn2))).2.1
        have h4 : (Str.ofString " ").length = 1 := rfl
        rw [h4]
        omega
      · have e : Txt.join (Str.ofString " ") ((rowIts ns k).map SX.S) = SX.S (txt ns k) := by
          rw [show Str.ofString " " = SX.S [32] from rfl, SX.join_S, joinL_eq] <;> rfl
        rw [e]
        exact q H1 s1
/-- a row of one number is no thick reading of what begins otherwise -/
def sp__law_is_thick_f (K : PySem.W.Frag) : Sp := fun vs H Q _ => ∃ r o, ∃ n c : Nat, ∃ tl, vs = [.ref r, .ref o] ∧ SqL K H r (nV [n]) ∧ SqL K H o (nV (c :: tl)) ∧ c ≠ n ∧ tl.length < 500000 ∧ RetF (.bl false) H Q
theorem ok__law_is_thick_f (T : Tx K mg) : C8.Cal P w K mg base 1 "_law_is_thick" (sp__law_is_thick_f K) [] := by
  refine mkCal T.d__law_is_thick T.m__law_is_thick (fun fd F => ⟨[], .nil, F.bindsN fun _ _ _ _ _ _ us hl => match us, hl with | [_, _], _ => rfl⟩) sc__law_is_thick (fun vs H Q E h => ?_) (fun cdv A outer s H vs Q E hr h => ?_)
  · obtain ⟨r, o, n, c, tl, rfl, _⟩ := h; rfl
  · obtain ⟨r, o, n, c, tl, rfl, hr', ho, hcn, hl, q⟩ := h
    refine ⟨_, (pss_cons (ps_set (i := 2) sc__law_is_thick.nd rfl (Or.inl rfl) (pe_lst (pa_cons pe_int pa_nil)))
      (pss_cons (ps_for PassesOwn.never rfl (pi_listK (K := K) rfl (pv 0)) (pg_name (i := 3) sc__law_is_thick.nd rfl (Or.inl rfl))
      (pss_cons (ps_set (i := 4) sc__law_is_thick.nd rfl (Or.inl rfl) (pe_lst pa_nil))
      (pss_cons (ps_for PassesOwn.never rfl (pi_listK (K := K) rfl (pv 2)) (pg_name (i := 5) sc__law_is_thick.nd rfl (Or.inl rfl))
      (pss_cons (ps_set (i := 6) sc__law_is_thick.nd rfl (Or.inl rfl) (pv 5))
      (pss_one (ps_while PassesOwn.never (PW.pt (pw_and (pt_cmpR op_lt (pv 6) (pe_callB (call_len_seqK (K := K) rfl) (by rfl) T.f_len bb_len (pa_cons (pv 1) pa_nil)) (nomark _)) (pw_and1 (pt_cmpR op_eq (pe_ix (ix_listK (K := K) rfl) (pv 1) (pv 6) (fun _ _ => rfl)) (pv 3) (nomark _))))) (pss_cons (ps_set (i := 6) sc__law_is_thick.nd rfl (Or.inl rfl) (pe_op op_add (pv 6) pe_int))
      (pss_one (ps_if (pt_cmpR (op_notIn_seqK (K := K) rfl) (pv 6) (pv 4) rfl) (pss_one (ps_expr (pe_bmK (K := K) rfl PySem.F.plainAttrs_list PySem.F.slot_list_append PySem.F.type_list_append mt_append (pv 4) (pa_cons (pv 6) pa_nil)))) pss_nil)))))))
      (pss_one (ps_set (i := 2) sc__law_is_thick.nd rfl (Or.inl rfl) (pv 4))))))
      (pss_one (ps_ret (pe_cmpR (op_in_seqK (K := K) rfl) (pe_callB (call_len_seqK (K := K) rfl) (by rfl) T.f_len bb_len (pa_cons (pv 1) pa_nil)) (pv 2) rfl))))), ?_⟩
    refine ⟨by show 1 ≤ sizeLine; decide, fun p0 hp0 => ?_⟩
    have s0 : Same H (upd H p0 (.lst [.int 0])) := same_new hp0
    refine ⟨_, rfl, r, rfl, ⟨_, sql_mono s0 hr'⟩, for_it (w_list (xs := nV [n])) (fun i σ H' => (∃ lE z3 z4 z5 z6, σ = [some (V.ref r), some (V.ref o), some (V.ref lE), z3, z4, z5, z6] ∧ H' lE = some (.lst (if i = 0 then [V.int 0] else []))) ∧ Same H H')
      ⟨⟨p0, _, _, _, _, rfl, upd_same⟩, s0⟩ (fun i σ H' _ q => sql_mono q.2 hr') ?_ ?_⟩
    · rintro i x σ _ H1 hi ⟨⟨lE, z3, z4, z5, z6, rfl, hE⟩, s1⟩ ⟨rfl, hx⟩
      obtain rfl : i = 0 := by simp [nV] at hi; exact hi
      cases hx
      refine ⟨by show 0 ≤ sizeLine; decide, fun p hp => ?_⟩
      have s2 : Same H (upd H1 p (.lst [])) := s1.trans (same_new hp)
      have hpE : lE ≠ p := fun e => by rw [← e, hE] at hp; cases hp
      have hE2 : (upd H1 p (.lst [])) lE = some (.lst [V.int 0]) := by rw [upd_ne hpE]; exact hE
      refine ⟨_, rfl, lE, rfl, ⟨_, .inl (.inl hE2)⟩, for_it (w_list (xs := [V.int 0])) (fun j σ H' => (∃ z5 z6, σ = [some (V.ref r), some (V.ref o), some (V.ref lE), some (V.int (n : Int)), some (V.ref p), z5, z6] ∧ H' lE = some (.lst [V.int 0]) ∧ H' p = some (.lst [])) ∧ Same H H')
        ⟨⟨_, _, rfl, hE2, upd_same⟩, s2⟩ (fun j σ H' _ q => by obtain ⟨⟨_, _, _, h, _⟩, _⟩ := q; exact .inl (.inl h)) ?_ ?_⟩
      · rintro j x σ _ H2 hj ⟨⟨z5, z6, rfl, hE3, hL⟩, s3⟩ ⟨rfl, hx⟩
        obtain rfl : j = 0 := by simp at hj; exact hj
        cases hx
        refine ⟨_, rfl, fun μ σ H' => σ = [some (V.ref r), some (V.ref o), some (V.ref lE), some (V.int (n : Int)), some (V.ref p), some (V.int 0), some (V.int 0)] ∧ H' lE = some (.lst [V.int 0]) ∧ H' p = some (.lst []) ∧ Same H H', ⟨0, rfl, hE3, hL, s3⟩, ?_⟩
        rintro μ σ H3 ⟨rfl, hE4, hL', s4⟩
        have ho3 := sql_mono s4 ho
        refine ⟨_, rfl, _, rfl, o, _, rfl, .inl ho3, _, _, rfl, rfl, true, congrArg V.bl (decide_eq_true (by rw [List.length_map, List.length_cons]; omega)), iteT ⟨_, rfl, _, rfl, o, _, _, V.int (c : Int), rfl, rfl, ho3, atI_nat (j := 0) rfl, _, rfl, rfl, decide (V.int (c : Int) = V.int (n : Int)), rfl, ?_⟩⟩
        rw [decide_eq_false (fun z => hcn (by have := V.int.inj z; omega))]
        refine iteF ⟨⟨_, _, rfl, hE4, hL'⟩, s4⟩
      · rintro σ H2 ⟨⟨z5, z6, rfl, hE3, hL⟩, s3⟩
        refine ⟨_, rfl, ⟨p, _, _, _, _, rfl, hL⟩, s3⟩
    · rintro σ H2 ⟨⟨lE, z3, z4, z5, z6, rfl, hE⟩, s3⟩
      have hE' : H2 lE = some (.lst []) := hE
      refine ⟨_, rfl, o, _, rfl, .inl (sql_mono s3 ho), _, rfl, lE, _, rfl, .inl (.inl (.inl hE')), rfl, rfl, ?_⟩
      exact q H2 s3
end
end K57
set_option Elab.async false
set_option linter.all false
set_option maxRecDepth 100000
set_option maxHeartbeats 4000000
namespace K57
open PySem PySem.Spec PyProof.Rows L2
theorem can9 : CanAll (txt [0] 9) e4 := by
  refine ⟨.inr ⟨by decide, by decide⟩, by unfold Can; decide +kernel, .inr ⟨by decide, by decide⟩, by unfold Can; decide +kernel, .inr ⟨by decide, by decide⟩, by unfold Can; decide +kernel, .inr ⟨by decide, by decide⟩, by unfold Can; decide +kernel, trivial⟩
theorem told9 : told (goAll (txt [0] 9) e4) = [4, 0, 0, 0, 0, 0, 0, 0, 0] := by decide +kernel
theorem txt9 : (txt [0] 9).length = 62 := by decide +kernel
theorem go9 : (goAll (txt [0] 9) e4).length = 63 := by decide +kernel
abbrev bookD : PyData := .tuple (book.map fun l => .str (SX.S l))
theorem bookD_eqv : bookD.eqv bookD = true := by kernel_rfl
theorem bookD_sh : SeqAt.shaped bookD = true := by kernel_rfl
section
variable {w : World} {K : PySem.W.Frag} {mg : Str → Option Value} {base : Heap}
theorem words_dp {H : Hp} : DpAll K H wordsV (book.map fun l => .str (SX.S l)) := by
  have h := dpAll_strs (K := K) (I := H) (book.map SX.S)
  rw [List.map_map, List.map_map] at h
  exact h
def sp_law (K : PySem.W.Frag) : Sp := fun vs H Q _ => ∃ s, ∃ cs : List Int, vs = [.ref s] ∧ SqL K H s (cs.map V.int) ∧ cs.length ≤ 100 ∧ ∀ H', Q (.bl true) H'
abbrev N_law : List Str := ["_law_script", "_law_press_here", "_law_words", "_law_book", "_law_told", "_law_hurt_here"]
abbrev sco_law : Scope := defScope s_law
theorem sc_law : FnScope N_law ["_law_script"] sco_law := ⟨rfl, rfl, rfl, by decide +kernel, rfl, by decide +kernel, by decide +kernel⟩
theorem ok_law (T : Tx K mg) {fd : FuncData} (F : FunD K D_law.name D_law.qual D_law.params D_law.body D_law.scope (D_law.dvs K) (D_law.kws K) (He.fAd K D_law.at_) fd) : FnOk P w K mg base CX0 16 (He.fAd K D_law.at_) fd ["_law_script"] (sp_law K) := by
  have c__law_press := ok__law_press (P := P) (w := w) (base := base) T
  have c_plain_words := ok_plain_words (P := P) (w := w) (base := base) T
  have c_plain_book := ok_plain_book (P := P) (w := w) (base := base) T
  have c__law_row_right := ok__law_row_right (P := P) (w := w) (base := base) T
  have c__law_turn := ok__law_turn (P := P) (w := w) (base := base) T
  have c_judged_book := ok_judged_book (w := w) (base := base) T
  have c__law_hurt := ok__law_hurt (P := P) (w := w) (base := base) T
  have c__law_spelled := ok__law_spelled_t (w := w) (base := base) T
  have c__law_is_thick := ok__law_is_thick_f (w := w) (base := base) T
  have c__law_read := ok__law_read (P := P) (w := w) (base := base) T
  obtain ⟨fdP, F_tru, B_tru⟩ := ok_Denial_bool (P := P) (w := w) (base := base) T
  refine mkFnOk F sc_law (fun vs H Q E h => ?_) (fun cdv A outer s H vs Q E hr h => ?_)
  · obtain ⟨s, cs, rfl, _⟩ := h; rfl
  · obtain ⟨sa, cs, rfl, hs, hl, q⟩ := h
    refine ⟨_, (pss_cons (ps_set (i := 1) sc_law.nd rfl (Or.inl rfl) (C8.pe_c c__law_press hr (by decide) (by rfl) (pa_cons (pv 0) pa_nil)))
      (pss_cons (ps_par (i := 2) (j := 3) rfl sc_law.nd rfl rfl (by decide) rfl rfl (pa_cons (pe_callTy (call_list_ofK (K := K) rfl) (by rfl) T.f_list bb_list (pa_cons (pe_c0 c_plain_words hr (by decide) (by rfl)) pa_nil)) (pa_cons (pe_c0 c_plain_book hr (by decide) (by rfl)) pa_nil)) rfl)
      (pss_cons (ps_if (PW.pt (pw_or (pt_cmpR op_ne (pe_callB (call_len_seqK (K := K) rfl) (by rfl) T.f_len bb_len (pa_cons (pv 2) pa_nil)) pe_int (nomark _)) (pw_or (pt_cmpR (op_neDK (K := K) rfl hr.units) (pe_fldK (K := K) rfl (pv 3) rfl) (pe_callTy (call_tuple_ofK (K := K) rfl) (by rfl) T.f_tuple bb_tuple (pa_cons (pv 2) pa_nil)) (nomark _)) (pw_or1 (pt_not (pt_val (C8.pe_c c__law_row_right hr (by decide) (by rfl) (pa_cons (pv 1) (pa_cons (pv 2) (pa_cons (pv 3) (pa_cons (pe_op op_add pe_int (C8.pe_c c__law_turn hr (by decide) (by rfl) (pa_cons (pv 1) (pa_cons pe_int pa_nil)))) pa_nil))))))))))) (pss_one (ps_ret pe_bl)) pss_nil)
      (pss_cons (ps_if (pt_cmpR op_gt (C8.pe_c c__law_turn hr (by decide) (by rfl) (pa_cons (pv 1) (pa_cons pe_int pa_nil))) pe_int (nomark _)) (pss_one (ps_ret pe_bl)) pss_nil)
      (pss_cons (ps_set (i := 4) sc_law.nd rfl (Or.inl rfl) (C8.pe_c c_judged_book hr (by decide) (by rfl) (pa_cons (pv 3) (pa_cons pe_int (pa_cons pe_int pa_nil)))))
      (pss_cons (ps_if (PW.pt (pw_or (pt_cmpR op_ne (pe_fldK (K := K) rfl (C8.pe_c c_judged_book hr (by decide) (by rfl) (pa_cons (pv 3) (pa_cons pe_int (pa_cons pe_int pa_nil)))) rfl) pe_int (nomark _)) (pw_or (pt_truthR (pv 4) (tru_ins (E := C8.E0) F_tru (hr.mono (by decide)) T.b_Broken.1 T.b_Broken.2 B_tru C8.pass0) (fun _ => rfl)) (pw_or1 (pt_cmpR op_ne (pe_callB (call_len_seqK (K := K) rfl) (by rfl) T.f_len bb_len (pa_cons (pe_fldK (K := K) rfl (pv 4) rfl) pa_nil)) pe_int (nomark _)))))) (pss_one (ps_ret pe_bl)) pss_nil)
      (pss_cons (ps_set (i := 5) sc_law.nd rfl (Or.inl rfl) (C8.pe_c c__law_hurt hr (by decide) (by rfl) (pa_cons (C8.pe_c c__law_spelled hr (by decide) (by rfl) (pa_cons (pv 2) (pa_cons (pe_fldK (K := K) rfl (pv 4) rfl) (pa_cons pe_int pa_nil)))) (pa_cons (pe_fldK (K := K) rfl (pv 4) rfl) pa_nil))))
      (pss_one (ps_ret (pe_and (pe_cmpR op_notN (pv 5) pe_non (nomark _)) (pe_one (pe_not (C8.pe_c c__law_is_thick hr (by decide) (by rfl) (pa_cons (pe_callTy (call_list_ofK (K := K) rfl) (by rfl) T.f_list bb_list (pa_cons (pe_fldK (K := K) rfl (pv 4) rfl) pa_nil)) (pa_cons (C8.pe_c c__law_read hr (by decide) (by rfl) (pa_cons (pv 2) (pa_cons (pv 5) pa_nil))) pa_nil))))))))))))))), ?_⟩
    refine ⟨_, rfl, sa, cs, rfl, hs, hl, fun p c H1 s1 hp0 hP1 => ?_⟩
    refine ⟨rfl, Wd K, wordsV, rfl, .inr (T.wordsT _), fun W hW => ⟨rfl, fun bk H2 s2 hbk0 hbk => ⟨_, _, rfl, ?_⟩⟩⟩
    have hW2 : H2 W = some (.lst wordsV) := s2 W _ upd_same
    have hWp := (hP1.new hW).1
    have P2 : Press H2 p c 1000 := ((hP1.mut (hP1.new hW)).same s2).le (by decide)
    obtain ⟨dx, hbo⟩ := id hbk
    refine ⟨_, rfl, W, _, rfl, .inl (.inl (.inl hW2)), rfl, false, congrArg (fun b => V.bl (!b)) (decide_eq_true (by rw [wordsV_len]; rfl)), iteF ?_⟩
    refine ⟨_, rfl, bk, _, dx, _, _, rfl, hbo, T.k_Book, T.n_Book_words, rfl, _, rfl, W, wordsV, rfl, .inl ⟨.inl (.inl hW2), fun tp htp => ⟨bookD, bookD, .tup (T.wordsT _) words_dp, .tup (.inl (.inl upd_same)) words_dp, bookD_sh, bookD_sh, false, by rw [bookD_eqv]; rfl, iteF ?_⟩⟩⟩
    have s3 : Same H2 (upd H2 tp (.tup wordsV)) := same_new htp
    have hbp : bk ≠ p := fun e => by
      obtain ⟨_, _, _, _, hp, _⟩ := P2
      rw [e, hp] at hbo
      cases hbo
    refine ⟨_, rfl, _, rfl, _, rfl, _, rfl, p, c, 900, 3, rfl, by decide, by decide, (P2.same s3).le (by decide), fun k hk H3 b3 P3 => ⟨_, _, rfl, rfl, p, c, 600, W, bk, k + 1, congrArg (fun i => [V.ref p, V.ref W, V.ref bk, V.int i]) (by omega), by omega, by omega, hWp, b3 W _ hWp (s3 W _ hW2), ?_, P3.le (by decide), fun H4 b4 P4 => ?_⟩⟩
    · exact ⟨dx, b3 bk _ hbp (s3 bk _ hbo)⟩
    have hW4 : H4 W = some (.lst wordsV) := b4 W _ hWp (b3 W _ hWp (s3 W _ hW2))
    have hbo4 := b4 bk _ hbp (b3 bk _ hbp (s3 bk _ hbo))
    refine ⟨_, rfl, iteF ⟨_, rfl, p, c, 0, 60, rfl, by decide, by decide, P4.le (by decide), fun k2 hk2 H5 b5 P5 => ⟨_, _, rfl, rfl, decide ((0 : Int) < (k2 : Int)), rfl, ?_⟩⟩⟩
    by_cases hk0 : 0 < k2
    · rw [decide_eq_true (by omega)]
      exact iteT (q H5)
    rw [decide_eq_false (by omega)]
    refine iteF ?_
    have hW5 := b5 W _ hWp hW4
    have hbo5 := b5 bk _ hbp hbo4
    refine ⟨_, rfl, bk, 9, 4, rfl, ⟨dx, hbo5⟩, .inl ⟨rfl, rfl, fun x H6 s6 hx => ?_⟩⟩
    refine ⟨_, rfl, bk, 7, 3, rfl, ⟨dx, s6 bk _ hbo5⟩, .inr ⟨rfl, rfl, fun y dy ry H7 s7 hy => ⟨y, _, dy, _, _, rfl, hy, T.k_Thick, T.n_Thick_price, rfl, rfl, false, congrArg (fun b => V.bl (!b)) (decide_eq_true rfl), iteF ?_⟩⟩⟩
    obtain ⟨dxb, r, y1, y2, hxo, h1, h2⟩ := hx.mono s7
    obtain ⟨rp, rs, rfl, hr1, hr2⟩ := dp_tup h1
    have hr3 := dpAll_ints_eq (ns := [0]) hr2
    subst hr3
    obtain ⟨ep, es, rfl, he1, he2⟩ := dp_tup h2
    have hel : es.length = 4 := by rw [he2.length]; rfl
    refine ⟨_, rfl, x, dxb, _, rfl, hxo, fun H8 s8 => iteF ⟨_, rfl, x, _, dxb, _, _, rfl, s8 x _ hxo, T.k_Broken, T.n_Broken_edits, rfl, ep, es, rfl, .inr (sqt_mono s8 he1), rfl, false, congrArg (fun b => V.bl (!b)) (decide_eq_true (by rw [hel]; rfl)), iteF ?_⟩⟩
    have hxo8 := s8 x _ hxo
    have hW8 : H8 W = some (.lst wordsV) := s8 W _ (s7 W _ (s6 W _ hW5))
    refine ⟨_, rfl, _, rfl, x, _, dxb, _, _, rfl, hxo8, T.k_Broken, T.n_Broken_row, rfl, W, rp, [0], 9, rfl, .inl (.inl hW8), sqt_mono s8 hr1, by decide, by decide, by decide, fun H9 s9 => ⟨_, rfl, x, _, dxb, _, _, rfl, s9 x _ hxo8, T.k_Broken, T.n_Broken_edits, rfl, txt [0] 9, ep, e4, rfl, .inr (h2.mono (s8.trans s9)), by rw [txt9]; decide, can9, fun H10 s10 => ?_⟩⟩
    have s11 := (s8.trans s9).trans s10
    have hW10 : H10 W = some (.lst wordsV) := s10 W _ (s9 W _ hW8)
    refine ⟨_, rfl, rfl, true, congrArg (fun b => V.bl (!b)) (decide_eq_false (fun e => by cases e)), iteT ?_⟩
    refine ⟨_, rfl, x, _, dxb, _, _, rfl, s11 x _ hxo, T.k_Broken, T.n_Broken_row, rfl, rp, _, rfl, .inr (sqt_mono s11 hr1), fun L hL => ⟨_, rfl, _, rfl, W, goAll (txt [0] 9) e4, rfl, .inl (.inl (same_new hL W _ hW10)), by rw [go9]; decide, fun D H12 s12 hD0 hD => ?_⟩⟩
    rw [told9] at hD
    exact ⟨L, D, 0, 4, [0, 0, 0, 0, 0, 0, 0, 0], rfl, .inl (.inl (s12 L _ upd_same)), .inl (.inl hD), by decide, by decide, fun H13 s13 => ⟨false, rfl, q H13⟩⟩
end
end K57
set_option Elab.async false
set_option linter.all false
set_option maxRecDepth 100000
set_option maxHeartbeats 0
namespace K57
open PySem PySem.Spec PyProof.Rows L2
theorem facts {w : World} {K : PySem.W.Frag} {h : Heap} {mg : Str → Option Value} {f : Addr} (X : K.In h) (G : h.Ns mainGlobals mg) (hfa : mg ("law" : Str) = some (.ref f)) (c : HkE.SaysE fa fn ex K) :
    ∃ fd : FuncData, (∀ (s : Shared) (v : Value), BindsTo s fd ⟨[v], []⟩ [("_law_script", v)]) ∧ ∀ base : Heap, K.In base → base.Ns mainGlobals mg → FnOk P w K mg base CX0 16 f fd ["_law_script"] (sp_law K) := by
  have T : Tx K mg := ⟨c, ⟨h, X, G⟩⟩
  obtain ⟨fd, _, F⟩ := T.d_law
  have e := hfa.symm.trans T.m_law
  cases e
  have b := FunD.bindsA (ps := ["_law_script"]) F fun _ _ _ _ _ _ us hl => match us, hl with | [_], _ => rfl
  exact ⟨fd, fun s v => b s [v] rfl, fun base _ _ => ok_law T F⟩
end K57
open PySem PySem.W PySem.Calls PyProof.Rows
theorem PySem.Challenge.cw_anyletter_k57_whole_plain_words_read_thi_holds : PySem.Challenge.rw_anyletter_k57_whole_plain_words_read_thi.Holds := by
  w_on; o_law
  refine HandSHeadRun.head_any (r := OpenLaw.row PySem.Challenge.rw_anyletter_k57_whole_plain_words_read_thi) (q := view (OpenLaw.row PySem.Challenge.rw_anyletter_k57_whole_plain_words_read_thi).prog [152]) (H := K57.hk) (ob := K57.ob) (M := 20000) (loose := K57.HR.names) (d := HandSHeadRun.topDef (OpenLaw.row PySem.Challenge.rw_anyletter_k57_whole_plain_words_read_thi).prog 152) (kwd := []) K57.ob_eq
    (by kernel_rfl) (fun s => by kernel_rfl) K57.HR.run (by kernel_rfl) (by kernel_rfl) (by kernel_rfl) (by rfl) (by first | assumption | decide +kernel) (by decide +kernel) ⟨rfl, rfl, rfl, rfl, rfl, by decide +kernel⟩ ?hw ?hc
  case hw => w_witness2
  case hc =>
    refine L2.walk_ofE (l := PySem.Challenge.rw_anyletter_k57_whole_plain_words_read_thi) (n := 63) (k := 16) (x := "_law_script") (CX := L2.CX0) rfl (by decide) (by kernel_rfl) ⟨rfl, by decide, by decide⟩ ?F (fun _ _ _ _ z => z)
    intro w mg fa h Y G hmg0
    obtain ⟨K, KX, c⟩ := Y
    have hmg : mg ("law" : PySem.Str) = some (.ref fa) := by
      have e : (HandSHeadRun.topDef (OpenLaw.row PySem.Challenge.rw_anyletter_k57_whole_plain_words_read_thi).prog 152).name = ("law" : PySem.Str) := by kernel_rfl
      rw [← e]
      exact hmg0
    obtain ⟨fd, hb, hF⟩ := K57.facts (w := w) KX G hmg c
    exact ⟨K, fd, K57.sp_law K, KX, hb, fun H a ns hl _ hS => ⟨a, ns, rfl, hS, by omega, fun _ => rfl⟩, hF⟩
