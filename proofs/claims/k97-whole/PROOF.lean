import PyProof.Rows.All
import Wide.All
import OpenK.AllK
import Wide.FinOn
import KE.KStateDown
import Lean
import HandS.ForMost
import HandS.WordsExc
import HandS.Defaults
import HandS.Head0
import HandS.Head1
import HandS.Head2
import HandS.HeadEnd
import HandS.HeadHook1
import HandS.HeadHook2
import HandS.HeadHook3
import PySem.Challenge.RW_linegrow_k97_whole_from_text_to_letter
import HandS.IsInst
import HandS.Walk
import HandS.Zip
import KE.GoesMore
import KE.KTurns
import PyProof.ListStr
set_option Elab.async false
set_option linter.all false
set_option maxRecDepth 100000
set_option maxHeartbeats 0
namespace G
open PySem PySem.Spec PyProof.Rows L2
def top (i : Nat) : Stmt := PySem.Challenge.pw_linegrow_k97_whole_from_text_to_letter.main.body.getD i (.Pass ⟨0, 0, 0, 0⟩)
abbrev s_is_whole : Stmt := top 21
abbrev s_is_letter : Stmt := top 22
abbrev s_is_rule : Stmt := top 23
abbrev s_rules_of : Stmt := top 24
abbrev s_all_known : Stmt := top 25
abbrev s_makes_book : Stmt := top 26
abbrev s_is_book : Stmt := top 28
abbrev s_letters : Stmt := top 29
abbrev s_words_of : Stmt := top 30
abbrev s_need_age : Stmt := top 36
abbrev s_tally : Stmt := top 39
abbrev s_table : Stmt := top 40
abbrev s_passed : Stmt := top 41
abbrev s_counts_from : Stmt := top 42
abbrev s_counts : Stmt := top 43
abbrev s_length : Stmt := top 44
abbrev s_worths_of : Stmt := top 72
abbrev s_sizes_of : Stmt := top 73
abbrev s_total_of : Stmt := top 74
abbrev s_way_down : Stmt := top 75
abbrev s_words_at : Stmt := top 80
abbrev s_need_place : Stmt := top 81
abbrev s_way : Stmt := top 83
abbrev s_letter_at : Stmt := top 84
abbrev s_is_name : Stmt := top 122
abbrev s_is_number : Stmt := top 123
abbrev s_is_word_of : Stmt := top 124
abbrev s_told_book : Stmt := top 125
abbrev s_words_in : Stmt := top 126
abbrev s_rules_in : Stmt := top 162
abbrev s_read_book : Stmt := top 163
abbrev s_way_told : Stmt := top 169
abbrev s_row_told : Stmt := top 171
abbrev s_Desk___init__ : Stmt := inClass (top 175) 0
abbrev s_Desk_called_in : Stmt := inClass (top 175) 1
abbrev s_Desk_say : Stmt := inClass (top 175) 3
abbrev s_law_pen : Stmt := top 177
abbrev s_law_take : Stmt := top 178
abbrev s_law_signs : Stmt := top 179
abbrev s_law_text : Stmt := top 180
abbrev s_law_word : Stmt := top 181
abbrev s_law_book : Stmt := top 182
abbrev s_law_names : Stmt := top 183
abbrev s_law_shown : Stmt := top 184
abbrev s_law_sizes : Stmt := top 185
abbrev s_law_number : Stmt := top 186
abbrev s_law_walked : Stmt := top 187
abbrev s_law_asked : Stmt := top 188
abbrev s_law : Stmt := top 189
def d_is_whole : He.DefD := ⟨("is_whole", none), "is_whole", "is_whole", defArgs s_is_whole, defBody s_is_whole, defScope s_is_whole, [], []⟩
def d_is_letter : He.DefD := ⟨("is_letter", none), "is_letter", "is_letter", defArgs s_is_letter, defBody s_is_letter, defScope s_is_letter, [], []⟩
def d_is_rule : He.DefD := ⟨("is_rule", none), "is_rule", "is_rule", defArgs s_is_rule, defBody s_is_rule, defScope s_is_rule, [], []⟩
def d_rules_of : He.DefD := ⟨("rules_of", none), "rules_of", "rules_of", defArgs s_rules_of, defBody s_rules_of, defScope s_rules_of, [], []⟩
def d_all_known : He.DefD := ⟨("all_known", none), "all_known", "all_known", defArgs s_all_known, defBody s_all_known, defScope s_all_known, [], []⟩
def d_makes_book : He.DefD := ⟨("makes_book", none), "makes_book", "makes_book", defArgs s_makes_book, defBody s_makes_book, defScope s_makes_book, [], []⟩
def d_is_book : He.DefD := ⟨("is_book", none), "is_book", "is_book", defArgs s_is_book, defBody s_is_book, defScope s_is_book, [], []⟩
def d_letters : He.DefD := ⟨("letters", none), "letters", "letters", defArgs s_letters, defBody s_letters, defScope s_letters, [], []⟩
def d_words_of : He.DefD := ⟨("words_of", none), "words_of", "words_of", defArgs s_words_of, defBody s_words_of, defScope s_words_of, [], []⟩
def d_need_age : He.DefD := ⟨("need_age", none), "need_age", "need_age", defArgs s_need_age, defBody s_need_age, defScope s_need_age, [], []⟩
def d_tally : He.DefD := ⟨("tally", none), "tally", "tally", defArgs s_tally, defBody s_tally, defScope s_tally, [], []⟩
def d_table : He.DefD := ⟨("table", none), "table", "table", defArgs s_table, defBody s_table, defScope s_table, [], []⟩
def d_passed : He.DefD := ⟨("passed", none), "passed", "passed", defArgs s_passed, defBody s_passed, defScope s_passed, [], []⟩
def d_counts_from : He.DefD := ⟨("counts_from", none), "counts_from", "counts_from", defArgs s_counts_from, defBody s_counts_from, defScope s_counts_from, [], []⟩
def d_counts : He.DefD := ⟨("counts", none), "counts", "counts", defArgs s_counts, defBody s_counts, defScope s_counts, [], []⟩
def d_length : He.DefD := ⟨("length", none), "length", "length", defArgs s_length, defBody s_length, defScope s_length, [], []⟩
def d_worths_of : He.DefD := ⟨("worths_of", none), "worths_of", "worths_of", defArgs s_worths_of, defBody s_worths_of, defScope s_worths_of, [], []⟩
def d_sizes_of : He.DefD := ⟨("sizes_of", none), "sizes_of", "sizes_of", defArgs s_sizes_of, defBody s_sizes_of, defScope s_sizes_of, [], []⟩
def d_total_of : He.DefD := ⟨("total_of", none), "total_of", "total_of", defArgs s_total_of, defBody s_total_of, defScope s_total_of, [], []⟩
def d_way_down : He.DefD := ⟨("way_down", none), "way_down", "way_down", defArgs s_way_down, defBody s_way_down, defScope s_way_down, [], []⟩
def d_words_at : He.DefD := ⟨("words_at", none), "words_at", "words_at", defArgs s_words_at, defBody s_words_at, defScope s_words_at, [], []⟩
def d_need_place : He.DefD := ⟨("need_place", none), "need_place", "need_place", defArgs s_need_place, defBody s_need_place, defScope s_need_place, [], []⟩
def d_way : He.DefD := ⟨("way", none), "way", "way", defArgs s_way, defBody s_way, defScope s_way, [], []⟩
def d_letter_at : He.DefD := ⟨("letter_at", none), "letter_at", "letter_at", defArgs s_letter_at, defBody s_letter_at, defScope s_letter_at, [], []⟩
def d_is_name : He.DefD := ⟨("is_name", none), "is_name", "is_name", defArgs s_is_name, defBody s_is_name, defScope s_is_name, [], []⟩
def d_is_number : He.DefD := ⟨("is_number", none), "is_number", "is_number", defArgs s_is_number, defBody s_is_number, defScope s_is_number, [], []⟩
def d_is_word_of : He.DefD := ⟨("is_word_of", none), "is_word_of", "is_word_of", defArgs s_is_word_of, defBody s_is_word_of, defScope s_is_word_of, [], []⟩
def d_told_book : He.DefD := ⟨("told_book", none), "told_book", "told_book", defArgs s_told_book, defBody s_told_book, defScope s_told_book, [], []⟩
def d_words_in : He.DefD := ⟨("words_in", none), "words_in", "words_in", defArgs s_words_in, defBody s_words_in, defScope s_words_in, [], []⟩
def d_rules_in : He.DefD := ⟨("rules_in", none), "rules_in", "rules_in", defArgs s_rules_in, defBody s_rules_in, defScope s_rules_in, [], []⟩
def d_read_book : He.DefD := ⟨("read_book", none), "read_book", "read_book", defArgs s_read_book, defBody s_read_book, defScope s_read_book, [], []⟩
def d_way_told : He.DefD := ⟨("way_told", none), "way_told", "way_told", defArgs s_way_told, defBody s_way_told, defScope s_way_told, [], []⟩
def d_row_told : He.DefD := ⟨("row_told", none), "row_told", "row_told", defArgs s_row_told, defBody s_row_told, defScope s_row_told, [], []⟩
def d_Desk___init__ : He.DefD := ⟨("Desk", some "__init__"), "__init__", "Desk.__init__", defArgs s_Desk___init__, defBody s_Desk___init__, defScope s_Desk___init__, [], []⟩
def d_Desk_called_in : He.DefD := ⟨("Desk", some "called_in"), "called_in", "Desk.called_in", defArgs s_Desk_called_in, defBody s_Desk_called_in, defScope s_Desk_called_in, [], []⟩
def d_Desk_say : He.DefD := ⟨("Desk", some "say"), "say", "Desk.say", defArgs s_Desk_say, defBody s_Desk_say, defScope s_Desk_say, [], []⟩
def d_law_pen : He.DefD := ⟨("_law_pen", none), "_law_pen", "_law_pen", defArgs s_law_pen, defBody s_law_pen, defScope s_law_pen, [], []⟩
def d_law_take : He.DefD := ⟨("_law_take", none), "_law_take", "_law_take", defArgs s_law_take, defBody s_law_take, defScope s_law_take, [], []⟩
def d_law_signs : He.DefD := ⟨("_law_signs", none), "_law_signs", "_law_signs", defArgs s_law_signs, defBody s_law_signs, defScope s_law_signs, [], []⟩
def d_law_text : He.DefD := ⟨("_law_text", none), "_law_text", "_law_text", defArgs s_law_text, defBody s_law_text, defScope s_law_text, [], []⟩
def d_law_word : He.DefD := ⟨("_law_word", none), "_law_word", "_law_word", defArgs s_law_word, defBody s_law_word, defScope s_law_word, [], []⟩
def d_law_book : He.DefD := ⟨("_law_book", none), "_law_book", "_law_book", defArgs s_law_book, defBody s_law_book, defScope s_law_book, [], []⟩
def d_law_names : He.DefD := ⟨("_law_names", none), "_law_names", "_law_names", defArgs s_law_names, defBody s_law_names, defScope s_law_names, [], []⟩
def d_law_shown : He.DefD := ⟨("_law_shown", none), "_law_shown", "_law_shown", defArgs s_law_shown, defBody s_law_shown, defScope s_law_shown, [], []⟩
def d_law_sizes : He.DefD := ⟨("_law_sizes", none), "_law_sizes", "_law_sizes", defArgs s_law_sizes, defBody s_law_sizes, defScope s_law_sizes, [], []⟩
def d_law_number : He.DefD := ⟨("_law_number", none), "_law_number", "_law_number", defArgs s_law_number, defBody s_law_number, defScope s_law_number, [], []⟩
def d_law_walked : He.DefD := ⟨("_law_walked", none), "_law_walked", "_law_walked", defArgs s_law_walked, defBody s_law_walked, defScope s_law_walked, [], []⟩
def d_law_asked : He.DefD := ⟨("_law_asked", none), "_law_asked", "_law_asked", defArgs s_law_asked, defBody s_law_asked, defScope s_law_asked, [], []⟩
def d_law : He.DefD := ⟨("law", none), "law", "law", defArgs s_law, defBody s_law, defScope s_law, [], []⟩
def fn0 : List He.DefD := [d_is_whole, d_is_letter, d_is_rule, d_rules_of, d_all_known, d_makes_book, d_is_book, d_letters, d_words_of, d_need_age, d_tally, d_table, d_passed, d_counts_from, d_counts, d_length, d_worths_of, d_sizes_of, d_total_of, d_way_down, d_words_at, d_need_place, d_way, d_letter_at, d_is_name, d_is_number, d_is_word_of, d_told_book, d_words_in, d_rules_in]
def fn1 : List He.DefD := [d_read_book, d_way_told, d_row_told, d_Desk___init__, d_Desk_called_in, d_Desk_say, d_law_pen, d_law_take, d_law_signs, d_law_text, d_law_word, d_law_book, d_law_names, d_law_shown, d_law_sizes, d_law_number, d_law_walked, d_law_asked, d_law]
def fn : List He.DefD := fn0 ++ (fn1)

def fa0 : List He.Fa := [.glo "is_whole", .glo "is_letter", .glo "is_rule", .glo "rules_of", .glo "all_known", .glo "makes_book", .glo "is_book", .glo "letters", .glo "words_of", .glo "need_age", .glo "tally", .glo "table", .glo "passed", .glo "counts_from", .glo "counts", .glo "length", .glo "worths_of", .glo "sizes_of", .glo "total_of", .glo "way_down", .glo "words_at", .glo "need_place", .glo "way", .glo "letter_at", .glo "is_name", .glo "is_number", .glo "is_word_of", .glo "told_book", .glo "words_in", .glo "rules_in"]
def fa1 : List He.Fa := [.glo "read_book", .glo "way_told", .glo "row_told", .glo "_law_pen", .glo "_law_take", .glo "_law_signs", .glo "_law_text", .glo "_law_word", .glo "_law_book", .glo "_law_names", .glo "_law_shown", .glo "_law_sizes", .glo "_law_number", .glo "_law_walked", .glo "_law_asked", .glo "law", .glo "Desk", .glo "FORMS", .free "len", .free "range", .free "isinstance", .free "sum", .free "zip", .free "enumerate", .free "reversed", .free "sorted", .free "list", .free "tuple", .free "dict", .free "int"]
def fa2 : List He.Fa := [.free "str", .free "bool", .free "min", .int "MOST_LETTERS" 8, .int "MOST_WORD" 6, .int "MOST_FIRST" 12, .int "LAST_AGE" 300, .int "MOST_FIGURES" 300, .int "MOST_NAME_forms" 8, .str "SIGNS_books" "abcdefghijklmnopqrstuvwxyz", .str "FIGURES" "0123456789", .cls "Desk", .noat "Desk" "books", .noat "Desk" "beds", .meth "Desk" "say", .meth "Desk" "called_in", .mkr "Desk"]
def fa : List He.Fa := fa0 ++ (fa1 ++ (fa2))

def loose0 : List PySem.Str := ["_wall", "GrowError", "NoBook", "NoAge", "NoLetter", "NoNumber", "NoPlace", "NoWord", "NoTurn", "NoMark", "NoText", "NoRow", "NoName", "TooLong", "TooMany", "MOST_LETTERS", "MOST_WORD", "MOST_FIRST", "SIGNS_books", "is_whole", "is_letter", "is_rule", "rules_of", "all_known", "makes_book", "book_of", "is_book", "letters", "words_of", "need_letter"]
def loose1 : List PySem.Str := ["word", "LAST_AGE", "MOST_ROW", "need_age", "turned_by", "tally", "table", "passed", "counts_from", "counts", "length", "lengths_by_age", "letter_lengths", "lone", "FAR_AGE", "GREAT_NUMBER", "need_far", "led", "laid", "counts_at", "length_at", "common", "lowered", "lead_of", "cleared", "first_tie", "first_counts", "joint_counts", "tie", "first_weights"]
def loose2 : List PySem.Str := ["all_ones", "both_sizes", "weights_alike", "lengths_alike", "worths_of", "sizes_of", "total_of", "way_down", "worth_ahead", "cut_out", "MOST_CUT", "words_at", "need_place", "need_cut", "way", "letter_at", "stretch", "SIGNS_beds", "MOST_NAME_beds", "need_word", "need_name", "words_by", "Bed", "reach_from", "reached", "rings", "simple", "ring_counts", "gone", "least_multiple"]
def loose3 : List PySem.Str := ["kind_of", "kind", "row_kind", "MOST_FAST", "LONGEST_WORD", "LONGEST_FIRST", "only", "kept_with", "thinned", "shed", "later", "fast", "mirrored", "beside", "FIGURES", "MOST_FIGURES", "MOST_NAME_forms", "FORMS", "is_name", "is_number", "is_word_of", "told_book", "words_in", "MOST_BLOCKS", "twins", "Pile", "block_ahead", "word_behind", "parting", "MOST_PIECES"]
def loose4 : List PySem.Str := ["LONGEST_PIECE", "MOST_BARRED", "EARLY_AGE", "EARLY_ROW", "early_part", "even_places", "onward_places", "cut", "added", "gone_through", "rows_alike", "LONGEST_STRETCH", "MOST_STRETCHES", "LONGEST_GONE", "bits_of", "last_gone", "keep", "first_bits", "coming_from", "thin_web", "early_bits", "web", "comes", "show_book", "rules_in", "read_book", "plain", "listed", "kind_told", "same_told"]
def loose5 : List PySem.Str := ["way_told", "made_by", "row_told", "judged", "bed_done", "bed_told", "Desk", "_law_pen", "_law_take", "_law_signs", "_law_text", "_law_word", "_law_book", "_law_names", "_law_shown", "_law_sizes", "_law_number", "_law_walked", "_law_asked"]
def loose : List PySem.Str := loose0 ++ (loose1 ++ (loose2 ++ (loose3 ++ (loose4 ++ (loose5)))))

def fnames0 : List PySem.Str := ["is_whole", "is_letter", "is_rule", "rules_of", "all_known", "makes_book", "is_book", "letters", "words_of", "need_age", "tally", "table", "passed", "counts_from", "counts", "length", "worths_of", "sizes_of", "total_of", "way_down", "words_at", "need_place", "way", "letter_at", "is_name", "is_number", "is_word_of", "told_book", "words_in", "rules_in"]
def fnames1 : List PySem.Str := ["read_book", "way_told", "row_told", "_law_pen", "_law_take", "_law_signs", "_law_text", "_law_word", "_law_book", "_law_names", "_law_shown", "_law_sizes", "_law_number", "_law_walked", "_law_asked", "law", "FORMS"]
def fnames : List PySem.Str := fnames0 ++ (fnames1)

def fkeys0 : List PySem.Str := ["thin", "shed", "mirror", "later", "fast", "beside", "bed", "turn", "undo", "mark", "show", "length", "mod", "letter", "way", "kind", "grows", "same", "rows", "part", "comes", "grow", "back", "size", "at", "where"]
def fkeys : List PySem.Str := fkeys0

def fvals : List (PySem.Str × He.Dv) := [("length", .str "bd"), ("letter", .str "bdd"), ("way", .str "bdd")]
-- slots of fa: 0 .glo "is_whole"; 1 .glo "is_letter"; 2 .glo "is_rule"; 3 .glo "rules_of"; 4 .glo "all_known"; 5 .glo "makes_book"; 6 .glo "is_book"; 7 .glo "letters"; 8 .glo "words_of"; 9 .glo "need_age"; 10 .glo "tally"; 11 .glo "table"; 12 .glo "passed"; 13 .glo "counts_from"; 14 .glo "counts"; 15 .glo "length"; 16 .glo "worths_of"; 17 .glo "sizes_of"; 18 .glo "total_of"; 19 .glo "way_down"; 20 .glo "words_at"; 21 .glo "need_place"; 22 .glo "way"; 23 .glo "letter_at"; 24 .glo "is_name"; 25 .glo "is_number"; 26 .glo "is_word_of"; 27 .glo "told_book"; 28 .glo "words_in"; 29 .glo "rules_in"; 30 .glo "read_book"; 31 .glo "way_told"; 32 .glo "row_told"; 33 .glo "_law_pen"; 34 .glo "_law_take"; 35 .glo "_law_signs"; 36 .glo "_law_text"; 37 .glo "_law_word"; 38 .glo "_law_book"; 39 .glo "_law_names"; 40 .glo "_law_shown"; 41 .glo "_law_sizes"; 42 .glo "_law_number"; 43 .glo "_law_walked"; 44 .glo "_law_asked"; 45 .glo "law"; 46 .glo "Desk"; 47 .glo "FORMS"; 48 .free "len"; 49 .free "range"; 50 .free "isinstance"; 51 .free "sum"; 52 .free "zip"; 53 .free "enumerate"; 54 .free "reversed"; 55 .free "sorted"; 56 .free "list"; 57 .free "tuple"; 58 .free "dict"; 59 .free "int"; 60 .free "str"; 61 .free "bool"; 62 .free "min"; 63 .int "MOST_LETTERS" 8; 64 .int "MOST_WORD" 6; 65 .int "MOST_FIRST" 12; 66 .int "LAST_AGE" 300; 67 .int "MOST_FIGURES" 300; 68 .int "MOST_NAME_forms" 8; 69 .str "SIGNS_books" "abcdefghijklmnopqrstuvwxyz"; 70 .str "FIGURES" "0123456789"; 71 .cls "Desk"; 72 .noat "Desk" "books"; 73 .noat "Desk" "beds"; 74 .meth "Desk" "say"; 75 .meth "Desk" "called_in"; 76 .mkr "Desk"
abbrev R : PySem.W.OpenRow := PySem.W.OpenLaw.row PySem.Challenge.rw_linegrow_k97_whole_from_text_to_letter
def ts : List He.Tab := [(fun K => He.ga K "FORMS", fkeys)]
def refsA (g : Addr → Option Obj) (as : List Addr) : List Addr := as.flatMap fun a => match g a with
  | some o => He.refsD o
  | none => []
def addrs (g : Addr → Option Obj) : List Addr :=
  let K0 := He.frG g [mainGlobals]
  let l1 := fnames.map (He.ga K0)
  let c1 := [He.ga K0 "Desk"]
  let c2 := refsA g c1
  let c3 := refsA g c2
  (mainGlobals :: (l1 ++ (c1 ++ (c2 ++ c3)))) ++ (refsA g l1 ++ refsA g c3)
def ex (K : PySem.W.Frag) : Bool := He.valsB K (He.ga K "FORMS") fvals
abbrev AlA : Type := He.AlT × Bool
def obsA (g : Addr → Option Obj) : AlA := (He.obsT fa fn ts (He.frG g (addrs g)), ex (He.frG g (addrs g)))
def valA (w : World) : AlA := (He.valT fn ts w, true)
def hk : PySem.W.Hook where
  α := AlA
  obs := fun s => obsA s.heap.get?
  val := fun w => valA w
  says := fun w h => ∃ K : PySem.W.Frag, K.In h ∧ He.SaysT fa fn ts w K ∧ ex K = true
  of := fun _ _ e => ⟨_, He.frG_in, congrArg (fun z : AlA => z.1) e, congrArg (fun z : AlA => z.2) e⟩
  keeps := fun _ _ _ ⟨K, hK, c⟩ k => ⟨K, PySem.W.Frag.In.keeps hK k, c⟩
def ob (s : PySem.W.SharedT) : AlA := obsA (HandSHeadRun.getT s)
theorem ob_eq (s : PySem.W.SharedT) : ob s = hk.obs s.abs := by
  have e : HandSHeadRun.getT s = s.abs.heap.get? := funext fun a => HandSHeadRun.getT_eq s a
  show obsA (HandSHeadRun.getT s) = obsA s.abs.heap.get?
  rw [e]
end G

namespace G
open PySem PySem.Spec PyProof.Rows L2
open PySem.W PySem.Calls
noncomputable def enk (w : World) (os : OsState) := HandSHeadRun.endF (HandSHeadRun.stepQ (HandSHeadRun.denQ HandSHeadRun.tabQ) R.prog w) 20000 R.prog w os
abbrev wf (w : World) : World := w.withFollow "special-get-raises" false
abbrev wt (w : World) : World := w.withFollow "special-get-raises" true
noncomputable abbrev qv : Program := PySem.W.view R.prog [189]
noncomputable abbrev seenF (s : PySem.W.SharedT) := HandSHeadRun.seenQ qv loose (importedModules R.prog.main.body) (fun s => PySem.W.xlAt qv [] s && PySem.W.recOk R.toRowW.records s) s.abs
theorem run1_f (w : World) (os : OsState) : (enk (wf w) os).map ob = some (hk.val (wf w)) := by kernel_rfl
theorem run1_t (w : World) (os : OsState) : (enk (wt w) os).map ob = some (hk.val (wt w)) := by kernel_rfl
theorem run2_f (w : World) (os : OsState) : (enk (wf w) os).map (fun s => HandSHeadRun.looksF R.prog (boot_heap (wf w).params) s.abs) = some true := by kernel_rfl
theorem run2_t (w : World) (os : OsState) : (enk (wt w) os).map (fun s => HandSHeadRun.looksF R.prog (boot_heap (wt w).params) s.abs) = some true := by kernel_rfl
theorem run3_f (w : World) (os : OsState) : (enk (wf w) os).map seenF = some (PySem.W.openGood qv loose) := by kernel_rfl
theorem run3_t (w : World) (os : OsState) : (enk (wt w) os).map seenF = some (PySem.W.openGood qv loose) := by kernel_rfl
end G

namespace G
open PySem PySem.Spec PyProof.Rows L2
open PySem.W PySem.Calls

theorem map_two {α β γ δ : Type} {o : Option α} {f : α → β} {g1 : α → γ} {g2 : α → δ} {b : β} {c : γ} {d : δ} (h1 : o.map f = some b) (h2 : o.map g1 = some c) (h3 : o.map g2 = some d) :
    o.map (fun s => (g1 s, g2 s, f s)) = some (c, d, b) := by
  cases o with
  | none => cases h1
  | some a =>
    have e1 : f a = b := Option.some.inj h1
    have e3 : g1 a = c := Option.some.inj h2
    have e4 : g2 a = d := Option.some.inj h3
    show some (g1 a, g2 a, f a) = some (c, d, b)
    rw [e1, e3, e4]
theorem run_f (w : World) (os : OsState) : (enk (wf w) os).map (fun s => (HandSHeadRun.looksF R.prog (boot_heap (wf w).params) s.abs, seenF s, ob s)) = some (true, PySem.W.openGood qv loose, hk.val (wf w)) :=
  map_two (f := ob) (g1 := fun s => HandSHeadRun.looksF R.prog (boot_heap (wf w).params) s.abs) (g2 := seenF) (run1_f w os) (run2_f w os) (run3_f w os)
theorem run_t (w : World) (os : OsState) : (enk (wt w) os).map (fun s => (HandSHeadRun.looksF R.prog (boot_heap (wt w).params) s.abs, seenF s, ob s)) = some (true, PySem.W.openGood qv loose, hk.val (wt w)) :=
  map_two (f := ob) (g1 := fun s => HandSHeadRun.looksF R.prog (boot_heap (wt w).params) s.abs) (g2 := seenF) (run1_t w os) (run2_t w os) (run3_t w os)
theorem run (w : World) : HandSHeadRun.RunEq R (PySem.W.view R.prog [189]) hk ob 20000 loose w :=
  PySem.W.byRow2 "special-get-raises" (P := fun w => HandSHeadRun.RunEq R (PySem.W.view R.prog [189]) hk ob 20000 loose w)
    (fun w => by unfold HandSHeadRun.RunEq; exact run_f w) (fun w => by unfold HandSHeadRun.RunEq; exact run_t w) w
end G

/-! Helpers: texts as lists of signs, heaps that grow, promises by the number of arguments, defs that keep them. -/
namespace G
open PySem PySem.Spec PyProof.Rows L2 TL

/-! ### texts -/
abbrev T (l : List Nat) : Str := ⟨l.toArray⟩
theorem tl_T (l : List Nat) : tl (T l) = l := rfl
theorem T_tl (x : Str) : T (tl x) = x := ext_tl rfl
theorem T_inj {a b : List Nat} (h : T a = T b) : a = b := by
  have e : tl (T a) = tl (T b) := by rw [h]
  exact e
theorem T_len (l : List Nat) : (T l).length = l.length := by rw [len_tl]
theorem T_app (a b : List Nat) : T a ++ T b = T (a ++ b) := ext_tl (by rw [tl_append])
theorem T_eq {x : Str} {l : List Nat} (h : tl x = l) : x = T l := by rw [← h, T_tl]
theorem T_str (s : String) : (Str.ofString s : Str) = T (s.toList.map Char.toNat) := T_eq (tl_ofString s)

/-! ### heaps -/
theorem Same.rd {H H' : Hp} {a : Addr} {u : HO} (e : Same H H') (h : Rd H a u) : Rd H' a u := by
  rcases h with h | ⟨o, h⟩
  · exact .inl (e _ _ h)
  · exact .inr ⟨o, e _ _ h⟩
theorem Same.seqT {K : PySem.W.Frag} {H H' : Hp} {a : Addr} {xs : List V} (e : Same H H') (h : SqT K H a xs) : SqT K H' a xs := by
  rcases h with h | h
  · exact .inl (Same.rd e h)
  · exact .inr h
theorem Same.new {H : Hp} {p : Addr} {o : HO} (h : H p = none) : Same H (upd H p o) := fun b x e => by
  rw [upd_ne (ne_of_none e h)]
  exact e
/-- an object that H does not know may change -/
theorem Same.mut {H H' : Hp} {p : Addr} {o : HO} (e : Same H H') (h : H p = none) : Same H (upd H' p o) := fun a u ha => by
  rw [upd_ne (ne_of_none ha h)]
  exact e a u ha
/-- all but what stands at a is as it was -/
def But (a : Addr) (H H' : Hp) : Prop := ∀ b o, H b = some o → b ≠ a → H' b = some o
theorem But.refl (a : Addr) (H : Hp) : But a H H := fun _ _ h _ => h
theorem But.trans {a : Addr} {H H1 H2 : Hp} (x : But a H H1) (y : But a H1 H2) : But a H H2 := fun b o h n => y b o (x b o h n) n
theorem Same.but {a : Addr} {H H' : Hp} (e : Same H H') : But a H H' := fun b o h _ => e b o h
theorem But.upd {a : Addr} {H H' : Hp} {o : HO} (e : But a H H') : But a H (upd H' a o) := fun b u h n => by
  rw [upd_ne n]
  exact e b u h n
/-- an object that H does not know may change -/
theorem But.mut {a : Addr} {H H' : Hp} {p : Addr} {o : HO} (e : But a H H') (h : H p = none) : But a H (L2.upd H' p o) := fun b u hb n => by
  rw [upd_ne (ne_of_none hb h)]
  exact e b u hb n
theorem But.rd {H H' : Hp} {a b : Addr} {u : HO} (e : But a H H') (n : b ≠ a) (h : Rd H b u) : Rd H' b u := by
  rcases h with h | ⟨o, h⟩
  · exact .inl (e _ _ h n)
  · exact .inr ⟨o, e _ _ h n⟩
theorem But.seq {K : PySem.W.Frag} {H H' : Hp} {a b : Addr} {xs : List V} (e : But a H H') (n : b ≠ a) (h : SqL K H b xs) : SqL K H' b xs := by
  rcases h with h | h
  · exact .inl (But.rd e n h)
  · exact .inr h
theorem But.seqT {K : PySem.W.Frag} {H H' : Hp} {a b : Addr} {xs : List V} (e : But a H H') (n : b ≠ a) (h : SqT K H b xs) : SqT K H' b xs := by
  rcases h with h | h
  · exact .inl (But.rd e n h)
  · exact .inr h
/-- what H does not know may change; what stood in H stands -/
theorem But.same {H H0 H' : Hp} {a : Addr} (e : Same H0 H) (b : But a H H') (n : H0 a = none) : Same H0 H' := fun c o h => b c o (e c o h) (ne_of_none h n)
/-- what is read stays readable -/
def Le (H H' : Hp) : Prop := ∀ a u, Rd H a u → Rd H' a u
theorem Same.le {H H' : Hp} (e : Same H H') : Le H H' := fun _ _ h => Same.rd e h
theorem Le.trans {H H1 H2 : Hp} (a : Le H H1) (b : Le H1 H2) : Le H H2 := fun c o h => b c o (a c o h)
theorem Le.seqL {K : PySem.W.Frag} {H H' : Hp} {a : Addr} {xs : List V} (e : Le H H') (h : SqL K H a xs) : SqL K H' a xs := by
  rcases h with h | h
  · exact .inl (e _ _ h)
  · exact .inr h
theorem Le.seqT {K : PySem.W.Frag} {H H' : Hp} {a : Addr} {xs : List V} (e : Le H H') (h : SqT K H a xs) : SqT K H' a xs := by
  rcases h with h | h
  · exact .inl (e _ _ h)
  · exact .inr h
/-- a dict that a loop locks -/
theorem Le.lock {H : Hp} {d : Addr} {kvs : List (Key × V)} {od : Obj} (h : H d = some (.dK kvs)) : Le H (upd H d (.frz od (.dK kvs))) := fun a u r => by
  by_cases e : a = d
  · subst e
    rcases r with r | ⟨o, r⟩
    · rw [h] at r
      cases r
      exact .inr ⟨od, upd_same⟩
    · rw [h] at r
      cases r
  · rcases r with r | ⟨o, r⟩
    · exact .inl (by rw [upd_ne e]; exact r)
    · exact .inr ⟨o, by rw [upd_ne e]; exact r⟩
/-- .. and unlocks -/
theorem Same.unlock {H H' : Hp} {d : Addr} {kvs : List (Key × V)} {od : Obj} (h : H d = some (.dK kvs)) (e : Same (upd H d (.frz od (.dK kvs))) H') : Same H (upd H' d (.dK kvs)) := fun a u r => by
  by_cases q : a = d
  · subst q
    rw [upd_same, ← h]
    exact r
  · rw [upd_ne q]
    exact e a u (by rw [upd_ne q]; exact r)

/-! ### promises by the number of arguments -/
def sp1 (R : V → Hp → VK → Prop) : Sp := fun vs H Q _ => ∃ a, vs = [a] ∧ R a H Q
def sp2 (R : V → V → Hp → VK → Prop) : Sp := fun vs H Q _ => ∃ a b, vs = [a, b] ∧ R a b H Q
def sp3 (R : V → V → V → Hp → VK → Prop) : Sp := fun vs H Q _ => ∃ a b c, vs = [a, b, c] ∧ R a b c H Q
def sp4 (R : V → V → V → V → Hp → VK → Prop) : Sp := fun vs H Q _ => ∃ a b c d, vs = [a, b, c, d] ∧ R a b c d H Q
def sp6 (R : V → V → V → V → V → V → Hp → VK → Prop) : Sp := fun vs H Q _ => ∃ a b c d e f, vs = [a, b, c, d, e, f] ∧ R a b c d e f H Q
theorem sp1_len {R} {vs : List V} {H : Hp} {Q : VK} {E : XK} (h : sp1 R vs H Q E) : vs.length = 1 := by
  obtain ⟨a, rfl, _⟩ := h
  rfl
theorem sp2_len {R} {vs : List V} {H : Hp} {Q : VK} {E : XK} (h : sp2 R vs H Q E) : vs.length = 2 := by
  obtain ⟨a, b, rfl, _⟩ := h
  rfl
theorem sp3_len {R} {vs : List V} {H : Hp} {Q : VK} {E : XK} (h : sp3 R vs H Q E) : vs.length = 3 := by
  obtain ⟨a, b, c, rfl, _⟩ := h
  rfl
theorem sp4_len {R} {vs : List V} {H : Hp} {Q : VK} {E : XK} (h : sp4 R vs H Q E) : vs.length = 4 := by
  obtain ⟨a, b, c, d, rfl, _⟩ := h
  rfl
theorem sp6_len {R} {vs : List V} {H : Hp} {Q : VK} {E : XK} (h : sp6 R vs H Q E) : vs.length = 6 := by
  obtain ⟨a, b, c, d, e, f, rfl, _⟩ := h
  rfl

/-! ### defs -/
/-- a def of the text, where it stands -/
structure Src (K : PySem.W.Frag) (mg : Str → Option Value) (x : Str) (st : Stmt) : Prop where
  ex : ∃ a fd, mg x = some (.ref a) ∧ FunD K x x (defArgs st) (defBody st) (defScope st) [] [] a fd
/-- a def that keeps a promise -/
structure Has (P : Program) (w : World) (K : PySem.W.Frag) (mg : Str → Option Value) (base : Heap) (k : Nat) (x : Str) (ps : List Str) (sp : Sp) : Prop where
  ex : ∃ a fd, mg x = some (.ref a) ∧ PySem.W.keepIn K (.ref a) = true ∧ Binds K fd ps [] ∧ FnOk P w K mg base CX0 k a fd ps sp
section
variable {P : Program} {w : World} {K : PySem.W.Frag} {mg : Str → Option Value} {base : Heap}
theorem Has.mono {j k : Nat} {x : Str} {ps : List Str} {sp : Sp} (h : Has P w K mg base j x ps sp) (e : j ≤ k) : Has P w K mg base k x ps sp := by
  obtain ⟨a, fd, m, kp, bd, ok⟩ := h.ex
  exact ⟨a, fd, m, kp, bd, ok.mono e⟩
theorem has_of {x : Str} {st : Stmt} {N ps : List Str} {k : Nat} {sp : Sp} (S : Src K mg x st) (sc : FnScope N ps (defScope st))
    (hb : ∀ (kV doc pm : Value) (an : Option Addr) (cdv ct : Value) (us : List Value), us.length = ps.length → bindArgs (PySem.W.fnOf x x (defArgs st) (defBody st) (defScope st) .none kV doc pm an cdv ct) ⟨us, []⟩ = pure (ps.zip us))
    (len : ∀ vs H Q E, sp vs H Q E → vs.length = ps.length)
    (body : ∀ (f : Addr) (cdv : Value) (A : Around) (outer : List Env) (s : Shared) (H : Hp) (vs : List V) (Q : VK) (E : XK), Room k (A.deeper (envOfC x (defScope st) s.heap.objs.size f cdv)) → sp vs H Q E →
      ∃ t, PSs (cxOf CX0 P w K mg base N x (defScope st) f cdv A outer s H E).nox (defBody st) t ∧ t { nx := fun _ H' => Q .non H', rt := Q } (start N vs) H) : Has P w K mg base (k + 1) x ps sp := by
  obtain ⟨a, fd, m, F⟩ := S.ex
  refine ⟨a, fd, m, F.kp, F.bindsN hb, F.ok sc len fun cdv A outer s H vs Q E hr hsp => ?_⟩
  obtain ⟨t, h, q⟩ := body a cdv A outer s H vs Q E hr hsp
  exact ⟨t, h.nox, q⟩
end
/-- a method of Desk, where it stands -/
structure SrcM (K : PySem.W.Frag) (C : Addr) (m q : Str) (st : Stmt) : Prop where
  ex : ∃ a fd, Meth K C m a ∧ FunD K m q (defArgs st) (defBody st) (defScope st) [] [] a fd
structure HasM (P : Program) (w : World) (K : PySem.W.Frag) (mg : Str → Option Value) (base : Heap) (k : Nat) (C : Addr) (m : Str) (ps : List Str) (sp : Sp) : Prop where
  ex : ∃ a fd, Meth K C m a ∧ Binds K fd ps [] ∧ FnOk P w K mg base CX0 k a fd ps sp
section
variable {P : Program} {w : World} {K : PySem.W.Frag} {mg : Str → Option Value} {base : Heap}
theorem HasM.mono {j k : Nat} {C : Addr} {x : Str} {ps : List Str} {sp : Sp} (h : HasM P w K mg base j C x ps sp) (e : j ≤ k) : HasM P w K mg base k C x ps sp := by
  obtain ⟨a, fd, m, bd, ok⟩ := h.ex
  exact ⟨a, fd, m, bd, ok.mono e⟩
theorem hasM_of {C : Addr} {x q : Str} {st : Stmt} {N ps : List Str} {k : Nat} {sp : Sp} (S : SrcM K C x q st) (sc : FnScope N ps (defScope st))
    (hb : ∀ (kV doc pm : Value) (an : Option Addr) (cdv ct : Value) (us : List Value), us.length = ps.length → bindArgs (PySem.W.fnOf x q (defArgs st) (defBody st) (defScope st) .none kV doc pm an cdv ct) ⟨us, []⟩ = pure (ps.zip us))
    (len : ∀ vs H Q E, sp vs H Q E → vs.length = ps.length)
    (body : ∀ (f : Addr) (cdv : Value) (A : Around) (outer : List Env) (s : Shared) (H : Hp) (vs : List V) (Q : VK) (E : XK), Room k (A.deeper (envOfC q (defScope st) s.heap.objs.size f cdv)) → sp vs H Q E →
      ∃ t, PSs (cxOf CX0 P w K mg base N q (defScope st) f cdv A outer s H E).nox (defBody st) t ∧ t { nx := fun _ H' => Q .non H', rt := Q } (start N vs) H) : HasM P w K mg base (k + 1) C x ps sp := by
  obtain ⟨a, fd, m, F⟩ := S.ex
  refine ⟨a, fd, m, F.bindsN hb, F.ok sc len fun cdv A outer s H vs Q E hr hsp => ?_⟩
  obtain ⟨t, h, q⟩ := body a cdv A outer s H vs Q E hr hsp
  exact ⟨t, h.nox, q⟩
end
/-! ### names of the top as values -/
section
variable {X : Cx} {x : Str} {pos : Pos}
theorem pe_tyn (n : String) (hg : Gl X x) (hm : X.mg x = none) (hv : bootBuiltins x = some (.type n)) (hn : x ≠ "__name__" := by decide) (hd : (x == ("__debug__" : Str)) = false := by decide) : PE X (.Name x pos) (tC (.ty n)) := pe_bltn hg hm hv rfl hn hd
theorem pe_gI {i : Int} (h : ∃ t, X.mg x = some (.int i t)) (hg : Gl X x := by rfl) (hd : (x == ("__debug__" : Str)) = false := by decide) : PE X (.Name x pos) (tC (.int i)) := by
  obtain ⟨t, e⟩ := h
  exact pe_glob hg e ⟨t, rfl⟩ hd
theorem pe_gS {z : Str} (h : ∃ t, X.mg x = some (.str z t)) (hg : Gl X x := by rfl) (hd : (x == ("__debug__" : Str)) = false := by decide) : PE X (.Name x pos) (tC (.str z)) := by
  obtain ⟨t, e⟩ := h
  exact pe_glob hg e ⟨t, rfl⟩ hd
theorem pe_gR {a : Addr} (h : X.mg x = some (.ref a)) (hg : Gl X x := by rfl) (hd : (x == ("__debug__" : Str)) = false := by decide) : PE X (.Name x pos) (tC (.ref a)) := pe_glob hg h rfl hd
end
/-! ### rules whose reading names the written part, for comprehensions -/
section
variable {X : Cx}
theorem ix_tupK (K : PySem.W.Frag) (h : X.K = K := by rfl) : IxR X (rIxT K) := by
  subst h
  exact ix_tup
theorem ix_listK (K : PySem.W.Frag) (h : X.K = K := by rfl) : IxR X (rIxL K) := by
  subst h
  exact ix_list
theorem cr_sumK (K : PySem.W.Frag) (hc : X.calm = true) (h : X.K = K := by rfl) : CallR X (.builtin "sum") (rSum K) := by
  subst h
  exact cr_sum hc
theorem len_seqK (K : PySem.W.Frag) (h : X.K = K := by rfl) : CallR X (.builtin "len") (fun xs H Q => ∃ p ys, xs = [.ref p] ∧ (SqL K H p ys ∨ SqT K H p ys) ∧ Q (.int ys.length) H) := by
  subst h
  exact call_len_seq
theorem pe_popK (K : PySem.W.Frag) {o e : Expr} {to : TE} {t : TA} {apos cpos : Pos} (ho : PE X o to) (ha : PA X [e] t) (h : X.K = K := by rfl)
    (hbase : attributeBase o "pop" X.env (eval o X.env) = eval o X.env := by rfl)
    (hfew : ((backTo cpos (starEach [e] X.env)).all (fun x => !x.1) && (backToKw cpos (keywordEach [] X.env)).all (fun x => x.1.isSome)
      && decide (([e] : List Expr).length + ([] : List Keyword).length + (if ([] : List Keyword).isEmpty then 0 else 1) < 30)) = true := by rfl)
    (hline : (apos.endLine == cpos.line) = true := by rfl) (hs : starEach [e] X.env = (false, eval e X.env) :: starEach [] X.env := by rfl) (hplain : (backTo cpos (starEach [] X.env)).any (·.1) = false := by rfl) :
    PE X (.Call (.Attribute o "pop" apos) [e] [] cpos) (tBM K "list" (fun x vs H Q => ∃ (l : Addr) (xs : List V) (i : Int) (k : Nat) (y : V), x = .ref l ∧ vs = [.int i] ∧ H l = some (.lst xs) ∧ -(2 ^ 63) ≤ i ∧ i < 2 ^ 63 ∧ seqIndex? i xs.length = some k ∧ xs[k]? = some y ∧ Q y (upd H l (.lst (xs.eraseIdx k)))) to t) := by
  subst h
  exact pe_bm PySem.F.plainAttrs_list PySem.F.slot_list_pop PySem.F.type_list_pop mt_popAt ho ha hbase hfew hline hs hplain
end
/-! ### what the top has left of other names -/
structure Txt (K : PySem.W.Frag) (mg : Str → Option Value) (w : World) (C aF : Addr) : Prop where
  len : mg "len" = none
  range : mg "range" = none
  isinstance : mg "isinstance" = none
  sum : mg "sum" = none
  zip : mg "zip" = none
  enumerate : mg "enumerate" = none
  reversed : mg "reversed" = none
  sorted : mg "sorted" = none
  list : mg "list" = none
  tuple : mg "tuple" = none
  dict : mg "dict" = none
  int : mg "int" = none
  str : mg "str" = none
  bool : mg "bool" = none
  min : mg "min" = none
  g_MOST_LETTERS : ∃ t, mg "MOST_LETTERS" = some (.int 8 t)
  g_MOST_WORD : ∃ t, mg "MOST_WORD" = some (.int 6 t)
  g_MOST_FIRST : ∃ t, mg "MOST_FIRST" = some (.int 12 t)
  g_LAST_AGE : ∃ t, mg "LAST_AGE" = some (.int 300 t)
  g_MOST_FIGURES : ∃ t, mg "MOST_FIGURES" = some (.int 300 t)
  g_MOST_NAME_forms : ∃ t, mg "MOST_NAME_forms" = some (.int 8 t)
  g_SIGNS_books : ∃ t, mg "SIGNS_books" = some (.str "abcdefghijklmnopqrstuvwxyz" t)
  g_FIGURES : ∃ t, mg "FIGURES" = some (.str "0123456789" t)
  g_FORMS : mg "FORMS" = some (.ref aF)
  kd : ∃ es n, KDict K w aF es n
  f_length : ∃ u, PySem.W.nsIn K aF "length" = some (some u) ∧ RelV (.str "bd") u
  f_way : ∃ u, PySem.W.nsIn K aF "way" = some (some u) ∧ RelV (.str "bdd") u
  f_letter : ∃ u, PySem.W.nsIn K aF "letter" = some (some u) ∧ RelV (.str "bdd") u
  cl : Cls K C
  nB : NoAttr K C "books"
  nD : NoAttr K C "beds"
  mgDesk : mg "Desk" = some (.ref C)
end G

/-! Books: what a book is, how it lies in the heap; small tests. -/
namespace G
open PySem PySem.Spec PyProof.Rows L2 TL

/-! ### books -/
abbrev Rule := Nat × List Nat
def RuleAt (H : Hp) (p : V) (r : Rule) : Prop := ∃ a, p = .ref a ∧ H a = some (.tup [.str (T [r.1]), .str (T r.2)])
def RulesAt (H : Hp) (a : Addr) (rs : List Rule) : Prop := ∃ ps : List V, H a = some (.tup ps) ∧ Paired (RuleAt H) ps rs
def BookAt (H : Hp) (b : Addr) (f : List Nat) (rs : List Rule) : Prop := ∃ r, H b = some (.tup [.str (T f), .ref r]) ∧ RulesAt H r rs
/-- words by letters, as a dict's pairs -/
def wkv (rs : List Rule) : List (Key × V) := rs.map fun r => (Sum.inr (T [r.1]), V.str (T r.2))
structure Wf (f : List Nat) (rs : List Rule) : Prop where
  few : rs.length ≤ 8
  low : ∀ r ∈ rs, 97 ≤ r.1 ∧ r.1 ≤ 122
  up : (rs.map (·.1)).Pairwise (· < ·)
  wd : ∀ r ∈ rs, r.2.length ≤ 6 ∧ ∀ c ∈ r.2, c ∈ rs.map (·.1)
  fl : f.length ≤ 12
  fk : ∀ c ∈ f, c ∈ rs.map (·.1)
theorem nd_of_up {l : List Nat} (h : l.Pairwise (· < ·)) : l.Nodup := h.imp fun x => Nat.ne_of_lt x
theorem Wf.nd {f : List Nat} {rs : List Rule} (h : Wf f rs) : (rs.map (·.1)).Nodup := nd_of_up h.up
theorem paired_at {α β : Type} {F : α → β → Prop} : ∀ {l : List α} {m : List β} {i : Nat} {x : α}, Paired F l m → l[i]? = some x → ∃ y, m[i]? = some y ∧ F x y
  | _, _, _, _, .nil, e => by simp at e
  | _, _, 0, _, .cons r _, e => by
    simp at e
    subst e
    exact ⟨_, rfl, r⟩
  | _, _, i + 1, x, .cons _ t, e => by
    obtain ⟨y, h1, h2⟩ := paired_at (i := i) (x := x) t (by simpa using e)
    exact ⟨y, by simpa using h1, h2⟩
theorem paired_len {α β : Type} {F : α → β → Prop} {l : List α} {m : List β} (h : Paired F l m) : l.length = m.length := Paired.length h
theorem RuleAt.mono {H H' : Hp} {p : V} {r : Rule} (k : ∀ a xs, H a = some (.tup xs) → H' a = some (.tup xs)) (h : RuleAt H p r) : RuleAt H' p r := by
  obtain ⟨a, e, q⟩ := h
  exact ⟨a, e, k _ _ q⟩
theorem RulesAt.mono {H H' : Hp} {a : Addr} {rs : List Rule} (k : ∀ a xs, H a = some (.tup xs) → H' a = some (.tup xs)) (h : RulesAt H a rs) : RulesAt H' a rs := by
  obtain ⟨ps, e, q⟩ := h
  exact ⟨ps, k _ _ e, Paired.mapP q fun _ _ z => z.mono k⟩
theorem BookAt.mono {H H' : Hp} {b : Addr} {f : List Nat} {rs : List Rule} (k : ∀ a xs, H a = some (.tup xs) → H' a = some (.tup xs)) (h : BookAt H b f rs) : BookAt H' b f rs := by
  obtain ⟨r, e, q⟩ := h
  exact ⟨r, k _ _ e, q.mono k⟩
theorem Same.tups {H H' : Hp} (e : Same H H') : ∀ a xs, H a = some (.tup xs) → H' a = some (.tup xs) := fun a xs h => e a _ h
theorem But.tups {H H' : Hp} {p : Addr} {ys : List V} (e : But p H H') (h : H p = some (.lst ys)) : ∀ a xs, H a = some (.tup xs) → H' a = some (.tup xs) := fun a xs q => e a _ q (ne_of q h (by intro z; cases z))
theorem lock_tups {H : Hp} {d : Addr} {kvs : List (Key × V)} {od : Obj} (h : H d = some (.dK kvs)) : ∀ a xs, H a = some (.tup xs) → (upd H d (.frz od (.dK kvs))) a = some (.tup xs) := fun a xs q => by
  rw [upd_ne (ne_of q h (by intro z; cases z))]
  exact q
/-! ### looking up -/
theorem key_T (a b : Nat) : ((Sum.inr (T [a]) : Key) = Sum.inr (T [b])) ↔ a = b := by
  constructor
  · intro h
    have e := T_inj (Sum.inr.inj h)
    simpa using e
  · intro h
    rw [h]
theorem valV_find (F : Rule → V) (c : Nat) : ∀ rs : List Rule, valV (rs.map fun r => ((Sum.inr (T [r.1]) : Key), F r)) (Sum.inr (T [c])) = (rs.find? fun r => r.1 == c).map F
  | [] => rfl
  | r :: rs => by
    rw [List.map_cons, List.find?_cons]
    by_cases h : r.1 = c
    · rw [valV_pos ((key_T _ _).mpr h)]
      rw [show (r.1 == c) = true from by simpa using h]
      rfl
    · rw [valV_neg (fun z => h ((key_T _ _).mp z)), valV_find F c rs]
      rw [show (r.1 == c) = false from by simpa using h]
theorem find_mem {rs : List Rule} {c : Nat} (h : c ∈ rs.map (·.1)) : ∃ r ∈ rs, r.1 = c ∧ rs.find? (fun r => r.1 == c) = some r := by
  induction rs with
  | nil => cases h
  | cons r rs ih =>
    rw [List.find?_cons]
    by_cases e : r.1 = c
    · exact ⟨r, List.mem_cons_self, e, by rw [show (r.1 == c) = true from by simpa using e]⟩
    · rw [show (r.1 == c) = false from by simpa using e]
      obtain ⟨q, hq, e1, e2⟩ := ih (by
        rw [List.map_cons] at h
        rcases List.mem_cons.mp h with z | z
        · exact absurd z.symm e
        · exact z)
      exact ⟨q, List.mem_cons_of_mem _ hq, e1, e2⟩
theorem find_none {rs : List Rule} {c : Nat} (h : c ∉ rs.map (·.1)) : rs.find? (fun r => r.1 == c) = none := by
  rw [List.find?_eq_none]
  intro r hr z
  exact h (List.mem_map.mpr ⟨r, hr, by simpa using z⟩)
theorem find_nd {rs : List Rule} (nd : (rs.map (·.1)).Nodup) {r : Rule} (hr : r ∈ rs) : rs.find? (fun q => q.1 == r.1) = some r := by
  induction rs with
  | nil => cases hr
  | cons q rs ih =>
    rw [List.map_cons, List.nodup_cons] at nd
    rw [List.find?_cons]
    rcases List.mem_cons.mp hr with e | e
    · subst e
      simp
    · have ne : ¬ q.1 = r.1 := fun z => nd.1 (by rw [z]; exact List.mem_map.mpr ⟨r, e, rfl⟩)
      rw [show (q.1 == r.1) = false from by simpa using ne]
      exact ih nd.2 e
/-- a letter's word -/
def wordOf (rs : List Rule) (c : Nat) : List Nat := ((rs.find? fun r => r.1 == c).map (·.2)).getD []
theorem valV_word {rs : List Rule} {c : Nat} (h : c ∈ rs.map (·.1)) : valV (wkv rs) (Sum.inr (T [c])) = some (.str (T (wordOf rs c))) := by
  obtain ⟨r, hr, e1, e2⟩ := find_mem h
  unfold wkv wordOf
  rw [valV_find (fun r => V.str (T r.2)), e2]
  rfl
theorem wordOf_mem {rs : List Rule} {c : Nat} (h : c ∈ rs.map (·.1)) : (c, wordOf rs c) ∈ rs := by
  obtain ⟨r, hr, e1, e2⟩ := find_mem h
  unfold wordOf
  rw [e2]
  subst e1
  exact hr
theorem wordOf_nd {rs : List Rule} (nd : (rs.map (·.1)).Nodup) {r : Rule} (hr : r ∈ rs) : wordOf rs r.1 = r.2 := by
  unfold wordOf
  rw [find_nd nd hr]
  rfl
/-! ### reading helpers -/
theorem isiB {K : PySem.W.Frag} {H : Hp} {x : V} {n t : String} {b : Bool} {Q : VK} (ty : TyX K H x (.type t)) (h : kitB t n = some b) (q : Q (.bl b) H) : rIsi K [x, .ty n] H Q := ⟨_, _, _, _, b, rfl, .ty _, ty, kit_ty h, q⟩
theorem rdDGet {H : Hp} {a : Addr} {kvs : List (Key × V)} {k : Key} {o : Option V} (e : Rd H a (.dK kvs)) (q : valV kvs k = o) : DGet H a (kV k) o := .inl ⟨kvs, k, e, rfl, q.symm⟩
theorem sz_ok {n : Nat} (h : n ≤ 100000) : n ≤ sizeLine := Nat.le_trans h (by decide)
theorem T_sz {l : List Nat} (h : l.length ≤ 100000) : (T l).length ≤ sizeLine := by
  rw [T_len]
  exact sz_ok h
theorem ifT {c A B : Prop} [Decidable c] (hc : c) (h : A) : if c then A else B := by rw [if_pos hc]; exact h
theorem ifF {c A B : Prop} [Decidable c] (hc : ¬ c) (h : B) : if c then A else B := by rw [if_neg hc]; exact h
theorem ibT {c : Bool} {A B : Prop} (hc : c = true) (h : A) : if c = true then A else B := by rw [if_pos hc]; exact h
theorem ibF {c : Bool} {A B : Prop} (hc : c = false) (h : B) : if c = true then A else B := by rw [hc, if_neg Bool.false_ne_true]; exact h

def az : List Nat := ("abcdefghijklmnopqrstuvwxyz".toList.map Char.toNat)
theorem az_tl : tl (Str.ofString "abcdefghijklmnopqrstuvwxyz") = az := tl_ofString _
theorem az_mem {c : Nat} (h : 97 ≤ c) (h' : c ≤ 122) : c ∈ az := by
  have e : ∀ d : Fin 123, 97 ≤ d.1 → d.1 ∈ az := by decide +kernel
  exact e ⟨c, by omega⟩ h
theorem az_low {c : Nat} (h : c ∈ az) : 97 ≤ c ∧ c ≤ 122 := by
  have e : ∀ d ∈ az, 97 ≤ d ∧ d ≤ 122 := by decide +kernel
  exact e c h
theorem in_az {c : Nat} (h : 97 ≤ c) (h' : c ≤ 122) : decide (c ∈ (Str.ofString "abcdefghijklmnopqrstuvwxyz").cps.toList) = true := decide_eq_true (by
  have e := az_mem h h'
  rw [← az_tl] at e
  exact e)

section
variable {P : Program} {w : World} {K : PySem.W.Frag} {mg : Str → Option Value} {base : Heap} {C aF : Addr}
def sp_is_whole : Sp := sp1 fun v H Q => ∃ n, v = .int n ∧ Q (.bl true) H
theorem sc_is_whole : FnScope ["thing"] ["thing"] (defScope s_is_whole) := ⟨rfl, rfl, rfl, by decide +kernel, rfl, by decide +kernel, by decide +kernel⟩
theorem has_is_whole {k : Nat} (S : Src K mg "is_whole" s_is_whole) (TX : Txt K mg w C aF)  : Has P w K mg base (k + 1) "is_whole" ["thing"] (sp_is_whole) := by
  refine has_of S sc_is_whole (fun _ _ _ _ _ _ us hl => match us, hl with | [_], _ => rfl) (fun vs H Q E h => sp1_len h) (fun f cdv A outer s H vs Q E hr h => ?_)
  · obtain ⟨v0, rfl, h⟩ := h
    have hu := hu_of hr
    refine ⟨_, (pss_one (ps_ret (pe_and (pe_callB call_isi (by rfl) TX.isinstance (by decide +kernel) (pa_cons (pv 0) (pa_cons (pe_tyn "int" (by rfl) TX.int (by decide +kernel)) pa_nil))) (pe_one (pe_not (pe_callB call_isi (by rfl) TX.isinstance (by decide +kernel) (pa_cons (pv 0) (pa_cons (pe_tyn "bool" (by rfl) TX.bool (by decide +kernel)) pa_nil)))))))), ?_⟩
    obtain ⟨n, rfl, q⟩ := h
    exact ⟨_, rfl, _, _, _, _, true, rfl, .ty _, .base (.int _), kit_ty (by decide +kernel), true, rfl, iteT ⟨_, rfl, _, _, _, _, false, rfl, .ty _, .base (.int _), kit_ty (by decide +kernel), false, rfl, q⟩⟩
def sp_is_letter : Sp := sp1 fun v H Q => ∃ c, v = .str (T [c]) ∧ 97 ≤ c ∧ c ≤ 122 ∧ Q (.bl true) H
theorem sc_is_letter : FnScope ["thing"] ["thing"] (defScope s_is_letter) := ⟨rfl, rfl, rfl, by decide +kernel, rfl, by decide +kernel, by decide +kernel⟩
theorem has_is_letter {k : Nat} (S : Src K mg "is_letter" s_is_letter) (TX : Txt K mg w C aF)  : Has P w K mg base (k + 1) "is_letter" ["thing"] (sp_is_letter) := by
  refine has_of S sc_is_letter (fun _ _ _ _ _ _ us hl => match us, hl with | [_], _ => rfl) (fun vs H Q E h => sp1_len h) (fun f cdv A outer s H vs Q E hr h => ?_)
  · obtain ⟨v0, rfl, h⟩ := h
    have hu := hu_of hr
    refine ⟨_, (pss_one (ps_ret (pe_and (pe_callB call_isi (by rfl) TX.isinstance (by decide +kernel) (pa_cons (pv 0) (pa_cons (pe_tyn "str" (by rfl) TX.str (by decide +kernel)) pa_nil))) (pe_and (pe_cmpR op_eq (pe_callB call_len_str (by rfl) TX.len (by decide +kernel) (pa_cons (pv 0) pa_nil)) pe_int (nomark _)) (pe_one (pe_cmpR op_in_sign (pv 0) (pe_gS TX.g_SIGNS_books) rfl)))))), ?_⟩
    obtain ⟨c, rfl, h1, h2, q⟩ := h
    refine ⟨_, rfl, _, _, _, _, true, rfl, .ty _, .base (.str _), kit_ty (by decide +kernel), true, rfl, iteT ?_⟩
    refine ⟨_, rfl, _, rfl, T_sz (by show 1 ≤ 100000; decide), rfl, true, by rfl, iteT ?_⟩
    refine ⟨_, rfl, c, _, rfl, rfl, ?_⟩
    rw [in_az h1 h2]
    exact q
def sp_is_rule : Sp := sp1 fun v H Q => ∃ r : Rule, RuleAt H v r ∧ 97 ≤ r.1 ∧ r.1 ≤ 122 ∧ Q (.bl true) H
theorem sc_is_rule : FnScope ["thing"] ["thing"] (defScope s_is_rule) := ⟨rfl, rfl, rfl, by decide +kernel, rfl, by decide +kernel, by decide +kernel⟩
theorem has_is_rule {k : Nat} (S : Src K mg "is_rule" s_is_rule) (TX : Txt K mg w C aF) (h_is_letter : Has P w K mg base k "is_letter" ["thing"] (sp_is_letter)) : Has P w K mg base (k + 1) "is_rule" ["thing"] (sp_is_rule) := by
  refine has_of S sc_is_rule (fun _ _ _ _ _ _ us hl => match us, hl with | [_], _ => rfl) (fun vs H Q E h => sp1_len h) (fun f cdv A outer s H vs Q E hr h => ?_)
  · obtain ⟨v0, rfl, h⟩ := h
    have hu := hu_of hr
    obtain ⟨a_is_letter, fd_is_letter, mg_is_letter, kp_is_letter, bd_is_letter, ok_is_letter⟩ := h_is_letter.ex
    refine ⟨_, (pss_one (ps_ret (pe_and (pe_callB call_isi (by rfl) TX.isinstance (by decide +kernel) (pa_cons (pv 0) (pa_cons (pe_tyn "tuple" (by rfl) TX.tuple (by decide +kernel)) pa_nil))) (pe_and (pe_cmpR op_eq (pe_callB (len_seqK K) (by rfl) TX.len (by decide +kernel) (pa_cons (pv 0) pa_nil)) pe_int (nomark _)) (pe_and (pe_call ok_is_letter hr rfl mg_is_letter kp_is_letter bd_is_letter .nil pass0 (pa_cons (pe_ix (ix_tupK K) (pv 0) pe_int (fun _ _ => rfl)) pa_nil)) (pe_one (pe_callB call_isi (by rfl) TX.isinstance (by decide +kernel) (pa_cons (pe_ix (ix_tupK K) (pv 0) pe_int (fun _ _ => rfl)) (pa_cons (pe_tyn "str" (by rfl) TX.str (by decide +kernel)) pa_nil))))))))), ?_⟩
    obtain ⟨r, ⟨a, rfl, ha⟩, h1, h2, q⟩ := h
    refine ⟨_, rfl, _, _, _, _, true, rfl, .ty _, .base (.tup ha), kit_ty (by decide +kernel), true, rfl, iteT ?_⟩
    refine ⟨_, rfl, _, _, rfl, .inr (SqT.of ha), rfl, true, by rfl, iteT ?_⟩
    refine ⟨_, rfl, a, _, (0 : Int), _, rfl, rfl, SqT.of ha, rfl, _, rfl, r.1, rfl, h1, h2, true, rfl, iteT ?_⟩
    exact ⟨_, rfl, a, _, (1 : Int), _, rfl, rfl, SqT.of ha, rfl, _, _, _, _, true, rfl, .ty _, .base (.str _), kit_ty (by decide +kernel), q⟩
end
end G

/-! Books: rules_of .. is_book, letters, words_of; small tests. -/
namespace G
open PySem PySem.Spec PyProof.Rows L2 TL

theorem walk_T {l : List Nat} : Walk (Its (T l)) l.length (fun _ => True) (fun i H v H' => H' = H ∧ ∃ c, l[i]? = some c ∧ v = .str (T [c])) := by
  have h := walk_str (z := T l)
  have e : (T l).cps.size = l.length := by simp
  rw [e] at h
  refine h.mono (fun _ _ => trivial) fun i H x H' hi _ y => ?_
  obtain ⟨y1, c, y2, y3⟩ := y
  exact ⟨y1, c, by simpa using y2, y3⟩
theorem kit_lt {K : PySem.W.Frag} : PySem.W.kitAny K (.type "tuple") [.type "list", .type "tuple"] = some true :=
  kitAny_cons (kit_ty (r := false) (by decide +kernel)) (fun _ => kitAny_cons (kit_ty (r := true) (by decide +kernel)) (fun z => nomatch z) (fun _ => rfl)) (fun z => nomatch z)
theorem take_more {α : Type} : ∀ {l : List α} {i : Nat} {x : α}, l[i]? = some x → l.take (i + 1) = l.take i ++ [x]
  | [], i, x, h => by simp at h
  | a :: l, 0, x, h => by
    have e : a = x := Option.some.inj h
    subst e
    rfl
  | a :: l, i + 1, x, h => by
    have ih := take_more (l := l) (i := i) (x := x) h
    show a :: l.take (i + 1) = a :: l.take i ++ [x]
    rw [ih]
    rfl
theorem wkv_take {rs : List Rule} {i : Nat} {r : Rule} (h : rs[i]? = some r) : wkv (rs.take (i + 1)) = wkv (rs.take i) ++ [(Sum.inr (T [r.1]), V.str (T r.2))] := by
  unfold wkv
  rw [take_more h, List.map_append]
  rfl
theorem not_yet {rs : List Rule} (nd : (rs.map (·.1)).Nodup) {i : Nat} {r : Rule} (h : rs[i]? = some r) : r.1 ∉ (rs.take i).map (·.1) := by
  intro hm
  have h2 : rs.map (·.1) = (rs.take i).map (·.1) ++ (rs.drop i).map (·.1) := by rw [← List.map_append, List.take_append_drop]
  rw [h2] at nd
  have hr : r.1 ∈ (rs.drop i).map (·.1) := by
    obtain ⟨hi, e⟩ := List.getElem?_eq_some_iff.mp h
    rw [List.drop_eq_getElem_cons hi, e]
    exact List.mem_cons_self
  exact (List.nodup_append.mp nd).2.2 _ hm _ hr rfl
theorem wkv_none {rs : List Rule} {c : Nat} (h : c ∉ rs.map (·.1)) : valV (wkv rs) (Sum.inr (T [c])) = none := by
  unfold wkv
  rw [valV_find (fun r => V.str (T r.2)), find_none h]
  rfl
theorem wkv_len (rs : List Rule) : (wkv rs).length = rs.length := List.length_map _
theorem le_small {n : Nat} (h : n ≤ 1000) : n < sizeLine := small1000 h
theorem wkv_lets {rs : List Rule} {l : List Nat} (h : ∀ c ∈ l, c ∈ rs.map (·.1)) : ∀ c ∈ l, (valV (wkv rs) (Sum.inr (T [c]))).isSome = true := fun c hc => by
  rw [valV_word (h c hc)]
  rfl
theorem rules_at {H : Hp} {a : Addr} {rs : List Rule} (h : RulesAt H a rs) : ∃ ps : List V, H a = some (.tup ps) ∧ ps.length = rs.length ∧ ∀ (i : Nat) (x : V), ps[i]? = some x → ∃ r, rs[i]? = some r ∧ RuleAt H x r := by
  obtain ⟨ps, e, q⟩ := h
  exact ⟨ps, e, paired_len q, fun i x hx => paired_at q hx⟩
/-! ### sorted texts of one sign -/
theorem rising_le : ∀ {l : List Nat} {c : Nat}, risingS (T [c]) (l.map fun d => T [d]) = true → (c :: l).Pairwise (· ≤ ·)
  | [], c, _ => List.pairwise_singleton _ _
  | d :: l, c, h => by
    have h1 : (!ltCps [d] [c] && risingS (T [d]) (l.map fun d => T [d])) = true := h
    obtain ⟨h2, h3⟩ := Bool.and_eq_true_iff.mp h1
    have ih := rising_le h3
    have le : c ≤ d := by
      by_cases q : d < c
      · have : ltCps [d] [c] = true := by simp [ltCps, q]
        rw [this] at h2
        cases h2
      · omega
    refine List.pairwise_cons.mpr ⟨fun x hx => ?_, ih⟩
    rcases List.mem_cons.mp hx with e | e
    · rw [e]; exact le
    · exact Nat.le_trans le ((List.pairwise_cons.mp ih).1 x e)
theorem sortedS_le {l : List Nat} (h : sortedS (l.map fun d => T [d]) = true) : l.Pairwise (· ≤ ·) := by
  cases l with
  | nil => exact List.Pairwise.nil
  | cons c l => exact rising_le h
theorem perm_sorted : ∀ {a b : List Nat}, a.Perm b → a.Pairwise (· ≤ ·) → b.Pairwise (· ≤ ·) → a = b
  | [], b, h, _, _ => (List.nil_perm.mp h).symm
  | x :: a, [], h, _, _ => absurd (List.perm_nil.mp h) (by simp)
  | x :: a, y :: b, h, ha, hb => by
    have h1 := List.pairwise_cons.mp ha
    have h2 := List.pairwise_cons.mp hb
    have e : x = y := by
      have hx : x ∈ y :: b := h.mem_iff.mp List.mem_cons_self
      have hy : y ∈ x :: a := h.mem_iff.mpr List.mem_cons_self
      have l1 : x ≤ y := by
        rcases List.mem_cons.mp hy with q | q
        · rw [q]; exact Nat.le_refl _
        · exact h1.1 _ q
      have l2 : y ≤ x := by
        rcases List.mem_cons.mp hx with q | q
        · rw [q]; exact Nat.le_refl _
        · exact h2.1 _ q
      omega
    subst e
    rw [perm_sorted (h.cons_inv) h1.2 h2.2]
/-- a list of one-sign texts, sorted -/
theorem sorted_T {cs : List Nat} (up : cs.Pairwise (· ≤ ·)) {ys : List Str} (h : ys.Perm (cs.map fun d => T [d])) (s : sortedS ys = true) : ys = cs.map fun d => T [d] := by
  have q : ∃ ds : List Nat, ys = ds.map fun d => T [d] := by
    have hy : ∀ y ∈ ys, ∃ d, y = T [d] := fun y hy => by
      obtain ⟨d, _, e⟩ := List.mem_map.mp (h.mem_iff.mp hy)
      exact ⟨d, e.symm⟩
    clear h s
    induction ys with
    | nil => exact ⟨[], rfl⟩
    | cons y ys ih =>
      obtain ⟨d, rfl⟩ := hy y List.mem_cons_self
      obtain ⟨ds, rfl⟩ := ih fun z hz => hy z (List.mem_cons_of_mem _ hz)
      exact ⟨d :: ds, rfl⟩
  obtain ⟨ds, rfl⟩ := q
  have hp : ds.Perm cs := by
    have e : ((ds.map fun d => T [d]).map fun x => (tl x).headD 0).Perm ((cs.map fun d => T [d]).map fun x => (tl x).headD 0) := h.map _
    rw [List.map_map, List.map_map] at e
    have i1 : ∀ l : List Nat, l.map ((fun x => (tl x).headD 0) ∘ fun d => T [d]) = l := fun l => by
      induction l with
      | nil => rfl
      | cons a l ih => rw [List.map_cons, ih]; rfl
    rw [i1, i1] at e
    exact e
  rw [perm_sorted hp (sortedS_le s) up]
theorem joinL_nil : ∀ l : List (List Nat), joinL [] l = l.flatten
  | [] => rfl
  | [p] => by simp [joinL]
  | p :: q :: r => by
    show p ++ ([] ++ joinL [] (q :: r)) = _
    rw [joinL_nil (q :: r)]
    rfl
theorem join_T (ls : List (List Nat)) : Txt.join (Str.ofString "") (ls.map T) = T ls.flatten := by
  refine T_eq ?_
  rw [join_eq, tl_join, List.map_map]
  have e : ls.map (tl ∘ T) = ls := by
    induction ls with
    | nil => rfl
    | cons a l ih => rw [List.map_cons, ih]; rfl
  rw [e]
  exact joinL_nil ls
theorem flat_one (l : List Nat) : (l.map fun c => [c]).flatten = l := by
  induction l with
  | nil => rfl
  | cons a l ih => rw [List.map_cons, List.flatten_cons, ih]; rfl
theorem sum_len {ls : List Str} {n : Nat} (h : ∀ x ∈ ls, x.length ≤ n) : (ls.map (·.length)).sum ≤ ls.length * n := by
  induction ls with
  | nil => simp
  | cons a l ih =>
    have h1 := ih fun x hx => h x (List.mem_cons_of_mem _ hx)
    have h2 := h a List.mem_cons_self
    rw [List.map_cons, List.sum_cons, List.length_cons, Nat.add_mul, Nat.one_mul]
    omega

section
variable {P : Program} {w : World} {K : PySem.W.Frag} {mg : Str → Option Value} {base : Heap} {C aF : Addr}
def sp_rules_of : Sp := sp1 fun v H Q => ∃ a rs, v = .ref a ∧ RulesAt H a rs ∧ rs.length ≤ 8 ∧ (∀ r ∈ rs, 97 ≤ r.1 ∧ r.1 ≤ 122) ∧ (rs.map (·.1)).Nodup ∧ ∀ H' d, Same H H' → H d = none → H' d = some (.dK (wkv rs)) → Q (.ref d) H'
theorem sc_rules_of : FnScope ["rules", "words", "rule"] ["rules"] (defScope s_rules_of) := ⟨rfl, rfl, rfl, by decide +kernel, rfl, by decide +kernel, by decide +kernel⟩
theorem has_rules_of {k : Nat} (S : Src K mg "rules_of" s_rules_of) (TX : Txt K mg w C aF) (h_is_rule : Has P w K mg base k "is_rule" ["thing"] (sp_is_rule)) : Has P w K mg base (k + 1) "rules_of" ["rules"] (sp_rules_of) := by
  refine has_of S sc_rules_of (fun _ _ _ _ _ _ us hl => match us, hl with | [_], _ => rfl) (fun vs H Q E h => sp1_len h) (fun f cdv A outer s H vs Q E hr h => ?_)
  · obtain ⟨v0, rfl, h⟩ := h
    have hu := hu_of hr
    obtain ⟨a_is_rule, fd_is_rule, mg_is_rule, kp_is_rule, bd_is_rule, ok_is_rule⟩ := h_is_rule.ex
    refine ⟨_, (pss_cons (ps_if (PW.pt (pw_or (pt_not (pt_val (pe_callB call_isiT (by rfl) TX.isinstance (by decide +kernel) (pa_cons (pv 0) (pa_cons (pe_tup (pa_cons (pe_tyn "list" (by rfl) TX.list (by decide +kernel)) (pa_cons (pe_tyn "tuple" (by rfl) TX.tuple (by decide +kernel)) pa_nil))) pa_nil))))) (pw_or1 (pt_cmpR op_gt (pe_callB (len_seqK K) (by rfl) TX.len (by decide +kernel) (pa_cons (pv 0) pa_nil)) (pe_gI TX.g_MOST_LETTERS) (nomark _))))) (pss_one (ps_ret pe_non)) pss_nil)
    (pss_cons (ps_set (i := 1) sc_rules_of.nd rfl (Or.inl rfl) pe_dnewK)
    (pss_cons (ps_for PassesOwn.never rfl (pi_tup (pv 0)) (pg_name (i := 2) sc_rules_of.nd rfl (Or.inl rfl))
      (pss_cons (ps_if (PW.pt (pw_or (pt_not (pt_val (pe_call ok_is_rule hr rfl mg_is_rule kp_is_rule bd_is_rule .nil pass0 (pa_cons (pv 2) pa_nil)))) (pw_or1 (pt_cmp (pc_din hu (pe_ix (ix_tupK K) (pv 2) pe_int (fun _ _ => rfl)) (pv 1)))))) (pss_one (ps_ret pe_non)) pss_nil)
    (pss_one (ps_dput hu (pv 1) (pe_ix (ix_tupK K) (pv 2) pe_int (fun _ _ => rfl)) (pe_ix (ix_tupK K) (pv 2) pe_int (fun _ _ => rfl)) rfl))))
    (pss_one (ps_ret (pv 1)))))), ?_⟩
    obtain ⟨a, rs, rfl, hA, few, low, nd, q⟩ := h
    obtain ⟨ps, hps, lps, ips⟩ := rules_at hA
    refine ⟨_, rfl, (by show 2 ≤ sizeLine; decide), fun p hp => ?_⟩
    have s1 : Same H (upd H p (.tup [.ty "list", .ty "tuple"])) := Same.new hp
    have hA1 : (upd H p (.tup [.ty "list", .ty "tuple"])) a = some (.tup ps) := s1 _ _ hps
    refine ⟨_, p, _, _, _, true, rfl, upd_same, .cons (.ty _) (.cons (.ty _) .nil), .base (.tup hA1), kit_lt, true, rfl, ibF rfl ?_⟩
    refine ⟨_, rfl, a, ps, rfl, .inr (SqT.of hA1), _, _, rfl, rfl, _, rfl, ibF (decide_eq_false (by omega)) ?_⟩
    intro d hd
    have hd0 : H d = none := s1.free hd
    refine ⟨_, rfl, a, rfl, ⟨_, SqT.of ((Same.new hd) _ _ hA1)⟩, for_it (walk_tup (xs := ps)) (fun i σ H' => ∃ y, σ = [some (.ref a), some (.ref d), y] ∧ Same H H' ∧ H' d = some (.dK (wkv (rs.take i)))) ⟨none, rfl, s1.trans (Same.new hd), upd_same⟩ (fun i σ H' _ ⟨_, _, s, _⟩ => SqT.of (s _ _ hps)) ?_ ?_⟩
    · rintro i x σ H2 H3 hi ⟨y, rfl, s2, hdk⟩ ⟨rfl, hx⟩
      obtain ⟨r, hr, p2, rfl, hp2⟩ := ips i x hx
      have hp3 := s2 _ _ hp2
      have hm : r ∈ rs := List.mem_of_getElem? hr
      refine ⟨_, rfl, _, rfl, r, ⟨p2, rfl, hp3⟩, (low r hm).1, (low r hm).2, true, rfl, ibF rfl ?_⟩
      refine ⟨_, rfl, p2, _, (0 : Int), _, rfl, rfl, SqT.of hp3, rfl, _, rfl, d, _, rfl, rdDGet (k := Sum.inr (T [r.1])) (.inl hdk) (wkv_none (not_yet nd hr)), _, rfl, ibF rfl ?_⟩
      refine ⟨_, rfl, p2, _, (1 : Int), _, rfl, rfl, SqT.of hp3, rfl, _, rfl, _, rfl, p2, _, (0 : Int), _, rfl, rfl, SqT.of hp3, rfl, d, _, rfl, DPut.k (k := Sum.inr (T [r.1])) hdk (by rw [wkv_len, List.length_take]; exact le_small (by omega)), ?_⟩
      refine ⟨_, rfl, Same.mut s2 hd0, ?_⟩
      rw [upd_same, putK_new _ (wkv_none (not_yet nd hr)), wkv_take hr]
    · rintro σ H2 ⟨y, rfl, s2, hdk⟩
      rw [lps, List.take_length] at hdk
      exact ⟨_, rfl, q _ _ s2 hd0 hdk⟩
def sp_all_known : Sp := sp2 fun v0 v1 H Q => ∃ d kvs l, v0 = .ref d ∧ Rd H d (.dK kvs) ∧ v1 = .str (T l) ∧ (∀ c ∈ l, (valV kvs (Sum.inr (T [c]))).isSome = true) ∧ Q (.bl true) H
theorem sc_all_known : FnScope ["words", "text", "sign"] ["words", "text"] (defScope s_all_known) := ⟨rfl, rfl, rfl, by decide +kernel, rfl, by decide +kernel, by decide +kernel⟩
theorem has_all_known {k : Nat} (S : Src K mg "all_known" s_all_known) (TX : Txt K mg w C aF)  : Has P w K mg base (k + 1) "all_known" ["words", "text"] (sp_all_known) := by
  refine has_of S sc_all_known (fun _ _ _ _ _ _ us hl => match us, hl with | [_, _], _ => rfl) (fun vs H Q E h => sp2_len h) (fun f cdv A outer s H vs Q E hr h => ?_)
  · obtain ⟨v0, v1, rfl, h⟩ := h
    have hu := hu_of hr
    refine ⟨_, (pss_cons (ps_for PassesOwn.never rfl (pi_str (pv 1)) (pg_name (i := 2) sc_all_known.nd rfl (Or.inl rfl))
      (pss_one (ps_if (pt_cmp (pc_dnotin hu (pv 2) (pv 0))) (pss_one (ps_ret pe_bl)) pss_nil)))
    (pss_one (ps_ret pe_bl))), ?_⟩
    obtain ⟨d, kvs, l, rfl, hd, rfl, hk, q⟩ := h
    refine ⟨_, rfl, _, rfl, for_it (walk_T (l := l)) (fun i σ H' => ∃ y, σ = [some (.ref d), some (.str (T l)), y] ∧ H' = H) ⟨none, rfl, rfl⟩ (fun _ _ _ _ _ => trivial) ?_ ?_⟩
    · rintro i x σ H2 H3 hi ⟨y, rfl, rfl⟩ ⟨rfl, c, hc, rfl⟩
      have e := hk c (List.mem_of_getElem? hc)
      refine ⟨_, rfl, _, rfl, d, _, rfl, rdDGet (k := Sum.inr (T [c])) hd rfl, _, rfl, ibF (by rw [e]; rfl) ?_⟩
      exact ⟨_, rfl, rfl⟩
    · rintro σ H2 ⟨y, rfl, rfl⟩
      exact q
def sp_makes_book : Sp := sp2 fun v0 v1 H Q => ∃ f d rs, v0 = .str (T f) ∧ v1 = .ref d ∧ H d = some (.dK (wkv rs)) ∧ Wf f rs ∧ ∀ H', Same H H' → Q (.bl true) H'
theorem sc_makes_book : FnScope ["first", "words", "letter"] ["first", "words"] (defScope s_makes_book) := ⟨rfl, rfl, rfl, by decide +kernel, rfl, by decide +kernel, by decide +kernel⟩
theorem has_makes_book {k : Nat} (S : Src K mg "makes_book" s_makes_book) (TX : Txt K mg w C aF) (h_all_known : Has P w K mg base k "all_known" ["words", "text"] (sp_all_known)) : Has P w K mg base (k + 1) "makes_book" ["first", "words"] (sp_makes_book) := by
  refine has_of S sc_makes_book (fun _ _ _ _ _ _ us hl => match us, hl with | [_, _], _ => rfl) (fun vs H Q E h => sp2_len h) (fun f cdv A outer s H vs Q E hr h => ?_)
  · obtain ⟨v0, v1, rfl, h⟩ := h
    have hu := hu_of hr
    obtain ⟨a_all_known, fd_all_known, mg_all_known, kp_all_known, bd_all_known, ok_all_known⟩ := h_all_known.ex
    refine ⟨_, (pss_cons (ps_if (PW.pt (pw_or (pt_cmpR op_isN (pv 1) pe_non (nomark _)) (pw_or (pt_not (pt_val (pe_callB call_isi (by rfl) TX.isinstance (by decide +kernel) (pa_cons (pv 0) (pa_cons (pe_tyn "str" (by rfl) TX.str (by decide +kernel)) pa_nil))))) (pw_or1 (pt_cmpR op_gt (pe_callB call_len_str (by rfl) TX.len (by decide +kernel) (pa_cons (pv 0) pa_nil)) (pe_gI TX.g_MOST_FIRST) (nomark _)))))) (pss_one (ps_ret pe_bl)) pss_nil)
    (pss_cons (ps_if (pt_not (pt_val (pe_call ok_all_known hr rfl mg_all_known kp_all_known bd_all_known .nil pass0 (pa_cons (pv 1) (pa_cons (pv 0) pa_nil))))) (pss_one (ps_ret pe_bl)) pss_nil)
    (pss_cons (ps_lock (ps_for PassesOwn.never rfl (pi_keys (pv 1)) (pg_name (i := 2) sc_makes_book.nd rfl (Or.inl rfl))
      (pss_one (ps_if (PW.pt (pw_or (pt_cmpR op_gt (pe_callB call_len_str (by rfl) TX.len (by decide +kernel) (pa_cons (pe_dget hu (pv 1) (pv 2) (fun _ _ => rfl)) pa_nil)) (pe_gI TX.g_MOST_WORD) (nomark _)) (pw_or1 (pt_not (pt_val (pe_call ok_all_known hr rfl mg_all_known kp_all_known bd_all_known .nil pass0 (pa_cons (pv 1) (pa_cons (pe_dget hu (pv 1) (pv 2) (fun _ _ => rfl)) pa_nil)))))))) (pss_one (ps_ret pe_bl)) pss_nil))))
    (pss_one (ps_ret pe_bl))))), ?_⟩
    obtain ⟨f, d, rs, rfl, rfl, hd, wf, q⟩ := h
    refine ⟨_, rfl, rfl, _, rfl, ibF (decide_eq_false (by intro z; cases z)) ?_⟩
    refine ⟨_, rfl, _, _, _, _, true, rfl, .ty _, .base (.str _), kit_ty (by decide +kernel), true, rfl, ibF rfl ?_⟩
    refine ⟨_, rfl, _, rfl, T_sz (by have := wf.fl; omega), _, _, rfl, rfl, _, rfl, ibF (decide_eq_false (by rw [T_len]; have := wf.fl; omega)) ?_⟩
    refine ⟨_, rfl, _, rfl, _, _, rfl, d, _, f, rfl, .inl hd, rfl, wkv_lets wf.fk, true, rfl, ibF rfl ?_⟩
    refine ⟨d, _, hd, trivial, fun od => ?_⟩
    have hd1 : (upd H d (.frz od (.dK (wkv rs)))) d = some (.frz od (.dK (wkv rs))) := upd_same
    refine ⟨_, rfl, d, od, rfl, .inl ⟨_, hd1, for_it (walk_keys (kvs := wkv rs)) (fun i σ H' => ∃ y, σ = [some (.str (T f)), some (.ref d), y] ∧ H' = upd H d (.frz od (.dK (wkv rs)))) ⟨none, rfl, rfl⟩ (fun i σ H' _ ⟨_, _, e⟩ => by rw [e]; exact hd1) ?_ ?_⟩⟩
    · rintro i x σ H2 H3 hi ⟨y, rfl, rfl⟩ ⟨rfl, k, v, hk, rfl⟩
      unfold wkv at hk
      rw [List.getElem?_map] at hk
      cases e : rs[i]? with
      | none =>
        rw [e] at hk
        cases hk
      | some r =>
        rw [e] at hk
        obtain ⟨rfl, rfl⟩ := Prod.mk.inj (Option.some.inj hk)
        have hm : r ∈ rs := List.mem_of_getElem? e
        have hw : valV (wkv rs) (Sum.inr (T [r.1])) = some (.str (T r.2)) := by
          rw [valV_word (List.mem_map.mpr ⟨r, hm, rfl⟩), wordOf_nd wf.nd hm]
        have h6 := (wf.wd r hm).1
        refine ⟨_, rfl, _, rfl, d, _, rfl, rdDGet (k := Sum.inr (T [r.1])) (.inr ⟨od, hd1⟩) hw, _, rfl, T_sz (by omega), _, _, rfl, rfl, _, rfl, ibF (decide_eq_false (by rw [T_len]; omega)) ?_⟩
        refine ⟨_, rfl, _, rfl, _, rfl, d, _, rfl, rdDGet (k := Sum.inr (T [r.1])) (.inr ⟨od, hd1⟩) hw, _, _, rfl, d, _, r.2, rfl, .inr ⟨od, hd1⟩, rfl, wkv_lets (wf.wd r hm).2, true, rfl, ibF rfl ?_⟩
        exact ⟨_, rfl, rfl⟩
    · rintro σ H2 ⟨y, rfl, rfl⟩
      exact ⟨hd1, q _ (Same.unlock hd (Same.refl _))⟩
def sp_letters : Sp := sp1 fun v H Q => ∃ b f rs, v = .ref b ∧ BookAt H b f rs ∧ rs.length ≤ 8 ∧ ∀ H', Same H H' → Q (.str (T (rs.map (·.1)))) H'
theorem sc_letters : FnScope ["book", "rule"] ["book"] (defScope s_letters) := ⟨rfl, rfl, rfl, by decide +kernel, rfl, by decide +kernel, by decide +kernel⟩
theorem has_letters {k : Nat} (S : Src K mg "letters" s_letters) (TX : Txt K mg w C aF)  : Has P w K mg base (k + 1) "letters" ["book"] (sp_letters) := by
  refine has_of S sc_letters (fun _ _ _ _ _ _ us hl => match us, hl with | [_], _ => rfl) (fun vs H Q E h => sp1_len h) (fun f cdv A outer s H vs Q E hr h => ?_)
  · obtain ⟨v0, rfl, h⟩ := h
    have hu := hu_of hr
    refine ⟨_, (pss_one (ps_ret (pe_join pe_str (pe_lc (own := [("rule", 1)]) (by rfl) sc_letters.nd (pi_tup (pe_ix (ix_tupK K) (pv 0) pe_int (fun _ _ => rfl))) (blkOk_by (own := [("rule", 1)]) (by kernel_rfl)) (fun _ _ _ _ _ => (pg_name (i := 1) sc_letters.nd rfl (Or.inl rfl))) (fun _ _ _ _ _ => pts_nil) (fun _ _ _ _ _ => (pe_ix (ix_tupK K) (pv 1) pe_int (fun _ _ => rfl))))))), ?_⟩
    obtain ⟨b, f, rs, rfl, ⟨r, hb, hr⟩, few, q⟩ := h
    obtain ⟨ps, hps, lps, ips⟩ := rules_at hr
    refine ⟨⟨_, rfl⟩, _, rfl, b, _, (1 : Int), _, rfl, rfl, SqT.of hb, rfl, r, rfl, ⟨_, SqT.of hps⟩, fun D hD => ?_⟩
    refine lc_it (walk_tup (xs := ps)) (fun i H' => Same H H' ∧ H' D = some (.lst ((rs.take i).map fun r => V.str (T [r.1])))) ⟨Same.new hD, upd_same⟩ (fun i H' _ ⟨s, _⟩ => SqT.of (s _ _ hps)) ?_ ?_
    · rintro i x H2 H3 hi ⟨s2, hl⟩ ⟨rfl, hx⟩
      obtain ⟨c, hc, p2, rfl, hp2⟩ := ips i x hx
      refine ⟨rfl, _, rfl, p2, _, (0 : Int), _, rfl, rfl, SqT.of (s2 _ _ hp2), rfl, _, hl, by rw [List.length_map, List.length_take]; exact le_small (by omega), Same.mut s2 hD, ?_⟩
      rw [upd_same, take_more hc, List.map_append]
      rfl
    · rintro H2 ⟨s2, hl⟩
      rw [lps, List.take_length] at hl
      have e1 : (rs.map fun r => V.str (T [r.1])) = ((rs.map fun r => [r.1]).map T).map V.str := by rw [List.map_map, List.map_map]; rfl
      rw [e1] at hl
      refine ⟨_, D, (rs.map fun r => [r.1]).map T, rfl, rfl, .inl (SqL.of hl), ?_, ?_⟩
      · have h1 := sum_len (ls := (rs.map fun r => [r.1]).map T) (n := 1) (fun x hx => by
          obtain ⟨z, hz, rfl⟩ := List.mem_map.mp hx
          obtain ⟨y, _, rfl⟩ := List.mem_map.mp hz
          exact Nat.le_refl 1)
        have h2 : (Str.ofString "").length = 0 := by decide +kernel
        rw [h2]
        simp only [List.length_map] at h1 ⊢
        omega
      · rw [join_T]
        have e2 : (rs.map fun r => [r.1]).flatten = rs.map (·.1) := by
          have := flat_one (rs.map (·.1))
          rw [List.map_map] at this
          exact this
        rw [e2]
        exact q _ s2
def sp_words_of : Sp := sp1 fun v H Q => ∃ b f rs, v = .ref b ∧ BookAt H b f rs ∧ rs.length ≤ 8 ∧ (rs.map (·.1)).Nodup ∧ ∀ H' d, Same H H' → H d = none → H' d = some (.dK (wkv rs)) → Q (.ref d) H'
theorem sc_words_of : FnScope ["book", "found", "letter", "text"] ["book"] (defScope s_words_of) := ⟨rfl, rfl, rfl, by decide +kernel, rfl, by decide +kernel, by decide +kernel⟩
theorem has_words_of {k : Nat} (S : Src K mg "words_of" s_words_of) (TX : Txt K mg w C aF)  : Has P w K mg base (k + 1) "words_of" ["book"] (sp_words_of) := by
  refine has_of S sc_words_of (fun _ _ _ _ _ _ us hl => match us, hl with | [_], _ => rfl) (fun vs H Q E h => sp1_len h) (fun f cdv A outer s H vs Q E hr h => ?_)
  · obtain ⟨v0, rfl, h⟩ := h
    have hu := hu_of hr
    refine ⟨_, (pss_cons (ps_set (i := 1) sc_words_of.nd rfl (Or.inl rfl) pe_dnewK)
    (pss_cons (ps_for PassesOwn.never rfl (pi_tup (pe_ix (ix_tupK K) (pv 0) pe_int (fun _ _ => rfl))) (pg_tup rfl (pgs_cons (pg_name (i := 2) sc_words_of.nd rfl (Or.inl rfl)) (pgs_cons (pg_name (i := 3) sc_words_of.nd rfl (Or.inl rfl)) pgs_nil)))
      (pss_one (ps_dput hu (pv 1) (pv 2) (pv 3) rfl)))
    (pss_one (ps_ret (pv 1))))), ?_⟩
    obtain ⟨b, f, rs, rfl, ⟨r, hb, hr⟩, few, nd, q⟩ := h
    obtain ⟨ps, hps, lps, ips⟩ := rules_at hr
    intro d hd
    have s1 : Same H (upd H d (.dK [])) := Same.new hd
    refine ⟨_, rfl, b, _, (1 : Int), _, rfl, rfl, SqT.of (s1 _ _ hb), rfl, r, rfl, ⟨_, SqT.of (s1 _ _ hps)⟩, for_it (walk_tup (xs := ps)) (fun i σ H' => ∃ y z, σ = [some (.ref b), some (.ref d), y, z] ∧ Same H H' ∧ H' d = some (.dK (wkv (rs.take i)))) ⟨none, none, rfl, s1, upd_same⟩ (fun i σ H' _ ⟨_, _, _, s, _⟩ => SqT.of (s _ _ hps)) ?_ ?_⟩
    · rintro i x σ H2 H3 hi ⟨y, z, rfl, s2, hdk⟩ ⟨rfl, hx⟩
      obtain ⟨c, hc, p2, rfl, hp2⟩ := ips i x hx
      refine ⟨_, _, rfl, SqT.of (s2 _ _ hp2), rfl, _, _, rfl, _, _, rfl, rfl, ?_⟩
      refine ⟨_, rfl, _, rfl, _, rfl, d, _, rfl, DPut.k (k := Sum.inr (T [c.1])) hdk (by rw [wkv_len, List.length_take]; exact le_small (by omega)), ?_⟩
      refine ⟨_, _, rfl, Same.mut s2 hd, ?_⟩
      rw [upd_same, putK_new _ (wkv_none (not_yet nd hc)), wkv_take hc]
    · rintro σ H2 ⟨y, z, rfl, s2, hdk⟩
      rw [lps, List.take_length] at hdk
      exact ⟨_, rfl, q _ _ s2 hd hdk⟩
end
end G

/-! is_book; ages, places, names, numbers. -/
namespace G
open PySem PySem.Spec PyProof.Rows L2 TL

theorem num_head : ∀ (m n : Nat), n ≤ m → 1 ≤ n → ∃ c r, numL n = c :: r ∧ c ≠ 48
  | 0, n, h, h1 => by omega
  | m + 1, n, h, h1 => by
    by_cases q : n < 10
    · exact ⟨48 + n, [], numL_lt q, by omega⟩
    · obtain ⟨c, r, e, ne⟩ := num_head m (n / 10) (by omega) (by omega)
      exact ⟨c, r ++ [48 + n % 10], by rw [numL_step (by omega), e]; rfl, ne⟩
theorem dig_mem {c : Nat} (h : 48 ≤ c) (h' : c ≤ 57) : c ∈ tl (Str.ofString "0123456789") := by
  have e : ∀ d : Fin 58, 48 ≤ d.1 → d.1 ∈ tl (Str.ofString "0123456789") := by decide +kernel
  exact e ⟨c, by omega⟩ h
theorem strOk_T {c : Nat} (h : c < 1000) : PyData.strOk (T [c]) = true := by
  simp [PyData.strOk]
  omega
theorem zero_T : (Str.ofString "0" : Str) = T [48] := by decide +kernel
def NameOk (l : List Nat) : Prop := 1 ≤ l.length ∧ l.length ≤ 8 ∧ ∀ c ∈ l, 97 ≤ c ∧ c ≤ 122
theorem T_ne_empty {l : List Nat} (h : 1 ≤ l.length) : ¬ (V.str (T l) = V.str (Str.ofString "")) := fun z => by
  have e := V.str.inj z
  have e2 : (T l).length = (Str.ofString "").length := by rw [e]
  rw [T_len, show (Str.ofString "").length = 0 by decide +kernel] at e2
  omega
theorem dpAll_T {K : PySem.W.Frag} {H : Hp} : ∀ ls : List (List Nat), DpAll K H (ls.map fun l => V.str (T l)) (ls.map fun l => PyData.str (T l))
  | [] => .nil
  | l :: ls => .cons (.str _) (dpAll_T ls)
theorem lay_strs : ∀ ls : List Str, (∀ x ∈ ls, PyData.strOk x = true) → PyData.canLayAll0 (ls.map PyData.str) = true
  | [], _ => by simp [PyData.canLayAll0]
  | l :: ls, h => by simp [PyData.canLayAll0, PyData.canLay0, h l List.mem_cons_self, lay_strs ls fun x hx => h x (List.mem_cons_of_mem _ hx)]
theorem depth_strs : ∀ ls : List Str, PyData.depthAll (ls.map PyData.str) ≤ 1
  | [] => by simp [PyData.depthAll]
  | l :: ls => by
    have h := depth_strs ls
    simp only [List.map_cons, PyData.depthAll, PyData.depth]
    omega
theorem shaped_strs (ls : List Str) (h : ls.length ≤ 1000) (ok : ∀ x ∈ ls, PyData.strOk x = true) : SeqAt.shaped (.list (ls.map PyData.str)) = true := by
  unfold SeqAt.shaped
  have h1 := depth_strs ls
  have h2 := lay_strs ls ok
  simp only [Bool.and_eq_true, decide_eq_true_eq]
  refine ⟨?_, ?_⟩
  · simp [PyData.canLay0, h2]
    try (have := small1000 h; rw [sizeLine_eq] at this; omega)
  · simp only [PyData.depth]
    omega
section
variable {P : Program} {w : World} {K : PySem.W.Frag} {mg : Str → Option Value} {base : Heap} {C aF : Addr}
def sp_is_book : Sp := sp1 fun v H Q => ∃ b f rs, v = .ref b ∧ BookAt H b f rs ∧ Wf f rs ∧ ∀ H', Same H H' → Q (.bl true) H'
theorem sc_is_book : FnScope ["thing", "words", "rule"] ["thing"] (defScope s_is_book) := ⟨rfl, rfl, rfl, by decide +kernel, rfl, by decide +kernel, by decide +kernel⟩
theorem has_is_book {k : Nat} (S : Src K mg "is_book" s_is_book) (TX : Txt K mg w C aF) (h_rules_of : Has P w K mg base k "rules_of" ["rules"] (sp_rules_of)) (h_makes_book : Has P w K mg base k "makes_book" ["first", "words"] (sp_makes_book)) : Has P w K mg base (k + 1) "is_book" ["thing"] (sp_is_book) := by
  refine has_of S sc_is_book (fun _ _ _ _ _ _ us hl => match us, hl with | [_], _ => rfl) (fun vs H Q E h => sp1_len h) (fun f cdv A outer s H vs Q E hr h => ?_)
  · obtain ⟨v0, rfl, h⟩ := h
    have hu := hu_of hr
    obtain ⟨a_rules_of, fd_rules_of, mg_rules_of, kp_rules_of, bd_rules_of, ok_rules_of⟩ := h_rules_of.ex
    obtain ⟨a_makes_book, fd_makes_book, mg_makes_book, kp_makes_book, bd_makes_book, ok_makes_book⟩ := h_makes_book.ex
    refine ⟨_, (pss_cons (ps_if (PW.pt (pw_or (pt_not (pt_val (pe_callB call_isi (by rfl) TX.isinstance (by decide +kernel) (pa_cons (pv 0) (pa_cons (pe_tyn "tuple" (by rfl) TX.tuple (by decide +kernel)) pa_nil))))) (pw_or (pt_cmpR op_ne (pe_callB (len_seqK K) (by rfl) TX.len (by decide +kernel) (pa_cons (pv 0) pa_nil)) pe_int (nomark _)) (pw_or1 (pt_not (pt_val (pe_callB call_isi (by rfl) TX.isinstance (by decide +kernel) (pa_cons (pe_ix (ix_tupK K) (pv 0) pe_int (fun _ _ => rfl)) (pa_cons (pe_tyn "tuple" (by rfl) TX.tuple (by decide +kernel)) pa_nil))))))))) (pss_one (ps_ret pe_bl)) pss_nil)
    (pss_cons (ps_set (i := 1) sc_is_book.nd rfl (Or.inl rfl) (pe_call ok_rules_of hr rfl mg_rules_of kp_rules_of bd_rules_of .nil pass0 (pa_cons (pe_ix (ix_tupK K) (pv 0) pe_int (fun _ _ => rfl)) pa_nil)))
    (pss_cons (ps_if (pt_not (pt_val (pe_call ok_makes_book hr rfl mg_makes_book kp_makes_book bd_makes_book .nil pass0 (pa_cons (pe_ix (ix_tupK K) (pv 0) pe_int (fun _ _ => rfl)) (pa_cons (pv 1) pa_nil))))) (pss_one (ps_ret pe_bl)) pss_nil)
    (pss_one (ps_ret (pe_cmpR (op_eqD hr.units) (pe_lc (own := [("rule", 2)]) (by rfl) sc_is_book.nd (pi_tup (pe_ix (ix_tupK K) (pv 0) pe_int (fun _ _ => rfl))) (blkOk_by (own := [("rule", 2)]) (by kernel_rfl)) (fun _ _ _ _ _ => (pg_name (i := 2) sc_is_book.nd rfl (Or.inl rfl))) (fun _ _ _ _ _ => pts_nil) (fun _ _ _ _ _ => (pe_ix (ix_tupK K) (pv 2) pe_int (fun _ _ => rfl)))) (pe_callB (call_sortedD rfl) (by rfl) TX.sorted (by decide +kernel) (pa_cons (pv 1) pa_nil)) (nomark _))))))), ?_⟩
    obtain ⟨b, f, rs, rfl, ⟨r, hb, hr⟩, wf, q⟩ := h
    obtain ⟨ps, hps, lps, ips⟩ := rules_at hr
    refine ⟨_, rfl, _, _, _, _, true, rfl, .ty _, .base (.tup hb), kit_ty (by decide +kernel), true, rfl, ibF rfl ?_⟩
    refine ⟨_, rfl, b, _, rfl, .inr (SqT.of hb), rfl, _, rfl, ibF rfl ?_⟩
    refine ⟨_, rfl, b, _, (1 : Int), _, rfl, rfl, SqT.of hb, rfl, _, _, _, _, true, rfl, .ty _, .base (.tup hps), kit_ty (by decide +kernel), true, rfl, ibF rfl ?_⟩
    refine ⟨_, rfl, b, _, (1 : Int), _, rfl, rfl, SqT.of hb, rfl, _, rfl, r, rs, rfl, hr, wf.few, wf.low, wf.nd, fun H1 d s1 hd0 hd => ?_⟩
    refine ⟨_, rfl, b, _, (0 : Int), _, rfl, rfl, SqT.of (s1 _ _ hb), rfl, _, rfl, _, _, rfl, f, d, rs, rfl, rfl, hd, wf, fun H2 s2 => ⟨true, rfl, ibF rfl ?_⟩⟩
    have hb2 := s2 _ _ (s1 _ _ hb)
    have hps2 := s2 _ _ (s1 _ _ hps)
    refine ⟨_, rfl, b, _, (1 : Int), _, rfl, rfl, SqT.of hb2, rfl, r, rfl, ⟨_, SqT.of hps2⟩, fun D hD => ?_⟩
    refine lc_it (walk_tup (xs := ps)) (fun i H' => Same H2 H' ∧ H' D = some (.lst ((rs.take i).map fun r => V.str (T [r.1])))) ⟨Same.new hD, upd_same⟩ (fun i H' _ ⟨s, _⟩ => SqT.of (s _ _ hps2)) ?_ ?_
    · rintro i x H3 H4 hi ⟨s3, hl⟩ ⟨rfl, hx⟩
      obtain ⟨c, hc, p2, rfl, hp2⟩ := ips i x hx
      refine ⟨rfl, _, rfl, p2, _, (0 : Int), _, rfl, rfl, SqT.of (s3 _ _ (s2 _ _ (s1 _ _ hp2))), rfl, _, hl, by rw [List.length_map, List.length_take]; have := wf.few; exact le_small (by omega), Same.mut s3 hD, ?_⟩
      rw [upd_same, take_more hc, List.map_append]
      rfl
    · rintro H3 ⟨s3, hl⟩
      rw [lps, List.take_length] at hl
      refine ⟨_, rfl, d, wkv rs, (rs.map (·.1)).map fun c => T [c], rfl, .inl (s3 _ _ (s2 _ _ hd)), ?_, ?_, fun ys p perm so hp => ?_⟩
      · unfold wkv
        rw [List.map_map, List.map_map, List.map_map]
        rfl
      · rw [List.length_map, List.length_map]
        have := wf.few
        omega
      · have e := sorted_T (wf.up.imp fun x => Nat.le_of_lt x) perm so
        subst e
        have s4 : Same H3 (upd H3 p (.lst (((rs.map (·.1)).map fun c => T [c]).map V.str))) := Same.new hp
        have e1 : (rs.map fun r => V.str (T [r.1])) = ((rs.map fun r => [r.1])).map fun l => V.str (T l) := by rw [List.map_map]; rfl
        have e2 : (((rs.map (·.1)).map fun c => T [c]).map V.str) = ((rs.map fun r => [r.1])).map fun l => V.str (T l) := by rw [List.map_map, List.map_map, List.map_map]; rfl
        have hl2 := s4 _ _ hl
        rw [e1] at hl2
        have hp2 : (upd H3 p (.lst (((rs.map (·.1)).map fun c => T [c]).map V.str))) p = some (.lst (((rs.map fun r => [r.1])).map fun l => V.str (T l))) := by rw [upd_same, e2]
        have e3 : ((rs.map fun r => [r.1])).map (fun l => PyData.str (T l)) = (((rs.map fun r => [r.1])).map T).map PyData.str := by rw [List.map_map, List.map_map, List.map_map]; rfl
        have sh : SeqAt.shaped (.list (((rs.map fun r => [r.1])).map fun l => PyData.str (T l))) = true := by
          rw [e3]
          exact shaped_strs _ (by rw [List.length_map, List.length_map]; have := wf.few; omega) (fun x hx => by
            obtain ⟨z, hz, rfl⟩ := List.mem_map.mp hx
            obtain ⟨y, hy, rfl⟩ := List.mem_map.mp hz
            exact strOk_T (by have := (wf.low y hy).2; omega))
        refine ⟨_, _, .lst (SqL.of hl2) (dpAll_T _), .lst (SqL.of hp2) (dpAll_T _), sh, sh, ?_⟩
        have er : PyData.eqv (.list (((rs.map fun r => [r.1])).map fun l => PyData.str (T l))) (.list (((rs.map fun r => [r.1])).map fun l => PyData.str (T l))) = true := SeqAt.eqv_refl _ (SeqAt.canLay_of_shaped sh)
        rw [er]
        exact q _ ((s1.trans s2).trans (s3.trans s4))
def sp_need_age : Sp := sp1 fun v H Q => ∃ n, v = .int n ∧ 0 ≤ n ∧ n ≤ 300 ∧ Q .non H
theorem sc_need_age : FnScope ["age"] ["age"] (defScope s_need_age) := ⟨rfl, rfl, rfl, by decide +kernel, rfl, by decide +kernel, by decide +kernel⟩
theorem has_need_age {k : Nat} (S : Src K mg "need_age" s_need_age) (TX : Txt K mg w C aF) (h_is_whole : Has P w K mg base k "is_whole" ["thing"] (sp_is_whole)) : Has P w K mg base (k + 1) "need_age" ["age"] (sp_need_age) := by
  refine has_of S sc_need_age (fun _ _ _ _ _ _ us hl => match us, hl with | [_], _ => rfl) (fun vs H Q E h => sp1_len h) (fun f cdv A outer s H vs Q E hr h => ?_)
  · obtain ⟨v0, rfl, h⟩ := h
    have hu := hu_of hr
    obtain ⟨a_is_whole, fd_is_whole, mg_is_whole, kp_is_whole, bd_is_whole, ok_is_whole⟩ := h_is_whole.ex
    refine ⟨_, (pss_one (ps_if (PW.pt (pw_or (pt_not (pt_val (pe_call ok_is_whole hr rfl mg_is_whole kp_is_whole bd_is_whole .nil pass0 (pa_cons (pv 0) pa_nil)))) (pw_or (pt_cmpR op_lt (pv 0) pe_int (nomark _)) (pw_or1 (pt_cmpR op_gt (pv 0) (pe_gI TX.g_LAST_AGE) (nomark _)))))) (pss_one ps_never) pss_nil)), ?_⟩
    obtain ⟨n, rfl, h0, h1, q⟩ := h
    refine ⟨_, rfl, _, rfl, n, rfl, true, rfl, ibF rfl ?_⟩
    refine ⟨_, rfl, _, _, rfl, rfl, _, rfl, ibF (decide_eq_false (by omega)) ?_⟩
    refine ⟨_, rfl, _, _, rfl, rfl, _, rfl, ibF (decide_eq_false (by omega)) ?_⟩
    exact q
def sp_need_place : Sp := sp2 fun v0 v1 H Q => ∃ n m, v0 = .int n ∧ v1 = .int m ∧ 0 ≤ n ∧ n < m ∧ Q .non H
theorem sc_need_place : FnScope ["place", "many"] ["place", "many"] (defScope s_need_place) := ⟨rfl, rfl, rfl, by decide +kernel, rfl, by decide +kernel, by decide +kernel⟩
theorem has_need_place {k : Nat} (S : Src K mg "need_place" s_need_place) (TX : Txt K mg w C aF) (h_is_whole : Has P w K mg base k "is_whole" ["thing"] (sp_is_whole)) : Has P w K mg base (k + 1) "need_place" ["place", "many"] (sp_need_place) := by
  refine has_of S sc_need_place (fun _ _ _ _ _ _ us hl => match us, hl with | [_, _], _ => rfl) (fun vs H Q E h => sp2_len h) (fun f cdv A outer s H vs Q E hr h => ?_)
  · obtain ⟨v0, v1, rfl, h⟩ := h
    have hu := hu_of hr
    obtain ⟨a_is_whole, fd_is_whole, mg_is_whole, kp_is_whole, bd_is_whole, ok_is_whole⟩ := h_is_whole.ex
    refine ⟨_, (pss_one (ps_if (PW.pt (pw_or (pt_not (pt_val (pe_call ok_is_whole hr rfl mg_is_whole kp_is_whole bd_is_whole .nil pass0 (pa_cons (pv 0) pa_nil)))) (pw_or (pt_cmpR op_lt (pv 0) pe_int (nomark _)) (pw_or1 (pt_cmpR op_ge (pv 0) (pv 1) (nomark _)))))) (pss_one ps_never) pss_nil)), ?_⟩
    obtain ⟨n, m, rfl, rfl, h0, h1, q⟩ := h
    refine ⟨_, rfl, _, rfl, n, rfl, true, rfl, ibF rfl ?_⟩
    refine ⟨_, rfl, _, _, rfl, rfl, _, rfl, ibF (decide_eq_false (by omega)) ?_⟩
    refine ⟨_, rfl, _, rfl, _, _, rfl, rfl, _, rfl, ibF (decide_eq_false (by omega)) ?_⟩
    exact q
def sp_is_name : Sp := sp1 fun v H Q => ∃ l, v = .str (T l) ∧ NameOk l ∧ Q (.bl true) H
theorem sc_is_name : FnScope ["text", "sign"] ["text"] (defScope s_is_name) := ⟨rfl, rfl, rfl, by decide +kernel, rfl, by decide +kernel, by decide +kernel⟩
theorem has_is_name {k : Nat} (S : Src K mg "is_name" s_is_name) (TX : Txt K mg w C aF)  : Has P w K mg base (k + 1) "is_name" ["text"] (sp_is_name) := by
  refine has_of S sc_is_name (fun _ _ _ _ _ _ us hl => match us, hl with | [_], _ => rfl) (fun vs H Q E h => sp1_len h) (fun f cdv A outer s H vs Q E hr h => ?_)
  · obtain ⟨v0, rfl, h⟩ := h
    have hu := hu_of hr
    refine ⟨_, (pss_cons (ps_if (PW.pt (pw_or (pt_cmpR op_eq (pv 0) pe_str (nomark _)) (pw_or1 (pt_cmpR op_gt (pe_callB call_len_str (by rfl) TX.len (by decide +kernel) (pa_cons (pv 0) pa_nil)) (pe_gI TX.g_MOST_NAME_forms) (nomark _))))) (pss_one (ps_ret pe_bl)) pss_nil)
    (pss_cons (ps_for PassesOwn.never rfl (pi_str (pv 0)) (pg_name (i := 1) sc_is_name.nd rfl (Or.inl rfl))
      (pss_one (ps_if (pt_cmpR op_notIn_sign (pv 1) (pe_gS TX.g_SIGNS_books) rfl) (pss_one (ps_ret pe_bl)) pss_nil)))
    (pss_one (ps_ret pe_bl)))), ?_⟩
    obtain ⟨l, rfl, ⟨h1, h2, h3⟩, q⟩ := h
    refine ⟨_, rfl, rfl, _, rfl, ibF (decide_eq_false (T_ne_empty h1)) ?_⟩
    refine ⟨_, rfl, _, rfl, T_sz (by omega), _, _, rfl, rfl, _, rfl, ibF (decide_eq_false (by rw [T_len]; omega)) ?_⟩
    refine ⟨_, rfl, _, rfl, for_it (walk_T (l := l)) (fun i σ H' => ∃ y, σ = [some (.str (T l)), y] ∧ H' = H) ⟨none, rfl, rfl⟩ (fun _ _ _ _ _ => trivial) ?_ ?_⟩
    · rintro i x σ H2 H3 hi ⟨y, rfl, rfl⟩ ⟨rfl, c, hc, rfl⟩
      obtain ⟨l1, l2⟩ := h3 c (List.mem_of_getElem? hc)
      refine ⟨_, rfl, c, _, rfl, rfl, _, rfl, ibF (by rw [in_az l1 l2]; rfl) ?_⟩
      exact ⟨_, rfl, rfl⟩
    · rintro σ H2 ⟨y, rfl, rfl⟩
      exact q
def sp_is_number : Sp := sp1 fun v H Q => ∃ n, v = .str (T (numL n)) ∧ (numL n).length ≤ 300 ∧ Q (.bl true) H
theorem sc_is_number : FnScope ["text", "sign"] ["text"] (defScope s_is_number) := ⟨rfl, rfl, rfl, by decide +kernel, rfl, by decide +kernel, by decide +kernel⟩
theorem has_is_number {k : Nat} (S : Src K mg "is_number" s_is_number) (TX : Txt K mg w C aF)  : Has P w K mg base (k + 1) "is_number" ["text"] (sp_is_number) := by
  refine has_of S sc_is_number (fun _ _ _ _ _ _ us hl => match us, hl with | [_], _ => rfl) (fun vs H Q E h => sp1_len h) (fun f cdv A outer s H vs Q E hr h => ?_)
  · obtain ⟨v0, rfl, h⟩ := h
    have hu := hu_of hr
    refine ⟨_, (pss_cons (ps_if (PW.pt (pw_or (pt_cmpR op_eq (pv 0) pe_str (nomark _)) (pw_or (pt_cmpR op_gt (pe_callB call_len_str (by rfl) TX.len (by decide +kernel) (pa_cons (pv 0) pa_nil)) (pe_gI TX.g_MOST_FIGURES) (nomark _)) (pw_or1 (PW.pt (pw_and (pt_cmpR op_gt (pe_callB call_len_str (by rfl) TX.len (by decide +kernel) (pa_cons (pv 0) pa_nil)) pe_int (nomark _)) (pw_and1 (pt_cmpR op_eq (pe_ix ix_str (pv 0) pe_int (fun _ _ => rfl)) pe_str (nomark _))))))))) (pss_one (ps_ret pe_bl)) pss_nil)
    (pss_cons (ps_for PassesOwn.never rfl (pi_str (pv 0)) (pg_name (i := 1) sc_is_number.nd rfl (Or.inl rfl))
      (pss_one (ps_if (pt_cmpR op_notIn_sign (pv 1) (pe_gS TX.g_FIGURES) rfl) (pss_one (ps_ret pe_bl)) pss_nil)))
    (pss_one (ps_ret pe_bl)))), ?_⟩
    obtain ⟨n, rfl, h2, q⟩ := h
    have h1 : 1 ≤ (numL n).length := by
      cases e : numL n with
      | nil => exact absurd e (numL_ne n)
      | cons _ _ => simp
    refine ⟨_, rfl, rfl, _, rfl, ibF (decide_eq_false (T_ne_empty h1)) ?_⟩
    refine ⟨_, rfl, _, rfl, T_sz (by omega), _, _, rfl, rfl, _, rfl, ibF (decide_eq_false (by rw [T_len]; omega)) ?_⟩
    refine ⟨_, rfl, _, rfl, T_sz (by omega), _, _, rfl, rfl, _, rfl, ?_⟩
    rcases Nat.lt_or_ge 1 (numL n).length with hc | hc
    case' inl =>
      have hn : 1 ≤ n := by
        rcases Nat.eq_zero_or_pos n with z | z
        · subst z
          rw [numL_lt (by omega)] at hc
          simp at hc
        · exact z
      obtain ⟨c, r, ec, nc⟩ := num_head n n (Nat.le_refl _) hn
      refine ibT (decide_eq_true (by rw [T_len]; omega)) ⟨_, rfl, _, (0 : Int), c, rfl, rfl, T_sz (by omega), (by show atI (numL n) 0 = some c; exact atI_nat (j := 0) (by rw [ec]; rfl)), rfl, _, rfl, ibF (decide_eq_false (fun z => nc (by
        have e := V.str.inj z
        rw [zero_T] at e
        have e2 := T_inj e
        simpa using e2))) ?_⟩
    case' inr => refine ibF (decide_eq_false (by rw [T_len]; omega)) (ibF rfl ?_)
    all_goals
      refine ⟨_, rfl, _, rfl, for_it (walk_T (l := numL n)) (fun i σ H' => ∃ y, σ = [some (.str (T (numL n))), y] ∧ H' = H) ⟨none, rfl, rfl⟩ (fun _ _ _ _ _ => trivial) ?_ ?_⟩
      · rintro i x σ H2 H3 hi ⟨y, rfl, rfl⟩ ⟨rfl, c, hc, rfl⟩
        obtain ⟨l1, l2⟩ := numL_digits n c (List.mem_of_getElem? hc)
        refine ⟨_, rfl, c, _, rfl, rfl, _, rfl, ibF (by rw [decide_eq_true (dig_mem l1 l2)]; rfl) ?_⟩
        exact ⟨_, rfl, rfl⟩
      · rintro σ H2 ⟨y, rfl, rfl⟩
        exact q
/-- a word of a row as a form asks it: a number, a name -/
def WordOk (f : Nat) (l : List Nat) : Prop := (f = 100 ∧ ∃ n, l = numL n ∧ l.length ≤ 300) ∨ (f = 98 ∧ NameOk l)
def sp_is_word_of : Sp := sp2 fun v0 v1 H Q => ∃ f l, v0 = .str (T [f]) ∧ v1 = .str (T l) ∧ WordOk f l ∧ Q (.bl true) H
theorem sc_is_word_of : FnScope ["form", "text"] ["form", "text"] (defScope s_is_word_of) := ⟨rfl, rfl, rfl, by decide +kernel, rfl, by decide +kernel, by decide +kernel⟩
theorem has_is_word_of {k : Nat} (S : Src K mg "is_word_of" s_is_word_of) (TX : Txt K mg w C aF) (h_is_number : Has P w K mg base k "is_number" ["text"] (sp_is_number)) (h_is_name : Has P w K mg base k "is_name" ["text"] (sp_is_name)) : Has P w K mg base (k + 1) "is_word_of" ["form", "text"] (sp_is_word_of) := by
  refine has_of S sc_is_word_of (fun _ _ _ _ _ _ us hl => match us, hl with | [_, _], _ => rfl) (fun vs H Q E h => sp2_len h) (fun f cdv A outer s H vs Q E hr h => ?_)
  · obtain ⟨v0, v1, rfl, h⟩ := h
    have hu := hu_of hr
    obtain ⟨a_is_number, fd_is_number, mg_is_number, kp_is_number, bd_is_number, ok_is_number⟩ := h_is_number.ex
    obtain ⟨a_is_name, fd_is_name, mg_is_name, kp_is_name, bd_is_name, ok_is_name⟩ := h_is_name.ex
    refine ⟨_, (pss_cons (ps_if (pt_cmpR op_eq (pv 0) pe_str (nomark _)) (pss_one (ps_ret (pe_call ok_is_number hr rfl mg_is_number kp_is_number bd_is_number .nil pass0 (pa_cons (pv 1) pa_nil)))) pss_nil)
    (pss_cons (ps_if (PW.pt (pw_or (pt_cmpR op_eq (pv 0) pe_str (nomark _)) (pw_or1 (pt_cmpR op_eq (pv 0) pe_str (nomark _))))) (pss_one (ps_ret (pe_cmpR op_ne (pv 1) pe_str (nomark _)))) pss_nil)
    (pss_one (ps_ret (pe_call ok_is_name hr rfl mg_is_name kp_is_name bd_is_name .nil pass0 (pa_cons (pv 1) pa_nil)))))), ?_⟩
    obtain ⟨f, l, rfl, rfl, ok, q⟩ := h
    rcases ok with ⟨rfl, n, rfl, hl⟩ | ⟨rfl, hn⟩
    · refine ⟨_, rfl, rfl, _, rfl, ibT (by decide +kernel) ?_⟩
      exact ⟨_, rfl, _, rfl, n, rfl, hl, q⟩
    · refine ⟨_, rfl, rfl, _, rfl, ibF (by decide +kernel) ?_⟩
      refine ⟨_, rfl, rfl, _, rfl, ibF (by decide +kernel) ?_⟩
      refine ⟨_, rfl, rfl, _, rfl, ibF (by decide +kernel) ?_⟩
      exact ⟨_, rfl, _, rfl, l, rfl, hn, q⟩
end
end G

/-! The mathematics of counts and lengths. -/
namespace G
theorem sum_map_add {α : Type} (f g : α → Int) : ∀ l : List α, (l.map fun x => f x + g x).sum = (l.map f).sum + (l.map g).sum
  | [] => rfl
  | a :: l => by
    simp only [List.map_cons, List.sum_cons, sum_map_add f g l]
    omega
theorem sum_map_zero {α : Type} : ∀ l : List α, (l.map fun _ => (0 : Int)).sum = 0
  | [] => rfl
  | a :: l => by simp only [List.map_cons, List.sum_cons, sum_map_zero l]; rfl
theorem sum_map_mul {α : Type} (a : Int) (f : α → Int) : ∀ l : List α, (l.map fun x => a * f x).sum = a * (l.map f).sum
  | [] => by simp
  | x :: l => by simp only [List.map_cons, List.sum_cons, sum_map_mul a f l, Int.mul_add]
theorem sum_map_mul_r {α : Type} (a : Int) (f : α → Int) : ∀ l : List α, (l.map fun x => f x * a).sum = (l.map f).sum * a
  | [] => by simp
  | x :: l => by simp only [List.map_cons, List.sum_cons, sum_map_mul_r a f l, Int.add_mul]
theorem sum_swap {α β : Type} (h : α → β → Int) (ys : List β) : ∀ xs : List α, (xs.map fun x => (ys.map fun y => h x y).sum).sum = (ys.map fun y => (xs.map fun x => h x y).sum).sum
  | [] => by
    simp only [List.map_nil, List.sum_nil]
    exact (sum_map_zero ys).symm
  | x :: xs => by
    simp only [List.map_cons, List.sum_cons, sum_swap h ys xs]
    exact (sum_map_add (fun y => h x y) (fun y => (xs.map fun x => h x y).sum) ys).symm
/-- one of unlike things -/
theorem sum_ind {α : Type} [DecidableEq α] (g : α → Int) (c : α) : ∀ ls : List α, ls.Nodup → c ∈ ls → (ls.map fun q => (if q = c then 1 else 0) * g q).sum = g c
  | [], _, h => by cases h
  | a :: ls, nd, h => by
    rw [List.map_cons, List.sum_cons]
    have h2 := List.nodup_cons.mp nd
    by_cases e : a = c
    · subst e
      have z : (ls.map fun q => (if q = a then (1 : Int) else 0) * g q) = ls.map fun _ => (0 : Int) := List.map_congr_left fun q hq => by
        have ne : ¬ q = a := fun z => h2.1 (z ▸ hq)
        rw [if_neg ne, Int.zero_mul]
      rw [z, sum_map_zero, if_pos rfl]
      omega
    · have hm : c ∈ ls := by
        rcases List.mem_cons.mp h with z | z
        · exact absurd z.symm e
        · exact z
      rw [if_neg e, sum_ind g c ls h2.2 hm]
      omega
theorem sum_count (g : Nat → Int) (ls : List Nat) (nd : ls.Nodup) : ∀ l : List Nat, (∀ c ∈ l, c ∈ ls) → (ls.map fun q => ((l.count q : Nat) : Int) * g q).sum = (l.map g).sum
  | [], _ => by
    have z : (ls.map fun q => ((([] : List Nat).count q : Nat) : Int) * g q) = ls.map fun _ => (0 : Int) := List.map_congr_left fun q _ => by simp
    rw [z, sum_map_zero]
    rfl
  | c :: l, h => by
    have z : (ls.map fun q => (((c :: l).count q : Nat) : Int) * g q) = ls.map fun q => ((l.count q : Nat) : Int) * g q + (if q = c then 1 else 0) * g q := List.map_congr_left fun q _ => by
      rw [List.count_cons]
      by_cases e : q = c
      · subst e
        simp [Int.add_mul]
      · have e2 : ¬ c = q := fun z => e z.symm
        simp [e, e2]
    rw [z, sum_map_add, sum_count g ls nd l fun x hx => h x (List.mem_cons_of_mem _ hx), sum_ind g c ls nd (h c List.mem_cons_self), List.map_cons, List.sum_cons]
    omega

/-! ### lengths -/
/-- how many letters come of a letter in so many ages -/
def sz (rs : List Rule) : Nat → Nat → Int
  | 0, _ => 1
  | n + 1, c => ((wordOf rs c).map (sz rs n)).sum
def tot (rs : List Rule) (n : Nat) (l : List Nat) : Int := (l.map (sz rs n)).sum
theorem tot_app (rs : List Rule) (n : Nat) (a b : List Nat) : tot rs n (a ++ b) = tot rs n a + tot rs n b := by
  unfold tot
  rw [List.map_append, List.sum_append]
theorem tot_cons (rs : List Rule) (n c : Nat) (b : List Nat) : tot rs n (c :: b) = sz rs n c + tot rs n b := rfl
theorem sz_succ (rs : List Rule) (n c : Nat) : sz rs (n + 1) c = tot rs n (wordOf rs c) := rfl
theorem sum_nonneg : ∀ {l : List Int}, (∀ x ∈ l, 0 ≤ x) → 0 ≤ l.sum
  | [], _ => Int.le_refl _
  | a :: l, h => by
    rw [List.sum_cons]
    have h1 := h a List.mem_cons_self
    have h2 := sum_nonneg fun x hx => h x (List.mem_cons_of_mem a hx)
    omega
theorem sz_nonneg (rs : List Rule) : ∀ (n c : Nat), 0 ≤ sz rs n c
  | 0, _ => by first | (show (0 : Int) ≤ 1; decide) | (show (1 : Int) ≤ 6 ^ 0; decide)
  | n + 1, c => sum_nonneg fun x hx => by
    obtain ⟨d, _, rfl⟩ := List.mem_map.mp hx
    exact sz_nonneg rs n d
theorem tot_nonneg (rs : List Rule) (n : Nat) (l : List Nat) : 0 ≤ tot rs n l := sum_nonneg fun x hx => by
  obtain ⟨d, _, rfl⟩ := List.mem_map.mp hx
  exact sz_nonneg rs n d
theorem sum_le_mul {l : List Int} {b : Int} (h : ∀ x ∈ l, x ≤ b) : l.sum ≤ l.length * b := by
  induction l with
  | nil => simp
  | cons a l ih =>
    have h1 := h a List.mem_cons_self
    have h2 := ih fun x hx => h x (List.mem_cons_of_mem _ hx)
    rw [List.sum_cons, List.length_cons]
    have e : ((l.length + 1 : Nat) : Int) * b = l.length * b + b := by
      rw [Int.natCast_add, Int.add_mul]
      simp
    omega
theorem word_le {f : List Nat} {rs : List Rule} (w : Wf f rs) (c : Nat) : (wordOf rs c).length ≤ 6 := by
  by_cases h : c ∈ rs.map (·.1)
  · exact (w.wd _ (wordOf_mem h)).1
  · unfold wordOf
    rw [find_none h]
    simp
theorem word_known {f : List Nat} {rs : List Rule} (w : Wf f rs) {c d : Nat} (h : d ∈ wordOf rs c) : d ∈ rs.map (·.1) := by
  by_cases q : c ∈ rs.map (·.1)
  · exact (w.wd _ (wordOf_mem q)).2 d h
  · unfold wordOf at h
    rw [find_none q] at h
    cases h
theorem sz_le {f : List Nat} {rs : List Rule} (w : Wf f rs) : ∀ (n c : Nat), sz rs n c ≤ 6 ^ n
  | 0, _ => by first | (show (0 : Int) ≤ 1; decide) | (show (1 : Int) ≤ 6 ^ 0; decide)
  | n + 1, c => by
    have h1 : ((wordOf rs c).map (sz rs n)).sum ≤ ((wordOf rs c).map (sz rs n)).length * 6 ^ n := sum_le_mul fun x hx => by
      obtain ⟨d, _, rfl⟩ := List.mem_map.mp hx
      exact sz_le w n d
    have h2 := word_le w c
    rw [List.length_map] at h1
    have h3 : ((wordOf rs c).length : Int) * 6 ^ n ≤ 6 * 6 ^ n := Int.mul_le_mul_of_nonneg_right (by omega) (Int.le_of_lt (Int.pow_pos (by decide)))
    have h4 : (6 : Int) ^ (n + 1) = 6 * 6 ^ n := by rw [Int.pow_succ, Int.mul_comm]
    show ((wordOf rs c).map (sz rs n)).sum ≤ 6 ^ (n + 1)
    omega
theorem pow_mono6 {a b : Nat} (h : a ≤ b) : (6 : Int) ^ a ≤ 6 ^ b := by
  induction h with
  | refl => exact Int.le_refl _
  | step _ ih =>
    rw [Int.pow_succ]
    have : (0 : Int) < 6 ^ a := Int.pow_pos (by decide)
    omega
theorem tot_le {f : List Nat} {rs : List Rule} (w : Wf f rs) {n : Nat} (hn : n ≤ 300) {l : List Nat} (hl : l.length ≤ 12) : tot rs n l ≤ 12 * 6 ^ 300 := by
  have h1 : tot rs n l ≤ (l.map (sz rs n)).length * 6 ^ 300 := sum_le_mul fun x hx => by
    obtain ⟨d, _, rfl⟩ := List.mem_map.mp hx
    exact Int.le_trans (sz_le w n d) (pow_mono6 hn)
  rw [List.length_map] at h1
  have h3 : (l.length : Int) * 6 ^ 300 ≤ 12 * 6 ^ 300 := Int.mul_le_mul_of_nonneg_right (by omega) (Int.le_of_lt (Int.pow_pos (by decide)))
  omega
theorem big_lt : (12 : Int) * 6 ^ 300 < 10 ^ 300 := by decide +kernel

/-! ### counts, age by age -/
def addRow (f : List Int) (a : Int) (row : List Int) : List Int := List.zipWith (fun x r => x + a * r) f row
def passV (rows : List (List Int)) (am : List Int) : List Int := (am.zip rows).foldl (fun f p => addRow f p.1 p.2) (am.map fun _ => 0)
def iterV (rows : List (List Int)) : Nat → List Int → List Int
  | 0, v => v
  | n + 1, v => passV rows (iterV rows n v)
def rowOf (rs : List Rule) (l : List Nat) : List Int := rs.map fun q => ((l.count q.1 : Nat) : Int)
def tabOf (rs : List Rule) : List (List Int) := rs.map fun r => rowOf rs r.2
theorem addRow_map (rs : List Rule) (F h : Rule → Int) (a : Int) : addRow (rs.map F) a (rs.map h) = rs.map fun q => F q + a * h q := by
  unfold addRow
  rw [List.zipWith_map, List.zipWith_self]
theorem zip_map_self {α β γ : Type} (F : α → β) (H : α → γ) : ∀ l : List α, (l.map F).zip (l.map H) = l.map fun x => (F x, H x)
  | [] => rfl
  | a :: l => by rw [List.map_cons, List.map_cons, List.map_cons, List.zip_cons_cons, zip_map_self F H l]
theorem pass_fold (rs : List Rule) (F : Rule → Int) (rw' : Rule → Rule → Int) : ∀ (l : List Rule) (G0 : Rule → Int),
    (l.map fun r => (F r, rs.map (rw' r))).foldl (fun f p => addRow f p.1 p.2) (rs.map G0) = rs.map fun q => G0 q + (l.map fun r => F r * rw' r q).sum
  | [], G0 => by
    show rs.map G0 = _
    exact List.map_congr_left fun q _ => by simp
  | r :: l, G0 => by
    rw [List.map_cons, List.foldl_cons, addRow_map, pass_fold rs F rw' l fun q => G0 q + F r * rw' r q]
    exact List.map_congr_left fun q _ => by
      rw [List.map_cons, List.sum_cons]
      omega
theorem pass_map (rs : List Rule) (F : Rule → Int) : passV (tabOf rs) (rs.map F) = rs.map fun q => (rs.map fun r => F r * ((r.2.count q.1 : Nat) : Int)).sum := by
  unfold passV tabOf
  rw [zip_map_self F (fun r => rowOf rs r.2) rs, List.map_map]
  have e := pass_fold rs F (fun r q => ((r.2.count q.1 : Nat) : Int)) rs (fun _ => 0)
  have e1 : (rs.map ((fun _ => (0 : Int)) ∘ F)) = rs.map fun _ => (0 : Int) := rfl
  rw [e1]
  refine Eq.trans e ?_
  exact List.map_congr_left fun q _ => by omega
theorem iter_dot {f : List Nat} {rs : List Rule} (w : Wf f rs) : ∀ (n : Nat) (k : Nat) (F : Rule → Int), ∃ F' : Rule → Int, iterV (tabOf rs) n (rs.map F) = rs.map F' ∧
    (rs.map fun r => F' r * sz rs k r.1).sum = (rs.map fun r => F r * sz rs (k + n) r.1).sum
  | 0, k, F => ⟨F, rfl, rfl⟩
  | n + 1, k, F => by
    obtain ⟨F1, e1, e2⟩ := iter_dot w n (k + 1) F
    refine ⟨fun q => (rs.map fun r => F1 r * ((r.2.count q.1 : Nat) : Int)).sum, ?_, ?_⟩
    · show passV (tabOf rs) (iterV (tabOf rs) n (rs.map F)) = _
      rw [e1, pass_map]
    · have h1 : (rs.map fun q => (rs.map fun r => F1 r * ((r.2.count q.1 : Nat) : Int)).sum * sz rs k q.1) = rs.map fun q => (rs.map fun r => F1 r * ((r.2.count q.1 : Nat) : Int) * sz rs k q.1).sum := List.map_congr_left fun q _ => (sum_map_mul_r _ _ rs).symm
      rw [h1, sum_swap (fun q r => F1 r * ((r.2.count q.1 : Nat) : Int) * sz rs k q.1) rs rs]
      have h2 : (rs.map fun r => (rs.map fun q => F1 r * ((r.2.count q.1 : Nat) : Int) * sz rs k q.1).sum) = rs.map fun r => F1 r * sz rs (k + 1) r.1 := List.map_congr_left fun r hr => by
        have h3 : (rs.map fun q => F1 r * ((r.2.count q.1 : Nat) : Int) * sz rs k q.1) = rs.map fun q => F1 r * (((r.2.count q.1 : Nat) : Int) * sz rs k q.1) := List.map_congr_left fun q _ => Int.mul_assoc _ _ _
        rw [h3, sum_map_mul]
        have h4 := sum_count (sz rs k) (rs.map (·.1)) w.nd r.2 (w.wd r hr).2
        rw [List.map_map] at h4
        have h5 : (rs.map fun q => ((r.2.count q.1 : Nat) : Int) * sz rs k q.1).sum = (r.2.map (sz rs k)).sum := h4
        rw [h5, sz_succ, wordOf_nd w.nd hr]
        rfl
      rw [h2, e2]
      rw [show k + 1 + n = k + (n + 1) by omega]
theorem length_is {f : List Nat} {rs : List Rule} (w : Wf f rs) (n : Nat) : (iterV (tabOf rs) n (rowOf rs f)).sum = tot rs n f := by
  obtain ⟨F', e1, e2⟩ := iter_dot w n 0 fun q => ((f.count q.1 : Nat) : Int)
  have e0 : rowOf rs f = rs.map fun q => ((f.count q.1 : Nat) : Int) := rfl
  rw [e0, e1]
  have e3 : (rs.map fun r => F' r * sz rs 0 r.1) = rs.map F' := List.map_congr_left fun r _ => by
    show F' r * 1 = F' r
    exact Int.mul_one _
  rw [e3] at e2
  rw [e2, Nat.zero_add]
  have h4 := sum_count (sz rs n) (rs.map (·.1)) w.nd f w.fk
  rw [List.map_map] at h4
  exact h4
/-- a row's place written -/
theorem take_set {A f : List Int} : ∀ {j : Nat} {x : Int}, A.length = f.length → A[j]? = some x → (A.take j ++ f.drop j).set j x = A.take (j + 1) ++ f.drop (j + 1) := by
  induction A generalizing f with
  | nil => intro j x _ h; simp at h
  | cons a A ih =>
    intro j x hl h
    cases f with
    | nil => simp at hl
    | cons b f =>
      cases j with
      | zero =>
        have e : a = x := Option.some.inj h
        subst e
        rfl
      | succ j =>
        have e := ih (f := f) (j := j) (x := x) (by simpa using hl) (by simpa using h)
        show a :: (A.take j ++ f.drop j).set j x = a :: (A.take (j + 1) ++ f.drop (j + 1))
        rw [e]
theorem take_drop_at {A f : List Int} : ∀ {j : Nat} {y : Int}, A.length = f.length → f[j]? = some y → (A.take j ++ f.drop j)[j]? = some y := by
  induction A generalizing f with
  | nil =>
    intro j y hl h
    have e : f = [] := List.length_eq_zero_iff.mp hl.symm
    subst e
    simp at h
  | cons a A ih =>
    intro j y hl h
    cases f with
    | nil => simp at hl
    | cons b f =>
      cases j with
      | zero => exact h
      | succ j =>
        have e := ih (f := f) (j := j) (y := y) (by simpa using hl) (by simpa using h)
        exact e
theorem addRow_len (f : List Int) (a : Int) (row : List Int) (h : f.length = row.length) : (addRow f a row).length = f.length := by
  unfold addRow
  rw [List.length_zipWith]
  omega
theorem addRow_at {f row : List Int} {a x r : Int} {j : Nat} (hx : f[j]? = some x) (hr : row[j]? = some r) : (addRow f a row)[j]? = some (x + a * r) := by
  unfold addRow
  rw [List.getElem?_zipWith, hx, hr]
theorem addRow_zero {f row : List Int} (h : f.length = row.length) : addRow f 0 row = f := by
  unfold addRow
  induction f generalizing row with
  | nil => rfl
  | cons a f ih =>
    cases row with
    | nil => simp at h
    | cons b row =>
      rw [List.zipWith_cons_cons, ih (by simpa using h), Int.zero_mul, Int.add_zero]
end G

/-! Counts and the length. -/
namespace G
open PySem PySem.Spec PyProof.Rows L2 TL

theorem cnt_count (c : Nat) : ∀ l : List Nat, PyProof.Rows.cnt c l = ((l.count c : Nat) : Int)
  | [] => rfl
  | d :: l => by
    rw [cnt_cons, cnt_count c l, List.count_cons]
    by_cases h : d = c
    · subst h
      simp
      omega
    · simp [h]
theorem txt_count (l : List Nat) (c : Nat) : Txt.count (T l) (T [c]) = ((l.count c : Nat) : Int) := (count_cnt (T l) c).trans (cnt_count c l)
theorem count_le (l : List Nat) (c : Nat) : l.count c ≤ l.length := List.count_le_length
def RowAt (H : Hp) (p : V) (row : List Int) : Prop := ∃ a, p = .ref a ∧ H a = some (.lst (row.map V.int))
def RowsAt (H : Hp) (a : Addr) (rows : List (List Int)) : Prop := ∃ ps : List V, H a = some (.lst ps) ∧ Paired (RowAt H) ps rows
theorem RowAt.mono {H H' : Hp} {p : V} {row : List Int} (k : Same H H') (h : RowAt H p row) : RowAt H' p row := by
  obtain ⟨a, e, q⟩ := h
  exact ⟨a, e, k _ _ q⟩
theorem RowsAt.mono {H H' : Hp} {a : Addr} {rows : List (List Int)} (k : Same H H') (h : RowsAt H a rows) : RowsAt H' a rows := by
  obtain ⟨ps, e, q⟩ := h
  exact ⟨ps, k _ _ e, Paired.mapP q fun _ _ z => z.mono k⟩
/-- the heap without D -/
def Off (D : Addr) (H : Hp) : Hp := fun a => if a = D then none else H a
theorem off_ne {D a : Addr} {H : Hp} (h : a ≠ D) : Off D H a = H a := if_neg h
theorem off_same (D : Addr) (H : Hp) : Same (Off D H) H := fun a o e => by
  unfold Off at e
  by_cases q : a = D
  · rw [if_pos q] at e
    cases e
  · rw [if_neg q] at e
    exact e
theorem off_but {D : Addr} {H H' : Hp} (b : But D H H') : Same (Off D H) (Off D H') := fun a o e => by
  by_cases q : a = D
  · unfold Off at e
    rw [if_pos q] at e
    cases e
  · rw [off_ne q] at e ⊢
    exact b a o e q
/-- a list under construction at D grows by a new object -/
theorem grow_but {D : Addr} {H H4 : Hp} {o : HO} (s : Same H H4) : But D H (upd H4 D o) := fun a u h n => by
  rw [upd_ne n]
  exact s a u h
theorem paired_app {α β : Type} {F : α → β → Prop} : ∀ {l : List α} {m : List β} {x : α} {y : β}, Paired F l m → F x y → Paired F (l ++ [x]) (m ++ [y])
  | _, _, _, _, .nil, h => .cons h .nil
  | _, _, _, _, .cons r t, h => .cons r (paired_app t h)
theorem map_int_at {l : List Int} {i : Nat} {x : V} (h : (l.map V.int)[i]? = some x) : ∃ z, l[i]? = some z ∧ x = .int z := by
  rw [List.getElem?_map] at h
  cases e : l[i]? with
  | none => rw [e] at h; cases h
  | some z =>
    rw [e] at h
    exact ⟨z, rfl, (Option.some.inj h).symm⟩
theorem map_int_of {l : List Int} {i : Nat} {z : Int} (h : l[i]? = some z) : (l.map V.int)[i]? = some (V.int z) := by
  rw [List.getElem?_map, h]
  rfl
theorem ixN_nat {n j : Nat} (hj : j < n) : ixN n (j : Int) = some j := by
  unfold ixN
  rw [if_pos (by omega), if_pos (by omega)]
  simp
section
variable {P : Program} {w : World} {K : PySem.W.Frag} {mg : Str → Option Value} {base : Heap} {C aF : Addr}
def sp_tally : Sp := sp2 fun v0 v1 H Q => ∃ ls l, v0 = .str (T ls) ∧ v1 = .str (T l) ∧ ls.length ≤ 8 ∧ ∀ H' p, Same H H' → H p = none → H' p = some (.lst ((ls.map fun c => ((l.count c : Nat) : Int)).map V.int)) → Q (.ref p) H'
theorem sc_tally : FnScope ["signs", "text", "sign"] ["signs", "text"] (defScope s_tally) := ⟨rfl, rfl, rfl, by decide +kernel, rfl, by decide +kernel, by decide +kernel⟩
theorem has_tally {k : Nat} (S : Src K mg "tally" s_tally) (TX : Txt K mg w C aF)  : Has P w K mg base (k + 1) "tally" ["signs", "text"] (sp_tally) := by
  refine has_of S sc_tally (fun _ _ _ _ _ _ us hl => match us, hl with | [_, _], _ => rfl) (fun vs H Q E h => sp2_len h) (fun f cdv A outer s H vs Q E hr h => ?_)
  · obtain ⟨v0, v1, rfl, h⟩ := h
    have hu := hu_of hr
    refine ⟨_, (pss_one (ps_ret (pe_lc (own := [("sign", 2)]) (by rfl) sc_tally.nd (pi_str (pv 0)) (blkOk_by (own := [("sign", 2)]) (by kernel_rfl)) (fun _ _ _ _ _ => (pg_name (i := 2) sc_tally.nd rfl (Or.inl rfl))) (fun _ _ _ _ _ => pts_nil) (fun _ _ _ _ _ => (pe_m1 PySem.F.slot_str_count PySem.F.type_str_count mt_count (pv 1) (pv 2)))))), ?_⟩
    obtain ⟨ls, l, rfl, rfl, few, q⟩ := h
    refine ⟨_, rfl, _, rfl, fun D hD => ?_⟩
    refine lc_it (walk_T (l := ls)) (fun i H' => Same H H' ∧ H' D = some (.lst (((ls.take i).map fun c => ((l.count c : Nat) : Int)).map V.int))) ⟨Same.new hD, upd_same⟩ (fun _ _ _ _ => trivial) ?_ ?_
    · rintro i x H2 H3 hi ⟨s2, hl⟩ ⟨rfl, c, hc, rfl⟩
      refine ⟨rfl, _, rfl, ⟨_, rfl⟩, _, rfl, _, _, rfl, rfl, _, hl, by rw [List.length_map, List.length_map, List.length_take]; exact le_small (by omega), Same.mut s2 hD, ?_⟩
      rw [upd_same, take_more hc, List.map_append, List.map_append, txt_count]
      rfl
    · rintro H2 ⟨s2, hl⟩
      rw [List.take_length] at hl
      exact q _ _ s2 hD hl
def sp_table : Sp := sp1 fun v H Q => ∃ b f rs, v = .ref b ∧ BookAt H b f rs ∧ rs.length ≤ 8 ∧ ∀ H' p, Same H H' → H p = none → RowsAt H' p (tabOf rs) → Q (.ref p) H'
theorem sc_table : FnScope ["book", "signs", "rule"] ["book"] (defScope s_table) := ⟨rfl, rfl, rfl, by decide +kernel, rfl, by decide +kernel, by decide +kernel⟩
theorem has_table {k : Nat} (S : Src K mg "table" s_table) (TX : Txt K mg w C aF) (h_letters : Has P w K mg base k "letters" ["book"] (sp_letters)) (h_tally : Has P w K mg base k "tally" ["signs", "text"] (sp_tally)) : Has P w K mg base (k + 1) "table" ["book"] (sp_table) := by
  refine has_of S sc_table (fun _ _ _ _ _ _ us hl => match us, hl with | [_], _ => rfl) (fun vs H Q E h => sp1_len h) (fun f cdv A outer s H vs Q E hr h => ?_)
  · obtain ⟨v0, rfl, h⟩ := h
    have hu := hu_of hr
    obtain ⟨a_letters, fd_letters, mg_letters, kp_letters, bd_letters, ok_letters⟩ := h_letters.ex
    obtain ⟨a_tally, fd_tally, mg_tally, kp_tally, bd_tally, ok_tally⟩ := h_tally.ex
    refine ⟨_, (pss_cons (ps_set (i := 1) sc_table.nd rfl (Or.inr rfl) (pe_call ok_letters hr rfl mg_letters kp_letters bd_letters .nil pass0 (pa_cons (pv 0) pa_nil)))
    (pss_one (ps_ret (pe_lc (own := [("rule", 2)]) (by rfl) sc_table.nd (pi_tup (pe_ix (ix_tupK K) (pv 0) pe_int (fun _ _ => rfl))) (blkOk_by (own := [("rule", 2)]) (by kernel_rfl)) (fun _ _ _ _ _ => (pg_name (i := 2) sc_table.nd rfl (Or.inl rfl))) (fun _ _ _ _ _ => pts_nil) (fun _ _ _ _ _ => (pe_call ok_tally hr rfl mg_tally kp_tally bd_tally .nil pass0 (pa_cons (pv 1) (pa_cons (pe_ix (ix_tupK K) (pv 2) pe_int (fun _ _ => rfl)) pa_nil)))))))), ?_⟩
    obtain ⟨b, f, rs, rfl, hB, few, q⟩ := h
    refine ⟨_, rfl, _, rfl, b, f, rs, rfl, hB, few, fun H1 s1 => ?_⟩
    obtain ⟨r, hb, hr⟩ := hB.mono (Same.tups s1)
    obtain ⟨ps, hps, lps, ips⟩ := rules_at hr
    refine ⟨_, rfl, b, _, (1 : Int), _, rfl, rfl, SqT.of hb, rfl, r, rfl, ⟨_, SqT.of hps⟩, fun D hD => ?_⟩
    refine lc_it (walk_tup (xs := ps)) (fun i H' => Same H1 H' ∧ ∃ ds, H' D = some (.lst ds) ∧ Paired (RowAt (Off D H')) ds ((tabOf rs).take i)) ⟨Same.new hD, [], upd_same, .nil⟩ (fun i H' _ ⟨s, _⟩ => SqT.of (s _ _ hps)) ?_ ?_
    · rintro i x H2 H3 hi ⟨s2, ds, hl, hp⟩ ⟨rfl, hx⟩
      obtain ⟨c, hc, p2, rfl, hp2⟩ := ips i x hx
      refine ⟨rfl, _, rfl, _, rfl, p2, _, (1 : Int), _, rfl, rfl, SqT.of (s2 _ _ hp2), rfl, _, _, rfl, rs.map (·.1), c.2, rfl, rfl, by rw [List.length_map]; exact few, fun H4 p4 s4 n4 h4 => ?_⟩
      have e : (tabOf rs)[i]? = some (rowOf rs c.2) := by
        unfold tabOf
        rw [List.getElem?_map, hc]
        rfl
      have h4' : H4 p4 = some (.lst ((rowOf rs c.2).map V.int)) := by
        rw [h4, List.map_map, List.map_map]
        unfold rowOf
        rw [List.map_map]
        rfl
      have hd4 := s4 _ _ hl
      have ne : p4 ≠ D := fun z => by rw [z, hl] at n4; cases n4
      refine ⟨ds, hd4, ?_, Same.mut (s2.trans s4) hD, _, upd_same, ?_⟩
      · have := paired_len hp
        rw [List.length_take] at this
        unfold tabOf at this
        rw [List.length_map] at this
        exact le_small (by omega)
      · rw [take_more e]
        exact paired_app (Paired.mapP hp fun _ _ z => z.mono (off_but (grow_but s4))) ⟨p4, rfl, by rw [off_ne ne, upd_ne ne]; exact h4'⟩
    · rintro H2 ⟨s2, ds, hl, hp⟩
      have e : (tabOf rs).length = ps.length := by
        unfold tabOf
        rw [List.length_map, lps]
      rw [← e, List.take_length] at hp
      exact q _ _ (s1.trans s2) (s1.free hD) ⟨ds, hl, Paired.mapP hp fun _ _ z => z.mono (off_same _ _)⟩
def sp_passed : Sp := sp2 fun v0 v1 H Q => ∃ R A rows am, v0 = .ref R ∧ v1 = .ref A ∧ RowsAt H R rows ∧ H A = some (.lst (am.map V.int)) ∧ am.length ≤ 8 ∧ rows.length = am.length ∧ (∀ row ∈ rows, row.length = am.length ∧ ∀ x ∈ row, 0 ≤ x ∧ x ≤ 1000) ∧
  ∀ H' p, Same H H' → H p = none → H' p = some (.lst ((passV rows am).map V.int)) → Q (.ref p) H'
theorem sc_passed : FnScope ["rates", "amounts", "found", "at", "amount", "place", "rate", "one"] ["rates", "amounts"] (defScope s_passed) := ⟨rfl, rfl, rfl, by decide +kernel, rfl, by decide +kernel, by decide +kernel⟩
theorem has_passed {k : Nat} (S : Src K mg "passed" s_passed) (TX : Txt K mg w C aF)  : Has P w K mg base (k + 1) "passed" ["rates", "amounts"] (sp_passed) := by
  refine has_of S sc_passed (fun _ _ _ _ _ _ us hl => match us, hl with | [_, _], _ => rfl) (fun vs H Q E h => sp2_len h) (fun f cdv A outer s H vs Q E hr h => ?_)
  · obtain ⟨v0, v1, rfl, h⟩ := h
    have hu := hu_of hr
    refine ⟨_, (pss_cons (ps_setLc (own := [("one", 7)]) (i := 2) rfl sc_passed.nd rfl rfl (sw_true rfl rfl rfl (by decide +kernel)) (pi_list (pv 1)) (blkOk_by (own := [("one", 7)]) (by kernel_rfl)) (fun _ _ _ _ _ => (pg_name (i := 7) sc_passed.nd rfl (Or.inl rfl))) (fun _ _ _ _ _ => pts_nil) (fun _ _ _ _ _ => pe_int))
    (pss_cons (ps_for PassesOwn.never rfl (pi_enum (by rfl) TX.enumerate (pa_cons (pv 1) pa_nil)) (pg_tup rfl (pgs_cons (pg_name (i := 3) sc_passed.nd rfl (Or.inl rfl)) (pgs_cons (pg_name (i := 4) sc_passed.nd rfl (Or.inl rfl)) pgs_nil)))
      (pss_one (ps_if (pt_cmpR op_ne (pv 4) pe_int (nomark _)) (pss_one (ps_for PassesOwn.never rfl (pi_enum (by rfl) TX.enumerate (pa_cons (pe_ix (ix_listK K) (pv 0) (pv 3) (fun _ _ => rfl)) pa_nil)) (pg_tup rfl (pgs_cons (pg_name (i := 5) sc_passed.nd rfl (Or.inl rfl)) (pgs_cons (pg_name (i := 6) sc_passed.nd rfl (Or.inl rfl)) pgs_nil)))
      (pss_one (ps_asg (pe_op op_add (pe_ix (ix_listK K) (pv 2) (pv 5) (fun _ _ => rfl)) (pe_op op_mul (pv 4) (pv 6))) (pg_sub (pv 2) (pv 5) set_list))))) pss_nil)))
    (pss_one (ps_ret (pv 2))))), ?_⟩
    obtain ⟨R, A, rows, am, rfl, rfl, ⟨ps, hps, hprs⟩, hA, few, lrows, hrows, q⟩ := h
    have lps := paired_len hprs
    refine ⟨_, rfl, A, rfl, ⟨_, SqL.of hA⟩, fun D hD => ?_⟩
    refine lc_it (walk_list (xs := am.map V.int)) (fun i H' => Same H H' ∧ H' D = some (.lst (((am.take i).map fun _ => (0 : Int)).map V.int))) ⟨Same.new hD, upd_same⟩ (fun i H' _ ⟨s, _⟩ => SqL.of (s _ _ hA)) ?_ ?_
    · rintro i x H2 H3 hi ⟨s2, hl⟩ ⟨rfl, hx⟩
      obtain ⟨z, hz, rfl⟩ := map_int_at hx
      refine ⟨rfl, _, hl, by rw [List.length_map, List.length_map, List.length_take]; exact le_small (by omega), Same.mut s2 hD, ?_⟩
      rw [upd_same, take_more hz, List.map_append, List.map_append]
      rfl
    · rintro H1 ⟨s1, hl⟩
      rw [List.length_map, List.take_length] at hl
      let fold : Nat → List Int := fun i => ((am.zip rows).take i).foldl (fun f p => addRow f p.1 p.2) (am.map fun _ => 0)
      have zlen : (am.zip rows).length = am.length := by rw [List.length_zip]; omega
      have flen : ∀ i, i ≤ am.length → (fold i).length = am.length := fun i => by
        induction i with
        | zero => intro _; show (am.map fun _ => (0 : Int)).length = _; rw [List.length_map]
        | succ i ih =>
          intro hi
          have hz : (am.zip rows)[i]? = some ((am.zip rows)[i]'(by omega)) := List.getElem?_eq_getElem (by omega)
          show (((am.zip rows).take (i + 1)).foldl (fun f p => addRow f p.1 p.2) (am.map fun _ => 0)).length = _
          rw [take_more hz, List.foldl_append]
          show (addRow (fold i) _ _).length = _
          have hm : (am.zip rows)[i]'(by omega) ∈ am.zip rows := List.getElem_mem _
          have hr : ((am.zip rows)[i]'(by omega)).2 ∈ rows := (List.of_mem_zip hm).2
          rw [addRow_len _ _ _ (by rw [ih (by omega), (hrows _ hr).1]), ih (by omega)]
      refine ⟨_, rfl, A, _, rfl, SqL.of (s1 _ _ hA), for_it (walk_enum (xs := am.map V.int)) (fun i σ H' => ∃ y3 y4 y5 y6 y7, σ = [some (.ref R), some (.ref A), some (.ref D), y3, y4, y5, y6, y7] ∧ Same H H' ∧ H' D = some (.lst ((fold i).map V.int))) ⟨_, _, _, _, _, rfl, s1, hl⟩ (fun i σ H' _ ⟨_, _, _, _, _, _, s, _⟩ => SqL.of (s _ _ hA)) ?_ ?_⟩
      · rintro i x σ H2 H3 hi ⟨y3, y4, y5, y6, y7, rfl, s2, hD2⟩ ⟨T1, x1, x2, rfl, nT, rfl, e1, e2⟩
        obtain ⟨a, ha, rfl⟩ := map_int_at e2
        cases e1
        rw [List.length_map] at hi
        have sT : Same H2 (upd H2 T1 (.tup [.int (i : Nat), .int a])) := Same.new nT
        refine ⟨T1, _, rfl, SqT.of upd_same, rfl, _, _, rfl, _, _, rfl, rfl, ?_⟩
        have hir : i < rows.length := by omega
        have hz : (am.zip rows)[i]? = some (a, rows[i]) := by
          rw [List.getElem?_zip_eq_some]
          exact ⟨ha, List.getElem?_eq_getElem hir⟩
        have fs : fold (i + 1) = addRow (fold i) a rows[i] := by
          show ((am.zip rows).take (i + 1)).foldl (fun f p => addRow f p.1 p.2) (am.map fun _ => 0) = _
          rw [take_more hz, List.foldl_append]
          rfl
        have hrow := hrows rows[i] (List.getElem_mem _)
        have fl := flen i (by omega)
        refine ⟨_, rfl, rfl, _, rfl, ?_⟩
        refine ite2 (fun hc => ?_) (fun hc => ?_)
        · obtain ⟨row, hr1, ra, hpe, hra⟩ : ∃ row, rows[i]? = some row ∧ RowAt H (ps[i]'(by omega)) row := paired_at hprs (List.getElem?_eq_getElem (by omega))
          have er : rows[i] = row := Option.some.inj ((List.getElem?_eq_getElem hir).symm.trans hr1)
          rw [er] at hrow fs
          have hpi : ps[i]? = some (V.ref ra) := by rw [List.getElem?_eq_getElem (by omega), hpe]
          have s3 := s2.trans sT
          refine ⟨_, rfl, _, rfl, R, ps, (i : Int), _, rfl, rfl, SqL.of (s3 _ _ hps), atI_nat hpi, ra, _, rfl, SqL.of (s3 _ _ hra), ?_⟩
          refine for_it (walk_enum (xs := row.map V.int)) (fun j σ H' => ∃ y5 y6 y7, σ = [some (.ref R), some (.ref A), some (.ref D), some (.int (i : Nat)), some (.int a), y5, y6, y7] ∧ Same H H' ∧ H' D = some (.lst ((((addRow (fold i) a row).take j) ++ (fold i).drop j).map V.int))) ⟨_, _, _, rfl, s3, sT _ _ hD2⟩ (fun j σ H' _ ⟨_, _, _, _, s, _⟩ => SqL.of (s _ _ hra)) ?_ ?_
          · rintro j x σ H4 H5 hj ⟨y5, y6, y7, rfl, s4, hD4⟩ ⟨T2, x1, x2, rfl, nT2, rfl, e1, e3⟩
            obtain ⟨rt, hrt, rfl⟩ := map_int_at e3
            cases e1
            rw [List.length_map] at hj
            have sT2 : Same H4 (upd H4 T2 (.tup [.int (j : Nat), .int rt])) := Same.new nT2
            have hjf : j < (fold i).length := by omega
            have hfj : (fold i)[j]? = some (fold i)[j] := List.getElem?_eq_getElem hjf
            have al : (addRow (fold i) a row).length = (fold i).length := addRow_len _ _ _ (by rw [fl, hrow.1])
            have hD5 := sT2 _ _ hD4
            refine ⟨T2, _, rfl, SqT.of upd_same, rfl, _, _, rfl, _, _, rfl, rfl, ?_⟩
            refine ⟨_, rfl, _, rfl, D, _, (j : Int), _, rfl, rfl, SqL.of hD5, atI_nat (map_int_of (take_drop_at al hfj)), ?_⟩
            have hb := hrow.2 rt (List.mem_of_getElem? hrt)
            refine ⟨_, rfl, _, rfl, a, rt, rfl, rfl, .inr ⟨by omega, by omega⟩, _, _, rfl, rfl, ?_⟩
            refine ⟨_, rfl, _, rfl, D, _, (j : Int), j, rfl, rfl, hD5, ixN_nat (by rw [List.length_map, List.length_append, List.length_take, List.length_drop]; omega), ?_⟩
            refine ⟨_, _, _, rfl, Same.mut (s4.trans sT2) hD, ?_⟩
            rw [upd_same, ← List.map_set, take_set al (addRow_at hfj hrt)]
          · rintro σ H4 ⟨y5, y6, y7, rfl, s4, hD4⟩
            refine ⟨_, _, _, _, _, rfl, s4, ?_⟩
            have al : (addRow (fold i) a row).length = (fold i).length := addRow_len _ _ _ (by rw [fl, hrow.1])
            rw [fs]
            rw [List.length_map, List.take_of_length_le (by omega), List.drop_of_length_le (by omega), List.append_nil] at hD4
            exact hD4
        · have a0 : a = 0 := by
            by_cases z : a = 0
            · exact z
            · exact absurd (by simp [z]) hc
          refine ⟨_, _, _, _, _, rfl, s2.trans sT, ?_⟩
          have e : fold (i + 1) = fold i := by rw [fs, a0, addRow_zero (by rw [fl, hrow.1])]
          rw [e]
          exact sT _ _ hD2
      · rintro σ H2 ⟨y3, y4, y5, y6, y7, rfl, s2, hD2⟩
        have e : fold (am.map V.int).length = passV rows am := by
          show ((am.zip rows).take _).foldl _ _ = _
          rw [List.length_map, List.take_of_length_le (by omega)]
          rfl
        rw [e] at hD2
        exact ⟨_, rfl, q _ _ s2 hD hD2⟩
def sp_counts_from : Sp := sp3 fun v0 v1 v2 H Q => ∃ R A rows am n, v0 = .ref R ∧ v1 = .ref A ∧ v2 = .int ((n : Nat) : Int) ∧ n ≤ 300 ∧ RowsAt H R rows ∧ H A = some (.lst (am.map V.int)) ∧ am.length ≤ 8 ∧ rows.length = am.length ∧ (∀ row ∈ rows, row.length = am.length ∧ ∀ x ∈ row, 0 ≤ x ∧ x ≤ 1000) ∧
  ∀ H' p, Same H H' → H' p = some (.lst ((iterV rows n am).map V.int)) → Q (.ref p) H'
theorem passV_len {rows : List (List Int)} {am : List Int} (lr : rows.length = am.length) (hr : ∀ row ∈ rows, row.length = am.length) : (passV rows am).length = am.length := by
  unfold passV
  have key : ∀ (l : List (Int × List Int)) (f : List Int), (∀ p ∈ l, p.2.length = am.length) → f.length = am.length → (l.foldl (fun f p => addRow f p.1 p.2) f).length = am.length := by
    intro l
    induction l with
    | nil => intro f _ h; exact h
    | cons p l ih =>
      intro f hp h
      rw [List.foldl_cons]
      exact ih _ (fun q hq => hp q (List.mem_cons_of_mem _ hq)) (by rw [addRow_len _ _ _ (by rw [h, hp p List.mem_cons_self]), h])
  exact key _ _ (fun p hp => hr _ (List.of_mem_zip hp).2) (List.length_map _)
theorem iterV_len {rows : List (List Int)} {am : List Int} (lr : rows.length = am.length) (hr : ∀ row ∈ rows, row.length = am.length) : ∀ n, (iterV rows n am).length = am.length
  | 0 => rfl
  | n + 1 => by
    have ih := iterV_len lr hr n
    show (passV rows (iterV rows n am)).length = _
    rw [passV_len (by rw [ih, lr]) (fun row h => by rw [ih, hr row h]), ih]
theorem sc_counts_from : FnScope ["rates", "amounts", "age", "step"] ["rates", "amounts", "age"] (defScope s_counts_from) := ⟨rfl, rfl, rfl, by decide +kernel, rfl, by decide +kernel, by decide +kernel⟩
theorem has_counts_from {k : Nat} (S : Src K mg "counts_from" s_counts_from) (TX : Txt K mg w C aF) (h_passed : Has P w K mg base k "passed" ["rates", "amounts"] (sp_passed)) : Has P w K mg base (k + 1) "counts_from" ["rates", "amounts", "age"] (sp_counts_from) := by
  refine has_of S sc_counts_from (fun _ _ _ _ _ _ us hl => match us, hl with | [_, _, _], _ => rfl) (fun vs H Q E h => sp3_len h) (fun f cdv A outer s H vs Q E hr h => ?_)
  · obtain ⟨v0, v1, v2, rfl, h⟩ := h
    have hu := hu_of hr
    obtain ⟨a_passed, fd_passed, mg_passed, kp_passed, bd_passed, ok_passed⟩ := h_passed.ex
    refine ⟨_, (pss_cons (ps_for PassesOwn.never rfl (pi_range1 (by rfl) TX.range (pa_cons (pv 2) pa_nil)) (pg_name (i := 3) sc_counts_from.nd rfl (Or.inl rfl))
      (pss_one (ps_set (i := 1) sc_counts_from.nd rfl (Or.inl rfl) (pe_call ok_passed hr rfl mg_passed kp_passed bd_passed .nil pass0 (pa_cons (pv 0) (pa_cons (pv 1) pa_nil))))))
    (pss_one (ps_ret (pv 1)))), ?_⟩
    obtain ⟨R, A, rows, am, n, rfl, rfl, rfl, hn, hR, hA, few, lrows, hrows, q⟩ := h
    refine ⟨_, rfl, _, rfl, by omega, by omega, ?_⟩
    refine for_it (walk_range (lo := 0) (n := n)) (fun i σ H' => ∃ p y, σ = [some (.ref R), some (.ref p), some (.int (n : Nat)), y] ∧ Same H H' ∧ H' p = some (.lst ((iterV rows i am).map V.int))) ⟨A, none, rfl, Same.refl _, hA⟩ (fun _ _ _ _ _ => trivial) ?_ ?_
    · rintro i x σ H2 H3 hi ⟨p, y, rfl, s2, hp⟩ ⟨rfl, rfl⟩
      have hl := iterV_len lrows (fun row h => (hrows row h).1) i
      refine ⟨_, rfl, _, rfl, _, _, rfl, R, p, rows, iterV rows i am, rfl, rfl, hR.mono s2, hp, by omega, by omega, fun row h => ⟨by rw [hl]; exact (hrows row h).1, (hrows row h).2⟩, fun H4 p4 s4 n4 h4 => ?_⟩
      exact ⟨p4, _, rfl, s2.trans s4, h4⟩
    · rintro σ H2 ⟨p, y, rfl, s2, hp⟩
      exact ⟨_, rfl, q _ _ s2 hp⟩
def sp_counts : Sp := sp2 fun v0 v1 H Q => ∃ b f rs n, v0 = .ref b ∧ v1 = .int ((n : Nat) : Int) ∧ n ≤ 300 ∧ BookAt H b f rs ∧ Wf f rs ∧ ∀ H' p, Same H H' → H' p = some (.lst ((iterV (tabOf rs) n (rowOf rs f)).map V.int)) → Q (.ref p) H'
theorem sc_counts : FnScope ["book", "age"] ["book", "age"] (defScope s_counts) := ⟨rfl, rfl, rfl, by decide +kernel, rfl, by decide +kernel, by decide +kernel⟩
theorem has_counts {k : Nat} (S : Src K mg "counts" s_counts) (TX : Txt K mg w C aF) (h_need_age : Has P w K mg base k "need_age" ["age"] (sp_need_age)) (h_counts_from : Has P w K mg base k "counts_from" ["rates", "amounts", "age"] (sp_counts_from)) (h_table : Has P w K mg base k "table" ["book"] (sp_table)) (h_tally : Has P w K mg base k "tally" ["signs", "text"] (sp_tally)) (h_letters : Has P w K mg base k "letters" ["book"] (sp_letters)) : Has P w K mg base (k + 1) "counts" ["book", "age"] (sp_counts) := by
  refine has_of S sc_counts (fun _ _ _ _ _ _ us hl => match us, hl with | [_, _], _ => rfl) (fun vs H Q E h => sp2_len h) (fun f cdv A outer s H vs Q E hr h => ?_)
  · obtain ⟨v0, v1, rfl, h⟩ := h
    have hu := hu_of hr
    obtain ⟨a_need_age, fd_need_age, mg_need_age, kp_need_age, bd_need_age, ok_need_age⟩ := h_need_age.ex
    obtain ⟨a_counts_from, fd_counts_from, mg_counts_from, kp_counts_from, bd_counts_from, ok_counts_from⟩ := h_counts_from.ex
    obtain ⟨a_table, fd_table, mg_table, kp_table, bd_table, ok_table⟩ := h_table.ex
    obtain ⟨a_tally, fd_tally, mg_tally, kp_tally, bd_tally, ok_tally⟩ := h_tally.ex
    obtain ⟨a_letters, fd_letters, mg_letters, kp_letters, bd_letters, ok_letters⟩ := h_letters.ex
    refine ⟨_, (pss_cons (ps_expr (pe_call ok_need_age hr rfl mg_need_age kp_need_age bd_need_age .nil pass0 (pa_cons (pv 1) pa_nil)))
    (pss_one (ps_ret (pe_call ok_counts_from hr rfl mg_counts_from kp_counts_from bd_counts_from .nil pass0 (pa_cons (pe_call ok_table hr rfl mg_table kp_table bd_table .nil pass0 (pa_cons (pv 0) pa_nil)) (pa_cons (pe_call ok_tally hr rfl mg_tally kp_tally bd_tally .nil pass0 (pa_cons (pe_call ok_letters hr rfl mg_letters kp_letters bd_letters .nil pass0 (pa_cons (pv 0) pa_nil)) (pa_cons (pe_ix (ix_tupK K) (pv 0) pe_int (fun _ _ => rfl)) pa_nil))) (pa_cons (pv 1) pa_nil))))))), ?_⟩
    obtain ⟨b, f, rs, n, rfl, rfl, hn, hB, wf, q⟩ := h
    refine ⟨_, rfl, _, rfl, n, rfl, by omega, by omega, ?_⟩
    refine ⟨_, rfl, _, rfl, b, f, rs, rfl, hB, wf.few, fun H1 R s1 nR hR => ?_⟩
    have hB1 := hB.mono (Same.tups s1)
    refine ⟨_, rfl, _, rfl, b, f, rs, rfl, hB1, wf.few, fun H2 s2 => ?_⟩
    obtain ⟨r, hb, hr⟩ := hB1.mono (Same.tups s2)
    refine ⟨_, rfl, b, _, (0 : Int), _, rfl, rfl, SqT.of hb, rfl, _, _, rfl, rs.map (·.1), f, rfl, rfl, by rw [List.length_map]; exact wf.few, fun H3 A s3 nA hA => ?_⟩
    have eA : ((rs.map (·.1)).map fun c => ((f.count c : Nat) : Int)) = rowOf rs f := by
      unfold rowOf
      rw [List.map_map]
      rfl
    rw [eA] at hA
    have lA : (rowOf rs f).length = rs.length := List.length_map _
    refine ⟨_, rfl, _, _, _, rfl, R, A, tabOf rs, rowOf rs f, n, rfl, rfl, rfl, hn, (hR.mono s2).mono s3, hA, by rw [lA]; exact wf.few, by rw [lA]; exact List.length_map _, fun row h => ?_, fun H4 p s4 h4 => q _ _ ((s1.trans s2).trans (s3.trans s4)) h4⟩
    obtain ⟨c, hc, rfl⟩ := List.mem_map.mp h
    refine ⟨by rw [lA]; exact List.length_map _, fun x hx => ?_⟩
    obtain ⟨d, hd, rfl⟩ := List.mem_map.mp hx
    have h1 := count_le c.2 d.1
    have h2 := (wf.wd c hc).1
    omega
def sp_length : Sp := sp2 fun v0 v1 H Q => ∃ b f rs n, v0 = .ref b ∧ v1 = .int ((n : Nat) : Int) ∧ n ≤ 300 ∧ BookAt H b f rs ∧ Wf f rs ∧ ∀ H', Same H H' → Q (.int (tot rs n f)) H'
theorem sc_length : FnScope ["book", "age"] ["book", "age"] (defScope s_length) := ⟨rfl, rfl, rfl, by decide +kernel, rfl, by decide +kernel, by decide +kernel⟩
theorem has_length {k : Nat} (S : Src K mg "length" s_length) (TX : Txt K mg w C aF) (h_counts : Has P w K mg base k "counts" ["book", "age"] (sp_counts)) : Has P w K mg base (k + 1) "length" ["book", "age"] (sp_length) := by
  refine has_of S sc_length (fun _ _ _ _ _ _ us hl => match us, hl with | [_, _], _ => rfl) (fun vs H Q E h => sp2_len h) (fun f cdv A outer s H vs Q E hr h => ?_)
  · obtain ⟨v0, v1, rfl, h⟩ := h
    have hu := hu_of hr
    obtain ⟨a_counts, fd_counts, mg_counts, kp_counts, bd_counts, ok_counts⟩ := h_counts.ex
    refine ⟨_, (pss_one (ps_ret (pe_callB (cr_sumK K rfl) (by rfl) TX.sum (by decide +kernel) (pa_cons (pe_call ok_counts hr rfl mg_counts kp_counts bd_counts .nil pass0 (pa_cons (pv 0) (pa_cons (pv 1) pa_nil))) pa_nil)))), ?_⟩
    obtain ⟨b, f, rs, n, rfl, rfl, hn, hB, wf, q⟩ := h
    refine ⟨_, rfl, _, rfl, _, _, rfl, b, f, rs, n, rfl, rfl, hn, hB, wf, fun H1 p s1 hp => ?_⟩
    refine ⟨p, _, rfl, SqL.of hp, ?_⟩
    rw [length_is wf]
    exact q _ s1
end
end G

/-! The mathematics of ways. -/
namespace G
open PySem L2
/-- sizes by letters, as a dict's pairs -/
def skv (rs : List Rule) (g : Nat → Int) : List (Key × V) := rs.map fun r => (Sum.inr (T [r.1]), V.int (g r.1))
theorem skv_val {rs : List Rule} {g : Nat → Int} {c : Nat} (h : c ∈ rs.map (·.1)) : valV (skv rs g) (Sum.inr (T [c])) = some (.int (g c)) := by
  obtain ⟨r, hr, e1, e2⟩ := find_mem h
  unfold skv
  rw [valV_find (fun r => V.int (g r.1)), e2, Option.map_some, e1]
theorem skv_none {rs : List Rule} {g : Nat → Int} {c : Nat} (h : c ∉ rs.map (·.1)) : valV (skv rs g) (Sum.inr (T [c])) = none := by
  unfold skv
  rw [valV_find (fun r => V.int (g r.1)), find_none h]
  rfl
theorem skv_len (rs : List Rule) (g : Nat → Int) : (skv rs g).length = rs.length := List.length_map _
theorem merge_nd : ∀ (kvs acc : List (Key × V)), ((acc ++ kvs).map (·.1)).Nodup → mergeK acc kvs = acc ++ kvs
  | [], acc, _ => by
    rw [List.append_nil]
    rfl
  | kv :: kvs, acc, h => by
    show mergeK (putK acc kv.1 kv.2) kvs = _
    have hn : valV acc kv.1 = none := by
      unfold valV
      have : acc.find? (fun q => decide (q.1 = kv.1)) = none := by
        rw [List.find?_eq_none]
        intro q hq z
        rw [List.map_append, List.map_cons] at h
        exact (List.nodup_append.mp h).2.2 q.1 (List.mem_map.mpr ⟨q, hq, rfl⟩) kv.1 List.mem_cons_self (of_decide_eq_true z)
      rw [this]
      rfl
    rw [putK_new _ hn, merge_nd kvs (acc ++ [(kv.1, kv.2)]) (by rw [List.append_assoc]; exact h), List.append_assoc]
    rfl
theorem skv_keys (rs : List Rule) (g : Nat → Int) : (skv rs g).map (·.1) = (rs.map (·.1)).map fun c => (Sum.inr (T [c]) : Key) := by
  unfold skv
  rw [List.map_map, List.map_map]
  rfl
theorem keys_nd {l : List Nat} (h : l.Nodup) : (l.map fun c => (Sum.inr (T [c]) : Key)).Nodup := by
  induction l with
  | nil => exact List.nodup_nil
  | cons a l ih =>
    have h2 := List.nodup_cons.mp h
    rw [List.map_cons, List.nodup_cons]
    refine ⟨fun z => ?_, ih h2.2⟩
    obtain ⟨b, hb, e⟩ := List.mem_map.mp z
    exact h2.1 ((key_T b a).mp e ▸ hb)
theorem skv_merge {rs : List Rule} (nd : (rs.map (·.1)).Nodup) (g : Nat → Int) : mergeK [] (skv rs g) = skv rs g := by
  have e := merge_nd (skv rs g) [] (by rw [List.nil_append, skv_keys]; exact keys_nd nd)
  exact e
/-! ### the way down -/
def pick (g : Nat → Int) : List Nat → Int → Nat × Int
  | [], left => (0, left)
  | c :: l, left => if g c ≤ left then ((pick g l (left - g c)).1 + 1, (pick g l (left - g c)).2) else (0, left)
def wayD (rs : List Rule) : Nat → List Nat → Int → List (Nat × Nat)
  | 0, text, left => [(text.getD (pick (sz rs 0) text left).1 0, (pick (sz rs 0) text left).1)]
  | n + 1, text, left => (text.getD (pick (sz rs (n + 1)) text left).1 0, (pick (sz rs (n + 1)) text left).1) ::
      wayD rs n (wordOf rs (text.getD (pick (sz rs (n + 1)) text left).1 0)) (pick (sz rs (n + 1)) text left).2
theorem wayD_len (rs : List Rule) : ∀ (n : Nat) (text : List Nat) (left : Int), (wayD rs n text left).length = n + 1
  | 0, _, _ => rfl
  | n + 1, text, left => by
    unfold wayD
    rw [List.length_cons, wayD_len rs n]
/-- what is picked: its place, and the rest, less than its own size -/
theorem pick_ok (g : Nat → Int) : ∀ (l : List Nat) (left : Int), 0 ≤ left → left < (l.map g).sum →
    ∃ c, l[(pick g l left).1]? = some c ∧ 0 ≤ (pick g l left).2 ∧ (pick g l left).2 < g c ∧ ((l.take (pick g l left).1).map g).sum + (pick g l left).2 = left
  | [], left, h0, h1 => by
    have : ((([] : List Nat)).map g).sum = 0 := rfl
    omega
  | c :: l, left, h0, h1 => by
    rw [List.map_cons, List.sum_cons] at h1
    unfold pick
    by_cases q : g c ≤ left
    · rw [if_pos q]
      obtain ⟨d, e1, e2, e3, e4⟩ := pick_ok g l (left - g c) (by omega) (by omega)
      refine ⟨d, e1, e2, e3, ?_⟩
      show (((c :: l).take ((pick g l (left - g c)).1 + 1)).map g).sum + (pick g l (left - g c)).2 = left
      rw [List.take_succ_cons, List.map_cons, List.sum_cons]
      omega
    · rw [if_neg q]
      refine ⟨c, rfl, h0, by omega, ?_⟩
      show ((([] : List Nat)).map g).sum + left = left
      simp
theorem pick_step {g : Nat → Int} {c : Nat} {l : List Nat} {left : Int} (h : g c ≤ left) : pick g (c :: l) left = ((pick g l (left - g c)).1 + 1, (pick g l (left - g c)).2) := by
  show (if g c ≤ left then _ else _) = _
  rw [if_pos h]
theorem pick_stop {g : Nat → Int} {c : Nat} {l : List Nat} {left : Int} (h : ¬ g c ≤ left) : pick g (c :: l) left = (0, left) := by
  show (if g c ≤ left then _ else _) = _
  rw [if_neg h]
/-- the steps of a way, gone through: letters of the texts, places, what stands ahead of them -/
inductive Goes (rs : List Rule) : Nat → List Nat → Int → List (Nat × Nat) → Nat → Prop
  | last {text : List Nat} {left : Int} {c i : Nat} : text[i]? = some c → tot rs 0 (text.take i) = left → Goes rs 0 text left [(c, i)] c
  | step {n : Nat} {text : List Nat} {left rest : Int} {c i d : Nat} {w : List (Nat × Nat)} : text[i]? = some c → tot rs (n + 1) (text.take i) + rest = left → Goes rs n (wordOf rs c) rest w d → Goes rs (n + 1) text left ((c, i) :: w) d
theorem goes_way (rs : List Rule) : ∀ (n : Nat) (text : List Nat) (left : Int), 0 ≤ left → left < tot rs n text → ∃ d, Goes rs n text left (wayD rs n text left) d
  | 0, text, left, h0, h1 => by
    obtain ⟨c, e1, e2, e3, e4⟩ := pick_ok (sz rs 0) text left h0 h1
    have e5 : text.getD (pick (sz rs 0) text left).1 0 = c := by rw [List.getD_eq_getElem?_getD, e1]; rfl
    have e6 : sz rs 0 c = 1 := rfl
    refine ⟨c, ?_⟩
    unfold wayD
    rw [e5]
    refine .last e1 ?_
    unfold tot
    omega
  | n + 1, text, left, h0, h1 => by
    obtain ⟨c, e1, e2, e3, e4⟩ := pick_ok (sz rs (n + 1)) text left h0 h1
    have e5 : text.getD (pick (sz rs (n + 1)) text left).1 0 = c := by rw [List.getD_eq_getElem?_getD, e1]; rfl
    obtain ⟨d, hd⟩ := goes_way rs n (wordOf rs c) (pick (sz rs (n + 1)) text left).2 e2 (by rw [← sz_succ]; exact e3)
    refine ⟨d, ?_⟩
    unfold wayD
    rw [e5]
    exact .step e1 e4 hd
theorem goes_last {rs : List Rule} {n : Nat} {text : List Nat} {left : Int} {w : List (Nat × Nat)} {d : Nat} (h : Goes rs n text left w d) : ∃ i, w.getLast? = some (d, i) := by
  induction h with
  | last h1 h2 => exact ⟨_, rfl⟩
  | step h1 h2 h3 ih =>
    obtain ⟨i, e⟩ := ih
    refine ⟨i, ?_⟩
    cases h3 with
    | last a b => exact e
    | step a b c => exact e
end G

/-! Layers: sizes of letters, the way down. -/
namespace G
open PySem PySem.Spec PyProof.Rows L2 TL

def DictI (rs : List Rule) (H : Hp) (p : V) (g : Nat → Int) : Prop := ∃ a, p = .ref a ∧ H a = some (.dK (skv rs g))
theorem DictI.mono {rs : List Rule} {H H' : Hp} {p : V} {g : Nat → Int} (k : Same H H') (h : DictI rs H p g) : DictI rs H' p g := by
  obtain ⟨a, e, q⟩ := h
  exact ⟨a, e, k _ _ q⟩
/-- a list of such dicts -/
def SizesAt (rs : List Rule) (H : Hp) (L : Addr) (gs : List (Nat → Int)) : Prop := ∃ ds : List V, H L = some (.lst ds) ∧ Paired (DictI rs H) ds gs
theorem SizesAt.mono {rs : List Rule} {H H' : Hp} {L : Addr} {gs : List (Nat → Int)} (k : Same H H') (h : SizesAt rs H L gs) : SizesAt rs H' L gs := by
  obtain ⟨ds, e, q⟩ := h
  exact ⟨ds, k _ _ e, Paired.mapP q fun _ _ z => z.mono k⟩
def upS (rs : List Rule) (n : Nat) : List (Nat → Int) := (List.range n).map fun i => sz rs i
theorem upS_succ (rs : List Rule) (n : Nat) : upS rs (n + 1) = upS rs n ++ [sz rs n] := by
  unfold upS
  rw [List.range_succ, List.map_append]
  rfl
theorem upS_len (rs : List Rule) (n : Nat) : (upS rs n).length = n := by
  unfold upS
  rw [List.length_map, List.length_range]
theorem upS_at (rs : List Rule) {n i : Nat} (h : i < n) : (upS rs n)[i]? = some (sz rs i) := by
  unfold upS
  rw [List.getElem?_map, List.getElem?_range h]
  rfl
theorem upS_rev (rs : List Rule) {n i : Nat} (h : i ≤ n) : (upS rs (n + 1)).reverse[i]? = some (sz rs (n - i)) := by
  rw [List.getElem?_reverse (by rw [upS_len]; omega), upS_len, upS_at rs (by omega)]
  congr 2
theorem paired_rev {α β : Type} {F : α → β → Prop} : ∀ {l : List α} {m : List β}, Paired F l m → Paired F l.reverse m.reverse
  | _, _, .nil => .nil
  | _, _, .cons r t => by
    rw [List.reverse_cons, List.reverse_cons]
    exact paired_app (paired_rev t) r
def PairAt (H : Hp) (p : V) (kv : Key × V) : Prop := ∃ a, p = .ref a ∧ H a = some (.tup [kV kv.1, kv.2])
theorem PairAt.mono {H H' : Hp} {p : V} {kv : Key × V} (k : ∀ a xs, H a = some (.tup xs) → H' a = some (.tup xs)) (h : PairAt H p kv) : PairAt H' p kv := by
  obtain ⟨a, e, q⟩ := h
  exact ⟨a, e, k _ _ q⟩
theorem pairs_addrs {K : PySem.W.Frag} {H : Hp} : ∀ {ds : List V} {kvs : List (Key × V)}, Paired (PairAt H) ds kvs → ∃ ps : List Addr, ds = ps.map V.ref ∧ Paired (fun p kv => SqT K H p [kV kv.1, kv.2]) ps kvs
  | _, _, .nil => ⟨[], rfl, .nil⟩
  | _, _, .cons r t => by
    obtain ⟨a, e, q⟩ := r
    obtain ⟨ps, e2, q2⟩ := pairs_addrs (K := K) t
    exact ⟨a :: ps, by rw [e, e2]; rfl, .cons (SqT.of q) q2⟩
theorem rep_flat {α : Type} (x : α) : ∀ n : Nat, (List.replicate n [x]).flatten = List.replicate n x
  | 0 => rfl
  | n + 1 => by rw [List.replicate_succ, List.flatten_cons, rep_flat x n]; rfl
theorem rep_at {α : Type} {x y : α} {n i : Nat} (h : (List.replicate n x)[i]? = some y) : y = x := by
  have := List.mem_of_getElem? h
  exact List.eq_of_mem_replicate this
/-- the steps of a way as tuples -/
def StepAt (H : Hp) (p : V) (st : Nat × Nat) : Prop := ∃ a, p = .ref a ∧ H a = some (.tup [.str (T [st.1]), .int ((st.2 : Nat) : Int)])
theorem StepAt.mono {H H' : Hp} {p : V} {st : Nat × Nat} (k : ∀ a xs, H a = some (.tup xs) → H' a = some (.tup xs)) (h : StepAt H p st) : StepAt H' p st := by
  obtain ⟨a, e, q⟩ := h
  exact ⟨a, e, k _ _ q⟩
def WayAt (H : Hp) (L : Addr) (w : List (Nat × Nat)) : Prop := ∃ ds : List V, H L = some (.lst ds) ∧ Paired (StepAt H) ds w
theorem upd_tups {H : Hp} {p : Addr} {o : HO} (h : ∀ xs, H p ≠ some (.tup xs)) : ∀ a xs, H a = some (.tup xs) → (upd H p o) a = some (.tup xs) := fun a xs e => by
  by_cases q : a = p
  · subst q
    exact absurd e (h xs)
  · rw [upd_ne q]
    exact e
theorem mut_tups {H : Hp} {p : Addr} {ys : List V} {o : HO} (h : H p = some (.lst ys)) : ∀ a xs, H a = some (.tup xs) → (upd H p o) a = some (.tup xs) := upd_tups fun xs e => by
  rw [h] at e
  cases e
section
variable {P : Program} {w : World} {K : PySem.W.Frag} {mg : Str → Option Value} {base : Heap} {C aF : Addr}
def sp_words_at : Sp := sp2 fun v0 v1 H Q => ∃ b f rs n, v0 = .ref b ∧ v1 = .int ((n : Nat) : Int) ∧ n ≤ 300 ∧ BookAt H b f rs ∧ Wf f rs ∧
  ∀ H' W d, Same H H' → H' W = some (.lst (List.replicate n (.ref d))) → H' d = some (.dK (wkv rs)) → Q (.ref W) H'
theorem sc_words_at : FnScope ["book", "age"] ["book", "age"] (defScope s_words_at) := ⟨rfl, rfl, rfl, by decide +kernel, rfl, by decide +kernel, by decide +kernel⟩
theorem has_words_at {k : Nat} (S : Src K mg "words_at" s_words_at) (TX : Txt K mg w C aF) (h_words_of : Has P w K mg base k "words_of" ["book"] (sp_words_of)) : Has P w K mg base (k + 1) "words_at" ["book", "age"] (sp_words_at) := by
  refine has_of S sc_words_at (fun _ _ _ _ _ _ us hl => match us, hl with | [_, _], _ => rfl) (fun vs H Q E h => sp2_len h) (fun f cdv A outer s H vs Q E hr h => ?_)
  · obtain ⟨v0, v1, rfl, h⟩ := h
    have hu := hu_of hr
    obtain ⟨a_words_of, fd_words_of, mg_words_of, kp_words_of, bd_words_of, ok_words_of⟩ := h_words_of.ex
    refine ⟨_, (pss_one (ps_ret (pe_op op_rep (pe_lst (pa_cons (pe_call ok_words_of hr rfl mg_words_of kp_words_of bd_words_of .nil pass0 (pa_cons (pv 0) pa_nil)) pa_nil)) (pv 1)))), ?_⟩
    obtain ⟨b, f, rs, n, rfl, rfl, hn, hB, wf, q⟩ := h
    refine ⟨_, rfl, _, rfl, b, f, rs, rfl, hB, wf.few, wf.nd, fun H1 d s1 nd hd => ?_⟩
    refine ⟨(by show 1 ≤ sizeLine; decide), fun p hp => ?_⟩
    have s2 : Same H1 (upd H1 p (.lst [.ref d])) := Same.new hp
    refine ⟨_, rfl, p, _, _, rfl, rfl, upd_same, by omega, by omega, by show 1 * (n : Int).toNat ≤ sizeLine; have := sz_ok (n := 1 * (n : Int).toNat) (by omega); exact this, fun W hW => ?_⟩
    have s3 : Same (upd H1 p (.lst [.ref d])) (upd (upd H1 p (.lst [.ref d])) W (.lst (List.replicate (n : Int).toNat [V.ref d]).flatten)) := Same.new hW
    refine q _ W d (s1.trans (s2.trans s3)) ?_ (s3 _ _ (s2 _ _ hd))
    rw [upd_same, rep_flat]
    rfl
def sp_worths_of : Sp := sp2 fun v0 v1 H Q => ∃ W E d f rs n, v0 = .ref W ∧ v1 = .ref E ∧ n ≤ 300 ∧ H W = some (.lst (List.replicate n (.ref d))) ∧ H d = some (.dK (wkv rs)) ∧ H E = some (.dK (skv rs (sz rs 0))) ∧ Wf f rs ∧
  ∀ H' L, Same H H' → H L = none → SizesAt rs H' L (upS rs (n + 1)).reverse → Q (.ref L) H'
theorem sc_worths_of : FnScope ["words", "ends", "found", "told", "behind", "letter", "sign"] ["words", "ends"] (defScope s_worths_of) := ⟨rfl, rfl, rfl, by decide +kernel, rfl, by decide +kernel, by decide +kernel⟩
theorem has_worths_of {k : Nat} (S : Src K mg "worths_of" s_worths_of) (TX : Txt K mg w C aF)  : Has P w K mg base (k + 1) "worths_of" ["words", "ends"] (sp_worths_of) := by
  refine has_of S sc_worths_of (fun _ _ _ _ _ _ us hl => match us, hl with | [_, _], _ => rfl) (fun vs H Q E h => sp2_len h) (fun f cdv A outer s H vs Q E hr h => ?_)
  · obtain ⟨v0, v1, rfl, h⟩ := h
    have hu := hu_of hr
    refine ⟨_, (pss_cons (ps_set (i := 2) sc_worths_of.nd rfl (Or.inl rfl) (pe_lst (pa_cons (pv 1) pa_nil)))
    (pss_cons (ps_for PassesOwn.never rfl (pi_reversed (by rfl) TX.reversed (pa_cons (pv 0) pa_nil)) (pg_name (i := 3) sc_worths_of.nd rfl (Or.inr rfl))
      (pss_cons (ps_set (i := 4) sc_worths_of.nd rfl (Or.inr rfl) (pe_ix (ix_listK K) (pv 2) (pe_un un_neg pe_int) (fun _ _ => rfl)))
    (pss_one (ps_expr (pe_bm PySem.F.plainAttrs_list PySem.F.slot_list_append PySem.F.type_list_append mt_append (pv 2) (pa_cons (pe_callTy (call_dictP rfl) (by rfl) TX.dict (by decide +kernel) (pa_cons (pe_lock (pe_lc (own := [("letter", 5)]) (by rfl) sc_worths_of.nd (pi_keys (pv 1)) (blkOk_by (own := [("letter", 5)]) (by kernel_rfl)) (fun _ _ _ _ _ => (pg_name (i := 5) sc_worths_of.nd rfl (Or.inl rfl))) (fun _ _ _ _ _ => pts_nil) (fun _ _ _ _ _ => (pe_tup (pa_cons (pv 5) (pa_cons (pe_callB (cr_sumK K rfl) (by rfl) TX.sum (by decide +kernel) (pa_cons (pe_lc (own := [("sign", 6)]) (by rfl) sc_worths_of.nd (pi_str (pe_dget hu (pv 3) (pv 5) (fun _ _ => rfl))) (blkOk_by (own := [("sign", 6)]) (by kernel_rfl)) (fun _ _ _ _ _ => (pg_name (i := 6) sc_worths_of.nd rfl (Or.inl rfl))) (fun _ _ _ _ _ => pts_nil) (fun _ _ _ _ _ => (pe_dget hu (pv 4) (pv 6) (fun _ _ => rfl)))) pa_nil)) pa_nil)))))) pa_nil)) pa_nil))))))
    (pss_cons (ps_expr (pe_bm0 PySem.F.plainAttrs_list PySem.F.slot_list_reverse PySem.F.type_list_reverse mt_reverse (pv 2)))
    (pss_one (ps_ret (pv 2)))))), ?_⟩
    obtain ⟨W, E, d, f, rs, n, rfl, rfl, hn, hW, hd, hE, wf, q⟩ := h
    refine ⟨_, rfl, (by show 1 ≤ sizeLine; decide), fun L hL => ?_⟩
    have s1 : Same H (upd H L (.lst [.ref E])) := Same.new hL
    refine ⟨_, rfl, W, _, rfl, SqL.of (s1 _ _ hW), ?_⟩
    have hEL : E ≠ L := ne_of_none hE hL
    refine for_it (walk_rev (xs := List.replicate n (V.ref d))) (fun i σ H' => ∃ y3 y4 y5 y6, σ = [some (.ref W), some (.ref E), some (.ref L), y3, y4, y5, y6] ∧ Same H H' ∧ ∃ ds, H' L = some (.lst ds) ∧ Paired (DictI rs (Off L H')) ds (upS rs (i + 1)))
      ⟨_, _, _, _, rfl, s1, _, upd_same, .cons ⟨E, rfl, by rw [off_ne hEL]; exact s1 _ _ hE⟩ .nil⟩ (fun i σ H' _ ⟨_, _, _, _, _, s, _⟩ => SqL.of (s _ _ hW)) ?_ ?_
    · rintro i x σ H2 H3 hi ⟨y3, y4, y5, y6, rfl, s2, ds, hds, hp⟩ ⟨rfl, hx⟩
      rw [List.length_replicate] at hi
      have ex := rep_at hx
      subst ex
      have lds : ds.length = i + 1 := by rw [paired_len hp, upS_len]
      -- behind = found[-1]
      obtain ⟨g, hg, aB, eB, hB⟩ := paired_at hp (show ds[i]? = some (ds[i]'(by omega)) from List.getElem?_eq_getElem (by omega))
      rw [upS_at rs (by omega)] at hg
      cases hg
      have hB2 : H3 aB = some (.dK (skv rs (sz rs i))) := off_same _ _ _ _ hB
      have hlast : atI ds (-1) = some (.ref aB) := by
        have e : ds = ds.take i ++ [V.ref aB] := by
          rw [← eB, ← take_more (List.getElem?_eq_getElem (by omega)), List.take_of_length_le (by omega)]
        rw [e]
        exact atI_last _ _
      refine ⟨_, rfl, _, rfl, L, ds, -1, _, rfl, rfl, SqL.of hds, hlast, ?_⟩
      refine ⟨_, rfl, .inl ⟨rfl, _, SqL.of hds⟩, ?_⟩
      have hE3 := s2 _ _ hE
      have hd3 := s2 _ _ hd
      refine ⟨E, _, hE3, trivial, fun od => ?_⟩
      have le : Le H3 (upd H3 E (.frz od (.dK (skv rs (sz rs 0))))) := Le.lock hE3
      refine ⟨_, rfl, E, od, rfl, .inl ⟨_, upd_same, fun D hD => ?_⟩⟩
      refine lc_it (walk_keys (kvs := skv rs (sz rs 0))) (fun j H' => Same (upd H3 E (.frz od (.dK (skv rs (sz rs 0))))) H' ∧ ∃ ps, H' D = some (.lst ps) ∧ Paired (PairAt H') ps (skv (rs.take j) (sz rs (i + 1)))) ⟨Same.new hD, [], upd_same, .nil⟩ (fun j H' _ ⟨s, _⟩ => s _ _ upd_same) ?_ ?_
      · rintro j x H4 H5 hj ⟨s4, ps, hps, hpp⟩ ⟨rfl, k, v, hk, rfl⟩
        unfold skv at hk
        rw [List.getElem?_map] at hk
        cases e : rs[j]? with
        | none =>
          rw [e] at hk
          cases hk
        | some r =>
          rw [e] at hk
          obtain ⟨rfl, rfl⟩ := Prod.mk.inj (Option.some.inj hk)
          have hm : r ∈ rs := List.mem_of_getElem? e
          have hc : r.1 ∈ rs.map (·.1) := List.mem_map.mpr ⟨r, hm, rfl⟩
          have le4 : Le H3 H5 := le.trans (Same.le s4)
          refine ⟨rfl, _, rfl, ?_⟩
          refine ⟨_, rfl, _, rfl, d, _, rfl, rdDGet (k := Sum.inr (T [r.1])) (le4 _ _ (.inl hd3)) (valV_word hc), _, rfl, fun D2 hD2 => ?_⟩
          refine lc_it (walk_T (l := wordOf rs r.1)) (fun m H' => Same H5 H' ∧ H' D2 = some (.lst ((((wordOf rs r.1).take m).map (sz rs i)).map V.int))) ⟨Same.new hD2, upd_same⟩ (fun _ _ _ _ => trivial) ?_ ?_
          · rintro m x H6 H7 hmm ⟨s6, hl6⟩ ⟨rfl, c, hcc, rfl⟩
            have hck := word_known wf (List.mem_of_getElem? hcc)
            refine ⟨rfl, _, rfl, _, rfl, aB, _, rfl, rdDGet (k := Sum.inr (T [c])) ((le4.trans (Same.le s6)) _ _ (.inl hB2)) (skv_val hck), _, hl6, by rw [List.length_map, List.length_map, List.length_take]; have := word_le wf r.1; exact le_small (by omega), Same.mut s6 hD2, ?_⟩
            rw [upd_same, take_more hcc, List.map_append, List.map_append]
            rfl
          · rintro H6 ⟨s6, hl6⟩
            rw [List.take_length] at hl6
            refine ⟨D2, _, rfl, SqL.of hl6, (by show 2 ≤ sizeLine; decide), fun p hp6 => ?_⟩
            have s7 : Same H6 (upd H6 p (.tup [.str (T [r.1]), .int ((wordOf rs r.1).map (sz rs i)).sum])) := Same.new hp6
            have hps7 := s7 _ _ (s6 _ _ hps)
            refine ⟨ps, hps7, ?_, Same.mut (s4.trans (s6.trans s7)) (by exact hD), _, upd_same, ?_⟩
            · have := paired_len hpp
              rw [skv_len, List.length_take] at this
              have := wf.few
              exact le_small (by omega)
            · have e2 : skv (rs.take (j + 1)) (sz rs (i + 1)) = skv (rs.take j) (sz rs (i + 1)) ++ [((Sum.inr (T [r.1]) : Key), V.int (sz rs (i + 1) r.1))] := by
                unfold skv
                rw [take_more e, List.map_append]
                rfl
              rw [e2]
              refine paired_app (Paired.mapP hpp fun _ _ z => z.mono fun a xs h => mut_tups hps7 a xs (s7 _ _ (s6 _ _ h))) ⟨p, rfl, mut_tups hps7 _ _ ?_⟩
              rw [upd_same]
              rfl
      · rintro H4 ⟨s4, ps, hps, hpp⟩
        rw [skv_len, List.take_length] at hpp
        have hE4 := s4 _ _ upd_same
        refine ⟨hE4, ?_⟩
        have s5 : Same H3 (upd H4 E (.dK (skv rs (sz rs 0)))) := Same.unlock hE3 s4
        have tk : ∀ a xs, H4 a = some (.tup xs) → (upd H4 E (.dK (skv rs (sz rs 0)))) a = some (.tup xs) := upd_tups fun xs z => by
          rw [hE4] at z
          cases z
        have hDE : D ≠ E := fun z => by
          rw [z, hE4] at hps
          cases hps
        obtain ⟨as, eas, hpa⟩ := pairs_addrs (K := K) (Paired.mapP hpp fun _ _ z => z.mono tk)
        subst eas
        refine ⟨D, as, _, rfl, SqL.of (by rw [upd_ne hDE]; exact hps), hpa, fun p hp5 => ?_⟩
        rw [skv_merge wf.nd]
        have s6 : Same (upd H4 E (.dK (skv rs (sz rs 0)))) (upd (upd H4 E (.dK (skv rs (sz rs 0)))) p (.dK (skv rs (sz rs (i + 1))))) := Same.new hp5
        have hds6 := s6 _ _ (s5 _ _ hds)
        have npL : p ≠ L := fun z => by rw [z, s5 _ _ hds] at hp5; cases hp5
        refine ⟨L, ds, _, rfl, rfl, hds6, le_small (by omega), ?_⟩
        refine ⟨_, _, _, _, rfl, Same.mut (s2.trans (s5.trans s6)) hL, _, upd_same, ?_⟩
        rw [upS_succ rs (i + 1)]
        exact paired_app (Paired.mapP hp fun _ _ z => z.mono (off_but (grow_but (s5.trans s6)))) ⟨p, rfl, by rw [off_ne npL, upd_ne npL, upd_same]⟩
    · rintro σ H2 ⟨y3, y4, y5, y6, rfl, s2, ds, hds, hp⟩
      rw [List.length_replicate] at hp
      refine ⟨_, rfl, .inl ⟨rfl, _, SqL.of hds⟩, L, ds, rfl, rfl, hds, ?_⟩
      refine ⟨_, rfl, q _ L (Same.mut s2 hL) hL ⟨_, upd_same, paired_rev (Paired.mapP hp fun _ _ z => ?_)⟩⟩
      obtain ⟨a, e1, e2⟩ := z
      refine ⟨a, e1, ?_⟩
      by_cases z : a = L
      · unfold Off at e2
        rw [if_pos z] at e2
        cases e2
      · rw [off_ne z] at e2
        rw [upd_ne z]
        exact e2
end
end G

/-! The way down, ways, letters at places. -/
namespace G
open PySem PySem.Spec PyProof.Rows L2 TL

theorem skv_const (ls : List Nat) (g : Nat → Int) : (ls.map fun c => ((Sum.inr (T [c]) : Key), V.int (g c))) = (ls.map fun c => ((Sum.inr (T [c]) : Key), V.int (g c))) := rfl
theorem walk_rng {n : Nat} : Walk (Itr 0 n) n (fun _ => True) (fun i H x H' => H' = H ∧ x = .int ((i : Nat) : Int)) :=
  (walk_range (lo := 0) (n := n)).mono (fun _ _ => trivial) fun i H x H' _ _ y => ⟨y.1, by
    have e := y.2
    rw [e]
    show V.int (0 + (i : Int)) = _
    rw [Int.zero_add]⟩
theorem tot_take (rs : List Rule) (n : Nat) (l : List Nat) (j : Nat) : tot rs n (l.take j) + tot rs n (l.drop j) = tot rs n l := by
  rw [← tot_app, List.take_append_drop]
theorem sizes_get {rs : List Rule} {H : Hp} {L : Addr} {gs : List (Nat → Int)} (h : SizesAt rs H L gs) {i : Nat} {g : Nat → Int} (hg : gs[i]? = some g) : ∃ ds a, H L = some (.lst ds) ∧ ds[i]? = some (.ref a) ∧ H a = some (.dK (skv rs g)) := by
  obtain ⟨ds, e, q⟩ := h
  have l := paired_len q
  have hi : i < ds.length := by
    have := (List.getElem?_eq_some_iff.mp hg).1
    omega
  obtain ⟨g2, h2, a, e2, h3⟩ := paired_at q (List.getElem?_eq_getElem hi)
  rw [hg] at h2
  cases h2
  exact ⟨ds, a, e, by rw [List.getElem?_eq_getElem hi, e2], h3⟩
section
variable {P : Program} {w : World} {K : PySem.W.Frag} {mg : Str → Option Value} {base : Heap} {C aF : Addr}
def sp_sizes_of : Sp := sp2 fun v0 v1 H Q => ∃ W d f rs n, v0 = .ref W ∧ v1 = .str (T (rs.map (·.1))) ∧ n ≤ 300 ∧ H W = some (.lst (List.replicate n (.ref d))) ∧ H d = some (.dK (wkv rs)) ∧ Wf f rs ∧
  ∀ H' L, Same H H' → H L = none → SizesAt rs H' L (upS rs (n + 1)).reverse → Q (.ref L) H'
theorem sc_sizes_of : FnScope ["words", "names", "letter"] ["words", "names"] (defScope s_sizes_of) := ⟨rfl, rfl, rfl, by decide +kernel, rfl, by decide +kernel, by decide +kernel⟩
theorem has_sizes_of {k : Nat} (S : Src K mg "sizes_of" s_sizes_of) (TX : Txt K mg w C aF) (h_worths_of : Has P w K mg base k "worths_of" ["words", "ends"] (sp_worths_of)) : Has P w K mg base (k + 1) "sizes_of" ["words", "names"] (sp_sizes_of) := by
  refine has_of S sc_sizes_of (fun _ _ _ _ _ _ us hl => match us, hl with | [_, _], _ => rfl) (fun vs H Q E h => sp2_len h) (fun f cdv A outer s H vs Q E hr h => ?_)
  · obtain ⟨v0, v1, rfl, h⟩ := h
    have hu := hu_of hr
    obtain ⟨a_worths_of, fd_worths_of, mg_worths_of, kp_worths_of, bd_worths_of, ok_worths_of⟩ := h_worths_of.ex
    refine ⟨_, (pss_one (ps_ret (pe_call ok_worths_of hr rfl mg_worths_of kp_worths_of bd_worths_of .nil pass0 (pa_cons (pv 0) (pa_cons (pe_callTy (call_dictP rfl) (by rfl) TX.dict (by decide +kernel) (pa_cons (pe_lc (own := [("letter", 2)]) (by rfl) sc_sizes_of.nd (pi_str (pv 1)) (blkOk_by (own := [("letter", 2)]) (by kernel_rfl)) (fun _ _ _ _ _ => (pg_name (i := 2) sc_sizes_of.nd rfl (Or.inl rfl))) (fun _ _ _ _ _ => pts_nil) (fun _ _ _ _ _ => (pe_tup (pa_cons (pv 2) (pa_cons pe_int pa_nil))))) pa_nil)) pa_nil))))), ?_⟩
    obtain ⟨W, d, f, rs, n, rfl, rfl, hn, hW, hd, wf, q⟩ := h
    refine ⟨_, rfl, _, rfl, _, rfl, fun D hD => ?_⟩
    refine lc_it (walk_T (l := rs.map (·.1))) (fun j H' => Same H H' ∧ ∃ ps, H' D = some (.lst ps) ∧ Paired (PairAt H') ps (skv (rs.take j) (sz rs 0))) ⟨Same.new hD, [], upd_same, .nil⟩ (fun _ _ _ _ => trivial) ?_ ?_
    · rintro j x H4 H5 hj ⟨s4, ps, hps, hpp⟩ ⟨rfl, c, hc, rfl⟩
      rw [List.getElem?_map] at hc
      cases e : rs[j]? with
      | none =>
        rw [e] at hc
        cases hc
      | some r =>
        rw [e] at hc
        have ec : r.1 = c := Option.some.inj hc
        subst ec
        refine ⟨rfl, _, rfl, (by show 2 ≤ sizeLine; decide), fun p hp6 => ?_⟩
        have s7 : Same H5 (upd H5 p (.tup [.str (T [r.1]), .int 1])) := Same.new hp6
        have hps7 := s7 _ _ hps
        refine ⟨ps, hps7, ?_, Same.mut (s4.trans s7) hD, _, upd_same, ?_⟩
        · have := paired_len hpp
          rw [skv_len, List.length_take] at this
          have := wf.few
          exact le_small (by omega)
        · have e2 : skv (rs.take (j + 1)) (sz rs 0) = skv (rs.take j) (sz rs 0) ++ [((Sum.inr (T [r.1]) : Key), V.int (sz rs 0 r.1))] := by
            unfold skv
            rw [take_more e, List.map_append]
            rfl
          rw [e2]
          refine paired_app (Paired.mapP hpp fun _ _ z => z.mono fun a xs h => mut_tups hps7 a xs (s7 _ _ h)) ⟨p, rfl, mut_tups hps7 _ _ ?_⟩
          rw [upd_same]
          rfl
    · rintro H4 ⟨s4, ps, hps, hpp⟩
      rw [List.length_map, List.take_length] at hpp
      obtain ⟨as, eas, hpa⟩ := pairs_addrs (K := K) hpp
      subst eas
      refine ⟨D, as, _, rfl, SqL.of hps, hpa, fun E hE => ?_⟩
      rw [skv_merge wf.nd]
      have s5 : Same H4 (upd H4 E (.dK (skv rs (sz rs 0)))) := Same.new hE
      exact ⟨_, _, rfl, W, E, d, f, rs, n, rfl, rfl, hn, s5 _ _ (s4 _ _ hW), s5 _ _ (s4 _ _ hd), upd_same, wf, fun H' L s6 nL hL => q H' L (s4.trans (s5.trans s6)) ((s4.trans s5).free nL) hL⟩
def sp_total_of : Sp := sp2 fun v0 v1 H Q => ∃ L l rs g gs, v0 = .ref L ∧ v1 = .str (T l) ∧ SizesAt rs H L (g :: gs) ∧ (∀ c ∈ l, c ∈ rs.map (·.1)) ∧ l.length ≤ 1000 ∧ ∀ H', Same H H' → Q (.int (l.map g).sum) H'
theorem sc_total_of : FnScope ["worths", "first", "sign"] ["worths", "first"] (defScope s_total_of) := ⟨rfl, rfl, rfl, by decide +kernel, rfl, by decide +kernel, by decide +kernel⟩
theorem has_total_of {k : Nat} (S : Src K mg "total_of" s_total_of) (TX : Txt K mg w C aF)  : Has P w K mg base (k + 1) "total_of" ["worths", "first"] (sp_total_of) := by
  refine has_of S sc_total_of (fun _ _ _ _ _ _ us hl => match us, hl with | [_, _], _ => rfl) (fun vs H Q E h => sp2_len h) (fun f cdv A outer s H vs Q E hr h => ?_)
  · obtain ⟨v0, v1, rfl, h⟩ := h
    have hu := hu_of hr
    refine ⟨_, (pss_one (ps_ret (pe_callB (cr_sumK K rfl) (by rfl) TX.sum (by decide +kernel) (pa_cons (pe_lc (own := [("sign", 2)]) (by rfl) sc_total_of.nd (pi_str (pv 1)) (blkOk_by (own := [("sign", 2)]) (by kernel_rfl)) (fun _ _ _ _ _ => (pg_name (i := 2) sc_total_of.nd rfl (Or.inl rfl))) (fun _ _ _ _ _ => pts_nil) (fun _ _ _ _ _ => (pe_dget hu (pe_ix (ix_listK K) (pv 0) pe_int (fun _ _ => rfl)) (pv 2) (fun _ _ => rfl)))) pa_nil)))), ?_⟩
    obtain ⟨L, l, rs, g, gs, rfl, rfl, hS, hk, hl, q⟩ := h
    obtain ⟨ds, a, hL, h0, ha⟩ := sizes_get hS (i := 0) (g := g) rfl
    refine ⟨_, rfl, _, rfl, fun D hD => ?_⟩
    refine lc_it (walk_T (l := l)) (fun m H' => Same H H' ∧ H' D = some (.lst (((l.take m).map g).map V.int))) ⟨Same.new hD, upd_same⟩ (fun _ _ _ _ => trivial) ?_ ?_
    · rintro m x H6 H7 hmm ⟨s6, hl6⟩ ⟨rfl, c, hcc, rfl⟩
      have hck := hk c (List.mem_of_getElem? hcc)
      refine ⟨rfl, _, rfl, L, ds, (0 : Int), _, rfl, rfl, SqL.of (s6 _ _ hL), atI_nat (j := 0) h0, _, rfl, a, _, rfl, rdDGet (k := Sum.inr (T [c])) (.inl (s6 _ _ ha)) (skv_val hck), _, hl6, by rw [List.length_map, List.length_map, List.length_take]; exact le_small (by omega), Same.mut s6 hD, ?_⟩
      rw [upd_same, take_more hcc, List.map_append, List.map_append]
      rfl
    · rintro H6 ⟨s6, hl6⟩
      rw [List.take_length] at hl6
      exact ⟨D, _, rfl, SqL.of hl6, q _ s6⟩
def sp_way_down : Sp := sp4 fun v0 v1 v2 v3 H Q => ∃ W L d f rs n left, v0 = .ref W ∧ v1 = .ref L ∧ v2 = .str (T f) ∧ v3 = .int left ∧ n ≤ 300 ∧ H W = some (.lst (List.replicate n (.ref d))) ∧ H d = some (.dK (wkv rs)) ∧ SizesAt rs H L (upS rs (n + 1)).reverse ∧ Wf f rs ∧ 0 ≤ left ∧ left < tot rs n f ∧
  ∀ H' p, Same H H' → H p = none → WayAt H' p (wayD rs n f left) → Q (.ref p) H'
theorem sc_way_down : FnScope ["words", "worths", "first", "left", "found", "text", "age", "index"] ["words", "worths", "first", "left"] (defScope s_way_down) := ⟨rfl, rfl, rfl, by decide +kernel, rfl, by decide +kernel, by decide +kernel⟩
theorem has_way_down {k : Nat} (S : Src K mg "way_down" s_way_down) (TX : Txt K mg w C aF)  : Has P w K mg base (k + 1) "way_down" ["words", "worths", "first", "left"] (sp_way_down) := by
  refine has_of S sc_way_down (fun _ _ _ _ _ _ us hl => match us, hl with | [_, _, _, _], _ => rfl) (fun vs H Q E h => sp4_len h) (fun f cdv A outer s H vs Q E hr h => ?_)
  · obtain ⟨v0, v1, v2, v3, rfl, h⟩ := h
    have hu := hu_of hr
    refine ⟨_, (pss_cons (ps_set (i := 4) sc_way_down.nd rfl (Or.inl rfl) (pe_lst pa_nil))
    (pss_cons (ps_set (i := 5) sc_way_down.nd rfl (Or.inl rfl) (pv 2))
    (pss_cons (ps_for PassesOwn.never rfl (pi_range1 (by rfl) TX.range (pa_cons (pe_callB (len_seqK K) (by rfl) TX.len (by decide +kernel) (pa_cons (pv 1) pa_nil)) pa_nil)) (pg_name (i := 6) sc_way_down.nd rfl (Or.inl rfl))
      (pss_cons (ps_set (i := 7) sc_way_down.nd rfl (Or.inl rfl) pe_int)
    (pss_cons (ps_while PassesOwn.never (pt_cmpR op_ge (pv 3) (pe_dget hu (pe_ix (ix_listK K) (pv 1) (pv 6) (fun _ _ => rfl)) (pe_ix ix_str (pv 5) (pv 7) (fun _ _ => rfl)) (fun _ _ => rfl)) (nomark _)) (pss_cons (ps_set (i := 3) sc_way_down.nd rfl (Or.inl rfl) (pe_op op_sub (pv 3) (pe_dget hu (pe_ix (ix_listK K) (pv 1) (pv 6) (fun _ _ => rfl)) (pe_ix ix_str (pv 5) (pv 7) (fun _ _ => rfl)) (fun _ _ => rfl))))
    (pss_one (ps_set (i := 7) sc_way_down.nd rfl (Or.inl rfl) (pe_op op_add (pv 7) pe_int)))))
    (pss_cons (ps_expr (pe_bm PySem.F.plainAttrs_list PySem.F.slot_list_append PySem.F.type_list_append mt_append (pv 4) (pa_cons (pe_tup (pa_cons (pe_ix ix_str (pv 5) (pv 7) (fun _ _ => rfl)) (pa_cons (pv 7) pa_nil))) pa_nil)))
    (pss_one (ps_if (pt_cmpR op_lt (pv 6) (pe_callB (len_seqK K) (by rfl) TX.len (by decide +kernel) (pa_cons (pv 0) pa_nil)) (nomark _)) (pss_one (ps_set (i := 5) sc_way_down.nd rfl (Or.inl rfl) (pe_dget hu (pe_ix (ix_listK K) (pv 0) (pv 6) (fun _ _ => rfl)) (pe_ix ix_str (pv 5) (pv 7) (fun _ _ => rfl)) (fun _ _ => rfl)))) pss_nil))))))
    (pss_one (ps_ret (pv 4)))))), ?_⟩
    obtain ⟨W, L, d, f, rs, n, left, rfl, rfl, rfl, rfl, hn, hW, hd, hS, wf, h0, h1, q⟩ := h
    refine ⟨Nat.zero_le _, fun D hD => ?_⟩
    have s1 : Same H (upd H D (.lst [])) := Same.new hD
    obtain ⟨ds, eL, hpL⟩ := id hS
    have lds : ds.length = n + 1 := by rw [paired_len hpL, List.length_reverse, upS_len]
    refine ⟨_, rfl, _, rfl, L, ds, rfl, .inl (SqL.of (s1 _ _ eL)), _, rfl, by omega, by omega, ?_⟩
    rw [lds]
    have hDL : D ≠ L := fun z => by rw [z, eL] at hD; cases hD
    refine for_it (walk_rng (n := n + 1)) (fun i σ H' => ∃ text lft pre y6 y7, σ = [some (.ref W), some (.ref L), some (.str (T f)), some (.int lft), some (.ref D), some (.str (T text)), y6, y7] ∧ Same H H' ∧ WayAt H' D pre ∧ pre.length = i ∧
        ((i ≤ n ∧ wayD rs n f left = pre ++ wayD rs (n - i) text lft ∧ 0 ≤ lft ∧ lft < tot rs (n - i) text ∧ text.length ≤ 12 ∧ ∀ c ∈ text, c ∈ rs.map (·.1)) ∨ (i = n + 1 ∧ wayD rs n f left = pre)))
      ⟨f, left, [], none, none, rfl, s1, ⟨[], upd_same, .nil⟩, rfl, .inl ⟨Nat.zero_le _, rfl, h0, h1, wf.fl, wf.fk⟩⟩ (fun _ _ _ _ _ => trivial) ?_ ?_
    · rintro i x σ H2 H3 hi ⟨text, lft, pre, y6, y7, rfl, s2, hpre, lpre, hcase⟩ ⟨rfl, rfl⟩
      rcases hcase with ⟨hin, ew, l0, l1, lt, kn⟩ | ⟨e, _⟩
      case inr => omega
      obtain ⟨ds', a, eL', hai, haa⟩ := sizes_get hS (upS_rev rs hin)
      rw [eL] at eL'
      cases eL'
      have hL3 := s2 _ _ eL
      have ha3 := s2 _ _ haa
      -- index = 0; while
      refine ⟨fun m σ H' => ∃ j lj, m = text.length - j ∧ j < text.length ∧ σ = [some (.ref W), some (.ref L), some (.str (T f)), some (.int lj), some (.ref D), some (.str (T text)), some (.int (i : Nat)), some (.int (j : Nat))] ∧ H' = H3 ∧ 0 ≤ lj ∧ lj < tot rs (n - i) (text.drop j) ∧
          pick (sz rs (n - i)) text lft = (j + (pick (sz rs (n - i)) (text.drop j) lj).1, (pick (sz rs (n - i)) (text.drop j) lj).2), ⟨_, 0, lft, rfl, ?_, rfl, rfl, l0, l1, by rw [Nat.zero_add]; rfl⟩, ?_⟩
      · cases text with
        | nil =>
          have : tot rs (n - i) [] = 0 := rfl
          omega
        | cons c r => exact Nat.succ_pos _
      · rintro m σ H4 ⟨j, lj, rfl, hj, rfl, rfl, lj0, lj1, epick⟩
        have hcj : text[j]? = some text[j] := List.getElem?_eq_getElem hj
        have hck := kn _ (List.getElem_mem hj)
        have edrop : text.drop j = text[j] :: text.drop (j + 1) := List.drop_eq_getElem_cons hj
        have hix : atI (T text).cps.toList ((j : Nat) : Int) = some text[j] := atI_nat hcj
        refine ⟨_, rfl, _, rfl, _, rfl, L, ds, (i : Int), _, rfl, rfl, SqL.of hL3, atI_nat hai, _, rfl, _, rfl, _, (j : Int), _, rfl, rfl, T_sz (by omega), hix, a, _, rfl, rdDGet (k := Sum.inr (T [text[j]])) (.inl ha3) (skv_val hck), _, _, rfl, rfl, _, rfl, ?_⟩
        refine ite2 (fun hc => ?_) (fun hc => ?_)
        · -- one letter more is passed
          have hle : sz rs (n - i) text[j] ≤ lj := of_decide_eq_true hc
          have hj1 : j + 1 < text.length := by
            by_cases z : j + 1 < text.length
            · exact z
            · rw [edrop, List.drop_of_length_le (by omega), tot_cons] at lj1
              have : tot rs (n - i) [] = 0 := rfl
              omega
          refine ⟨fun σ' H' => ∃ lj', σ' = [some (.ref W), some (.ref L), some (.str (T f)), some (.int lj'), some (.ref D), some (.str (T text)), some (.int (i : Nat)), some (.int ((j + 1 : Nat) : Int))] ∧ H' = H4 ∧ lj' = lj - sz rs (n - i) text[j], ?_, ?_⟩
          · rintro σ' H' ⟨lj', rfl, rfl, rfl⟩
            refine ⟨text.length - (j + 1), by omega, j + 1, _, rfl, hj1, rfl, rfl, by omega, ?_, ?_⟩
            · rw [edrop, tot_cons] at lj1
              omega
            · rw [epick, edrop, pick_step hle]
              refine Prod.ext ?_ rfl
              show j + ((pick _ _ _).1 + 1) = j + 1 + (pick _ _ _).1
              omega
          · refine ⟨_, rfl, _, rfl, _, rfl, L, ds, (i : Int), _, rfl, rfl, SqL.of hL3, atI_nat hai, _, rfl, _, rfl, _, (j : Int), _, rfl, rfl, T_sz (by omega), hix, a, _, rfl, rdDGet (k := Sum.inr (T [text[j]])) (.inl ha3) (skv_val hck), _, _, rfl, rfl, ?_⟩
            refine ⟨_, rfl, _, _, rfl, rfl, ?_⟩
            exact ⟨_, by rw [show ((j + 1 : Nat) : Int) = (j : Int) + 1 by omega]; rfl, rfl, rfl⟩
        · -- it is picked
          have hlt : ¬ sz rs (n - i) text[j] ≤ lj := fun z => hc (decide_eq_true z)
          have ep : pick (sz rs (n - i)) text lft = (j, lj) := by
            rw [epick, edrop, pick_stop hlt]
            rfl
          have eg : text.getD j 0 = text[j] := by rw [List.getD_eq_getElem?_getD, hcj]; rfl
          obtain ⟨es, hes, hpes⟩ := id hpre
          have les : es.length = i := by rw [paired_len hpes, lpre]
          refine ⟨_, rfl, .inl ⟨rfl, _, SqL.of hes⟩, ?_⟩
          refine ⟨_, rfl, _, rfl, _, (j : Int), _, rfl, rfl, T_sz (by omega), hix, _, rfl, (by show 2 ≤ sizeLine; decide), fun p hp => ?_⟩
          have s3 : Same H4 (upd H4 p (.tup [.str (T [text[j]]), .int (j : Nat)])) := Same.new hp
          have hes3 := s3 _ _ hes
          refine ⟨D, es, _, rfl, rfl, hes3, le_small (by omega), ?_⟩
          have s4 : Same H (upd (upd H4 p (.tup [.str (T [text[j]]), .int (j : Nat)])) D (.lst (es ++ [.ref p]))) := Same.mut (s2.trans s3) hD
          have hway : WayAt (upd (upd H4 p (.tup [.str (T [text[j]]), .int (j : Nat)])) D (.lst (es ++ [.ref p]))) D (pre ++ [(text[j], j)]) :=
            ⟨_, upd_same, paired_app (Paired.mapP hpes fun _ _ z => z.mono fun a xs h => mut_tups hes3 a xs (s3 _ _ h)) ⟨p, rfl, mut_tups hes3 _ _ upd_same⟩⟩
          have hW4 := s4 _ _ hW
          have hd4 := s4 _ _ hd
          refine ⟨_, rfl, _, rfl, W, _, rfl, .inl (SqL.of hW4), _, _, rfl, rfl, _, rfl, ?_⟩
          rw [List.length_replicate]
          refine ite2 (fun hc2 => ?_) (fun hc2 => ?_)
          · have hin2 : i < n := by
              have := of_decide_eq_true hc2
              omega
            refine ⟨_, rfl, _, rfl, W, _, (i : Int), .ref d, rfl, rfl, SqL.of hW4, atI_nat (by rw [List.getElem?_replicate, if_pos hin2]), _, rfl, _, rfl, _, (j : Int), _, rfl, rfl, T_sz (by omega), hix, d, _, rfl, rdDGet (k := Sum.inr (T [text[j]])) (.inl hd4) (valV_word hck), ?_⟩
            refine ⟨wordOf rs text[j], lj, _, _, _, rfl, s4, hway, by rw [List.length_append, lpre]; rfl, .inl ⟨hin2, ?_, lj0, ?_, ?_, fun c hc => word_known wf hc⟩⟩
            · rw [ew, List.append_assoc]
              congr 1
              rw [show n - i = (n - (i + 1)) + 1 by omega]
              rw [show n - i = (n - (i + 1)) + 1 by omega] at ep
              unfold wayD
              rw [ep]
              show (text.getD j 0, j) :: wayD rs (n - (i + 1)) (wordOf rs (text.getD j 0)) lj = _
              rw [eg]
              cases hq : n - (i + 1) <;> rfl
            · rw [← sz_succ, show n - (i + 1) + 1 = n - i by omega]
              omega
            · have := word_le wf text[j]
              omega
          · have hin2 : i = n := by
              by_cases z : i = n
              · exact z
              · exact absurd (decide_eq_true (by omega)) hc2
            refine ⟨text, lj, _, _, _, rfl, s4, hway, by rw [List.length_append, lpre]; rfl, .inr ⟨by omega, ?_⟩⟩
            rw [ew]
            congr 1
            rw [show n - i = 0 by omega]
            rw [show n - i = 0 by omega] at ep
            unfold wayD
            rw [ep]
            show [(text.getD j 0, j)] = _
            rw [eg]
    · rintro σ H2 ⟨text, lft, pre, y6, y7, rfl, s2, hpre, lpre, hcase⟩
      rcases hcase with ⟨hin, _⟩ | ⟨_, e⟩
      · omega
      · rw [← e] at hpre
        exact ⟨_, rfl, q _ _ s2 hD hpre⟩
def sp_way : Sp := sp3 fun v0 v1 v2 H Q => ∃ b f rs n left, v0 = .ref b ∧ v1 = .int ((n : Nat) : Int) ∧ v2 = .int left ∧ n ≤ 300 ∧ BookAt H b f rs ∧ Wf f rs ∧ 0 ≤ left ∧ left < tot rs n f ∧
  ∀ H' p, Same H H' → H p = none → WayAt H' p (wayD rs n f left) → Q (.ref p) H'
theorem sc_way : FnScope ["book", "age", "place", "words", "sizes"] ["book", "age", "place"] (defScope s_way) := ⟨rfl, rfl, rfl, by decide +kernel, rfl, by decide +kernel, by decide +kernel⟩
theorem has_way {k : Nat} (S : Src K mg "way" s_way) (TX : Txt K mg w C aF) (h_need_age : Has P w K mg base k "need_age" ["age"] (sp_need_age)) (h_words_at : Has P w K mg base k "words_at" ["book", "age"] (sp_words_at)) (h_sizes_of : Has P w K mg base k "sizes_of" ["words", "names"] (sp_sizes_of)) (h_letters : Has P w K mg base k "letters" ["book"] (sp_letters)) (h_need_place : Has P w K mg base k "need_place" ["place", "many"] (sp_need_place)) (h_total_of : Has P w K mg base k "total_of" ["worths", "first"] (sp_total_of)) (h_way_down : Has P w K mg base k "way_down" ["words", "worths", "first", "left"] (sp_way_down)) : Has P w K mg base (k + 1) "way" ["book", "age", "place"] (sp_way) := by
  refine has_of S sc_way (fun _ _ _ _ _ _ us hl => match us, hl with | [_, _, _], _ => rfl) (fun vs H Q E h => sp3_len h) (fun f cdv A outer s H vs Q E hr h => ?_)
  · obtain ⟨v0, v1, v2, rfl, h⟩ := h
    have hu := hu_of hr
    obtain ⟨a_need_age, fd_need_age, mg_need_age, kp_need_age, bd_need_age, ok_need_age⟩ := h_need_age.ex
    obtain ⟨a_words_at, fd_words_at, mg_words_at, kp_words_at, bd_words_at, ok_words_at⟩ := h_words_at.ex
    obtain ⟨a_sizes_of, fd_sizes_of, mg_sizes_of, kp_sizes_of, bd_sizes_of, ok_sizes_of⟩ := h_sizes_of.ex
    obtain ⟨a_letters, fd_letters, mg_letters, kp_letters, bd_letters, ok_letters⟩ := h_letters.ex
    obtain ⟨a_need_place, fd_need_place, mg_need_place, kp_need_place, bd_need_place, ok_need_place⟩ := h_need_place.ex
    obtain ⟨a_total_of, fd_total_of, mg_total_of, kp_total_of, bd_total_of, ok_total_of⟩ := h_total_of.ex
    obtain ⟨a_way_down, fd_way_down, mg_way_down, kp_way_down, bd_way_down, ok_way_down⟩ := h_way_down.ex
    refine ⟨_, (pss_cons (ps_expr (pe_call ok_need_age hr rfl mg_need_age kp_need_age bd_need_age .nil pass0 (pa_cons (pv 1) pa_nil)))
    (pss_cons (ps_set (i := 3) sc_way.nd rfl (Or.inl rfl) (pe_call ok_words_at hr rfl mg_words_at kp_words_at bd_words_at .nil pass0 (pa_cons (pv 0) (pa_cons (pv 1) pa_nil))))
    (pss_cons (ps_set (i := 4) sc_way.nd rfl (Or.inl rfl) (pe_call ok_sizes_of hr rfl mg_sizes_of kp_sizes_of bd_sizes_of .nil pass0 (pa_cons (pv 3) (pa_cons (pe_call ok_letters hr rfl mg_letters kp_letters bd_letters .nil pass0 (pa_cons (pv 0) pa_nil)) pa_nil))))
    (pss_cons (ps_expr (pe_call ok_need_place hr rfl mg_need_place kp_need_place bd_need_place .nil pass0 (pa_cons (pv 2) (pa_cons (pe_call ok_total_of hr rfl mg_total_of kp_total_of bd_total_of .nil pass0 (pa_cons (pv 4) (pa_cons (pe_ix (ix_tupK K) (pv 0) pe_int (fun _ _ => rfl)) pa_nil))) pa_nil))))
    (pss_one (ps_ret (pe_call ok_way_down hr rfl mg_way_down kp_way_down bd_way_down .nil pass0 (pa_cons (pv 3) (pa_cons (pv 4) (pa_cons (pe_ix (ix_tupK K) (pv 0) pe_int (fun _ _ => rfl)) (pa_cons (pv 2) pa_nil))))))))))), ?_⟩
    obtain ⟨b, f, rs, n, left, rfl, rfl, rfl, hn, hB, wf, h0, h1, q⟩ := h
    refine ⟨_, rfl, _, rfl, n, rfl, by omega, by omega, ?_⟩
    refine ⟨_, rfl, _, rfl, _, _, rfl, b, f, rs, n, rfl, rfl, hn, hB, wf, fun H1 W d s1 hW hd => ?_⟩
    have hB1 := hB.mono (Same.tups s1)
    refine ⟨_, rfl, _, rfl, _, rfl, b, f, rs, rfl, hB1, wf.few, fun H2 s2 => ?_⟩
    refine ⟨_, _, rfl, W, d, f, rs, n, rfl, rfl, hn, s2 _ _ hW, s2 _ _ hd, wf, fun H3 L s3 nL hL => ?_⟩
    have s13 := s1.trans (s2.trans s3)
    have hB3 := hB.mono (Same.tups s13)
    obtain ⟨r, hb, hr⟩ := id hB3
    have eL : (upS rs (n + 1)).reverse = sz rs n :: (upS rs n).reverse := by
      rw [upS_succ, List.reverse_append]
      rfl
    have hL2 := hL
    rw [eL] at hL2
    refine ⟨_, rfl, _, rfl, _, rfl, b, _, (0 : Int), _, rfl, rfl, SqT.of hb, rfl, ?_⟩
    refine ⟨_, _, rfl, L, f, rs, sz rs n, _, rfl, rfl, hL2, wf.fk, by have := wf.fl; omega, fun H4 s4 => ?_⟩
    refine ⟨_, _, rfl, left, _, rfl, rfl, h0, h1, ?_⟩
    have s14 := s13.trans s4
    refine ⟨_, rfl, _, rfl, _, rfl, b, _, (0 : Int), _, rfl, rfl, SqT.of (s4 _ _ hb), rfl, _, rfl, ?_⟩
    exact ⟨_, _, _, _, rfl, W, L, d, f, rs, n, left, rfl, rfl, rfl, rfl, hn, s4 _ _ (s3 _ _ (s2 _ _ hW)), s4 _ _ (s3 _ _ (s2 _ _ hd)), hL.mono s4, wf, h0, h1, fun H5 p s5 n5 hp => q H5 p (s14.trans s5) (s14.free n5) hp⟩
def sp_letter_at : Sp := sp3 fun v0 v1 v2 H Q => ∃ b f rs n left d, v0 = .ref b ∧ v1 = .int ((n : Nat) : Int) ∧ v2 = .int left ∧ n ≤ 300 ∧ BookAt H b f rs ∧ Wf f rs ∧ 0 ≤ left ∧ left < tot rs n f ∧ Goes rs n f left (wayD rs n f left) d ∧
  ∀ H', Same H H' → Q (.str (T [d])) H'
theorem sc_letter_at : FnScope ["book", "age", "place"] ["book", "age", "place"] (defScope s_letter_at) := ⟨rfl, rfl, rfl, by decide +kernel, rfl, by decide +kernel, by decide +kernel⟩
theorem has_letter_at {k : Nat} (S : Src K mg "letter_at" s_letter_at) (TX : Txt K mg w C aF) (h_way : Has P w K mg base k "way" ["book", "age", "place"] (sp_way)) : Has P w K mg base (k + 1) "letter_at" ["book", "age", "place"] (sp_letter_at) := by
  refine has_of S sc_letter_at (fun _ _ _ _ _ _ us hl => match us, hl with | [_, _, _], _ => rfl) (fun vs H Q E h => sp3_len h) (fun f cdv A outer s H vs Q E hr h => ?_)
  · obtain ⟨v0, v1, v2, rfl, h⟩ := h
    have hu := hu_of hr
    obtain ⟨a_way, fd_way, mg_way, kp_way, bd_way, ok_way⟩ := h_way.ex
    refine ⟨_, (pss_one (ps_ret (pe_ix (ix_tupK K) (pe_ix (ix_listK K) (pe_call ok_way hr rfl mg_way kp_way bd_way .nil pass0 (pa_cons (pv 0) (pa_cons (pv 1) (pa_cons (pv 2) pa_nil)))) (pe_un un_neg pe_int) (fun _ _ => rfl)) pe_int (fun _ _ => rfl)))), ?_⟩
    obtain ⟨b, f, rs, n, left, d, rfl, rfl, rfl, hn, hB, wf, h0, h1, hG, q⟩ := h
    refine ⟨_, rfl, _, rfl, _, rfl, _, _, _, rfl, b, f, rs, n, left, rfl, rfl, rfl, hn, hB, wf, h0, h1, fun H1 p s1 np ⟨ds, hp, hpd⟩ => ?_⟩
    obtain ⟨i, hl⟩ := goes_last hG
    have ln := paired_len hpd
    rw [wayD_len] at ln
    have hl2 : (wayD rs n f left)[n]? = some (d, i) := by
      rw [List.getLast?_eq_getElem?, wayD_len] at hl
      exact hl
    obtain ⟨x, hx⟩ : ∃ x, ds[n]? = some x := ⟨_, List.getElem?_eq_getElem (by omega)⟩
    obtain ⟨st, hst, a, ea, ha⟩ := paired_at hpd hx
    rw [hl2] at hst
    cases hst
    subst ea
    have hlast : atI ds (-1) = some (.ref a) := by
      have e : ds = ds.take n ++ [V.ref a] := by
        rw [← take_more hx, List.take_of_length_le (by omega)]
      rw [e]
      exact atI_last _ _
    exact ⟨_, rfl, p, ds, -1, _, rfl, rfl, SqL.of hp, hlast, a, _, (0 : Int), _, rfl, rfl, SqT.of ha, rfl, q _ s1⟩
end
end G

/-! Two rules that the layer lacks: zip of a text and a list as what a for walks; list of a text. -/
namespace G
open PySem PySem.Spec PyProof.Rows L2
theorem sz_ok' {n : Nat} (h : n ≤ 100000) : n ≤ sizeLine := Nat.le_trans h (by decide)
/-- the signs of x and the list at b as it stands at each turn, in new pairs -/
def ItzS (K : PySem.W.Frag) (x : Str) (b : Addr) : It :=
  ⟨fun i H => ∃ (ys : List V) (c : Nat) (y : V), SqL K H b ys ∧ x.cps[i]? = some c ∧ ys[i]? = some y,
    fun i H v H' => ∃ T c y, v = .ref T ∧ H T = none ∧ H' = upd H T (.tup [.str ⟨#[c]⟩, y]) ∧ x.cps[i]? = some c ∧ ∀ ys, SqL K H b ys → ys[i]? = some y,
    fun i H => ∃ ys : List V, SqL K H b ys ∧ i ≤ x.cps.size ∧ i ≤ ys.length ∧ (i = x.cps.size ∨ i = ys.length)⟩
theorem strIter_at {h h' : Heap} {it : Addr} {ty : String} {x : Str} {t : Tok} {i : Nat} (s : h.IsStrIter it ty x t i) (k : ∀ o, h.get? it = some o → h'.get? it = some o) : h'.IsStrIter it ty x t i := by
  obtain ⟨o, e, c, d⟩ := s
  exact ⟨o, k _ e, c, d⟩
structure SepS (z TI TO i1 i2 b : Addr) : Prop where
  s : ZipSep2 z TI TO i1 i2 [i1] [i2, b]
  bi : b ≠ i2
theorem turn_zipS {P : Program} {w : World} {K : PySem.W.Frag} {elts : List Expr} {kk : Nat} {tpos : Pos} {x : Str} {t : Tok} {b z TI TO i1 i2 : Addr} (D : SepS z TI TO i1 i2 b) :
    Turn P w K (.Tuple elts kk tpos) (ItzS K x b) [z, TI, TO, i1, i2] z (fun i h => IsZip h z TI TO .none ∧ IsTupOf2 h TI (.ref i1) (.ref i2) ∧ (∃ x y, IsTupOf2 h TO x y) ∧ h.IsStrIter i1 (strIterType x) x t i ∧ h.IsListIter i2 b i) where
  mem := by simp
  obj := fun i h st c hc => by
    obtain ⟨hz, hTI, ⟨x, y, hTO⟩, ⟨o1, e1, _, d1⟩, ⟨o2, e2, _, d2⟩⟩ := st
    have e' : c = z ∨ c = TI ∨ c = TO ∨ c = i1 ∨ c = i2 := by simpa using hc
    rcases e' with q | q | q | q | q
    · rw [q]; exact ⟨_, hz, fun v q => nomatch q⟩
    · rw [q]; exact ⟨_, hTI, fun v q => nomatch q⟩
    · rw [q]; exact ⟨_, hTO, fun v q => nomatch q⟩
    · rw [q]; exact ⟨o1, e1, fun v q => by rw [d1] at q; cases q⟩
    · rw [q]; exact ⟨o2, e2, fun v q => by rw [d2] at q; cases q⟩
  keep := fun i h h' st k => by
    obtain ⟨hz, hTI, ⟨x, y, hTO⟩, h1, h2⟩ := st
    exact ⟨k z (by simp) _ hz, k TI (by simp) _ hTI, ⟨x, y, k TO (by simp) _ hTO⟩, strIter_at h1 fun o q => k i1 (by simp) o q, h2.at fun o q => k i2 (by simp) o q⟩
  item := by
    intro X hP hw hK hc i pins s σ H E I hf st hg
    subst hP hw hK
    obtain ⟨hz, hTI, ⟨x0, y0, hTO⟩, h1, h2⟩ := st
    obtain ⟨ys, c, y, hqy, hx, hy⟩ := hg
    obtain ⟨its2, rv2, p2, _⟩ := I.list hqy
    obtain ⟨u2, hu2, ru2⟩ := rv2.get hy
    have hzl : z < s.heap.objs.size := Heap.lt_size hz
    have hh : X.A.in1.handled = none := I.ok.hd hc
    have hn1 : i < x.cps.size := (Array.getElem?_eq_some_iff.mp hx).1
    have hn2 : i < its2.toArray.size := by
      have := (List.getElem?_eq_some_iff.mp hu2).1
      simpa using this
    refine wpAny_pyNext_zipD2_item D.s (Draws.text hh i1 x t) (Draws.list hh i2 b D.bi its2.toArray) hz hTI hTO h1 ⟨h2, p2.isList⟩ hn1 hn2 fun x1 x2 h' tk y1 y2 z' TO' h1' h2' hT hsz hk => ?_
    obtain ⟨c', u1, e1, rfl⟩ := y1
    have ec : c' = c := by
      rw [hx] at e1
      exact (Option.some.inj e1).symm
    subst ec
    have e2 : x2 = u2 := by
      have q : its2.toArray[i]? = some x2 := y2
      rw [List.getElem?_toArray, hu2] at q
      exact (Option.some.inj q).symm
    subst e2
    refine ⟨_, rfl, wpAny_letOwnedTupleGo_zip (s := { s with heap := h', toks := tk }) z' fun h'' z'' sb => ?_⟩
    have hT2 : h''.get? s.heap.objs.size = some { cls := .type "tuple", data := .seq #[.str ⟨#[c']⟩ u1, x2] } := (sb.2 _ (Nat.ne_of_gt hzl)).trans hT
    have new : ObjOk X.prog X.w (upd H s.heap.objs.size (.tup [.str ⟨#[c']⟩, y])) h'' s.heap.objs.size (.tup [.str ⟨#[c']⟩, y]) :=
      ⟨by show 2 ≤ sizeLine; decide, [.str ⟨#[c']⟩ u1, x2], .cons ⟨_, rfl⟩ (.cons ru2 .nil), ⟨_, hT2, rfl, _, rfl⟩⟩
    have I1 : Inv X pins σ (upd H s.heap.objs.size (.tup [.str ⟨#[c']⟩, y])) { s with heap := h'', toks := tk } :=
      I.turnedNew (t' := tk) (ch := [z, TI, TO, i1, i2]) (fun c o hb q => (sb.2 c (fun q' => hb (by simp [q']))).trans (hk c o (fun q' => hb (by simp [q'])) (fun q' => hb (by simp [q'])) (fun q' => hb (by simp [q'])) (fun q' => hb (by simp [q'])) q)) hf (Nat.le_refl _) new
    refine ⟨.ref s.heap.objs.size, _, I1, rfl, ⟨_, c', y, rfl, I.hok.fresh (Nat.le_refl _), rfl, hx, fun l hl => by rw [I.list_inj hl hqy]; exact hy⟩, ⟨z'', ?_, ⟨.str ⟨#[c']⟩ u1, x2, ?_⟩, ?_, ?_⟩, fun c hcm => ?_⟩
    · exact (sb.2 _ D.s.TIz).trans (hk _ _ D.s.TIz D.s.TITO D.s.TIi1 D.s.TIi2 hTI)
    · exact (sb.2 _ D.s.TOz).trans TO'
    · exact strIter_at h1' fun o q => (sb.2 _ (Ne.symm D.s.zi1)).trans q
    · exact h2'.1.at fun o q => (sb.2 _ (Ne.symm D.s.zi2)).trans q
    · have hlt : c < s.heap.objs.size := by
        have e' : c = z ∨ c = TI ∨ c = TO ∨ c = i1 ∨ c = i2 := by simpa using hcm
        rcases e' with q | q | q | q | q
        · rw [q]; exact hzl
        · rw [q]; exact Heap.lt_size hTI
        · rw [q]; exact Heap.lt_size hTO
        · rw [q]; obtain ⟨_, e1, _⟩ := h1; exact Heap.lt_size e1
        · rw [q]; obtain ⟨_, e2, _⟩ := h2; exact Heap.lt_size e2
      rw [upd_ne (Nat.ne_of_lt hlt)]
      exact (hf c hcm).1
  done := by
    intro X hP hw hK hc i pins s σ H E I hf st hg
    subst hP hw hK
    obtain ⟨hz, hTI, ⟨x0, y0, hTO⟩, h1, h2⟩ := st
    obtain ⟨ys, hqy, hl1, hl2, hend⟩ := hg
    obtain ⟨its2, rv2, p2, _⟩ := I.list hqy
    have l2 := rv2.length
    have hh : X.A.in1.handled = none := I.ok.hd hc
    have hs2 : its2.toArray.size = ys.length := by simp [l2]
    refine wpAny_pyNext_zipD2_end D.s (Draws.text hh i1 x t) (Draws.list hh i2 b D.bi its2.toArray) hz hTI hTO h1 ⟨h2, p2.isList⟩ hl1 (by rw [hs2]; exact hl2) (by rw [hs2]; exact hend) fun h' tk hk => ⟨rfl, I.turnedL (t' := tk) (ch := [z, TI, TO, i1, i2]) (fun c o hb q =>
      hk c o (fun q' => hb (by simp [q'])) (fun q' => hb (by simp [q'])) (fun q' => hb (by simp [q'])) (fun q' => hb (by simp [q'])) q) hf⟩
  self := fun A i s Q E st h => wpAny_pyIter_zip st.1 h
theorem nin1 {a b : Nat} (h : a ≠ b) : a ∉ [b] := by simp [h]
theorem nin2 {a b c : Nat} (h : a ≠ b) (h2 : a ≠ c) : a ∉ [b, c] := by simp [h, h2]
theorem sepS_of (n b : Nat) (h : b < n) : SepS (n + 4) (n + 2) (n + 3) n (n + 1) b := by
  have ne : ∀ {x y : Nat}, x < y → x ≠ y := fun h => Nat.ne_of_lt h
  have gt : ∀ {x y : Nat}, y < x → x ≠ y := fun h => Nat.ne_of_gt h
  refine ⟨⟨ne (by omega), ne (by omega), ne (by omega), gt (by omega), List.mem_cons_self, nin1 (gt (by omega)), nin1 (gt (by omega)), gt (by omega), List.mem_cons_self, nin2 (gt (by omega)) (gt (by omega)), nin2 (gt (by omega)) (gt (by omega)), nin2 (ne (by omega)) (gt (by omega)), nin1 (gt (by omega))⟩, ne (by omega)⟩
def iZipS (K : PySem.W.Frag) (ta : TA) : TI := fun σ H R => ta σ H fun vs H1 => ∃ x b ys, vs = [.str x, .ref b] ∧ SqL K H1 b ys ∧ R (ItzS K x b) H1
theorem pi_zipS {X : Cx} {e e2 : Expr} {ta : TA} {p pos tpos : Pos} {elts : List Expr} {kk : Nat} (hg : Gl X "zip") (hm : X.mg "zip" = none) (ha : PA X [e, e2] ta)
    (hs : starEach [e, e2] X.env = (false, eval e X.env) :: starEach [e2] X.env := by rfl) (hpl : (backTo pos (starEach [e2] X.env)).any (·.1) = false := by rfl) :
    PI X (.Tuple elts kk tpos) (.Call (.Name "zip" p) [e, e2] [] pos) (iZipS X.K ta) := by
  refine ⟨fun pins s σ H R I h => ?_⟩
  refine Call_ (ld_blt I hg hm PyProof.Rows.boot_zip (PyProof.Rows.callWith_type1 (thn (ha.run pos pins s σ H _ I h) fun us s1 ⟨vs, H1, I1, r1, q1⟩ => ?_) hs hpl))
  obtain ⟨x, b, ys, ex, hqy, q⟩ := q1
  subst ex
  cases r1 with
  | cons r rr =>
    cases rr with
    | cons r' rr =>
      cases rr
      obtain ⟨t, rfl⟩ := r
      cases r'
      have fresh5 : ∀ c, c ∈ [s1.heap.objs.size + 4, s1.heap.objs.size + 2, s1.heap.objs.size + 3, s1.heap.objs.size, s1.heap.objs.size + 1] → FpOk X pins H1 c := fun c hcm => by
        have e' : c = s1.heap.objs.size + 4 ∨ c = s1.heap.objs.size + 2 ∨ c = s1.heap.objs.size + 3 ∨ c = s1.heap.objs.size ∨ c = s1.heap.objs.size + 1 := by simpa using hcm
        have hle : s1.heap.objs.size ≤ c := by
          rcases e' with z | z | z | z | z
          · rw [z]; exact Nat.le_add_right _ _
          · rw [z]; exact Nat.le_add_right _ _
          · rw [z]; exact Nat.le_add_right _ _
          · rw [z]; exact Nat.le_refl _
          · rw [z]; exact Nat.le_add_right _ _
        exact I1.fpOk hle (I1.hok.fresh hle)
      obtain ⟨its2, rv2, p2, _⟩ := I1.list hqy
      have lb : b < s1.heap.objs.size := p2.lt
      refine zip_begins2 (begins_text x t) (begins_list b its2.toArray) trivial p2.isList fun h' hz hTI hTO g1 g2 hsz hk => wpAny_pyIter_zip hz ?_
      have I2 : Inv X pins σ H1 { s1 with heap := h' } := I1.kept (t' := s1.toks) hk
      have sep := sepS_of s1.heap.objs.size b lb
      refine ⟨s1.heap.objs.size + 4, [s1.heap.objs.size + 4, s1.heap.objs.size + 2, s1.heap.objs.size + 3, s1.heap.objs.size, s1.heap.objs.size + 1], _, _, H1, rfl, I2, turn_zipS sep, ⟨hz, hTI, ⟨_, _, hTO⟩, ⟨_, g1, rfl, rfl⟩, ⟨_, g2, rfl, rfl⟩⟩, fresh5, q⟩
theorem walk_zipS {K : PySem.W.Frag} {b : Addr} {l : List Nat} {ys : List V} (hn : l.length = ys.length) : Walk (ItzS K (T l) b) ys.length (fun H => SqL K H b ys)
    (fun i H v H' => ∃ Tp c y, v = .ref Tp ∧ H Tp = none ∧ H' = upd H Tp (.tup [.str (T [c]), y]) ∧ l[i]? = some c ∧ ys[i]? = some y) := by
  have hsz : (T l).cps.size = l.length := by simp
  refine ⟨fun i H hi q => ?_, fun H q => ?_, fun i H v H' hi q y => ?_⟩
  · exact ⟨ys, l[i], ys[i], q, by simp [show i < l.length by omega], by simp [hi]⟩
  · exact ⟨ys, q, by rw [hsz]; omega, Nat.le_refl _, .inr rfl⟩
  · obtain ⟨Tp, c, x, h1, h2, h3, h4, h5⟩ := y
    exact ⟨Tp, c, x, h1, h2, h3, by simpa using h4, h5 ys q⟩
theorem signs_vals {l : List Nat} : ∀ (us : List Value), us.length = l.length → (∀ j v, us[j]? = some v → SignAt (T l) j v) → Vals (l.map fun c => V.str (T [c])) us := by
  induction l with
  | nil =>
    intro us hl _
    have e : us = [] := List.length_eq_zero_iff.mp hl
    subst e
    exact .nil
  | cons c l ih =>
    intro us hl h
    cases us with
    | nil => simp at hl
    | cons u us =>
      refine .cons ?_ (ih us (by simpa using hl) fun j v e => ?_)
      · have := h 0 u rfl
        obtain ⟨d, tk, e1, e2⟩ := this
        have e3 : d = c := by simpa using e1.symm
        subst e3
        exact ⟨tk, e2⟩
      · have := h (j + 1) v e
        obtain ⟨d, tk, e1, e2⟩ := this
        exact ⟨d, tk, by simpa using e1, e2⟩
theorem call_list_txt {X : Cx} (hcalm : X.calm = true) : CallR X (.type "list") (fun xs H Q => ∃ l : List Nat, xs = [.str (T l)] ∧ l.length ≤ 1000 ∧ ∀ p, H p = none → Q (.ref p) (upd H p (.lst (l.map fun c => V.str (T [c]))))) := by
  intro pins s σ H xs us Q I r q
  obtain ⟨l, ex, hl, q⟩ := q
  subst ex
  obtain ⟨u, eu, rx⟩ := vals1 r
  subst eu
  obtain ⟨t, rfl⟩ := rx
  have hsz : (T l).cps.size = l.length := by simp
  have hz : l.length ≤ sizeLine := sz_ok' (by omega)
  refine call_list_str (I.ok.hd hcalm) (T l) t (fun h' tk acc c' hk hD hacc => ?_) (by rw [hsz]; exact hz)
  have hv : Vals (l.map fun c => V.str (T [c])) acc.toList := signs_vals acc.toList (by rw [Array.length_toList, hacc.1, hsz]) fun j v e => hacc.2 j v (by rw [← Array.getElem?_toList]; exact e)
  refine ⟨.ref s.heap.objs.size, upd H s.heap.objs.size (.lst (l.map fun c => V.str (T [c]))), I.laid (t' := tk) hk (Nat.le_refl _)
    (show ObjOk X.prog X.w _ _ _ (.lst (l.map fun c => V.str (T [c]))) from ⟨by rw [List.length_map]; exact hz, acc.toList, c', hv, by rw [Array.toArray_toList]; exact hD⟩), rfl, q _ (I.hok.fresh (Nat.le_refl _))⟩
end G

/-! Texts of books, rows of the desk, ways as texts. -/
namespace G
open PySem PySem.Spec PyProof.Rows L2 TL

/-! ### joined and split -/
abbrev jn (ps : List (List Nat)) : List Nat := joinL [32] ps
theorem sp_T : tl (Str.ofString " ") = [32] := by decide +kernel
theorem join_sp (ps : List (List Nat)) : Txt.join (Str.ofString " ") (ps.map T) = T (jn ps) := by
  refine T_eq ?_
  rw [join_eq, tl_join, sp_T, List.map_map]
  have e : ps.map (tl ∘ T) = ps := by
    induction ps with
    | nil => rfl
    | cons a l ih => rw [List.map_cons, ih]; rfl
  rw [e]
theorem split_sp {ps : List (List Nat)} (ne : ps ≠ []) (h : ∀ p ∈ ps, (32 : Nat) ∉ p) : Txt.split (T (jn ps)) (Str.ofString " ") = ps.map T := by
  rw [← join_sp]
  refine split_join sp_T (by decide +kernel) (fun z => ne (List.map_eq_nil_iff.mp z)) fun p hp => ?_
  obtain ⟨q, hq, rfl⟩ := List.mem_map.mp hp
  exact h q hq
theorem jn_cons (p : List Nat) {ps : List (List Nat)} (h : ps ≠ []) : jn (p :: ps) = p ++ (32 :: jn ps) := by
  cases ps with
  | nil => exact absurd rfl h
  | cons q r => rfl
theorem map_T_V (ps : List (List Nat)) : (ps.map T).map V.str = ps.map fun l => V.str (T l) := by
  rw [List.map_map]
  rfl
theorem cut_1_2 (a b : Nat) (l : List Nat) : cutS (T (a :: b :: l)) (some 1) (some 2) = T [b] := by
  unfold cutS
  rw [show (1 : Int) = ((1 : Nat) : Int) from rfl, show (2 : Int) = ((2 : Nat) : Int) from rfl, HT.sIx_nat, HT.sIx_nat, T_len, List.length_cons, List.length_cons]
  rw [show min 1 (l.length + 1 + 1) = 1 by omega, show min 2 (l.length + 1 + 1) = 2 by omega]
  rfl
theorem cut_2 (a b : Nat) (l : List Nat) : cutS (T (a :: b :: l)) (some 2) none = T l := by
  unfold cutS
  rw [show (2 : Int) = ((2 : Nat) : Int) from rfl, HT.sIx_nat, HT.sIx_none, T_len, List.length_cons, List.length_cons]
  rw [show min 2 (l.length + 1 + 1) = 2 by omega]
  show T (List.take (l.length + 1 + 1 - 2) l) = T l
  rw [show l.length + 1 + 1 - 2 = l.length by omega, List.take_length]
theorem cut_1 (a : Nat) (l : List Nat) : cutS (T (a :: l)) (some 1) none = T l := by
  unfold cutS
  rw [show (1 : Int) = ((1 : Nat) : Int) from rfl, HT.sIx_nat, HT.sIx_none, T_len, List.length_cons]
  rw [show min 1 (l.length + 1) = 1 by omega]
  show T (List.take (l.length + 1 - 1) l) = T l
  rw [show l.length + 1 - 1 = l.length by omega, List.take_length]
theorem cutV_drop (xs : List V) (k : Nat) : cutV xs (some (k : Int)) none = xs.drop k := by
  unfold cutV
  rw [HT.sIx_nat, HT.sIx_none]
  rcases Nat.le_total k xs.length with h | h
  · rw [show min k xs.length = k by omega]
    exact List.take_of_length_le (by rw [List.length_drop]; omega)
  · rw [show min k xs.length = xs.length by omega, List.drop_length, List.drop_of_length_le h]
    exact List.take_nil
/-- a rule as a text -/
def ruleT (r : Rule) : List Nat := r.1 :: 61 :: r.2
def tailT (rs : List Rule) : List Nat := (rs.map fun r => 32 :: ruleT r).flatten
/-- a book as a text -/
def bookT (f : List Nat) (rs : List Rule) : List Nat := f ++ (58 :: tailT rs)
theorem tail_jn {r : Rule} {rs : List Rule} : tailT (r :: rs) = 32 :: jn ((r :: rs).map ruleT) := by
  induction rs generalizing r with
  | nil => simp [tailT, ruleT, joinL]
  | cons q rs ih =>
    rw [List.map_cons, jn_cons _ (by simp), ← ih]
    simp [tailT, ruleT]
theorem rule_nosp {f : List Nat} {rs : List Rule} (w : Wf f rs) : ∀ p ∈ rs.map ruleT, (32 : Nat) ∉ p := by
  intro p hp
  obtain ⟨r, hr, rfl⟩ := List.mem_map.mp hp
  intro z
  have key : ∀ c ∈ rs.map (·.1), c ≠ 32 := fun c hc => by
    obtain ⟨q, hq, rfl⟩ := List.mem_map.mp hc
    have := (w.low q hq).1
    omega
  rcases List.mem_cons.mp z with e | z
  · exact key _ (List.mem_map.mpr ⟨r, hr, rfl⟩) e.symm
  · rcases List.mem_cons.mp z with e | z
    · omega
    · exact key _ ((w.wd r hr).2 _ z) rfl
theorem first_nocolon {f : List Nat} {rs : List Rule} (w : Wf f rs) : (58 : Nat) ∉ f := fun z => by
  obtain ⟨q, hq, e⟩ := List.mem_map.mp (w.fk _ z)
  have := (w.low q hq).1
  omega
theorem tail_len {f : List Nat} {rs : List Rule} (w : Wf f rs) : (tailT rs).length ≤ 72 := by
  have h1 : ∀ l : List Rule, (∀ r ∈ l, r.2.length ≤ 6) → (tailT l).length ≤ l.length * 9 := by
    intro l
    induction l with
    | nil => intro _; exact Nat.le_refl _
    | cons r l ih =>
      intro h
      have e1 := ih fun q hq => h q (List.mem_cons_of_mem _ hq)
      have e2 := h r List.mem_cons_self
      have e3 : tailT (r :: l) = (32 :: ruleT r) ++ tailT l := rfl
      rw [e3, List.length_append, List.length_cons]
      have e4 : (ruleT r).length = r.2.length + 2 := rfl
      rw [List.length_cons]
      omega
  have h2 := h1 rs fun r hr => (w.wd r hr).1
  have := w.few
  omega
section
variable {P : Program} {w : World} {K : PySem.W.Frag} {mg : Str → Option Value} {base : Heap} {C aF : Addr}
def sp_rules_in : Sp := sp1 fun v H Q => ∃ A rs, v = .ref A ∧ H A = some (.lst ((rs.map ruleT).map fun l => V.str (T l))) ∧ rs.length ≤ 8 ∧ (∀ r ∈ rs, r.2.length ≤ 6) ∧ ∀ H' p, Same H H' → RulesAt H' p rs → Q (.ref p) H'
theorem sc_rules_in : FnScope ["words", "rules", "one"] ["words"] (defScope s_rules_in) := ⟨rfl, rfl, rfl, by decide +kernel, rfl, by decide +kernel, by decide +kernel⟩
theorem has_rules_in {k : Nat} (S : Src K mg "rules_in" s_rules_in) (TX : Txt K mg w C aF)  : Has P w K mg base (k + 1) "rules_in" ["words"] (sp_rules_in) := by
  refine has_of S sc_rules_in (fun _ _ _ _ _ _ us hl => match us, hl with | [_], _ => rfl) (fun vs H Q E h => sp1_len h) (fun f cdv A outer s H vs Q E hr h => ?_)
  · obtain ⟨v0, rfl, h⟩ := h
    have hu := hu_of hr
    refine ⟨_, (pss_cons (ps_set (i := 1) sc_rules_in.nd rfl (Or.inl rfl) (pe_lst pa_nil))
    (pss_cons (ps_for PassesOwn.never rfl (pi_list (pv 0)) (pg_name (i := 2) sc_rules_in.nd rfl (Or.inl rfl))
      (pss_cons (ps_if (pt_cmpR op_ne (pe_slice sl_str (pv 2) (po_some pe_int) (po_some pe_int)) pe_str (nomark _)) (pss_one ps_never) pss_nil)
    (pss_one (ps_expr (pe_bm PySem.F.plainAttrs_list PySem.F.slot_list_append PySem.F.type_list_append mt_append (pv 1) (pa_cons (pe_tup (pa_cons (pe_ix ix_str (pv 2) pe_int (fun _ _ => rfl)) (pa_cons (pe_slice sl_str (pv 2) (po_some pe_int) po_none) pa_nil))) pa_nil))))))
    (pss_one (ps_ret (pe_callTy call_tuple_of (by rfl) TX.tuple (by decide +kernel) (pa_cons (pv 1) pa_nil)))))), ?_⟩
    obtain ⟨A, rs, rfl, hA, few, hw, q⟩ := h
    refine ⟨Nat.zero_le _, fun D hD => ?_⟩
    have s1 : Same H (upd H D (.lst [])) := Same.new hD
    refine ⟨_, rfl, A, rfl, ⟨_, SqL.of (s1 _ _ hA)⟩, ?_⟩
    refine for_it (walk_list (xs := (rs.map ruleT).map fun l => V.str (T l))) (fun i σ H' => ∃ y, σ = [some (.ref A), some (.ref D), y] ∧ Same H H' ∧ ∃ ds, H' D = some (.lst ds) ∧ Paired (RuleAt H') ds (rs.take i)) ⟨none, rfl, s1, [], upd_same, .nil⟩ (fun i σ H' _ ⟨_, _, s, _⟩ => SqL.of (s _ _ hA)) ?_ ?_
    · rintro i x σ H2 H3 hi ⟨y, rfl, s2, ds, hds, hp⟩ ⟨rfl, hx⟩
      rw [List.getElem?_map, List.getElem?_map] at hx
      cases e : rs[i]? with
      | none =>
        rw [e] at hx
        cases hx
      | some r =>
        rw [e] at hx
        have ex : V.str (T (ruleT r)) = x := Option.some.inj hx
        subst ex
        have hm := hw r (List.mem_of_getElem? e)
        have l1 : (T (ruleT r)).length ≤ sizeLine := T_sz (by show (ruleT r).length ≤ 100000; have e4 : (ruleT r).length = r.2.length + 2 := rfl; omega)
        refine ⟨_, rfl, 1, rfl, 2, rfl, _, rfl, l1, rfl, _, rfl, ?_⟩
        rw [show ruleT r = r.1 :: 61 :: r.2 from rfl] at l1 ⊢
        rw [cut_1_2]
        refine ibF (by decide +kernel) ?_
        refine ⟨_, rfl, .inl ⟨rfl, _, SqL.of hds⟩, ?_⟩
        refine ⟨_, rfl, _, (0 : Int), r.1, rfl, rfl, l1, (by show atI (r.1 :: 61 :: r.2) 0 = some r.1; exact atI_nat (j := 0) rfl), _, rfl, 2, rfl, _, rfl, l1, (by show 2 ≤ sizeLine; decide), fun p hp3 => ?_⟩
        rw [cut_2]
        have s3 : Same H3 (upd H3 p (.tup [.str ⟨#[r.1]⟩, .str (T r.2)])) := Same.new hp3
        have hds3 := s3 _ _ hds
        refine ⟨D, ds, _, rfl, rfl, hds3, ?_, ?_⟩
        · have := paired_len hp
          rw [List.length_take] at this
          exact le_small (by omega)
        · refine ⟨_, rfl, Same.mut (s2.trans s3) hD, _, upd_same, ?_⟩
          rw [take_more e]
          exact paired_app (Paired.mapP hp fun _ _ z => z.mono fun a xs h => mut_tups hds3 a xs (s3 _ _ h)) ⟨p, rfl, mut_tups hds3 _ _ upd_same⟩
    · rintro σ H2 ⟨y, rfl, s2, ds, hds, hp⟩
      rw [List.length_map, List.length_map, List.take_length] at hp
      refine ⟨_, rfl, D, ds, rfl, .inl ⟨SqL.of hds, fun p hp2 => ?_⟩⟩
      have s3 : Same H2 (upd H2 p (.tup ds)) := Same.new hp2
      exact q _ p (s2.trans s3) ⟨ds, upd_same, Paired.mapP hp fun _ _ z => z.mono (Same.tups s3)⟩
end
end G

/-! A book's text read; ways told. -/
namespace G
open PySem PySem.Spec PyProof.Rows L2 TL

theorem colon_T : tl (Str.ofString ":") = 58 :: [] := by decide +kernel
theorem part_book {f : List Nat} {rs : List Rule} (w : Wf f rs) : Txt.partition (T (bookT f rs)) (Str.ofString ":") = (T f, Str.ofString ":", T (tailT rs)) := by
  have e : T (bookT f rs) = T f ++ Str.ofString ":" ++ T (tailT rs) := ext_tl (by rw [tl_append, tl_append, colon_T, tl_T, tl_T, tl_T]; simp [bookT])
  rw [e]
  exact partition_app colon_T (by rw [tl_T]; exact first_nocolon w)
theorem nil_T : (Str.ofString "" : Str) = T [] := by decide +kernel
theorem eqS (a b : List Nat) : decide (V.str (T a) = V.str (T b)) = decide (a = b) := by
  by_cases h : a = b
  · rw [h]
    simp
  · rw [decide_eq_false h, decide_eq_false fun z => h (T_inj (V.str.inj z))]
section
variable {P : Program} {w : World} {K : PySem.W.Frag} {mg : Str → Option Value} {base : Heap} {C aF : Addr}
def sp_read_book : Sp := sp1 fun v H Q => ∃ f rs, v = .str (T (bookT f rs)) ∧ Wf f rs ∧ ∀ H' p, Same H H' → BookAt H' p f rs → Q (.ref p) H'
theorem sc_read_book : FnScope ["text", "first", "colon", "rest", "rules"] ["text"] (defScope s_read_book) := ⟨rfl, rfl, rfl, by decide +kernel, rfl, by decide +kernel, by decide +kernel⟩
theorem has_read_book {k : Nat} (S : Src K mg "read_book" s_read_book) (TX : Txt K mg w C aF) (h_rules_in : Has P w K mg base k "rules_in" ["words"] (sp_rules_in)) (h_is_book : Has P w K mg base k "is_book" ["thing"] (sp_is_book)) : Has P w K mg base (k + 1) "read_book" ["text"] (sp_read_book) := by
  refine has_of S sc_read_book (fun _ _ _ _ _ _ us hl => match us, hl with | [_], _ => rfl) (fun vs H Q E h => sp1_len h) (fun f cdv A outer s H vs Q E hr h => ?_)
  · obtain ⟨v0, rfl, h⟩ := h
    have hu := hu_of hr
    obtain ⟨a_rules_in, fd_rules_in, mg_rules_in, kp_rules_in, bd_rules_in, ok_rules_in⟩ := h_rules_in.ex
    obtain ⟨a_is_book, fd_is_book, mg_is_book, kp_is_book, bd_is_book, ok_is_book⟩ := h_is_book.ex
    refine ⟨_, (pss_cons (ps_if (pt_not (pt_val (pe_callB call_isi (by rfl) TX.isinstance (by decide +kernel) (pa_cons (pv 0) (pa_cons (pe_tyn "str" (by rfl) TX.str (by decide +kernel)) pa_nil))))) (pss_one ps_never) pss_nil)
    (pss_cons (ps_asg (pe_partition (pv 0) pe_str) (pg_tup rfl (pgs_cons (pg_name (i := 1) sc_read_book.nd rfl (Or.inl rfl)) (pgs_cons (pg_name (i := 2) sc_read_book.nd rfl (Or.inl rfl)) (pgs_cons (pg_name (i := 3) sc_read_book.nd rfl (Or.inl rfl)) pgs_nil)))))
    (pss_cons (ps_if (PW.pt (pw_or (pt_cmpR op_eq (pv 2) pe_str (nomark _)) (pw_or1 (PW.pt (pw_and (pt_cmpR op_ne (pv 3) pe_str (nomark _)) (pw_and1 (pt_cmpR op_ne (pe_ix ix_str (pv 3) pe_int (fun _ _ => rfl)) pe_str (nomark _)))))))) (pss_one ps_never) pss_nil)
    (pss_cons (ps_set (i := 4) sc_read_book.nd rfl (Or.inl rfl) (pe_tup pa_nil))
    (pss_cons (ps_if (pt_cmpR op_ne (pv 3) pe_str (nomark _)) (pss_one (ps_set (i := 4) sc_read_book.nd rfl (Or.inl rfl) (pe_call ok_rules_in hr rfl mg_rules_in kp_rules_in bd_rules_in .nil pass0 (pa_cons (pe_split (pe_slice sl_str (pv 3) (po_some pe_int) po_none) pe_str) pa_nil)))) pss_nil)
    (pss_cons (ps_if (pt_not (pt_val (pe_call ok_is_book hr rfl mg_is_book kp_is_book bd_is_book .nil pass0 (pa_cons (pe_tup (pa_cons (pv 1) (pa_cons (pv 4) pa_nil))) pa_nil)))) (pss_one ps_never) pss_nil)
    (pss_one (ps_ret (pe_tup (pa_cons (pv 1) (pa_cons (pv 4) pa_nil))))))))))), ?_⟩
    obtain ⟨f, rs, rfl, wf, q⟩ := h
    have lt := tail_len wf
    have lb : (T (bookT f rs)).length ≤ sizeLine := T_sz (by
      have e : (bookT f rs).length = f.length + ((tailT rs).length + 1) := by unfold bookT; rw [List.length_append, List.length_cons]
      have := wf.fl
      omega)
    refine ⟨_, rfl, _, _, _, _, true, rfl, .ty _, .base (.str _), kit_ty (by decide +kernel), true, rfl, ibF rfl ?_⟩
    refine ⟨_, rfl, ⟨_, rfl⟩, _, _, rfl, rfl, by decide +kernel, lb, fun p hp => ?_⟩
    rw [part_book wf]
    have s1 : Same H (upd H p (.tup [.str (T f), .str (Str.ofString ":"), .str (T (tailT rs))])) := Same.new hp
    refine ⟨_, _, rfl, SqT.of upd_same, rfl, _, _, rfl, _, _, rfl, _, _, rfl, rfl, ?_⟩
    refine ⟨_, rfl, rfl, _, rfl, ibF (by show decide (V.str (Str.ofString ":") = V.str (Str.ofString "")) = false; decide +kernel) ?_⟩
    have lt2 : (T (tailT rs)).length ≤ sizeLine := T_sz (by omega)
    have le2 : 2 ≤ sizeLine := by decide
    cases rs with
    | nil =>
      have h0 : (!decide (V.str (T (tailT [])) = V.str (Str.ofString ""))) = false := by rw [nil_T, eqS]; rfl
      refine ⟨_, rfl, rfl, _, rfl, ibF h0 (ibF rfl ?_)⟩
      refine ⟨Nat.zero_le _, fun R hR0 => ?_⟩
      have s4 := s1.trans (Same.new (o := .tup []) hR0)
      refine ⟨_, rfl, rfl, _, rfl, ibF h0 ?_⟩
      refine ⟨_, rfl, _, rfl, le2, fun p2 hp2 => ?_⟩
      have s5 : Same _ _ := Same.new (o := .tup [.str (T f), .ref R]) hp2
      refine ⟨_, rfl, p2, f, [], rfl, ⟨R, upd_same, [], s5 _ _ upd_same, .nil⟩, wf, fun H6 s6 => ⟨true, rfl, ibF rfl ?_⟩⟩
      refine ⟨_, rfl, _, rfl, le2, fun p3 hp3 => ?_⟩
      have s7 : Same _ _ := Same.new (o := .tup [.str (T f), .ref R]) hp3
      exact q _ p3 (s4.trans (s5.trans (s6.trans s7))) ⟨R, upd_same, [], s7 _ _ (s6 _ _ (s5 _ _ upd_same)), .nil⟩
    | cons r rs =>
      have ej : tailT (r :: rs) = 32 :: jn ((r :: rs).map ruleT) := tail_jn
      have h0 : (!decide (V.str (T (tailT (r :: rs))) = V.str (Str.ofString ""))) = true := by rw [nil_T, eqS, ej]; rfl
      refine ⟨_, rfl, rfl, _, rfl, ibT h0 ⟨_, rfl, _, (0 : Int), 32, rfl, rfl, lt2, (by show atI (tailT (r :: rs)) 0 = some 32; exact atI_nat (j := 0) (by rw [ej]; rfl)), rfl, _, rfl, ibF (by show (!decide (V.str (T [32]) = V.str (Str.ofString " "))) = false; decide +kernel) ?_⟩⟩
      refine ⟨Nat.zero_le _, fun R0 hR0 => ?_⟩
      have s4 := s1.trans (Same.new (o := .tup []) hR0)
      refine ⟨_, rfl, rfl, _, rfl, ibT h0 ?_⟩
      rw [ej] at s4 lt lt2 ⊢
      rw [List.length_cons] at lt
      refine ⟨_, rfl, 1, rfl, _, rfl, lt2, ⟨_, rfl⟩, _, _, rfl, rfl, by decide +kernel, ?_, fun A hA => ?_⟩
      · rw [cut_1, T_len]
        have : (100000 : Nat) ≤ sizeLine := by decide
        omega
      rw [cut_1, split_sp (by simp) (rule_nosp wf), map_T_V]
      have s5 : Same _ _ := Same.new (o := .lst (((r :: rs).map ruleT).map fun l => V.str (T l))) hA
      refine ⟨_, rfl, A, r :: rs, rfl, upd_same, wf.few, fun x hx => (wf.wd x hx).1, fun H5 R s6 hR => ?_⟩
      have s7 := s4.trans (s5.trans s6)
      refine ⟨_, rfl, _, rfl, le2, fun p2 hp2 => ?_⟩
      have s8 : Same _ _ := Same.new (o := .tup [.str (T f), .ref R]) hp2
      refine ⟨_, rfl, p2, f, r :: rs, rfl, ⟨R, upd_same, hR.mono (Same.tups s8)⟩, wf, fun H6 s9 => ⟨true, rfl, ibF rfl ?_⟩⟩
      refine ⟨_, rfl, _, rfl, le2, fun p3 hp3 => ?_⟩
      have s10 : Same _ _ := Same.new (o := .tup [.str (T f), .ref R]) hp3
      exact q _ p3 (s7.trans (s8.trans (s9.trans s10))) ⟨R, upd_same, hR.mono (Same.tups (s8.trans (s9.trans s10)))⟩
/-- the words of a way told -/
def wayW (w : List (Nat × Nat)) : List (List Nat) := (w.map fun s => [[s.1], numL s.2]).flatten
theorem num_T (n : Nat) : Str.ofString (toString ((n : Nat) : Int)) = T (numL n) := T_eq (tl_num n)
theorem wayW_len (w : List (Nat × Nat)) : (wayW w).length = 2 * w.length := by
  induction w with
  | nil => rfl
  | cons a w ih =>
    show ([a.1] :: numL a.2 :: wayW w).length = _
    rw [List.length_cons, List.length_cons, ih, List.length_cons]
    omega
theorem wayW_app (w : List (Nat × Nat)) (s : Nat × Nat) : wayW (w ++ [s]) = wayW w ++ [[s.1], numL s.2] := by
  unfold wayW
  rw [List.map_append, List.flatten_append]
  rfl
theorem wayW_le (w : List (Nat × Nat)) (h : ∀ s ∈ w, s.2 < 10 ^ 3) : ((wayW w).map List.length).sum ≤ 4 * w.length := by
  induction w with
  | nil => exact Nat.le_refl _
  | cons a w ih =>
    have i1 := ih fun s hs => h s (List.mem_cons_of_mem _ hs)
    have i2 := numL_len (k := 3) (by omega) (h a List.mem_cons_self)
    show (([a.1] :: numL a.2 :: wayW w).map List.length).sum ≤ _
    rw [List.map_cons, List.map_cons, List.sum_cons, List.sum_cons, show (a :: w).length = w.length + 1 from rfl]
    have i3 : [a.1].length = 1 := rfl
    omega
theorem small_log {n : Nat} (h : n < 1000) : n.log2 < 1920 := by
  have h1 : n.log2 ≤ n := Nat.log2_le_self n
  omega
def sp_way_told : Sp := sp1 fun v H Q => ∃ L st, v = .ref L ∧ WayAt H L st ∧ st.length ≤ 301 ∧ (∀ s ∈ st, s.2 < 10 ^ 3) ∧ ∀ H', Same H H' → Q (.str (T (jn (wayW st)))) H'
theorem sc_way_told : FnScope ["found", "words", "letter", "index"] ["found"] (defScope s_way_told) := ⟨rfl, rfl, rfl, by decide +kernel, rfl, by decide +kernel, by decide +kernel⟩
theorem has_way_told {k : Nat} (S : Src K mg "way_told" s_way_told) (TX : Txt K mg w C aF)  : Has P w K mg base (k + 1) "way_told" ["found"] (sp_way_told) := by
  refine has_of S sc_way_told (fun _ _ _ _ _ _ us hl => match us, hl with | [_], _ => rfl) (fun vs H Q E h => sp1_len h) (fun f cdv A outer s H vs Q E hr h => ?_)
  · obtain ⟨v0, rfl, h⟩ := h
    have hu := hu_of hr
    refine ⟨_, (pss_cons (ps_set (i := 1) sc_way_told.nd rfl (Or.inl rfl) (pe_lst pa_nil))
    (pss_cons (ps_for PassesOwn.never rfl (pi_list (pv 0)) (pg_tup rfl (pgs_cons (pg_name (i := 2) sc_way_told.nd rfl (Or.inl rfl)) (pgs_cons (pg_name (i := 3) sc_way_told.nd rfl (Or.inl rfl)) pgs_nil)))
      (pss_cons (ps_expr (pe_bm PySem.F.plainAttrs_list PySem.F.slot_list_append PySem.F.type_list_append mt_append (pv 1) (pa_cons (pv 2) pa_nil)))
    (pss_one (ps_expr (pe_bm PySem.F.plainAttrs_list PySem.F.slot_list_append PySem.F.type_list_append mt_append (pv 1) (pa_cons (pe_callTy call_str_int (by rfl) TX.str (by decide +kernel) (pa_cons (pv 3) pa_nil)) pa_nil))))))
    (pss_one (ps_ret (pe_join pe_str (pv 1)))))), ?_⟩
    obtain ⟨L, st, rfl, ⟨ds, hL, hp⟩, few, ix, q⟩ := h
    refine ⟨Nat.zero_le _, fun D hD => ?_⟩
    have s1 : Same H (upd H D (.lst [])) := Same.new hD
    have ld := paired_len hp
    refine ⟨_, rfl, L, rfl, ⟨_, SqL.of (s1 _ _ hL)⟩, ?_⟩
    refine for_it (walk_list (xs := ds)) (fun i σ H' => ∃ y z, σ = [some (.ref L), some (.ref D), y, z] ∧ Same H H' ∧ H' D = some (.lst ((wayW (st.take i)).map fun l => V.str (T l)))) ⟨none, none, rfl, s1, upd_same⟩ (fun i σ H' _ ⟨_, _, _, s, _⟩ => SqL.of (s _ _ hL)) ?_ ?_
    · rintro i x σ H2 H3 hi ⟨y, z, rfl, s2, hl⟩ ⟨rfl, hx⟩
      obtain ⟨s, hs, a, rfl, ha⟩ := paired_at hp hx
      have len : ((wayW (st.take i)).map fun l => V.str (T l)).length = 2 * (st.take i).length := by rw [List.length_map, wayW_len]
      rw [List.length_take] at len
      refine ⟨_, _, rfl, SqT.of (s2 _ _ ha), rfl, _, _, rfl, _, _, rfl, rfl, ?_⟩
      refine ⟨_, rfl, .inl ⟨rfl, _, SqL.of hl⟩, _, rfl, D, _, _, rfl, rfl, hl, le_small (by omega), ?_⟩
      refine ⟨_, rfl, .inl ⟨rfl, _, SqL.of upd_same⟩, _, rfl, _, rfl, small_log (ix s (List.mem_of_getElem? hs)), D, _, _, rfl, rfl, upd_same, le_small (by rw [List.length_append, len]; show _ + 1 ≤ 1000; omega), ?_⟩
      refine ⟨_, _, rfl, Same.mut (Same.mut s2 hD) hD, ?_⟩
      rw [upd_same, take_more hs, wayW_app, List.map_append, num_T, List.append_assoc]
      rfl
    · rintro σ H2 ⟨y, z, rfl, s2, hl⟩
      rw [ld, List.take_length] at hl
      rw [← map_T_V] at hl
      refine ⟨⟨_, rfl⟩, _, rfl, _, D, (wayW st).map T, rfl, rfl, .inl (SqL.of hl), ?_, ?_⟩
      · have h1 := wayW_le st ix
        have h2 : (Str.ofString " ").length = 1 := by decide +kernel
        have h3 : ((wayW st).map T).map (·.length) = (wayW st).map List.length := by
          rw [List.map_map]
          exact List.map_congr_left fun l _ => T_len l
        rw [h2, h3, List.length_map, wayW_len]
        omega
      · rw [join_sp]
        exact q _ s2
end
end G

/-! Rows of the desk: their words; what they tell. -/
namespace G
open PySem PySem.Spec PyProof.Rows L2 TL

abbrev strV (l : List Nat) : V := .str (T l)
abbrev tk (s : String) : List Nat := s.toList.map Char.toNat
/-- parts of a row -/
structure Parts (ps : List (List Nat)) : Prop where
  free : ∀ p ∈ ps, (32 : Nat) ∉ p
  len : (ps.map List.length).sum ≤ 1000
  few : ps.length ≤ 1000
theorem jn_len : ∀ ps : List (List Nat), (jn ps).length ≤ (ps.map List.length).sum + ps.length
  | [] => Nat.le_refl _
  | p :: ps => by
    have ih := jn_len ps
    rw [List.map_cons, List.sum_cons, List.length_cons]
    cases ps with
    | nil =>
      show p.length ≤ _
      omega
    | cons q r =>
      rw [jn_cons p (by simp), List.length_append, List.length_cons]
      omega
theorem Parts.sz {ps : List (List Nat)} (h : Parts ps) : (T (jn ps)).length + 2 ≤ sizeLine := by
  have h1 := jn_len ps
  have h2 := h.len
  have h3 := h.few
  have h4 : (100000 : Nat) ≤ sizeLine := by decide
  rw [T_len]
  omega
theorem Parts.tail {p : List Nat} {ps : List (List Nat)} (h : Parts (p :: ps)) : Parts ps := by
  refine ⟨fun q hq => h.free q (List.mem_cons_of_mem _ hq), ?_, ?_⟩
  · have := h.len
    rw [List.map_cons, List.sum_cons] at this
    omega
  · have := h.few
    rw [List.length_cons] at this
    omega
theorem cutV_1 (xs : List V) : cutV xs (some 1) none = xs.drop 1 := cutV_drop xs 1
theorem cutV_2 (xs : List V) : cutV xs (some 2) none = xs.drop 2 := cutV_drop xs 2
theorem int_text {n : Nat} (h : (numL n).length ≤ 300) : PySem.intText? (T (numL n)) = some (n : Int) := by
  rw [← num_T]
  exact int_num (by omega)
def FormAt (K : PySem.W.Frag) (aF : Addr) (deed form : List Nat) : Prop := ∃ u, PySem.W.nsIn K aF (T deed) = some (some u) ∧ RelV (.str (T form)) u
theorem kdct {K : PySem.W.Frag} {w : World} {aF : Addr} {es : Array DictEntry} {n : Nat} {deed form : List Nat} (D : KDict K w aF es n) (h : FormAt K aF deed form) : KDct K w aF (T deed) (.str (T form)) := by
  obtain ⟨u, h1, h2⟩ := h
  exact ⟨es, n, u, D.at_, D.lit, h1, h2⟩
theorem goes_ix {f : List Nat} {rs : List Rule} (wf : Wf f rs) {n : Nat} {text : List Nat} {left : Int} {st : List (Nat × Nat)} {d : Nat} (h : Goes rs n text left st d) : text.length ≤ 12 → ∀ s ∈ st, s.2 < 10 ^ 3 := by
  induction h with
  | last h1 h2 =>
    intro hl s hs
    rw [List.mem_singleton.mp hs]
    obtain ⟨hi, _⟩ := List.getElem?_eq_some_iff.mp h1
    show _ < 10 ^ 3
    omega
  | step h1 h2 h3 ih =>
    intro hl s hs
    rcases List.mem_cons.mp hs with e | e
    · rw [e]
      obtain ⟨hi, _⟩ := List.getElem?_eq_some_iff.mp h1
      show _ < 10 ^ 3
      omega
    · exact ih (by have := word_le wf; exact Nat.le_trans (this _) (by omega)) s e
theorem tot_log {f : List Nat} {rs : List Rule} (wf : Wf f rs) {n : Nat} (hn : n ≤ 300) : (tot rs n f).natAbs.log2 < 1920 := by
  have h1 := tot_le wf hn wf.fl
  have h2 := tot_nonneg rs n f
  have h3 : (tot rs n f).natAbs < 2 ^ 1920 := by
    have e : (12 : Nat) * 6 ^ 300 < 2 ^ 1920 := by decide +kernel
    have e2 : ((tot rs n f).natAbs : Int) ≤ ((12 * 6 ^ 300 : Nat) : Int) := by
      rw [Int.natAbs_of_nonneg h2]
      exact h1
    exact Nat.lt_of_le_of_lt (Int.ofNat_le.mp e2) e
  by_cases z : (tot rs n f).natAbs = 0
  · rw [z]
    decide
  · exact (Nat.log2_lt z).mpr h3
theorem tot_str {f : List Nat} {rs : List Rule} (n : Nat) : Str.ofString (toString (tot rs n f)) = T (numL (tot rs n f).toNat) := by
  have e : ((tot rs n f).toNat : Int) = tot rs n f := Int.toNat_of_nonneg (tot_nonneg rs n f)
  have e2 := num_T (tot rs n f).toNat
  rw [e] at e2
  exact e2
section
variable {P : Program} {w : World} {K : PySem.W.Frag} {mg : Str → Option Value} {base : Heap} {C aF : Addr}
def sp_told_book : Sp := sp1 fun v H Q => ∃ bk nm rest, v = .str (T (jn (bk :: nm :: rest))) ∧ rest ≠ [] ∧ NameOk nm ∧ Parts (bk :: nm :: rest) ∧
  ∀ H' p, Same H H' → H p = none → H' p = some (.lst [strV bk, strV nm, strV (jn rest)]) → Q (.ref p) H'
theorem sc_told_book : FnScope ["text", "parts"] ["text"] (defScope s_told_book) := ⟨rfl, rfl, rfl, by decide +kernel, rfl, by decide +kernel, by decide +kernel⟩
theorem has_told_book {k : Nat} (S : Src K mg "told_book" s_told_book) (TX : Txt K mg w C aF) (h_is_name : Has P w K mg base k "is_name" ["text"] (sp_is_name)) : Has P w K mg base (k + 1) "told_book" ["text"] (sp_told_book) := by
  refine has_of S sc_told_book (fun _ _ _ _ _ _ us hl => match us, hl with | [_], _ => rfl) (fun vs H Q E h => sp1_len h) (fun f cdv A outer s H vs Q E hr h => ?_)
  · obtain ⟨v0, rfl, h⟩ := h
    have hu := hu_of hr
    obtain ⟨a_is_name, fd_is_name, mg_is_name, kp_is_name, bd_is_name, ok_is_name⟩ := h_is_name.ex
    refine ⟨_, (pss_cons (ps_set (i := 1) sc_told_book.nd rfl (Or.inl rfl) (pe_split (pv 0) pe_str))
    (pss_cons (ps_if (PW.pt (pw_or (pt_cmpR op_lt (pe_callB (len_seqK K) (by rfl) TX.len (by decide +kernel) (pa_cons (pv 1) pa_nil)) pe_int (nomark _)) (pw_or1 (pt_not (pt_val (pe_call ok_is_name hr rfl mg_is_name kp_is_name bd_is_name .nil pass0 (pa_cons (pe_ix (ix_listK K) (pv 1) pe_int (fun _ _ => rfl)) pa_nil))))))) (pss_one ps_never) pss_nil)
    (pss_one (ps_ret (pe_lst (pa_cons (pe_ix (ix_listK K) (pv 1) pe_int (fun _ _ => rfl)) (pa_cons (pe_ix (ix_listK K) (pv 1) pe_int (fun _ _ => rfl)) (pa_cons (pe_join pe_str (pe_slice sl_list (pv 1) (po_some pe_int) po_none)) pa_nil)))))))), ?_⟩
    obtain ⟨bk, nm, rest, rfl, ne, hn, hp, q⟩ := h
    refine ⟨_, rfl, ⟨_, rfl⟩, _, _, rfl, rfl, by decide +kernel, hp.sz, fun A hA => ?_⟩
    rw [split_sp (by simp) hp.free, map_T_V]
    have s1 : Same H (upd H A (.lst ((bk :: nm :: rest).map fun l => V.str (T l)))) := Same.new hA
    have hl : SqL K (upd H A (.lst ((bk :: nm :: rest).map fun l => V.str (T l)))) A _ := SqL.of upd_same
    refine ⟨_, rfl, A, _, rfl, .inl hl, _, _, rfl, rfl, _, rfl, ibF (decide_eq_false ?_) ?_⟩
    · cases rest with
      | nil => exact absurd rfl ne
      | cons a b => simp only [List.length_map, List.length_cons]; omega
    refine ⟨_, rfl, A, _, (1 : Int), _, rfl, rfl, hl, atI_nat (j := 1) rfl, _, rfl, nm, rfl, hn, true, rfl, ibF rfl ?_⟩
    refine ⟨_, rfl, A, _, (0 : Int), _, rfl, rfl, hl, atI_nat (j := 0) rfl, _, rfl, A, _, (1 : Int), _, rfl, rfl, hl, atI_nat (j := 1) rfl, ⟨_, rfl⟩, _, rfl, 2, rfl, A, _, rfl, hl, fun p hp2 => ?_⟩
    rw [cutV_2]
    have s2 := s1.trans (Same.new (o := .lst (((bk :: nm :: rest).map fun l => V.str (T l)).drop 2)) hp2)
    refine ⟨_, p, rest.map T, rfl, rfl, .inl ?_, ?_, ?_⟩
    · rw [map_T_V]
      exact SqL.of upd_same
    · have h2 : (Str.ofString " ").length = 1 := by decide +kernel
      have h3 : (rest.map T).map (·.length) = rest.map List.length := by
        rw [List.map_map]
        exact List.map_congr_left fun l _ => T_len l
      rw [h2, h3, List.length_map]
      have h4 := hp.tail.tail.len
      have h5 := hp.tail.tail.few
      omega
    · rw [join_sp]
      refine ⟨by show 3 ≤ sizeLine; decide, fun p3 hp3 => ?_⟩
      have s3 := s2.trans (Same.new (o := .lst [strV bk, strV nm, strV (jn rest)]) hp3)
      exact q _ p3 s3 (s2.free hp3) upd_same
def sp_words_in (K : PySem.W.Frag) (aF : Addr) : Sp := sp1 fun v H Q =>
  (∃ nm rest, v = .str (T (jn (tk "book" :: nm :: rest))) ∧ rest ≠ [] ∧ NameOk nm ∧ Parts (tk "book" :: nm :: rest) ∧
    ∀ H' p, Same H H' → H p = none → H' p = some (.lst [strV (tk "book"), strV nm, strV (jn rest)]) → Q (.ref p) H') ∨
  (∃ deed form ws, v = .str (T (jn (deed :: ws))) ∧ deed ≠ tk "book" ∧ FormAt K aF deed form ∧ Paired WordOk form ws ∧ Parts (deed :: ws) ∧
    ∀ H' p, Same H H' → H p = none → H' p = some (.lst ((deed :: ws).map strV)) → Q (.ref p) H')
theorem book_T : (Str.ofString "book" : Str) = T (tk "book") := T_str "book"
theorem sc_words_in : FnScope ["text", "parts", "form", "one"] ["text"] (defScope s_words_in) := ⟨rfl, rfl, rfl, by decide +kernel, rfl, by decide +kernel, by decide +kernel⟩
theorem has_words_in {k : Nat} (S : Src K mg "words_in" s_words_in) (TX : Txt K mg w C aF) (h_told_book : Has P w K mg base k "told_book" ["text"] (sp_told_book)) (h_is_word_of : Has P w K mg base k "is_word_of" ["form", "text"] (sp_is_word_of)) : Has P w K mg base (k + 1) "words_in" ["text"] (sp_words_in K aF) := by
  refine has_of S sc_words_in (fun _ _ _ _ _ _ us hl => match us, hl with | [_], _ => rfl) (fun vs H Q E h => sp1_len h) (fun f cdv A outer s H vs Q E hr h => ?_)
  · obtain ⟨v0, rfl, h⟩ := h
    have hu := hu_of hr
    obtain ⟨a_told_book, fd_told_book, mg_told_book, kp_told_book, bd_told_book, ok_told_book⟩ := h_told_book.ex
    obtain ⟨a_is_word_of, fd_is_word_of, mg_is_word_of, kp_is_word_of, bd_is_word_of, ok_is_word_of⟩ := h_is_word_of.ex
    obtain ⟨esF, nF, kdF⟩ := TX.kd
    refine ⟨_, (pss_cons (ps_if (pt_not (pt_val (pe_callB call_isi (by rfl) TX.isinstance (by decide +kernel) (pa_cons (pv 0) (pa_cons (pe_tyn "str" (by rfl) TX.str (by decide +kernel)) pa_nil))))) (pss_one ps_never) pss_nil)
    (pss_cons (ps_set (i := 1) sc_words_in.nd rfl (Or.inl rfl) (pe_split (pv 0) pe_str))
    (pss_cons (ps_if (pt_cmpR op_eq (pe_ix (ix_listK K) (pv 1) pe_int (fun _ _ => rfl)) pe_str (nomark _)) (pss_one (ps_ret (pe_call ok_told_book hr rfl mg_told_book kp_told_book bd_told_book .nil pass0 (pa_cons (pv 0) pa_nil)))) pss_nil)
    (pss_cons (ps_if (PW.pt (pw_or (pt_cmpR (op_notIn_kd kdF) (pe_ix (ix_listK K) (pv 1) pe_int (fun _ _ => rfl)) (pe_gR TX.g_FORMS) rfl) (pw_or1 (pt_cmpR op_ne (pe_callB (len_seqK K) (by rfl) TX.len (by decide +kernel) (pa_cons (pv 1) pa_nil)) (pe_op op_add (pe_callB call_len_str (by rfl) TX.len (by decide +kernel) (pa_cons (pe_ix ix_kdict (pe_gR TX.g_FORMS) (pe_ix (ix_listK K) (pv 1) pe_int (fun _ _ => rfl)) (fun _ _ => rfl)) pa_nil)) pe_int) (nomark _))))) (pss_one ps_never) pss_nil)
    (pss_cons (ps_for PassesOwn.never rfl (pi_zipS (by rfl) TX.zip (pa_cons (pe_ix ix_kdict (pe_gR TX.g_FORMS) (pe_ix (ix_listK K) (pv 1) pe_int (fun _ _ => rfl)) (fun _ _ => rfl)) (pa_cons (pe_slice sl_list (pv 1) (po_some pe_int) po_none) pa_nil))) (pg_tup rfl (pgs_cons (pg_name (i := 2) sc_words_in.nd rfl (Or.inl rfl)) (pgs_cons (pg_name (i := 3) sc_words_in.nd rfl (Or.inl rfl)) pgs_nil)))
      (pss_one (ps_if (pt_not (pt_val (pe_call ok_is_word_of hr rfl mg_is_word_of kp_is_word_of bd_is_word_of .nil pass0 (pa_cons (pv 2) (pa_cons (pv 3) pa_nil))))) (pss_one ps_never) pss_nil)))
    (pss_one (ps_ret (pv 1)))))))), ?_⟩
    rcases h with ⟨nm, rest, rfl, ne, hn, hp, q⟩ | ⟨deed, form, ws, rfl, nb, hf, hw, hp, q⟩
    · refine ⟨_, rfl, _, _, _, _, true, rfl, .ty _, .base (.str _), kit_ty (by decide +kernel), true, rfl, ibF rfl ?_⟩
      refine ⟨_, rfl, ⟨_, rfl⟩, _, _, rfl, rfl, by decide +kernel, hp.sz, fun A hA => ?_⟩
      rw [split_sp (by simp) hp.free, map_T_V]
      have s1 : Same H (upd H A (.lst ((tk "book" :: nm :: rest).map fun l => V.str (T l)))) := Same.new hA
      refine ⟨_, rfl, A, _, (0 : Int), _, rfl, rfl, SqL.of upd_same, atI_nat (j := 0) rfl, rfl, _, rfl, ibT (decide_eq_true (by rw [book_T])) ?_⟩
      exact ⟨_, rfl, _, rfl, _, nm, rest, rfl, ne, hn, hp, fun H' p s2 np hl => q H' p (s1.trans s2) (s1.free np) hl⟩
    · have hD := kdct kdF hf
      obtain ⟨u, hu1, hu2⟩ := id hf
      refine ⟨_, rfl, _, _, _, _, true, rfl, .ty _, .base (.str _), kit_ty (by decide +kernel), true, rfl, ibF rfl ?_⟩
      refine ⟨_, rfl, ⟨_, rfl⟩, _, _, rfl, rfl, by decide +kernel, hp.sz, fun A hA => ?_⟩
      rw [split_sp (by simp) hp.free, map_T_V]
      have s1 : Same H (upd H A (.lst ((deed :: ws).map fun l => V.str (T l)))) := Same.new hA
      have hl : SqL K (upd H A (.lst ((deed :: ws).map fun l => V.str (T l)))) A _ := SqL.of upd_same
      refine ⟨_, rfl, A, _, (0 : Int), _, rfl, rfl, hl, atI_nat (j := 0) rfl, rfl, _, rfl, ibF (by rw [book_T, eqS]; exact decide_eq_false nb) ?_⟩
      have lf := paired_len hw
      have few := hp.few
      rw [List.length_cons] at few
      have lz : (T form).length ≤ sizeLine := T_sz (by omega)
      refine ⟨_, rfl, A, _, (0 : Int), _, rfl, rfl, hl, atI_nat (j := 0) rfl, _, _, rfl, rfl, hu1, _, rfl, ibF rfl ?_⟩
      refine ⟨_, rfl, A, _, rfl, .inl hl, _, rfl, A, _, (0 : Int), _, rfl, rfl, hl, atI_nat (j := 0) rfl, aF, T deed, _, rfl, rfl, hD, _, rfl, lz, _, _, rfl, rfl, rfl, _, rfl, ibF ?_ ?_⟩
      · rw [T_len, lf]
        simp
      refine ⟨_, rfl, A, _, (0 : Int), _, rfl, rfl, hl, atI_nat (j := 0) rfl, aF, T deed, _, rfl, rfl, hD, _, rfl, 1, rfl, A, _, rfl, hl, fun B hB => ?_⟩
      rw [cutV_1]
      have s2 := s1.trans (Same.new (o := .lst (((deed :: ws).map fun l => V.str (T l)).drop 1)) hB)
      refine ⟨_, B, _, rfl, SqL.of upd_same, for_it (walk_zipS (l := form) (ys := ((deed :: ws).map fun l => V.str (T l)).drop 1) (by rw [lf]; simp)) (fun i σ H' => ∃ y z, σ = [some (.str (T (jn (deed :: ws)))), some (.ref A), y, z] ∧ Same (upd (upd H A (.lst ((deed :: ws).map fun l => V.str (T l)))) B (.lst (((deed :: ws).map fun l => V.str (T l)).drop 1))) H') ⟨none, none, rfl, Same.refl _⟩ (fun i σ H' _ ⟨_, _, _, s⟩ => SqL.of (s _ _ upd_same)) ?_ ?_⟩
      · rintro i x σ H2 H3 hi ⟨y, z, rfl, s3⟩ ⟨Tp, c, one, rfl, hTp, rfl, hc, hy⟩
        obtain ⟨l, hl2, hwk⟩ := paired_at hw hc
        have e1 : one = V.str (T l) := by
          have e2 : (((deed :: ws).map fun l => V.str (T l)).drop 1) = ws.map fun l => V.str (T l) := rfl
          rw [e2, List.getElem?_map, hl2] at hy
          exact (Option.some.inj hy).symm
        subst e1
        refine ⟨_, _, rfl, SqT.of upd_same, rfl, _, _, rfl, _, _, rfl, rfl, ?_⟩
        refine ⟨_, rfl, _, rfl, _, _, rfl, c, l, rfl, rfl, hwk, true, rfl, ibF rfl ?_⟩
        exact ⟨_, _, rfl, s3.trans (Same.new hTp)⟩
      · rintro σ H2 ⟨y, z, rfl, s3⟩
        refine ⟨_, rfl, q _ A (s2.trans s3) hA (s3 _ _ ?_)⟩
        rw [upd_ne (ne_of_none upd_same hB), upd_same]
def sp_row_told : Sp := sp3 fun v0 v1 v2 H Q => ∃ b f rs W nm n, v1 = .ref b ∧ v2 = .ref W ∧ n ≤ 300 ∧ (numL n).length ≤ 300 ∧ BookAt H b f rs ∧ Wf f rs ∧
  ((v0 = strV (tk "length") ∧ H W = some (.lst [strV (tk "length"), strV nm, strV (numL n)]) ∧ ∀ H', Same H H' → Q (strV (numL (tot rs n f).toNat)) H') ∨
   (∃ left : Nat, v0 = strV (tk "letter") ∧ H W = some (.lst [strV (tk "letter"), strV nm, strV (numL n), strV (numL left)]) ∧ (numL left).length ≤ 300 ∧ (left : Int) < tot rs n f ∧ ∀ H' d, Same H H' → Goes rs n f left (wayD rs n f left) d → Q (strV [d]) H') ∨
   (∃ left : Nat, v0 = strV (tk "way") ∧ H W = some (.lst [strV (tk "way"), strV nm, strV (numL n), strV (numL left)]) ∧ (numL left).length ≤ 300 ∧ (left : Int) < tot rs n f ∧ ∀ H', Same H H' → Q (strV (jn (wayW (wayD rs n f left)))) H'))
theorem eqStr (s : String) (a : List Nat) : decide (V.str (T a) = V.str (Str.ofString s)) = decide (a = tk s) := by
  rw [T_str, eqS]
theorem sc_row_told : FnScope ["deed", "book", "words"] ["deed", "book", "words"] (defScope s_row_told) := ⟨rfl, rfl, rfl, by decide +kernel, rfl, by decide +kernel, by decide +kernel⟩
theorem has_row_told {k : Nat} (S : Src K mg "row_told" s_row_told) (TX : Txt K mg w C aF) (h_length : Has P w K mg base k "length" ["book", "age"] (sp_length)) (h_letter_at : Has P w K mg base k "letter_at" ["book", "age", "place"] (sp_letter_at)) (h_way_told : Has P w K mg base k "way_told" ["found"] (sp_way_told)) (h_way : Has P w K mg base k "way" ["book", "age", "place"] (sp_way)) : Has P w K mg base (k + 1) "row_told" ["deed", "book", "words"] (sp_row_told) := by
  refine has_of S sc_row_told (fun _ _ _ _ _ _ us hl => match us, hl with | [_, _, _], _ => rfl) (fun vs H Q E h => sp3_len h) (fun f cdv A outer s H vs Q E hr h => ?_)
  · obtain ⟨v0, v1, v2, rfl, h⟩ := h
    have hu := hu_of hr
    obtain ⟨a_length, fd_length, mg_length, kp_length, bd_length, ok_length⟩ := h_length.ex
    obtain ⟨a_letter_at, fd_letter_at, mg_letter_at, kp_letter_at, bd_letter_at, ok_letter_at⟩ := h_letter_at.ex
    obtain ⟨a_way_told, fd_way_told, mg_way_told, kp_way_told, bd_way_told, ok_way_told⟩ := h_way_told.ex
    obtain ⟨a_way, fd_way, mg_way, kp_way, bd_way, ok_way⟩ := h_way.ex
    refine ⟨_, (pss_cons (ps_if (pt_cmpR op_eq (pv 0) pe_str (nomark _)) (pss_one ps_never) pss_nil)
    (pss_cons (ps_if (pt_cmpR op_eq (pv 0) pe_str (nomark _)) (pss_one (ps_ret (pe_callTy call_str_int (by rfl) TX.str (by decide +kernel) (pa_cons (pe_call ok_length hr rfl mg_length kp_length bd_length .nil pass0 (pa_cons (pv 1) (pa_cons (pe_callTy call_int_str (by rfl) TX.int (by decide +kernel) (pa_cons (pe_ix (ix_listK K) (pv 2) pe_int (fun _ _ => rfl)) pa_nil)) pa_nil))) pa_nil)))) pss_nil)
    (pss_cons (ps_if (pt_cmpR op_eq (pv 0) pe_str (nomark _)) (pss_one ps_never) pss_nil)
    (pss_cons (ps_if (pt_cmpR op_eq (pv 0) pe_str (nomark _)) (pss_one (ps_ret (pe_call ok_letter_at hr rfl mg_letter_at kp_letter_at bd_letter_at .nil pass0 (pa_cons (pv 1) (pa_cons (pe_callTy call_int_str (by rfl) TX.int (by decide +kernel) (pa_cons (pe_ix (ix_listK K) (pv 2) pe_int (fun _ _ => rfl)) pa_nil)) (pa_cons (pe_callTy call_int_str (by rfl) TX.int (by decide +kernel) (pa_cons (pe_ix (ix_listK K) (pv 2) pe_int (fun _ _ => rfl)) pa_nil)) pa_nil)))))) pss_nil)
    (pss_one (ps_ret (pe_call ok_way_told hr rfl mg_way_told kp_way_told bd_way_told .nil pass0 (pa_cons (pe_call ok_way hr rfl mg_way kp_way bd_way .nil pass0 (pa_cons (pv 1) (pa_cons (pe_callTy call_int_str (by rfl) TX.int (by decide +kernel) (pa_cons (pe_ix (ix_listK K) (pv 2) pe_int (fun _ _ => rfl)) pa_nil)) (pa_cons (pe_callTy call_int_str (by rfl) TX.int (by decide +kernel) (pa_cons (pe_ix (ix_listK K) (pv 2) pe_int (fun _ _ => rfl)) pa_nil)) pa_nil)))) pa_nil)))))))), ?_⟩
    obtain ⟨b, f, rs, W, nm, n, rfl, rfl, hn, hz, hB, wf, h⟩ := h
    have z640 : ∀ {l : List Nat}, l.length ≤ 300 → (T l).length ≤ 640 := fun {l} h => by rw [T_len]; omega
    rcases h with ⟨rfl, hW, q⟩ | ⟨left, rfl, hW, hl, h1, q⟩ | ⟨left, rfl, hW, hl, h1, q⟩
    · refine ⟨_, rfl, rfl, _, rfl, ibF (by rw [eqStr]; decide) ?_⟩
      refine ⟨_, rfl, rfl, _, rfl, ibT (by rw [eqStr]; decide) ?_⟩
      refine ⟨_, rfl, _, rfl, W, _, (2 : Int), _, rfl, rfl, SqL.of hW, atI_nat (j := 2) rfl, _, n, rfl, int_text hz, z640 hz, ?_⟩
      refine ⟨_, _, rfl, b, f, rs, n, rfl, rfl, hn, hB, wf, fun H1 s1 => ?_⟩
      refine ⟨_, rfl, tot_log wf hn, ?_⟩
      rw [tot_str (f := f) (rs := rs)]
      exact q _ s1
    · refine ⟨_, rfl, rfl, _, rfl, ibF (by rw [eqStr]; decide) ?_⟩
      refine ⟨_, rfl, rfl, _, rfl, ibF (by rw [eqStr]; decide) ?_⟩
      refine ⟨_, rfl, rfl, _, rfl, ibF (by rw [eqStr]; decide) ?_⟩
      refine ⟨_, rfl, rfl, _, rfl, ibT (by rw [eqStr]; decide) ?_⟩
      obtain ⟨d, hG⟩ := goes_way rs n f left (by omega) h1
      refine ⟨_, rfl, _, rfl, W, _, (2 : Int), _, rfl, rfl, SqL.of hW, atI_nat (j := 2) rfl, _, n, rfl, int_text hz, z640 hz, ?_⟩
      refine ⟨_, rfl, W, _, (3 : Int), _, rfl, rfl, SqL.of hW, atI_nat (j := 3) rfl, _, left, rfl, int_text hl, z640 hl, ?_⟩
      exact ⟨_, _, _, rfl, b, f, rs, n, left, d, rfl, rfl, rfl, hn, hB, wf, by omega, h1, hG, fun H1 s1 => q H1 d s1 hG⟩
    · refine ⟨_, rfl, rfl, _, rfl, ibF (by rw [eqStr]; decide) ?_⟩
      refine ⟨_, rfl, rfl, _, rfl, ibF (by rw [eqStr]; decide) ?_⟩
      refine ⟨_, rfl, rfl, _, rfl, ibF (by rw [eqStr]; decide) ?_⟩
      refine ⟨_, rfl, rfl, _, rfl, ibF (by rw [eqStr]; decide) ?_⟩
      obtain ⟨d, hG⟩ := goes_way rs n f left (by omega) h1
      refine ⟨_, rfl, _, rfl, W, _, (2 : Int), _, rfl, rfl, SqL.of hW, atI_nat (j := 2) rfl, _, n, rfl, int_text hz, z640 hz, ?_⟩
      refine ⟨_, rfl, W, _, (3 : Int), _, rfl, rfl, SqL.of hW, atI_nat (j := 3) rfl, _, left, rfl, int_text hl, z640 hl, ?_⟩
      refine ⟨_, _, _, rfl, b, f, rs, n, left, rfl, rfl, rfl, hn, hB, wf, by omega, h1, fun H1 p s1 np hp => ?_⟩
      exact ⟨_, rfl, p, _, rfl, hp, by rw [wayD_len]; omega, goes_ix wf hG wf.fl, fun H2 s2 => q H2 (s1.trans s2)⟩
end
end G

/-! The desk. -/
namespace G
open PySem PySem.Spec PyProof.Rows L2 TL

def DeskAt (C : Addr) (H : Hp) (x B : Addr) (kvs : List (Key × V)) : Prop := ∃ dx D, H x = some (.ins C dx [("books", .ref B), ("beds", .ref D)]) ∧ H B = some (.dK kvs)
theorem DeskAt.mono {C : Addr} {H H' : Hp} {x B : Addr} {kvs : List (Key × V)} (s : Same H H') (h : DeskAt C H x B kvs) : DeskAt C H' x B kvs := by
  obtain ⟨dx, D, h1, h2⟩ := h
  exact ⟨dx, D, s _ _ h1, s _ _ h2⟩
section
variable {P : Program} {w : World} {K : PySem.W.Frag} {mg : Str → Option Value} {base : Heap} {C aF : Addr}
def sp_Desk_init (C : Addr) : Sp := sp1 fun v H Q => ∃ x dx, v = .ref x ∧ H x = some (.ins C dx []) ∧ ∀ H' B, But x H H' → DeskAt C H' x B [] → H B = none → Q .non H'
theorem sc_Desk___init__ : FnScope ["self"] ["self"] (defScope s_Desk___init__) := ⟨rfl, rfl, rfl, by decide +kernel, rfl, by decide +kernel, by decide +kernel⟩
theorem has_Desk___init__ {k : Nat} (S : SrcM K C "__init__" "Desk.__init__" s_Desk___init__) (TX : Txt K mg w C aF)  : HasM P w K mg base (k + 1) C "__init__" ["self"] (sp_Desk_init C) := by
  refine hasM_of S sc_Desk___init__ (fun _ _ _ _ _ _ us hl => match us, hl with | [_], _ => rfl) (fun vs H Q E h => sp1_len h) (fun f cdv A outer s H vs Q E hr h => ?_)
  · obtain ⟨v0, rfl, h⟩ := h
    have hu := hu_of hr
    refine ⟨_, (pss_cons (ps_fld (pv 0) pe_dnewK rfl)
    (pss_one (ps_fld (pv 0) pe_dnewK rfl))), ?_⟩
    obtain ⟨x, dx, rfl, hx, q⟩ := h
    intro B hB
    have nB : B ≠ x := fun z => by rw [z, hx] at hB; cases hB
    have x1 : (upd H B (.dK [])) x = some (.ins C dx []) := by rw [upd_ne (Ne.symm nB)]; exact hx
    refine ⟨_, rfl, x, C, dx, [], rfl, x1, TX.cl, TX.nB, by decide, ?_⟩
    intro D hD
    have nD : D ≠ x := fun z => by rw [z, upd_same] at hD; cases hD
    have nBD : B ≠ D := fun z => by rw [← z, upd_ne nB, upd_same] at hD; cases hD
    refine ⟨_, rfl, x, C, dx, _, rfl, by rw [upd_ne (Ne.symm nD), upd_same], TX.cl, TX.nD, (by show 1 < 1000; decide), ?_⟩
    refine q _ B ?_ ⟨dx, D, ?_, ?_⟩ hB
    · have b1 : But x H (upd H B (.dK [])) := Same.but (Same.new hB)
      exact But.upd (But.trans (But.upd b1) (Same.but (Same.new hD)))
    · rw [upd_same]
      congr 2
    · rw [upd_ne nB, upd_ne nBD, upd_ne nB, upd_same]
def sp_called_in (K : PySem.W.Frag) (C aF : Addr) : Sp := sp2 fun v0 v1 H Q => ∃ x W B kvs deed nm ds ws b, v0 = .ref x ∧ v1 = .ref W ∧ DeskAt C H x B kvs ∧ H W = some (.lst ((deed :: nm :: ws).map strV)) ∧
  FormAt K aF deed (98 :: ds) ∧ ds.length = ws.length ∧ (∀ c ∈ ds, c = 100) ∧ valV kvs (Sum.inr (T nm)) = some (.ref b) ∧ ∀ H' L, Same H H' → H' L = some (.lst [.ref b]) → Q (.ref L) H'
theorem sc_Desk_called_in : FnScope ["self", "words", "found", "form", "one", "shelf"] ["self", "words"] (defScope s_Desk_called_in) := ⟨rfl, rfl, rfl, by decide +kernel, rfl, by decide +kernel, by decide +kernel⟩
theorem has_Desk_called_in {k : Nat} (S : SrcM K C "called_in" "Desk.called_in" s_Desk_called_in) (TX : Txt K mg w C aF)  : HasM P w K mg base (k + 1) C "called_in" ["self", "words"] (sp_called_in K C aF) := by
  refine hasM_of S sc_Desk_called_in (fun _ _ _ _ _ _ us hl => match us, hl with | [_, _], _ => rfl) (fun vs H Q E h => sp2_len h) (fun f cdv A outer s H vs Q E hr h => ?_)
  · obtain ⟨v0, v1, rfl, h⟩ := h
    have hu := hu_of hr
    obtain ⟨esF, nF, kdF⟩ := TX.kd
    refine ⟨_, (pss_cons (ps_set (i := 2) sc_Desk_called_in.nd rfl (Or.inl rfl) (pe_lst pa_nil))
    (pss_cons (ps_for PassesOwn.never rfl (pi_zipS (by rfl) TX.zip (pa_cons (pe_ix ix_kdict (pe_gR TX.g_FORMS) (pe_ix (ix_listK K) (pv 1) pe_int (fun _ _ => rfl)) (fun _ _ => rfl)) (pa_cons (pe_slice sl_list (pv 1) (po_some pe_int) po_none) pa_nil))) (pg_tup rfl (pgs_cons (pg_name (i := 3) sc_Desk_called_in.nd rfl (Or.inl rfl)) (pgs_cons (pg_name (i := 4) sc_Desk_called_in.nd rfl (Or.inl rfl)) pgs_nil)))
      (pss_one (ps_if (PW.pt (pw_or (pt_cmpR op_eq (pv 3) pe_str (nomark _)) (pw_or1 (pt_cmpR op_eq (pv 3) pe_str (nomark _))))) (pss_cons (ps_set (i := 5) sc_Desk_called_in.nd rfl (Or.inl rfl) (pe_fld (pv 0) rfl))
    (pss_cons (ps_if (pt_cmpR op_eq (pv 3) pe_str (nomark _)) (pss_one (ps_set (i := 5) sc_Desk_called_in.nd rfl (Or.inl rfl) (pe_fld (pv 0) rfl))) pss_nil)
    (pss_cons (ps_if (pt_cmp (pc_dnotin hu (pv 4) (pv 5))) (pss_one ps_never) pss_nil)
    (pss_one (ps_expr (pe_bm PySem.F.plainAttrs_list PySem.F.slot_list_append PySem.F.type_list_append mt_append (pv 2) (pa_cons (pe_dget hu (pv 5) (pv 4) (fun _ _ => rfl)) pa_nil))))))) pss_nil)))
    (pss_one (ps_ret (pv 2))))), ?_⟩
    obtain ⟨x, W, B, kvs, deed, nm, ds, ws, b, rfl, rfl, hDk, hW, hf, ld, h100, hval, q⟩ := h
    have hD := kdct kdF hf
    refine ⟨Nat.zero_le _, fun L hL => ?_⟩
    have s1 : Same H (upd H L (.lst [])) := Same.new hL
    have hW1 := s1 _ _ hW
    refine ⟨_, rfl, W, _, (0 : Int), _, rfl, rfl, SqL.of hW1, atI_nat (j := 0) rfl, aF, T deed, _, rfl, rfl, hD, _, rfl, 1, rfl, W, _, rfl, SqL.of hW1, fun B2 hB2 => ?_⟩
    rw [cutV_1]
    have s2 := s1.trans (Same.new (o := .lst (((deed :: nm :: ws).map strV).drop 1)) hB2)
    have nLB : B2 ≠ L := fun z => by rw [z, upd_same] at hB2; cases hB2
    refine ⟨_, B2, _, rfl, SqL.of upd_same, for_it (walk_zipS (l := 98 :: ds) (ys := ((deed :: nm :: ws).map strV).drop 1) (by simp [ld])) (fun i σ H' => ∃ y3 y4 y5, σ = [some (.ref x), some (.ref W), some (.ref L), y3, y4, y5] ∧ Same H H' ∧ H' B2 = some (.lst (((deed :: nm :: ws).map strV).drop 1)) ∧ H' L = some (.lst (if i = 0 then [] else [.ref b]))) ⟨none, none, none, rfl, s2, upd_same, by rw [upd_ne (Ne.symm nLB), upd_same]; rfl⟩ (fun i σ H' _ ⟨_, _, _, _, _, e, _⟩ => SqL.of e) ?_ ?_⟩
    · rintro i v σ H2 H3 hi ⟨y3, y4, y5, rfl, s3, hB3, hL3⟩ ⟨Tp, c, one, rfl, hTp, rfl, hc, hy⟩
      have s4 : Same H2 (upd H2 Tp (.tup [.str (T [c]), one])) := Same.new hTp
      refine ⟨_, _, rfl, SqT.of upd_same, rfl, _, _, rfl, _, _, rfl, rfl, ?_⟩
      cases i with
      | zero =>
        have ec : c = 98 := (Option.some.inj hc).symm
        have ey : one = strV nm := (Option.some.inj hy).symm
        subst ec ey
        obtain ⟨dx, D, hx, hBk⟩ := hDk.mono (s3.trans s4)
        refine ⟨_, rfl, rfl, _, rfl, ibT (by rw [eqStr]; decide) (ibT rfl ?_)⟩
        refine ⟨_, rfl, x, C, dx, _, .ref B, rfl, hx, TX.cl, TX.nB, by kernel_rfl, ?_⟩
        refine ⟨_, rfl, rfl, _, rfl, ibF (by rw [eqStr]; decide) ?_⟩
        refine ⟨_, rfl, _, rfl, B, _, rfl, rdDGet (k := Sum.inr (T nm)) (.inl hBk) hval, _, rfl, ibF rfl ?_⟩
        have hL4 := s4 _ _ hL3
        refine ⟨_, rfl, .inl ⟨rfl, _, SqL.of hL4⟩, _, rfl, _, rfl, B, _, rfl, rdDGet (k := Sum.inr (T nm)) (.inl hBk) hval, L, _, _, rfl, rfl, hL4, (by show 0 < sizeLine; decide), ?_⟩
        exact ⟨_, _, _, rfl, Same.mut (s3.trans s4) hL, by rw [upd_ne nLB]; exact s4 _ _ hB3, upd_same⟩
      | succ i =>
        have ec : c = 100 := h100 c (List.mem_of_getElem? (show ds[i]? = some c from hc))
        subst ec
        refine ⟨_, rfl, rfl, _, rfl, ibF (by rw [eqStr]; decide) ⟨_, rfl, rfl, _, rfl, ibF (by rw [eqStr]; decide) ?_⟩⟩
        exact ⟨_, _, _, rfl, s3.trans s4, s4 _ _ hB3, s4 _ _ hL3⟩
    · rintro σ H2 ⟨y3, y4, y5, rfl, s3, hB3, hL3⟩
      exact ⟨_, rfl, q _ L s3 hL3⟩
def sp_say (K : PySem.W.Frag) (C aF : Addr) : Sp := sp2 fun v0 v1 H Q => ∃ x B, v0 = .ref x ∧
  ((∃ nm rest f rs, v1 = strV (jn (tk "book" :: nm :: rest)) ∧ jn rest = bookT f rs ∧ rest ≠ [] ∧ NameOk nm ∧ Parts (tk "book" :: nm :: rest) ∧ Wf f rs ∧ DeskAt C H x B [] ∧
      ∀ H' b, But B H H' → H' B = some (.dK [(Sum.inr (T nm), .ref b)]) → BookAt H' b f rs → Q (.str "ok") H') ∨
   (∃ nm deed ds ws b, v1 = strV (jn (deed :: nm :: ws)) ∧ DeskAt C H x B [(Sum.inr (T nm), .ref b)] ∧ NameOk nm ∧ FormAt K aF deed (98 :: ds) ∧ Paired WordOk ds ws ∧ (∀ c ∈ ds, c = 100) ∧ ds.length ≤ 10 ∧ Parts (deed :: nm :: ws) ∧
      (deed = tk "length" ∨ deed = tk "letter" ∨ deed = tk "way") ∧ ∀ H' W E', Same H H' → H' W = some (.lst ((deed :: nm :: ws).map strV)) → sp_row_told [strV deed, .ref b, .ref W] H' Q E'))
theorem sc_Desk_say : FnScope ["self", "row", "words", "deed", "found"] ["self", "row"] (defScope s_Desk_say) := ⟨rfl, rfl, rfl, by decide +kernel, rfl, by decide +kernel, by decide +kernel⟩
theorem has_Desk_say {k : Nat} (S : SrcM K C "say" "Desk.say" s_Desk_say) (TX : Txt K mg w C aF) (h_words_in : Has P w K mg base k "words_in" ["text"] (sp_words_in K aF)) (h_read_book : Has P w K mg base k "read_book" ["text"] (sp_read_book)) (h_Desk_called_in : HasM P w K mg base k C "called_in" ["self", "words"] (sp_called_in K C aF)) (h_row_told : Has P w K mg base k "row_told" ["deed", "book", "words"] (sp_row_told)) : HasM P w K mg base (k + 1) C "say" ["self", "row"] (sp_say K C aF) := by
  refine hasM_of S sc_Desk_say (fun _ _ _ _ _ _ us hl => match us, hl with | [_, _], _ => rfl) (fun vs H Q E h => sp2_len h) (fun f cdv A outer s H vs Q E hr h => ?_)
  · obtain ⟨v0, v1, rfl, h⟩ := h
    have hu := hu_of hr
    obtain ⟨a_words_in, fd_words_in, mg_words_in, kp_words_in, bd_words_in, ok_words_in⟩ := h_words_in.ex
    obtain ⟨a_read_book, fd_read_book, mg_read_book, kp_read_book, bd_read_book, ok_read_book⟩ := h_read_book.ex
    obtain ⟨a_Desk_called_in, fd_Desk_called_in, mt_Desk_called_in, bd_Desk_called_in, ok_Desk_called_in⟩ := h_Desk_called_in.ex
    obtain ⟨a_row_told, fd_row_told, mg_row_told, kp_row_told, bd_row_told, ok_row_told⟩ := h_row_told.ex
    obtain ⟨esF, nF, kdF⟩ := TX.kd
    refine ⟨_, (pss_cons (ps_set (i := 2) sc_Desk_say.nd rfl (Or.inl rfl) (pe_call ok_words_in hr rfl mg_words_in kp_words_in bd_words_in .nil pass0 (pa_cons (pv 1) pa_nil)))
    (pss_cons (ps_set (i := 3) sc_Desk_say.nd rfl (Or.inl rfl) (pe_ix (ix_listK K) (pv 2) pe_int (fun _ _ => rfl)))
    (pss_cons (ps_if (pt_cmpR op_eq (pv 3) pe_str (nomark _)) (pss_cons (ps_dput hu (pe_fld (pv 0) rfl) (pe_ix (ix_listK K) (pv 2) pe_int (fun _ _ => rfl)) (pe_call ok_read_book hr rfl mg_read_book kp_read_book bd_read_book .nil pass0 (pa_cons (pe_ix (ix_listK K) (pv 2) pe_int (fun _ _ => rfl)) pa_nil)) rfl)
    (pss_one (ps_ret pe_str))) pss_nil)
    (pss_cons (ps_set (i := 4) sc_Desk_say.nd rfl (Or.inl rfl) (pe_meth (pv 0) TX.cl mt_Desk_called_in ok_Desk_called_in hr bd_Desk_called_in .nil pass0 (pa_cons (pv 2) pa_nil)))
    (pss_cons (ps_if (pt_cmpR op_eq (pe_ix ix_str (pe_ix ix_kdict (pe_gR TX.g_FORMS) (pv 3) (fun _ _ => rfl)) pe_int (fun _ _ => rfl)) pe_str (nomark _)) (pss_one ps_never) pss_nil)
    (pss_cons (ps_if (PW.pt (pw_or (pt_cmpR op_eq (pv 3) pe_str (nomark _)) (pw_or (pt_cmpR op_eq (pv 3) pe_str (nomark _)) (pw_or1 (pt_cmpR op_eq (pv 3) pe_str (nomark _)))))) (pss_one ps_never) pss_nil)
    (pss_cons (ps_if (pt_cmpR op_eq (pe_ix ix_str (pe_ix ix_kdict (pe_gR TX.g_FORMS) (pv 3) (fun _ _ => rfl)) pe_int (fun _ _ => rfl)) pe_str (nomark _)) (pss_one ps_never) pss_nil)
    (pss_cons (ps_if (pt_cmpR op_in_seq (pv 3) (pe_tup (pa_cons pe_str (pa_cons pe_str (pa_cons pe_str (pa_cons pe_str (pa_cons pe_str pa_nil)))))) rfl) (pss_one (ps_ret (pe_call ok_row_told hr rfl mg_row_told kp_row_told bd_row_told .nil pass0 (pa_cons (pv 3) (pa_cons (pe_ix (ix_listK K) (pv 4) pe_int (fun _ _ => rfl)) (pa_cons (pv 2) pa_nil)))))) pss_nil)
    (pss_one ps_never))))))))), ?_⟩
    obtain ⟨x, B, rfl, h⟩ := h
    rcases h with ⟨nm, rest, f, rs, rfl, ej, ne, hn, hp, wf, hDk, q⟩ | ⟨nm, deed, ds, ws, b, rfl, hDk, hn, hf, hw, h100, few, hp, hd, q⟩
    · refine ⟨_, rfl, _, rfl, .inl ⟨nm, rest, rfl, ne, hn, hp, fun H1 W s1 nW hW => ?_⟩⟩
      refine ⟨_, rfl, W, _, (0 : Int), _, rfl, rfl, SqL.of hW, atI_nat (j := 0) rfl, ?_⟩
      refine ⟨_, rfl, rfl, _, rfl, ibT (by rw [eqStr]; decide) ?_⟩
      refine ⟨_, rfl, W, _, (2 : Int), _, rfl, rfl, SqL.of hW, atI_nat (j := 2) rfl, _, rfl, f, rs, by rw [ej], wf, fun H2 b s2 hb => ?_⟩
      obtain ⟨dx, D, hx, hBk⟩ := hDk.mono (s1.trans s2)
      refine ⟨_, rfl, x, C, dx, _, .ref B, rfl, hx, TX.cl, TX.nB, by kernel_rfl, ?_⟩
      refine ⟨_, rfl, W, _, (1 : Int), _, rfl, rfl, SqL.of (s2 _ _ hW), atI_nat (j := 1) rfl, B, _, rfl, DPut.k (k := Sum.inr (T nm)) hBk (by decide), ?_⟩
      refine q _ b (But.upd (Same.but (s1.trans s2))) (by rw [upd_same, putK_new _ rfl]; rfl) (hb.mono (upd_tups fun xs e => by rw [hBk] at e; cases e))
    · have d1 : deed ≠ tk "book" := by rcases hd with rfl | rfl | rfl <;> decide
      have hD := kdct kdF hf
      have lz : (T (98 :: ds)).length ≤ sizeLine := T_sz (by rw [List.length_cons]; omega)
      have a98 : atI (98 :: ds) 0 = some 98 := atI_nat (j := 0) rfl
      refine ⟨_, rfl, _, rfl, .inr ⟨deed, 98 :: ds, nm :: ws, rfl, d1, hf, .cons (.inr ⟨rfl, hn⟩) hw, hp, fun H1 W s1 nW hW => ?_⟩⟩
      refine ⟨_, rfl, W, _, (0 : Int), _, rfl, rfl, SqL.of hW, atI_nat (j := 0) rfl, ?_⟩
      refine ⟨_, rfl, rfl, _, rfl, ibF (by rw [eqStr]; exact decide_eq_false d1) ?_⟩
      refine ⟨_, rfl, x, _, _, rfl, (hDk.mono s1).choose_spec.choose_spec.1, by kernel_rfl, _, rfl, _, _, rfl, x, W, B, _, deed, nm, ds, ws, b, rfl, rfl, hDk.mono s1, hW, hf, paired_len hw, h100, ?_, fun H2 L s2 hL => ?_⟩
      · exact valV_pos rfl
      refine ⟨_, rfl, aF, T deed, _, rfl, rfl, hD, _, (0 : Int), 98, rfl, rfl, lz, a98, rfl, _, rfl, ibF (by show decide (V.str (T [98]) = _) = false; rw [eqStr]; decide) ?_⟩
      refine ⟨_, rfl, rfl, _, rfl, ibF (by rw [eqStr]; rcases hd with rfl | rfl | rfl <;> decide) ⟨_, rfl, rfl, _, rfl, ibF (by rw [eqStr]; rcases hd with rfl | rfl | rfl <;> decide) ⟨_, rfl, rfl, _, rfl, ibF (by rw [eqStr]; rcases hd with rfl | rfl | rfl <;> decide) ?_⟩⟩⟩
      refine ⟨_, rfl, aF, T deed, _, rfl, rfl, hD, _, (0 : Int), 98, rfl, rfl, lz, a98, rfl, _, rfl, ibF (by show decide (V.str (T [98]) = _) = false; rw [eqStr]; decide) ?_⟩
      refine ⟨_, rfl, by decide, fun p hp2 => ⟨p, _, rfl, .inr (SqT.of upd_same), rfl, rfl, _, rfl, ibT (by rcases hd with rfl | rfl | rfl <;> decide +kernel) ?_⟩⟩
      have s3 := s2.trans (Same.new (o := .tup [.str "show", .str "length", .str "mod", .str "letter", .str "way"]) hp2)
      exact ⟨_, rfl, _, rfl, L, _, (0 : Int), _, rfl, rfl, SqL.of ((Same.new hp2) _ _ hL), atI_nat (j := 0) rfl, _, rfl, q _ W _ (s1.trans s3) (s3 _ _ hW)⟩
end
end G

/-! The law's draws: the pen, signs, texts. -/
namespace G
open PySem PySem.Spec PyProof.Rows L2 TL

def PenAt (H : Hp) (a : Addr) (m : Nat) : Prop := ∃ x y z : Int, H a = some (.lst [.int x, .int y, .int z]) ∧ 0 ≤ y ∧ y ≤ m ∧ 0 ≤ z ∧ z < 2147483647
theorem PenAt.up {H : Hp} {a : Addr} {m n : Nat} (h : PenAt H a m) (e : m ≤ n) : PenAt H a n := by
  obtain ⟨x, y, z, h1, h2, h3, h4⟩ := h
  exact ⟨x, y, z, h1, h2, by omega, h4⟩
theorem PenAt.same {H H' : Hp} {a : Addr} {m : Nat} (s : Same H H') (h : PenAt H a m) : PenAt H' a m := by
  obtain ⟨x, y, z, h1, h2⟩ := h
  exact ⟨x, y, z, s _ _ h1, h2⟩
theorem PenAt.set {H : Hp} {a D : Addr} {m : Nat} {o : HO} (n : D ≠ a) (h : PenAt H a m) : PenAt (upd H D o) a m := by
  obtain ⟨x, y, z, h1, h2⟩ := h
  exact ⟨x, y, z, by rw [upd_ne (Ne.symm n)]; exact h1, h2⟩
theorem PenAt.ne {H : Hp} {a D : Addr} {m : Nat} (h : PenAt H a m) (n : H D = none) : D ≠ a := fun z => by
  obtain ⟨x, y, z', h1, _⟩ := h
  rw [z, h1] at n
  cases n
/-- one-sign texts in a list -/
abbrev oneV (ls : List Nat) : List V := ls.map fun c => V.str (T [c])
theorem pen_ne {H : Hp} {a L : Addr} {m : Nat} {ls : List Nat} (h : PenAt H a m) (e : H L = some (.lst (oneV ls))) : L ≠ a := fun z => by
  obtain ⟨x, y, z', h1, _⟩ := h
  rw [z, h1] at e
  cases ls with
  | nil => cases e
  | cons c r => cases e
theorem cut_ints (zs : List Int) (lo hi : Option Int) : ∃ ws : List Int, cutV (zs.map V.int) lo hi = ws.map V.int := by
  unfold cutV
  rw [← List.map_drop, ← List.map_take]
  exact ⟨_, rfl⟩
theorem nat_of {i : Int} (h : 0 ≤ i) : ∃ n : Nat, i = n := ⟨i.toNat, (Int.toNat_of_nonneg h).symm⟩
section
variable {P : Program} {w : World} {K : PySem.W.Frag} {mg : Str → Option Value} {base : Heap} {C aF : Addr}
def sp_law_pen (K : PySem.W.Frag) : Sp := sp2 fun v0 v1 H Q => ∃ (S : Addr) (zs : List Int) (k : Nat), v0 = .ref S ∧ v1 = .int ((k : Nat) : Int) ∧ k ≤ 1 ∧ SqL K H S (zs.map V.int) ∧ ∀ H' a, Same H H' → H a = none → PenAt H' a 0 → Q (.ref a) H'
theorem sc_law_pen : FnScope ["_law_script", "_law_k", "_law_fold", "_law_cell"] ["_law_script", "_law_k"] (defScope s_law_pen) := ⟨rfl, rfl, rfl, by decide +kernel, rfl, by decide +kernel, by decide +kernel⟩
theorem has_law_pen {k : Nat} (S : Src K mg "_law_pen" s_law_pen) (TX : Txt K mg w C aF)  : Has P w K mg base (k + 1) "_law_pen" ["_law_script", "_law_k"] (sp_law_pen K) := by
  refine has_of S sc_law_pen (fun _ _ _ _ _ _ us hl => match us, hl with | [_, _], _ => rfl) (fun vs H Q E h => sp2_len h) (fun f cdv A outer s H vs Q E hr h => ?_)
  · obtain ⟨v0, v1, rfl, h⟩ := h
    have hu := hu_of hr
    refine ⟨_, (pss_cons (ps_set (i := 2) sc_law_pen.nd rfl (Or.inl rfl) (pe_op op_add (pe_op op_mul pe_int (pv 1)) pe_int))
    (pss_cons (ps_for PassesOwn.never rfl (pi_list (pe_slice sl_list (pv 0) po_none (po_some pe_int))) (pg_name (i := 3) sc_law_pen.nd rfl (Or.inl rfl))
      (pss_one (ps_set (i := 2) sc_law_pen.nd rfl (Or.inl rfl) (pe_op op_mod (pe_op op_add (pe_op op_mul (pv 2) pe_int) (pv 3)) pe_int))))
    (pss_cons (ps_if (PW.pt (pw_and (pt_cmpR op_gt (pe_callB (len_seqK K) (by rfl) TX.len (by decide +kernel) (pa_cons (pv 0) pa_nil)) pe_int (nomark _)) (pw_and1 (pt_cmpR op_ge (pe_ix (ix_listK K) (pv 0) (pe_op op_mod (pv 1) (pe_callB (len_seqK K) (by rfl) TX.len (by decide +kernel) (pa_cons (pv 0) pa_nil))) (fun _ _ => rfl)) (pe_op op_pow pe_int pe_int) (nomark _))))) (pss_one (ps_ret (pe_lst (pa_cons (pe_op op_sub (pe_ix (ix_listK K) (pv 0) (pe_op op_mod (pv 1) (pe_callB (len_seqK K) (by rfl) TX.len (by decide +kernel) (pa_cons (pv 0) pa_nil))) (fun _ _ => rfl)) (pe_op op_pow pe_int pe_int)) (pa_cons pe_int (pa_cons (pv 2) pa_nil)))))) pss_nil)
    (pss_one (ps_ret (pe_lst (pa_cons pe_int (pa_cons pe_int (pa_cons (pv 2) pa_nil))))))))), ?_⟩
    obtain ⟨S, zs, k, rfl, rfl, hk, hS, q⟩ := h
    refine ⟨_, rfl, _, _, rfl, rfl, .inl ⟨by decide, by decide⟩, _, _, rfl, rfl, ?_⟩
    refine ⟨_, rfl, 63, rfl, S, _, rfl, hS, fun p hp => ?_⟩
    obtain ⟨ws, ew⟩ := cut_ints zs none (some 63)
    rw [ew]
    have s1 : Same H (upd H p (.lst (ws.map V.int))) := Same.new hp
    refine ⟨p, rfl, ⟨_, SqL.of upd_same⟩, ?_⟩
    refine for_it (walk_list (xs := ws.map V.int)) (fun i σ H' => ∃ z y3, σ = [some (.ref S), some (.int (k : Nat)), some (.int z), y3] ∧ 0 ≤ z ∧ z < 2147483647 ∧ H' = upd H p (.lst (ws.map V.int))) ⟨_, none, rfl, by omega, by omega, rfl⟩ (fun i σ H' _ ⟨_, _, _, _, _, e⟩ => by rw [e]; exact SqL.of upd_same) ?_ ?_
    · rintro i x σ H2 H3 hi ⟨z, y3, rfl, h0, h1, rfl⟩ ⟨rfl, hx⟩
      obtain ⟨c, hc, rfl⟩ := map_int_at hx
      refine ⟨_, rfl, _, _, rfl, rfl, .inl ⟨by omega, by omega⟩, _, rfl, _, _, rfl, rfl, _, _, rfl, rfl, (show (0 : Int) < 2147483647 by decide), ?_⟩
      exact ⟨_, _, rfl, Int.emod_nonneg _ (by decide), Int.emod_lt_of_pos _ (by decide), rfl⟩
    · rintro σ H2 ⟨z, y3, rfl, h0, h1, rfl⟩
      have hS1 := Le.seqL (Same.le s1) hS
      have lz : (zs.map V.int).length = zs.length := List.length_map _
      refine ⟨_, rfl, S, _, rfl, .inl (hS1), _, _, rfl, rfl, _, rfl, ?_⟩
      rw [lz]
      have fin : ∀ x : Int, 3 ≤ sizeLine ∧ ∀ a, (upd H p (.lst (ws.map V.int))) a = none → Q (.ref a) (upd (upd H p (.lst (ws.map V.int))) a (.lst [.int x, .int 0, .int z])) := fun x => ⟨by decide, fun a ha => by
        exact q _ a (s1.trans (Same.new ha)) (s1.free ha) ⟨x, 0, z, upd_same, by decide, by decide, h0, h1⟩⟩
      by_cases hz : 0 < zs.length
      · have hm : k % zs.length < zs.length := Nat.mod_lt _ hz
        have e1 : zs[k % zs.length]? = some zs[k % zs.length] := List.getElem?_eq_getElem hm
        have ix : atI (zs.map V.int) (((k : Nat) : Int) % ((zs.length : Nat) : Int)) = some (.int zs[k % zs.length]) := atI_nat (map_int_of e1)
        refine ibT (decide_eq_true (by omega)) ?_
        refine ⟨_, rfl, _, rfl, _, rfl, S, _, rfl, .inl (hS1), ?_⟩
        rw [lz]
        refine ⟨_, _, rfl, rfl, by omega, S, _, _, _, rfl, rfl, hS1, ix, _, _, rfl, rfl, ⟨by decide, by decide, by decide⟩, _, _, rfl, rfl, _, rfl, ite2 (fun hc => ?_) (fun hc => ?_)⟩
        · refine ⟨_, rfl, _, rfl, _, rfl, S, _, rfl, .inl (hS1), ?_⟩
          rw [lz]
          exact ⟨_, _, rfl, rfl, by omega, S, _, _, _, rfl, rfl, hS1, ix, _, _, rfl, rfl, ⟨by decide, by decide, by decide⟩, _, _, rfl, rfl, _, rfl, fin _⟩
        · exact ⟨_, rfl, fin 0⟩
      · refine ibF (decide_eq_false (by omega)) (ibF rfl ?_)
        exact ⟨_, rfl, fin 0⟩
def sp_law_take : Sp := sp2 fun v0 v1 H Q => ∃ a m s, v0 = .ref a ∧ v1 = .int ((s : Nat) : Int) ∧ 0 < s ∧ s ≤ 1000000000 ∧ PenAt H a m ∧ m ≤ 1000000 ∧ ∀ H' (r : Nat), But a H H' → PenAt H' a (m + 1) → r < s → Q (.int ((r : Nat) : Int)) H'
theorem r_of {i : Int} {s : Nat} (h : 0 < s) : ∃ r : Nat, r < s ∧ i % (s : Int) = r := by
  obtain ⟨n, e⟩ := nat_of (Int.emod_nonneg i (show (s : Int) ≠ 0 by omega))
  have := Int.emod_lt_of_pos i (show (0 : Int) < s by omega)
  exact ⟨n, by omega, e⟩
theorem sc_law_take : FnScope ["_law_pen_here", "_law_size", "_law_found", "_law_number_here"] ["_law_pen_here", "_law_size"] (defScope s_law_take) := ⟨rfl, rfl, rfl, by decide +kernel, rfl, by decide +kernel, by decide +kernel⟩
theorem has_law_take {k : Nat} (S : Src K mg "_law_take" s_law_take) (TX : Txt K mg w C aF)  : Has P w K mg base (k + 1) "_law_take" ["_law_pen_here", "_law_size"] (sp_law_take) := by
  refine has_of S sc_law_take (fun _ _ _ _ _ _ us hl => match us, hl with | [_, _], _ => rfl) (fun vs H Q E h => sp2_len h) (fun f cdv A outer s H vs Q E hr h => ?_)
  · obtain ⟨v0, v1, rfl, h⟩ := h
    have hu := hu_of hr
    refine ⟨_, (pss_cons (ps_if (pt_cmpR op_gt (pe_ix (ix_listK K) (pv 0) pe_int (fun _ _ => rfl)) pe_int (nomark _)) (pss_cons (ps_set (i := 2) sc_law_take.nd rfl (Or.inl rfl) (pe_op op_mod (pe_ix (ix_listK K) (pv 0) pe_int (fun _ _ => rfl)) (pv 1)))
    (pss_cons (ps_asg (pe_op op_fdiv (pe_ix (ix_listK K) (pv 0) pe_int (fun _ _ => rfl)) (pv 1)) (pg_sub (pv 0) pe_int set_list))
    (pss_one (ps_ret (pv 2))))) pss_nil)
    (pss_cons (ps_asg (pe_op op_add (pe_ix (ix_listK K) (pv 0) pe_int (fun _ _ => rfl)) pe_int) (pg_sub (pv 0) pe_int set_list))
    (pss_cons (ps_set (i := 3) sc_law_take.nd rfl (Or.inl rfl) (pe_op op_mod (pe_op op_pow (pe_op op_add (pe_ix (ix_listK K) (pv 0) pe_int (fun _ _ => rfl)) (pe_op op_mul pe_int (pe_ix (ix_listK K) (pv 0) pe_int (fun _ _ => rfl)))) pe_int) pe_int))
    (pss_cons (ps_set (i := 3) sc_law_take.nd rfl (Or.inl rfl) (pe_op op_mod (pe_op op_pow (pe_op op_add (pv 3) (pe_op op_mul pe_int (pe_ix (ix_listK K) (pv 0) pe_int (fun _ _ => rfl)))) pe_int) pe_int))
    (pss_cons (ps_if (pt_cmpR op_gt (pv 1) (pe_op op_pow pe_int pe_int) (nomark _)) (pss_one (ps_set (i := 3) sc_law_take.nd rfl (Or.inl rfl) (pe_op op_pow (pe_op op_add (pv 3) pe_int) pe_int))) pss_nil)
    (pss_one (ps_ret (pe_op op_mod (pe_op op_fdiv (pv 3) pe_int) (pv 1))))))))), ?_⟩
    obtain ⟨a, m, s, rfl, rfl, hs0, hs1, ⟨x, y, z, ha, hy0, hy1, hz0, hz1⟩, hm, q⟩ := h
    refine ⟨_, rfl, a, _, (0 : Int), _, rfl, rfl, SqL.of ha, atI_nat (j := 0) rfl, _, _, rfl, rfl, _, rfl, ite2 (fun hc => ?_) (fun hc => ?_)⟩
    · obtain ⟨r, hr1, er⟩ := r_of (i := x) hs0
      refine ⟨_, rfl, a, _, (0 : Int), _, rfl, rfl, SqL.of ha, atI_nat (j := 0) rfl, _, rfl, _, _, rfl, rfl, (show (0 : Int) < s by omega), ?_⟩
      refine ⟨_, rfl, a, _, (0 : Int), _, rfl, rfl, SqL.of ha, atI_nat (j := 0) rfl, _, rfl, _, _, rfl, rfl, ⟨by omega, by omega⟩, ?_⟩
      refine ⟨_, rfl, a, _, (0 : Int), 0, rfl, rfl, ha, rfl, ?_⟩
      have q2 := q (upd H a (.lst [.int (x / s), .int y, .int z])) r (But.upd (But.refl a H)) ⟨_, y, z, upd_same, hy0, by omega, hz0, hz1⟩ hr1
      rw [← er] at q2
      exact ⟨_, rfl, q2⟩
    · refine ⟨_, rfl, a, _, (1 : Int), _, rfl, rfl, SqL.of ha, atI_nat (j := 1) rfl, _, _, rfl, rfl, ?_⟩
      refine ⟨_, rfl, a, _, (1 : Int), 1, rfl, rfl, ha, rfl, ?_⟩
      have b1 : But a H (upd H a (.lst [.int x, .int (y + 1), .int z])) := But.upd (But.refl a H)
      have ha1 : SqL K (upd H a (.lst [.int x, .int (y + 1), .int z])) a [.int x, .int (y + 1), .int z] := SqL.of upd_same
      have hp : PenAt (upd H a (.lst [.int x, .int (y + 1), .int z])) a (m + 1) := ⟨x, y + 1, z, upd_same, by omega, by omega, hz0, hz1⟩
      refine ⟨_, rfl, a, _, (2 : Int), _, rfl, rfl, ha1, atI_nat (j := 2) rfl, _, rfl, a, _, (1 : Int), _, rfl, rfl, ha1, atI_nat (j := 1) rfl, _, _, rfl, rfl, .inl ⟨by decide, by decide⟩, _, _, rfl, rfl, _, _, rfl, rfl, ⟨by decide, by decide, by omega⟩, _, _, rfl, rfl, (show (0 : Int) < 2147483647 by decide), ?_⟩
      obtain ⟨n1, hn1, e1⟩ := r_of (i := (z + 7919 * (y + 1)) ^ (5 : Int).toNat) (s := 2147483647) (by decide)
      refine ⟨_, rfl, _, rfl, a, _, (1 : Int), _, rfl, rfl, ha1, atI_nat (j := 1) rfl, _, _, rfl, rfl, .inl ⟨by decide, by decide⟩, _, _, rfl, rfl, _, _, rfl, rfl, ⟨by decide, by decide, ?_⟩, _, _, rfl, rfl, (show (0 : Int) < 2147483629 by decide), ?_⟩
      · have e2 : (z + 7919 * (y + 1)) ^ (5 : Int).toNat % 2147483647 = n1 := e1
        rw [e2]
        omega
      obtain ⟨n2, hn2, e3⟩ := r_of (i := ((z + 7919 * (y + 1)) ^ (5 : Int).toNat % 2147483647 + 104729 * (y + 1)) ^ (5 : Int).toNat) (s := 2147483629) (by decide)
      have e4 : ((z + 7919 * (y + 1)) ^ (5 : Int).toNat % 2147483647 + 104729 * (y + 1)) ^ (5 : Int).toNat % 2147483629 = n2 := e3
      have fin : ∀ u : Int, Q (.int (u / 11 % s)) (upd H a (.lst [.int x, .int (y + 1), .int z])) := fun u => by
        obtain ⟨r, hr1, er⟩ := r_of (i := u / 11) hs0
        rw [er]
        exact q _ r b1 hp hr1
      refine ⟨_, rfl, ⟨_, _, rfl, rfl, ⟨by decide, by decide, by decide⟩, _, _, rfl, rfl, _, rfl, ite2 (fun hc2 => ?_) (fun hc2 => ?_)⟩⟩
      · refine ⟨_, rfl, _, _, rfl, rfl, _, _, rfl, rfl, ⟨by decide, by decide, ?_⟩, ?_⟩
        · rw [e4]
          omega
        exact ⟨_, rfl, _, _, rfl, rfl, ⟨by decide, by decide⟩, _, rfl, _, _, rfl, rfl, (show (0 : Int) < s by omega), fin _⟩
      · exact ⟨_, rfl, _, _, rfl, rfl, ⟨by decide, by decide⟩, _, rfl, _, _, rfl, rfl, (show (0 : Int) < s by omega), fin _⟩
end
end G

/-! The law's draws: signs, texts, words. -/
namespace G
open PySem PySem.Spec PyProof.Rows L2 TL

theorem map_erase {α β : Type} (f : α → β) : ∀ (l : List α) (k : Nat), (l.map f).eraseIdx k = (l.eraseIdx k).map f
  | [], _ => rfl
  | a :: l, 0 => rfl
  | a :: l, k + 1 => by
    show f a :: (l.map f).eraseIdx k = f a :: (l.eraseIdx k).map f
    rw [map_erase f l k]
theorem perm_erase {α : Type} : ∀ {l : List α} {k : Nat} {c : α}, l[k]? = some c → (c :: l.eraseIdx k).Perm l
  | [], k, c, h => by simp at h
  | a :: l, 0, c, h => by
    have e : a = c := Option.some.inj h
    subst e
    exact List.Perm.refl _
  | a :: l, k + 1, c, h => by
    have ih := perm_erase (l := l) (k := k) (c := c) h
    show (c :: a :: l.eraseIdx k).Perm (a :: l)
    exact (List.Perm.swap a c _).trans (ih.cons a)
theorem az_nd : az.Nodup := by decide +kernel
theorem az_len : az.length = 26 := by decide +kernel
structure rLenLS (K : PySem.W.Frag) (xs : List V) (H : Hp) (Q : VK) : Prop where
  ex : (∃ p ys, xs = [.ref p] ∧ (SqL K H p ys ∨ SqT K H p ys) ∧ Q (.int ys.length) H) ∨ (∃ z, xs = [.str z] ∧ z.length ≤ sizeLine ∧ Q (.int z.length) H)
theorem len_LS {X : Cx} (K : PySem.W.Frag) (h : X.K = K := by rfl) : CallR X (.builtin "len") (rLenLS K) := fun pins s σ H xs us Q I rs q => CallR.or (len_seqK K h) call_len_str pins s σ H xs us Q I rs q.ex
structure rIxLS (K : PySem.W.Frag) (x y : V) (H : Hp) (Q : VK) : Prop where
  ex : rIxL K x y H Q ∨ rIxS x y H Q
theorem ix_LS {X : Cx} (K : PySem.W.Frag) (h : X.K = K := by rfl) : IxR X (rIxLS K) := fun value slice pins s σ H x y v u Q I rx ry q hs => IxR.or (ix_listK K h) ix_str value slice pins s σ H x y v u Q I rx ry q.ex hs
/-- signs, as a text or a list of texts -/
def SeqIs (H : Hp) (v : V) (ls : List Nat) : Prop := v = .str (T ls) ∨ ∃ L, v = .ref L ∧ H L = some (.lst (oneV ls))
theorem lenR {K : PySem.W.Frag} {H : Hp} {v : V} {ls : List Nat} {Q : VK} (h : SeqIs H v ls) (few : ls.length ≤ 1000) (q : Q (.int ((ls.length : Nat) : Int)) H) : rLenLS K [v] H Q := by
  rcases h with rfl | ⟨L, rfl, hL⟩
  · exact ⟨.inr ⟨_, rfl, T_sz (by omega), by rw [T_len]; exact q⟩⟩
  · exact ⟨.inl ⟨L, _, rfl, .inl (SqL.of hL), by rw [List.length_map]; exact q⟩⟩
theorem ixR {K : PySem.W.Frag} {H : Hp} {v : V} {ls : List Nat} {Q : VK} {r c : Nat} (h : SeqIs H v ls) (few : ls.length ≤ 1000) (e : ls[r]? = some c) (q : Q (.str (T [c])) H) : rIxLS K v (.int ((r : Nat) : Int)) H Q := by
  rcases h with rfl | ⟨L, rfl, hL⟩
  · exact ⟨.inr ⟨_, _, c, rfl, rfl, T_sz (by omega), atI_nat e, q⟩⟩
  · exact ⟨.inl ⟨L, _, _, _, rfl, rfl, SqL.of hL, atI_nat (by rw [List.getElem?_map, e]; rfl), q⟩⟩
theorem SeqIs.but {H H' : Hp} {v : V} {ls : List Nat} {a : Addr} {m : Nat} (p : PenAt H a m) (b : But a H H') (h : SeqIs H v ls) : SeqIs H' v ls := by
  rcases h with e | ⟨L, e, hL⟩
  · exact .inl e
  · exact .inr ⟨L, e, b _ _ hL (pen_ne p hL)⟩
section
variable {P : Program} {w : World} {K : PySem.W.Frag} {mg : Str → Option Value} {base : Heap} {C aF : Addr}
def sp_law_signs : Sp := sp2 fun v0 v1 H Q => ∃ a m n, v0 = .ref a ∧ v1 = .int ((n : Nat) : Int) ∧ n ≤ 26 ∧ PenAt H a m ∧ m + 26 ≤ 1000000 ∧
  ∀ H' p ls, But a H H' → PenAt H' a (m + 26) → H p = none → H' p = some (.lst (oneV ls)) → ls.length = n → ls.Nodup → (∀ c ∈ ls, 97 ≤ c ∧ c ≤ 122) → Q (.ref p) H'
theorem sc_law_signs : FnScope ["_law_pen_here", "_law_many", "_law_rest", "_law_k"] ["_law_pen_here", "_law_many"] (defScope s_law_signs) := ⟨rfl, rfl, rfl, by decide +kernel, rfl, by decide +kernel, by decide +kernel⟩
theorem has_law_signs {k : Nat} (S : Src K mg "_law_signs" s_law_signs) (TX : Txt K mg w C aF) (h_law_take : Has P w K mg base k "_law_take" ["_law_pen_here", "_law_size"] (sp_law_take)) : Has P w K mg base (k + 1) "_law_signs" ["_law_pen_here", "_law_many"] (sp_law_signs) := by
  refine has_of S sc_law_signs (fun _ _ _ _ _ _ us hl => match us, hl with | [_, _], _ => rfl) (fun vs H Q E h => sp2_len h) (fun f cdv A outer s H vs Q E hr h => ?_)
  · obtain ⟨v0, v1, rfl, h⟩ := h
    have hu := hu_of hr
    obtain ⟨a_law_take, fd_law_take, mg_law_take, kp_law_take, bd_law_take, ok_law_take⟩ := h_law_take.ex
    refine ⟨_, (pss_cons (ps_set (i := 2) sc_law_signs.nd rfl (Or.inr rfl) (pe_callTy (call_list_txt rfl) (by rfl) TX.list (by decide +kernel) (pa_cons pe_str pa_nil)))
    (pss_one (ps_ret (pe_lc (own := [("_law_k", 3)]) (by rfl) sc_law_signs.nd (pi_range1 (by rfl) TX.range (pa_cons (pv 1) pa_nil)) (blkOk_by (own := [("_law_k", 3)]) (by kernel_rfl)) (fun _ _ _ _ _ => (pg_name (i := 3) sc_law_signs.nd rfl (Or.inl rfl))) (fun _ _ _ _ _ => pts_nil) (fun _ _ _ _ _ => (pe_popK K (pv 2) (pa_cons (pe_call ok_law_take hr rfl mg_law_take kp_law_take bd_law_take .nil pass0 (pa_cons (pv 0) (pa_cons (pe_callB (len_seqK K) (by rfl) TX.len (by decide +kernel) (pa_cons (pv 2) pa_nil)) pa_nil))) pa_nil))))))), ?_⟩
    obtain ⟨a, m, n, rfl, rfl, hn, hP, hm, q⟩ := h
    refine ⟨az, by rw [T_str]; rfl, by rw [az_len]; omega, fun L hL => ?_⟩
    have s1 : Same H (upd H L (.lst (oneV az))) := Same.new hL
    have nLa : L ≠ a := hP.ne hL
    refine ⟨_, rfl, n, rfl, by omega, by omega, fun D hD => ?_⟩
    have hDH : H D = none := s1.free hD
    have nDa : D ≠ a := hP.ne hDH
    have nLD : L ≠ D := fun z => by rw [← z, upd_same] at hD; cases hD
    refine lc_it (walk_rng (n := n)) (fun i H' => But a H H' ∧ PenAt H' a (m + i) ∧ ∃ got rest : List Nat, H' D = some (.lst (oneV got)) ∧ H' L = some (.lst (oneV rest)) ∧ (got ++ rest).Perm az ∧ got.length = i) ⟨?_, (hP.set nLa).set nDa, [], az, upd_same, by rw [upd_ne nLD, upd_same], List.Perm.refl _, rfl⟩ (fun _ _ _ _ => trivial) ?_ ?_
    · exact But.mut (Same.but s1) hDH
    · rintro i x H2 H3 hi ⟨b2, p2, got, rest, hg, hr2, perm, lg⟩ ⟨rfl, rfl⟩
      have ll := perm.length_eq
      rw [List.length_append, az_len] at ll
      have lr : 0 < rest.length := by omega
      refine ⟨rfl, _, rfl, .inl ⟨rfl, _, SqL.of hr2⟩, _, rfl, _, rfl, L, _, rfl, .inl (SqL.of hr2), ?_⟩
      rw [List.length_map]
      refine ⟨_, _, rfl, a, m + i, rest.length, rfl, rfl, lr, by omega, p2, by omega, fun H4 r b4 p4 hr => ?_⟩
      have hr4 := b4 _ _ hr2 nLa
      have hg4 := b4 _ _ hg nDa
      have er : rest[r]? = some rest[r] := List.getElem?_eq_getElem hr
      refine ⟨L, _, _, r, _, rfl, rfl, hr4, by omega, by omega, ?_, by rw [List.getElem?_map, er]; rfl, ?_⟩
      · rw [List.length_map]
        exact (ixN_seq (ixN_nat hr)).1
      rw [map_erase]
      refine ⟨_, by rw [upd_ne (Ne.symm nLD)]; exact hg4, by rw [List.length_map]; exact le_small (by omega), ?_⟩
      refine ⟨?_, ?_, got ++ [rest[r]], rest.eraseIdx r, ?_, ?_, ?_, ?_⟩
      · exact But.mut (But.mut (b2.trans b4) hL) hDH
      · exact (p4.set nLa).set nDa
      · rw [upd_same]
        unfold oneV
        rw [List.map_append]
        rfl
      · rw [upd_ne nLD, upd_same]
      · refine List.Perm.trans ?_ perm
        rw [List.append_assoc]
        exact List.Perm.append_left _ (perm_erase er)
      · rw [List.length_append, lg]
        rfl
    · rintro H2 ⟨b2, p2, got, rest, hg, hr2, perm, lg⟩
      have nd := perm.nodup_iff.mpr az_nd
      exact (q _ D got b2 (p2.up (by omega)) hDH hg lg (List.nodup_append.mp nd).1 fun c hc => az_low (perm.mem_iff.mp (List.mem_append.mpr (.inl hc))))
def sp_law_text : Sp := sp3 fun v0 v1 v2 H Q => ∃ a m ls n, v0 = .ref a ∧ SeqIs H v1 ls ∧ v2 = .int ((n : Nat) : Int) ∧ n ≤ 100 ∧ ls.length ≤ 1000 ∧ PenAt H a m ∧ m + 100 ≤ 1000000 ∧
  ∀ H' t, But a H H' → PenAt H' a (m + n) → t.length ≤ n → (∀ c ∈ t, c ∈ ls) → Q (.str (T t)) H'
theorem sc_law_text : FnScope ["_law_pen_here", "_law_signs_here", "_law_many", "_law_k"] ["_law_pen_here", "_law_signs_here", "_law_many"] (defScope s_law_text) := ⟨rfl, rfl, rfl, by decide +kernel, rfl, by decide +kernel, by decide +kernel⟩
theorem has_law_text {k : Nat} (S : Src K mg "_law_text" s_law_text) (TX : Txt K mg w C aF) (h_law_take : Has P w K mg base k "_law_take" ["_law_pen_here", "_law_size"] (sp_law_take)) : Has P w K mg base (k + 1) "_law_text" ["_law_pen_here", "_law_signs_here", "_law_many"] (sp_law_text) := by
  refine has_of S sc_law_text (fun _ _ _ _ _ _ us hl => match us, hl with | [_, _, _], _ => rfl) (fun vs H Q E h => sp3_len h) (fun f cdv A outer s H vs Q E hr h => ?_)
  · obtain ⟨v0, v1, v2, rfl, h⟩ := h
    have hu := hu_of hr
    obtain ⟨a_law_take, fd_law_take, mg_law_take, kp_law_take, bd_law_take, ok_law_take⟩ := h_law_take.ex
    refine ⟨_, (pss_one (ps_ret (pe_join pe_str (pe_lc (own := [("_law_k", 3)]) (by rfl) sc_law_text.nd (pi_range1 (by rfl) TX.range (pa_cons (pe_op op_mul (pv 2) (pe_callTy call_int1 (by rfl) TX.int (by decide +kernel) (pa_cons (pe_cmpR op_gt (pe_callB (len_LS K) (by rfl) TX.len (by decide +kernel) (pa_cons (pv 1) pa_nil)) pe_int (nomark _)) pa_nil))) pa_nil)) (blkOk_by (own := [("_law_k", 3)]) (by kernel_rfl)) (fun _ _ _ _ _ => (pg_name (i := 3) sc_law_text.nd rfl (Or.inl rfl))) (fun _ _ _ _ _ => pts_nil) (fun _ _ _ _ _ => (pe_ix (ix_LS K) (pv 1) (pe_call ok_law_take hr rfl mg_law_take kp_law_take bd_law_take .nil pass0 (pa_cons (pv 0) (pa_cons (pe_callB (len_LS K) (by rfl) TX.len (by decide +kernel) (pa_cons (pv 1) pa_nil)) pa_nil))) (fun _ _ => rfl))))))), ?_⟩
    obtain ⟨a, m, ls, n, rfl, hs, rfl, hn, few, hP, hm, q⟩ := h
    refine ⟨⟨_, rfl⟩, _, rfl, _, rfl, lenR hs few ?_⟩
    obtain ⟨N, hN, eN, hN2⟩ : ∃ N : Nat, N ≤ n ∧ ((n : Nat) : Int) * (if decide ((0 : Int) < ((ls.length : Nat) : Int)) = true then 1 else 0) = (N : Int) ∧ (0 < N → 0 < ls.length) := by
      by_cases z : 0 < ls.length
      · exact ⟨n, Nat.le_refl _, by rw [if_pos (decide_eq_true (by omega)), Int.mul_one], fun _ => z⟩
      · exact ⟨0, Nat.zero_le _, by rw [if_neg (by rw [decide_eq_true_eq]; omega), Int.mul_zero]; rfl, fun h => by omega⟩
    refine ⟨_, _, rfl, rfl, .inr ⟨_, rfl, _, _, rfl, rfl, .inl ⟨by omega, by omega⟩, N, by rw [← eN], by omega, by omega, fun D hD => ?_⟩⟩
    have nDa : D ≠ a := hP.ne hD
    refine lc_it (walk_rng (n := N)) (fun i H' => But a H H' ∧ PenAt H' a (m + i) ∧ ∃ t : List Nat, H' D = some (.lst (oneV t)) ∧ t.length = i ∧ ∀ c ∈ t, c ∈ ls) ⟨Same.but (Same.new hD), hP.set nDa, [], upd_same, rfl, fun c hc => by cases hc⟩ (fun _ _ _ _ => trivial) ?_ ?_
    · rintro i x H2 H3 hi ⟨b2, p2, t, ht, lt, kt⟩ ⟨rfl, rfl⟩
      refine ⟨rfl, _, rfl, _, rfl, _, rfl, lenR (hs.but hP b2) few ?_⟩
      refine ⟨_, _, rfl, a, m + i, ls.length, rfl, rfl, hN2 (by omega), by omega, p2, by omega, fun H4 r b4 p4 hr => ?_⟩
      refine ixR (hs.but hP (b2.trans b4)) few (List.getElem?_eq_getElem hr) ?_
      refine ⟨_, b4 _ _ ht nDa, by rw [List.length_map]; exact le_small (by omega), But.mut (b2.trans b4) hD, p4.set nDa, t ++ [ls[r]], ?_, by rw [List.length_append, lt]; rfl, ?_⟩
      · rw [upd_same]
        unfold oneV
        rw [List.map_append]
        rfl
      · intro c hc
        rcases List.mem_append.mp hc with hc | hc
        · exact kt c hc
        · rw [List.mem_singleton.mp hc]
          exact List.getElem_mem _
    · rintro H2 ⟨b2, p2, t, ht, lt, kt⟩
      have e1 : oneV t = ((t.map fun c => [c]).map T).map V.str := by rw [List.map_map, List.map_map]; rfl
      rw [e1] at ht
      refine ⟨_, D, (t.map fun c => [c]).map T, rfl, rfl, .inl (SqL.of ht), ?_, ?_⟩
      · have h1 := sum_len (ls := (t.map fun c => [c]).map T) (n := 1) (fun x hx => by
          obtain ⟨z, hz, rfl⟩ := List.mem_map.mp hx
          obtain ⟨y, _, rfl⟩ := List.mem_map.mp hz
          exact Nat.le_refl 1)
        have h2 : (Str.ofString "").length = 0 := by decide +kernel
        rw [h2]
        simp only [List.length_map] at h1 ⊢
        omega
      · rw [join_T, flat_one]
        exact q _ t b2 (p2.up (by omega)) (by omega) kt
end
end G

/-! The law's draws: words, names. -/
namespace G
open PySem PySem.Spec PyProof.Rows L2 TL

theorem cut_one (ls : List Nat) (i : Nat) : cutV (oneV ls) (some (((i : Nat) : Int) + 1)) none = oneV (ls.drop (i + 1)) := by
  rw [show ((i : Nat) : Int) + 1 = ((i + 1 : Nat) : Int) from rfl, cutV_drop]
  exact List.map_drop.symm
theorem cut_two (ls : List Nat) (i : Nat) : cutV (oneV ls) (some (((i : Nat) : Int) + 2)) none = oneV (ls.drop (i + 2)) := by
  rw [show ((i : Nat) : Int) + 2 = ((i + 2 : Nat) : Int) from rfl, cutV_drop]
  exact List.map_drop.symm
theorem T_small {a b : List Nat} (h : a.length + b.length ≤ 1000) : (T a).length + (T b).length ≤ sizeLine := by
  rw [T_len, T_len]
  have : (100000 : Nat) ≤ sizeLine := by decide
  omega
theorem dec_nat (a b : Nat) : decide (V.int ((a : Nat) : Int) = V.int ((b : Nat) : Int)) = decide (a = b) := by
  by_cases h : a = b
  · rw [h]
    simp
  · rw [decide_eq_false h]
    exact decide_eq_false fun z => h (by have := V.int.inj z; omega)
theorem But.free {a b : Addr} {H H' : Hp} (e : But a H H') (n : b ≠ a) (h : H' b = none) : H b = none := by
  cases z : H b with
  | none => rfl
  | some o =>
    rw [e b o z n] at h
    cases h
section
variable {P : Program} {w : World} {K : PySem.W.Frag} {mg : Str → Option Value} {base : Heap} {C aF : Addr}
def sp_law_word : Sp := sp4 fun v0 v1 v2 v3 H Q => ∃ a m p L ls i, v0 = .ref a ∧ v1 = .int ((p : Nat) : Int) ∧ v2 = .ref L ∧ v3 = .int ((i : Nat) : Int) ∧ H L = some (.lst (oneV ls)) ∧ i < ls.length ∧ ls.length ≤ 8 ∧ PenAt H a m ∧ m + 400 ≤ 1000000 ∧
  ∀ H' t, But a H H' → PenAt H' a (m + 100) → t.length ≤ 6 → (∀ c ∈ t, c ∈ ls) → Q (.str (T t)) H'
theorem sc_law_word : FnScope ["_law_pen_here", "_law_pick", "_law_signs_here", "_law_at", "_law_behind"] ["_law_pen_here", "_law_pick", "_law_signs_here", "_law_at"] (defScope s_law_word) := ⟨rfl, rfl, rfl, by decide +kernel, rfl, by decide +kernel, by decide +kernel⟩
theorem has_law_word {k : Nat} (S : Src K mg "_law_word" s_law_word) (TX : Txt K mg w C aF) (h_law_text : Has P w K mg base k "_law_text" ["_law_pen_here", "_law_signs_here", "_law_many"] (sp_law_text)) (h_law_take : Has P w K mg base k "_law_take" ["_law_pen_here", "_law_size"] (sp_law_take)) : Has P w K mg base (k + 1) "_law_word" ["_law_pen_here", "_law_pick", "_law_signs_here", "_law_at"] (sp_law_word) := by
  refine has_of S sc_law_word (fun _ _ _ _ _ _ us hl => match us, hl with | [_, _, _, _], _ => rfl) (fun vs H Q E h => sp4_len h) (fun f cdv A outer s H vs Q E hr h => ?_)
  · obtain ⟨v0, v1, v2, v3, rfl, h⟩ := h
    have hu := hu_of hr
    obtain ⟨a_law_text, fd_law_text, mg_law_text, kp_law_text, bd_law_text, ok_law_text⟩ := h_law_text.ex
    obtain ⟨a_law_take, fd_law_take, mg_law_take, kp_law_take, bd_law_take, ok_law_take⟩ := h_law_take.ex
    refine ⟨_, (pss_cons (ps_if (pt_cmpR op_lt (pv 1) pe_int (nomark _)) (pss_one (ps_ret (pe_call ok_law_text hr rfl mg_law_text kp_law_text bd_law_text .nil pass0 (pa_cons (pv 0) (pa_cons (pv 2) (pa_cons (pe_call ok_law_take hr rfl mg_law_take kp_law_take bd_law_take .nil pass0 (pa_cons (pv 0) (pa_cons pe_int pa_nil))) pa_nil)))))) pss_nil)
    (pss_cons (ps_set (i := 4) sc_law_word.nd rfl (Or.inl rfl) (pe_call ok_law_text hr rfl mg_law_text kp_law_text bd_law_text .nil pass0 (pa_cons (pv 0) (pa_cons (pe_slice sl_list (pv 2) (po_some (pe_op op_add (pv 3) pe_int)) po_none) (pa_cons (pe_call ok_law_take hr rfl mg_law_take kp_law_take bd_law_take .nil pass0 (pa_cons (pv 0) (pa_cons pe_int pa_nil))) pa_nil)))))
    (pss_cons (ps_if (pt_cmpR op_eq (pv 1) pe_int (nomark _)) (pss_one (ps_ret (pe_op op_add_str (pe_op op_add_str (pv 4) (pe_ix (ix_listK K) (pv 2) (pv 3) (fun _ _ => rfl))) (pe_call ok_law_text hr rfl mg_law_text kp_law_text bd_law_text .nil pass0 (pa_cons (pv 0) (pa_cons (pe_slice sl_list (pv 2) (po_some (pe_op op_add (pv 3) pe_int)) po_none) (pa_cons (pe_call ok_law_take hr rfl mg_law_take kp_law_take bd_law_take .nil pass0 (pa_cons (pv 0) (pa_cons pe_int pa_nil))) pa_nil))))))) pss_nil)
    (pss_cons (ps_if (pt_cmpR op_eq (pv 1) pe_int (nomark _)) (pss_one (ps_ret (pv 4))) pss_nil)
    (pss_cons (ps_if (pt_cmpR op_eq (pv 1) pe_int (nomark _)) (pss_one (ps_ret (pe_op op_add_str (pe_ix (ix_listK K) (pv 2) (pe_op op_mod (pe_op op_add (pv 3) pe_int) (pe_callB (len_seqK K) (by rfl) TX.len (by decide +kernel) (pa_cons (pv 2) pa_nil))) (fun _ _ => rfl)) (pe_call ok_law_text hr rfl mg_law_text kp_law_text bd_law_text .nil pass0 (pa_cons (pv 0) (pa_cons (pe_slice sl_list (pv 2) (po_some (pe_op op_add (pv 3) pe_int)) po_none) (pa_cons (pe_call ok_law_take hr rfl mg_law_take kp_law_take bd_law_take .nil pass0 (pa_cons (pv 0) (pa_cons pe_int pa_nil))) pa_nil))))))) pss_nil)
    (pss_one (ps_ret (pe_call ok_law_text hr rfl mg_law_text kp_law_text bd_law_text .nil pass0 (pa_cons (pv 0) (pa_cons (pv 2) (pa_cons (pe_call ok_law_take hr rfl mg_law_take kp_law_take bd_law_take .nil pass0 (pa_cons (pv 0) (pa_cons pe_int pa_nil))) pa_nil))))))))))), ?_⟩
    obtain ⟨a, m, p, L, ls, i, rfl, rfl, rfl, rfl, hL, hi, few, hP, hm, q⟩ := h
    have nLa : L ≠ a := pen_ne hP hL
    refine ⟨_, rfl, _, _, rfl, rfl, _, rfl, ite2 (fun hc => ?_) (fun hc => ?_)⟩
    · refine ⟨_, rfl, _, rfl, _, rfl, _, _, rfl, a, m, 4, rfl, rfl, by decide, by decide, hP, by omega, fun H1 r b1 p1 hr => ?_⟩
      exact ⟨_, _, _, rfl, a, m + 1, ls, r, rfl, .inr ⟨L, rfl, b1 _ _ hL nLa⟩, rfl, by omega, by omega, p1, by omega, fun H2 t b2 p2 lt kt => q H2 t (b1.trans b2) (p2.up (by omega)) (by omega) kt⟩
    · refine ⟨_, rfl, _, rfl, _, rfl, _, _, rfl, rfl, _, rfl, L, _, rfl, SqL.of hL, fun D1 hD1 => ?_⟩
      rw [cut_one]
      have s1 : Same H (upd H D1 (.lst (oneV (ls.drop (i + 1))))) := Same.new hD1
      refine ⟨_, rfl, _, _, rfl, a, m, 3, rfl, rfl, by decide, by decide, hP.same s1, by omega, fun H1 r b1 p1 hr => ?_⟩
      refine ⟨_, _, _, rfl, a, m + 1, ls.drop (i + 1), r, rfl, .inr ⟨D1, rfl, b1 _ _ upd_same (hP.ne hD1)⟩, rfl, by omega, by rw [List.length_drop]; omega, p1, by omega, fun H2 t b2 p2 lt kt => ?_⟩
      have b12 : But a H H2 := (Same.but s1).trans (b1.trans b2)
      have hL2 := b12 _ _ hL nLa
      have p3 : PenAt H2 a (m + 3) := p2.up (by omega)
      have kt2 : ∀ c ∈ t, c ∈ ls := fun c hc => List.mem_of_mem_drop (kt c hc)
      have ei : ls[i]? = some ls[i] := List.getElem?_eq_getElem hi
      refine ⟨_, rfl, rfl, _, rfl, ite2 (fun hc2 => ?_) (fun hc2 => ?_)⟩
      · refine ⟨_, rfl, _, rfl, _, rfl, L, _, _, _, rfl, rfl, SqL.of hL2, atI_nat (by rw [List.getElem?_map, ei]; rfl), _, _, rfl, rfl, T_small (by show t.length + 1 ≤ 1000; omega), ?_⟩
        refine ⟨_, rfl, _, rfl, _, rfl, _, _, rfl, rfl, _, rfl, L, _, rfl, SqL.of hL2, fun D2 hD2 => ?_⟩
        rw [cut_one]
        have s3 : Same H2 (upd H2 D2 (.lst (oneV (ls.drop (i + 1))))) := Same.new hD2
        refine ⟨_, rfl, _, _, rfl, a, m + 3, 2, rfl, rfl, by decide, by decide, p3.same s3, by omega, fun H4 r4 b4 p4 hr4 => ?_⟩
        refine ⟨_, _, _, rfl, a, m + 4, ls.drop (i + 1), r4, rfl, .inr ⟨D2, rfl, b4 _ _ upd_same (p3.ne hD2)⟩, rfl, by omega, by rw [List.length_drop]; omega, p4, by omega, fun H5 t5 b5 p5 lt5 kt5 => ?_⟩
        rw [T_app]
        refine ⟨_, _, rfl, rfl, T_small (by rw [List.length_append]; show t.length + 1 + t5.length ≤ 1000; omega), ?_⟩
        rw [T_app]
        refine q H5 _ (b12.trans ((Same.but s3).trans (b4.trans b5))) (p5.up (by omega)) ?_ ?_
        · rw [List.length_append, List.length_append]
          show t.length + 1 + t5.length ≤ 6
          omega
        · intro c hc
          rcases List.mem_append.mp hc with hc | hc
          · rcases List.mem_append.mp hc with hc | hc
            · exact kt2 c hc
            · rw [List.mem_singleton.mp hc]
              exact List.getElem_mem _
          · exact List.mem_of_mem_drop (kt5 c hc)
      refine ⟨_, rfl, rfl, _, rfl, ite2 (fun hc3 => ?_) (fun hc3 => ?_)⟩
      · exact ⟨_, rfl, q H2 t b12 (p3.up (by omega)) (by omega) kt2⟩
      refine ⟨_, rfl, rfl, _, rfl, ite2 (fun hc4 => ?_) (fun hc4 => ?_)⟩
      · refine ⟨_, rfl, _, rfl, _, _, rfl, rfl, _, rfl, L, _, rfl, .inl (SqL.of hL2), ?_⟩
        rw [List.length_map]
        have hj : (i + 1) % ls.length < ls.length := Nat.mod_lt _ (by omega)
        have ej : ls[(i + 1) % ls.length]? = some ls[(i + 1) % ls.length] := List.getElem?_eq_getElem hj
        have ix : atI (oneV ls) ((((i : Nat) : Int) + 1) % ((ls.length : Nat) : Int)) = some (.str (T [ls[(i + 1) % ls.length]])) := atI_nat (j := (i + 1) % ls.length) (by rw [List.getElem?_map, ej]; rfl)
        refine ⟨_, _, rfl, rfl, (show (0 : Int) < ((ls.length : Nat) : Int) by omega), L, _, _, _, rfl, rfl, SqL.of hL2, ix, ?_⟩
        refine ⟨_, rfl, _, rfl, _, rfl, _, _, rfl, rfl, _, rfl, L, _, rfl, SqL.of hL2, fun D2 hD2 => ?_⟩
        rw [cut_two]
        have s3 : Same H2 (upd H2 D2 (.lst (oneV (ls.drop (i + 2))))) := Same.new hD2
        refine ⟨_, rfl, _, _, rfl, a, m + 3, 2, rfl, rfl, by decide, by decide, p3.same s3, by omega, fun H4 r4 b4 p4 hr4 => ?_⟩
        refine ⟨_, _, _, rfl, a, m + 4, ls.drop (i + 2), r4, rfl, .inr ⟨D2, rfl, b4 _ _ upd_same (p3.ne hD2)⟩, rfl, by omega, by rw [List.length_drop]; omega, p4, by omega, fun H5 t5 b5 p5 lt5 kt5 => ?_⟩
        refine ⟨_, _, rfl, rfl, T_small (by show 1 + t5.length ≤ 1000; omega), ?_⟩
        rw [T_app]
        refine q H5 _ (b12.trans ((Same.but s3).trans (b4.trans b5))) (p5.up (by omega)) ?_ ?_
        · show t5.length + 1 ≤ 6
          omega
        · intro c hc
          rcases List.mem_append.mp hc with hc | hc
          · rw [List.mem_singleton.mp hc]
            exact List.getElem_mem _
          · exact List.mem_of_mem_drop (kt5 c hc)
      · refine ⟨_, rfl, _, rfl, _, rfl, _, _, rfl, a, m + 3, 7, rfl, rfl, by decide, by decide, p3, by omega, fun H4 r4 b4 p4 hr4 => ?_⟩
        exact ⟨_, _, _, rfl, a, m + 4, ls, r4, rfl, .inr ⟨L, rfl, b4 _ _ hL2 nLa⟩, rfl, by omega, by omega, p4, by omega, fun H5 t5 b5 p5 lt5 kt5 => q H5 t5 (b12.trans (b4.trans b5)) (p5.up (by omega)) (by omega) kt5⟩
def sp_law_names : Sp := sp2 fun v0 v1 H Q => ∃ a m, v0 = .ref a ∧ v1 = .int 1 ∧ PenAt H a m ∧ m + 1000 ≤ 1000000 ∧ ∀ H' p nm, But a H H' → PenAt H' a (m + 200) → NameOk nm → H' p = some (.lst [.str (T nm)]) → Q (.ref p) H'
theorem sc_law_names : FnScope ["_law_pen_here", "_law_many", "_law_lead", "_law_found", "_law_sign"] ["_law_pen_here", "_law_many"] (defScope s_law_names) := ⟨rfl, rfl, rfl, by decide +kernel, rfl, by decide +kernel, by decide +kernel⟩
theorem has_law_names {k : Nat} (S : Src K mg "_law_names" s_law_names) (TX : Txt K mg w C aF) (h_law_text : Has P w K mg base k "_law_text" ["_law_pen_here", "_law_signs_here", "_law_many"] (sp_law_text)) (h_law_take : Has P w K mg base k "_law_take" ["_law_pen_here", "_law_size"] (sp_law_take)) (h_law_signs : Has P w K mg base k "_law_signs" ["_law_pen_here", "_law_many"] (sp_law_signs)) : Has P w K mg base (k + 1) "_law_names" ["_law_pen_here", "_law_many"] (sp_law_names) := by
  refine has_of S sc_law_names (fun _ _ _ _ _ _ us hl => match us, hl with | [_, _], _ => rfl) (fun vs H Q E h => sp2_len h) (fun f cdv A outer s H vs Q E hr h => ?_)
  · obtain ⟨v0, v1, rfl, h⟩ := h
    have hu := hu_of hr
    obtain ⟨a_law_text, fd_law_text, mg_law_text, kp_law_text, bd_law_text, ok_law_text⟩ := h_law_text.ex
    obtain ⟨a_law_take, fd_law_take, mg_law_take, kp_law_take, bd_law_take, ok_law_take⟩ := h_law_take.ex
    obtain ⟨a_law_signs, fd_law_signs, mg_law_signs, kp_law_signs, bd_law_signs, ok_law_signs⟩ := h_law_signs.ex
    refine ⟨_, (pss_cons (ps_set (i := 2) sc_law_names.nd rfl (Or.inl rfl) (pe_call ok_law_text hr rfl mg_law_text kp_law_text bd_law_text .nil pass0 (pa_cons (pv 0) (pa_cons pe_str (pa_cons (pe_call ok_law_take hr rfl mg_law_take kp_law_take bd_law_take .nil pass0 (pa_cons (pv 0) (pa_cons pe_int pa_nil))) pa_nil)))))
    (pss_cons (ps_set (i := 3) sc_law_names.nd rfl (Or.inl rfl) (pe_lst pa_nil))
    (pss_cons (ps_for PassesOwn.never rfl (pi_list (pe_call ok_law_signs hr rfl mg_law_signs kp_law_signs bd_law_signs .nil pass0 (pa_cons (pv 0) (pa_cons (pv 1) pa_nil)))) (pg_name (i := 4) sc_law_names.nd rfl (Or.inl rfl))
      (pss_one (ps_expr (pe_bm PySem.F.plainAttrs_list PySem.F.slot_list_append PySem.F.type_list_append mt_append (pv 3) (pa_cons (pe_op op_add_str (pe_op op_add_str (pv 2) (pv 4)) (pe_call ok_law_text hr rfl mg_law_text kp_law_text bd_law_text .nil pass0 (pa_cons (pv 0) (pa_cons pe_str (pa_cons (pe_call ok_law_take hr rfl mg_law_take kp_law_take bd_law_take .nil pass0 (pa_cons (pv 0) (pa_cons pe_int pa_nil))) pa_nil))))) pa_nil)))))
    (pss_one (ps_ret (pv 3)))))), ?_⟩
    obtain ⟨a, m, rfl, rfl, hP, hm, q⟩ := h
    have eaz : (Str.ofString "abcdefghijklmnopqrstuvwxyz" : Str) = T az := T_str _
    refine ⟨_, rfl, _, rfl, _, _, rfl, a, m, 4, rfl, rfl, by decide, by decide, hP, by omega, fun H1 r b1 p1 hr => ?_⟩
    refine ⟨_, _, _, rfl, a, m + 1, az, r, rfl, .inl (by rw [eaz]), rfl, by omega, by rw [az_len]; omega, p1, by omega, fun H2 t b2 p2 lt kt => ?_⟩
    have b12 := b1.trans b2
    refine ⟨Nat.zero_le _, fun D hD => ?_⟩
    have s3 : Same H2 (upd H2 D (.lst [])) := Same.new hD
    have nDa : D ≠ a := p2.ne hD
    refine ⟨_, rfl, _, rfl, _, _, rfl, a, m + 4, 1, rfl, rfl, by omega, (p2.same s3).up (by omega), by omega, fun H4 L ls b4 p4 nL hL ll nd low => ?_⟩
    have hD4 := b4 _ _ upd_same nDa
    have nLD : L ≠ D := fun z => by rw [z, upd_same] at nL; cases nL
    have nLa : L ≠ a := pen_ne p4 hL
    refine ⟨L, rfl, ⟨_, SqL.of hL⟩, ?_⟩
    have b14 : But a H H4 := b12.trans ((Same.but s3).trans b4)
    have hD0 : H D = none := b12.free nDa hD
    refine for_it (walk_list (xs := oneV ls)) (fun i σ H' => ∃ y, σ = [some (.ref a), some (.int 1), some (.str (T t)), some (.ref D), y] ∧ But a H H' ∧ PenAt H' a (m + 30 + i * 10) ∧ H' L = some (.lst (oneV ls)) ∧ ∃ fs : List (List Nat), fs.length = i ∧ (∀ nm ∈ fs, NameOk nm) ∧ H' D = some (.lst (fs.map fun l => V.str (T l)))) ⟨none, rfl, b14, p4.up (by omega), hL, [], rfl, (fun nm hn => by cases hn), hD4⟩ (fun i σ H' _ ⟨_, _, _, _, e, _⟩ => SqL.of e) ?_ ?_
    · rintro i x σ H5 H6 hi ⟨y, rfl, b5, p5, hL5, fs, lf, hf, hD5⟩ ⟨rfl, hx⟩
      rw [List.length_map, ll] at hi
      rw [List.getElem?_map] at hx
      have ei : ls[i]? = some ls[i] := List.getElem?_eq_getElem (by omega)
      rw [ei] at hx
      have ex : V.str (T [ls[i]]) = x := Option.some.inj hx
      subst ex
      have hlow := low ls[i] (List.getElem_mem _)
      refine ⟨_, rfl, .inl ⟨rfl, _, SqL.of hD5⟩, _, rfl, _, rfl, _, _, rfl, rfl, T_small (by show t.length + 1 ≤ 1000; omega), ?_⟩
      rw [T_app]
      refine ⟨_, rfl, _, rfl, _, _, rfl, a, m + 30 + i * 10, 5, rfl, rfl, by decide, by decide, p5, by omega, fun H7 r7 b7 p7 hr7 => ?_⟩
      refine ⟨_, _, _, rfl, a, m + 30 + i * 10 + 1, az, r7, rfl, .inl (by rw [eaz]), rfl, by omega, by rw [az_len]; omega, p7, by omega, fun H8 t8 b8 p8 lt8 kt8 => ?_⟩
      refine ⟨_, _, rfl, rfl, T_small (by rw [List.length_append]; show t.length + 1 + t8.length ≤ 1000; omega), ?_⟩
      rw [T_app]
      have b58 : But a H6 H8 := b7.trans b8
      have hD8 := b58 _ _ hD5 nDa
      refine ⟨D, _, _, rfl, rfl, hD8, by rw [List.length_map]; exact le_small (by omega), ?_⟩
      refine ⟨_, rfl, But.mut (b5.trans b58) hD0, (p8.set nDa).up (by omega), by rw [upd_ne nLD]; exact b58 _ _ hL5 nLa, fs ++ [t ++ [ls[i]] ++ t8], by rw [List.length_append, lf]; rfl, ?_, ?_⟩
      · intro nm hn
        rcases List.mem_append.mp hn with hn | hn
        · exact hf nm hn
        · rw [List.mem_singleton.mp hn]
          refine ⟨?_, ?_, ?_⟩
          · rw [List.length_append, List.length_append]
            show 1 ≤ t.length + 1 + t8.length
            omega
          · rw [List.length_append, List.length_append]
            show t.length + 1 + t8.length ≤ 8
            omega
          · intro c hc
            rcases List.mem_append.mp hc with hc | hc
            · rcases List.mem_append.mp hc with hc | hc
              · exact az_low (kt c hc)
              · rw [List.mem_singleton.mp hc]
                exact hlow
            · exact az_low (kt8 c hc)
      · rw [upd_same, List.map_append]
        rfl
    · rintro σ H5 ⟨y, rfl, b5, p5, hL5, fs, lf, hf, hD5⟩
      rw [List.length_map, ll] at lf p5
      match fs, lf, hf, hD5 with
      | [nm], _, hf, hD5 => exact ⟨_, rfl, q H5 D nm b5 (p5.up (by omega)) (hf nm List.mem_cons_self) hD5⟩
end
end G

/-! The law's draws: a book. -/
namespace G
open PySem PySem.Spec PyProof.Rows L2 TL

def mtab : List Int := [3, 2, 4, 4, 5, 8, 0]
theorem mtab_ok : ∀ (p : Fin 7) (r : Fin 2), mtab[p.1]? = some (mtab.getD p.1 0) ∧ 0 ≤ mtab.getD p.1 0 - (if decide (((p.1 : Nat) : Int) < 5) = true then 1 else 0) * ((r.1 : Nat) : Int) ∧ mtab.getD p.1 0 - (if decide (((p.1 : Nat) : Int) < 5) = true then 1 else 0) * ((r.1 : Nat) : Int) ≤ 8 := by decide
def ftab : List Nat := [4, 4, 4, 4, 4, 13, 1]
theorem ftab_ok : ∀ p : Fin 7, ftab[p.1]? = some (ftab.getD p.1 0) ∧ 0 < ftab.getD p.1 0 ∧ ftab.getD p.1 0 ≤ 13 := by decide
theorem sorted_S {ls : List Nat} {ys : List Str} (h : ys.Perm (ls.map fun d => T [d])) (s : sortedS ys = true) : ∃ cs : List Nat, ys = (cs.map fun d => T [d]) ∧ cs.Perm ls ∧ cs.Pairwise (· ≤ ·) := by
  have q : ∃ ds : List Nat, ys = ds.map fun d => T [d] := by
    have hy : ∀ y ∈ ys, ∃ d, y = T [d] := fun y hy => by
      obtain ⟨d, _, e⟩ := List.mem_map.mp (h.mem_iff.mp hy)
      exact ⟨d, e.symm⟩
    clear h s
    induction ys with
    | nil => exact ⟨[], rfl⟩
    | cons y ys ih =>
      obtain ⟨d, rfl⟩ := hy y List.mem_cons_self
      obtain ⟨ds, rfl⟩ := ih fun z hz => hy z (List.mem_cons_of_mem _ hz)
      exact ⟨d :: ds, rfl⟩
  obtain ⟨ds, rfl⟩ := q
  refine ⟨ds, rfl, ?_, sortedS_le s⟩
  have e : ((ds.map fun d => T [d]).map fun x => (tl x).headD 0).Perm ((ls.map fun d => T [d]).map fun x => (tl x).headD 0) := h.map _
  rw [List.map_map, List.map_map] at e
  have i1 : ∀ l : List Nat, l.map ((fun x => (tl x).headD 0) ∘ fun d => T [d]) = l := fun l => by
    induction l with
    | nil => rfl
    | cons a l ih => rw [List.map_cons, ih]; rfl
  rw [i1, i1] at e
  exact e
theorem lt_of_nd {cs : List Nat} (h : cs.Pairwise (· ≤ ·)) (nd : cs.Nodup) : cs.Pairwise (· < ·) := by
  induction cs with
  | nil => exact List.Pairwise.nil
  | cons c cs ih =>
    have h1 := List.pairwise_cons.mp h
    have h2 := List.nodup_cons.mp nd
    refine List.pairwise_cons.mpr ⟨fun d hd => ?_, ih h1.2 h2.2⟩
    have := h1.1 d hd
    by_cases z : c = d
    · exact absurd (z ▸ hd) h2.1
    · omega
theorem not_yetN {ls : List Nat} (nd : ls.Nodup) {i c : Nat} (h : ls[i]? = some c) : c ∉ ls.take i := by
  intro hm
  have h2 : ls = ls.take i ++ ls.drop i := (List.take_append_drop i ls).symm
  rw [h2] at nd
  have hr : c ∈ ls.drop i := by
    obtain ⟨hi, e⟩ := List.getElem?_eq_some_iff.mp h
    rw [List.drop_eq_getElem_cons hi, e]
    exact List.mem_cons_self
  exact (List.nodup_append.mp nd).2.2 _ hm _ hr rfl
theorem wkv_add (rs : List Rule) (c : Nat) (t : List Nat) : wkv (rs ++ [(c, t)]) = wkv rs ++ [(Sum.inr (T [c]), V.str (T t))] := by
  unfold wkv
  rw [List.map_append]
  rfl
theorem wordOf_le {rs : List Rule} {ls : List Nat} (ok : ∀ r ∈ rs, r.2.length ≤ 6 ∧ ∀ c ∈ r.2, c ∈ ls) (c : Nat) : (wordOf rs c).length ≤ 6 ∧ ∀ d ∈ wordOf rs c, d ∈ ls := by
  by_cases z : c ∈ rs.map (·.1)
  · exact ok _ (wordOf_mem z)
  · unfold wordOf
    rw [find_none z]
    exact ⟨Nat.zero_le _, fun d hd => by cases hd⟩
section
variable {P : Program} {w : World} {K : PySem.W.Frag} {mg : Str → Option Value} {base : Heap} {C aF : Addr}
def sp_law_book : Sp := sp1 fun v H Q => ∃ a m, v = .ref a ∧ PenAt H a m ∧ m + 5000 ≤ 1000000 ∧ ∀ H' b f rs, But a H H' → PenAt H' a (m + 2000) → BookAt H' b f rs → Wf f rs → Q (.ref b) H'
theorem sc_law_book : FnScope ["_law_pen_here", "_law_pick", "_law_many", "_law_signs_here", "_law_words", "_law_at", "_law_letter", "_law_first"] ["_law_pen_here"] (defScope s_law_book) := ⟨rfl, rfl, rfl, by decide +kernel, rfl, by decide +kernel, by decide +kernel⟩
theorem has_law_book {k : Nat} (S : Src K mg "_law_book" s_law_book) (TX : Txt K mg w C aF) (h_law_take : Has P w K mg base k "_law_take" ["_law_pen_here", "_law_size"] (sp_law_take)) (h_law_signs : Has P w K mg base k "_law_signs" ["_law_pen_here", "_law_many"] (sp_law_signs)) (h_law_word : Has P w K mg base k "_law_word" ["_law_pen_here", "_law_pick", "_law_signs_here", "_law_at"] (sp_law_word)) (h_law_text : Has P w K mg base k "_law_text" ["_law_pen_here", "_law_signs_here", "_law_many"] (sp_law_text)) : Has P w K mg base (k + 1) "_law_book" ["_law_pen_here"] (sp_law_book) := by
  refine has_of S sc_law_book (fun _ _ _ _ _ _ us hl => match us, hl with | [_], _ => rfl) (fun vs H Q E h => sp1_len h) (fun f cdv A outer s H vs Q E hr h => ?_)
  · obtain ⟨v0, rfl, h⟩ := h
    have hu := hu_of hr
    obtain ⟨a_law_take, fd_law_take, mg_law_take, kp_law_take, bd_law_take, ok_law_take⟩ := h_law_take.ex
    obtain ⟨a_law_signs, fd_law_signs, mg_law_signs, kp_law_signs, bd_law_signs, ok_law_signs⟩ := h_law_signs.ex
    obtain ⟨a_law_word, fd_law_word, mg_law_word, kp_law_word, bd_law_word, ok_law_word⟩ := h_law_word.ex
    obtain ⟨a_law_text, fd_law_text, mg_law_text, kp_law_text, bd_law_text, ok_law_text⟩ := h_law_text.ex
    refine ⟨_, (pss_cons (ps_set (i := 1) sc_law_book.nd rfl (Or.inl rfl) (pe_call ok_law_take hr rfl mg_law_take kp_law_take bd_law_take .nil pass0 (pa_cons (pv 0) (pa_cons pe_int pa_nil))))
    (pss_cons (ps_set (i := 2) sc_law_book.nd rfl (Or.inl rfl) (pe_op op_sub (pe_ix (ix_listK K) (pe_lst (pa_cons pe_int (pa_cons pe_int (pa_cons pe_int (pa_cons pe_int (pa_cons pe_int (pa_cons pe_int (pa_cons pe_int pa_nil)))))))) (pv 1) (fun _ _ => rfl)) (pe_op op_mul (pe_callTy call_int1 (by rfl) TX.int (by decide +kernel) (pa_cons (pe_cmpR op_lt (pv 1) pe_int (nomark _)) pa_nil)) (pe_call ok_law_take hr rfl mg_law_take kp_law_take bd_law_take .nil pass0 (pa_cons (pv 0) (pa_cons pe_int pa_nil))))))
    (pss_cons (ps_set (i := 3) sc_law_book.nd rfl (Or.inl rfl) (pe_call ok_law_signs hr rfl mg_law_signs kp_law_signs bd_law_signs .nil pass0 (pa_cons (pv 0) (pa_cons (pv 2) pa_nil))))
    (pss_cons (ps_set (i := 4) sc_law_book.nd rfl (Or.inr rfl) pe_dnewK)
    (pss_cons (ps_for PassesOwn.never rfl (pi_enum (by rfl) TX.enumerate (pa_cons (pv 3) pa_nil)) (pg_tup rfl (pgs_cons (pg_name (i := 5) sc_law_book.nd rfl (Or.inl rfl)) (pgs_cons (pg_name (i := 6) sc_law_book.nd rfl (Or.inl rfl)) pgs_nil)))
      (pss_one (ps_dput hu (pv 4) (pv 6) (pe_call ok_law_word hr rfl mg_law_word kp_law_word bd_law_word .nil pass0 (pa_cons (pv 0) (pa_cons (pv 1) (pa_cons (pv 3) (pa_cons (pv 5) pa_nil))))) rfl)))
    (pss_cons (ps_set (i := 7) sc_law_book.nd rfl (Or.inl rfl) (pe_call ok_law_text hr rfl mg_law_text kp_law_text bd_law_text .nil pass0 (pa_cons (pv 0) (pa_cons (pv 3) (pa_cons (pe_call ok_law_take hr rfl mg_law_take kp_law_take bd_law_take .nil pass0 (pa_cons (pv 0) (pa_cons (pe_ix (ix_listK K) (pe_lst (pa_cons pe_int (pa_cons pe_int (pa_cons pe_int (pa_cons pe_int (pa_cons pe_int (pa_cons pe_int (pa_cons pe_int pa_nil)))))))) (pv 1) (fun _ _ => rfl)) pa_nil))) pa_nil)))))
    (pss_one (ps_ret (pe_tup (pa_cons (pv 7) (pa_cons (pe_callTy call_tuple_of (by rfl) TX.tuple (by decide +kernel) (pa_cons (pe_lc (own := [("_law_letter", 6)]) (by rfl) sc_law_book.nd (pi_list (pe_callB (call_sortedD rfl) (by rfl) TX.sorted (by decide +kernel) (pa_cons (pv 4) pa_nil))) (blkOk_by (own := [("_law_letter", 6)]) (by kernel_rfl)) (fun _ _ _ _ _ => (pg_name (i := 6) sc_law_book.nd rfl (Or.inl rfl))) (fun _ _ _ _ _ => pts_nil) (fun _ _ _ _ _ => (pe_tup (pa_cons (pv 6) (pa_cons (pe_dget hu (pv 4) (pv 6) (fun _ _ => rfl)) pa_nil))))) pa_nil)) pa_nil))))))))))), ?_⟩
    obtain ⟨a, m, rfl, hP, hm, q⟩ := h
    refine ⟨_, rfl, _, _, rfl, a, m, 7, rfl, rfl, by decide, by decide, hP, by omega, fun H1 p b1 p1 hp7 => ?_⟩
    refine ⟨by decide, fun A1 hA1 => ?_⟩
    have s1 : Same H1 (upd H1 A1 (.lst (mtab.map V.int))) := Same.new hA1
    have b2 : But a H _ := b1.trans (Same.but s1)
    have p2 := p1.same s1
    have at1 : ∀ r < 2, ∃ n : Nat, n ≤ 8 ∧ mtab.getD p 0 - (if decide (((p : Nat) : Int) < 5) = true then 1 else 0) * ((r : Nat) : Int) = (n : Int) := fun r hr => by
      obtain ⟨h1, h2, h3⟩ := mtab_ok ⟨p, hp7⟩ ⟨r, hr⟩
      obtain ⟨n, e⟩ := nat_of h2
      exact ⟨n, by omega, e⟩
    have ix1 : atI (mtab.map V.int) ((p : Nat) : Int) = some (.int (mtab.getD p 0)) := atI_nat (map_int_of (mtab_ok ⟨p, hp7⟩ ⟨0, by decide⟩).1)
    refine ⟨_, rfl, A1, mtab.map V.int, _, _, rfl, rfl, SqL.of upd_same, ix1, ?_⟩
    refine ⟨_, rfl, _, _, rfl, rfl, .inr ⟨_, rfl, ?_⟩⟩
    refine ⟨_, rfl, _, _, rfl, a, m + 1, 2, rfl, rfl, by decide, by decide, p2, by omega, fun H3 r b3 p3 hr => ?_⟩
    obtain ⟨n, hn8, en⟩ := at1 r hr
    have cm : CMul (if decide (((p : Nat) : Int) < 5) = true then 1 else 0) ((r : Nat) : Int) := .inr ⟨by omega, by omega⟩
    refine ⟨_, _, rfl, rfl, cm, _, _, rfl, rfl, ?_⟩
    have b13 := b2.trans b3
    refine ⟨_, rfl, _, rfl, _, _, rfl, a, m + 2, n, rfl, congrArg V.int en, by omega, p3, by omega, fun H4 L ls b4 p4 nL hL ll nd low => ?_⟩
    have b14 := b13.trans b4
    have nLa : L ≠ a := pen_ne p4 hL
    intro d hd
    have s5 : Same H4 (upd H4 d (.dK [])) := Same.new hd
    have nda : d ≠ a := p4.ne hd
    have nLd : L ≠ d := fun z => by rw [z, hd] at hL; cases hL
    have hd0 : H d = none := b14.free nda hd
    refine ⟨_, rfl, L, _, rfl, SqL.of (s5 _ _ hL), ?_⟩
    refine for_it (walk_enum (xs := oneV ls)) (fun i σ H' => ∃ v2 y5 y6, σ = [some (.ref a), some (.int ((p : Nat) : Int)), v2, some (.ref L), some (.ref d), y5, y6, none] ∧ But a H H' ∧ PenAt H' a (m + 100 + i * 110) ∧ H' L = some (.lst (oneV ls)) ∧ ∃ rs : List Rule, rs.map (·.1) = ls.take i ∧ (∀ r ∈ rs, r.2.length ≤ 6 ∧ ∀ c ∈ r.2, c ∈ ls) ∧ H' d = some (.dK (wkv rs)))
      ⟨_, none, none, rfl, b14.trans (Same.but s5), (p4.same s5).up (by omega), s5 _ _ hL, [], rfl, (fun r hr => by cases hr), upd_same⟩ (fun i σ H' _ ⟨_, _, _, _, _, _, e, _⟩ => SqL.of e) ?_ ?_
    · rintro i x σ H5 H6 hi ⟨v2, y5, y6, rfl, b5, p5, hL5, rs, er, ok, hd5⟩ ⟨T1, x1, x2, rfl, nT, rfl, e1, e2⟩
      cases e1
      rw [List.length_map] at hi
      have ei : ls[i]? = some ls[i] := List.getElem?_eq_getElem hi
      have e3 : (ls.map fun c => V.str (T [c]))[i]? = some x2 := e2
      rw [List.getElem?_map, ei] at e3
      have ex : V.str (T [ls[i]]) = x2 := Option.some.inj e3
      subst ex
      have sT : Same H5 (upd H5 T1 (.tup [.int ((i : Nat) : Int), .str (T [ls[i]])])) := Same.new nT
      refine ⟨T1, _, rfl, SqT.of upd_same, rfl, _, _, rfl, _, _, rfl, rfl, ?_⟩
      refine ⟨_, rfl, _, rfl, _, rfl, _, rfl, _, _, _, _, rfl, a, m + 100 + i * 110, p, L, ls, i, rfl, rfl, rfl, rfl, sT _ _ hL5, hi, by omega, p5.same sT, by omega, fun H7 t b7 p7 lt kt => ?_⟩
      have hd7 := b7 _ _ (sT _ _ hd5) nda
      have nk : ls[i] ∉ rs.map (·.1) := by rw [er]; exact not_yetN nd ei
      have lrs : rs.length ≤ 8 := by
        have e9 := congrArg List.length er
        rw [List.length_map, List.length_take] at e9
        omega
      refine ⟨_, rfl, _, rfl, d, _, rfl, DPut.k (k := Sum.inr (T [ls[i]])) hd7 (by rw [wkv_len]; exact le_small (by omega)), ?_⟩
      refine ⟨_, _, _, rfl, But.mut (b5.trans ((Same.but sT).trans b7)) hd0, (p7.set nda).up (by omega), by rw [upd_ne nLd]; exact b7 _ _ (sT _ _ hL5) nLa, rs ++ [(ls[i], t)], ?_, ?_, ?_⟩
      · rw [List.map_append, er, take_more ei]
        rfl
      · intro r9 hr9
        rcases List.mem_append.mp hr9 with z | z
        · exact ok r9 z
        · rw [List.mem_singleton.mp z]
          exact ⟨lt, kt⟩
      · rw [upd_same, putK_new _ (wkv_none nk), wkv_add]
    · rintro σ H5 ⟨v2, y5, y6, rfl, b5, p5, hL5, rs, er, ok, hd5⟩
      rw [List.length_map, List.take_length] at er
      rw [List.length_map] at p5
      obtain ⟨f1, f2, f3⟩ : ftab[p]? = some (ftab.getD p 0) ∧ 0 < ftab.getD p 0 ∧ ftab.getD p 0 ≤ 13 := ftab_ok ⟨p, hp7⟩
      refine ⟨_, rfl, _, rfl, _, rfl, by decide, fun A2 hA2 => ?_⟩
      have s6 : Same H5 (upd H5 A2 (.lst (ftab.map fun n => V.int ((n : Nat) : Int)))) := Same.new hA2
      have ix2 : atI (ftab.map fun n => V.int ((n : Nat) : Int)) ((p : Nat) : Int) = some (.int ((ftab.getD p 0 : Nat) : Int)) := atI_nat (by rw [List.getElem?_map, f1]; rfl)
      refine ⟨_, rfl, A2, ftab.map fun n => V.int ((n : Nat) : Int), _, _, rfl, rfl, SqL.of upd_same, ix2, ?_⟩
      refine ⟨_, _, rfl, a, m + 1000, ftab.getD p 0, rfl, rfl, f2, by omega, (p5.same s6).up (by omega), by omega, fun H7 r7 b7 p7 hr7 => ?_⟩
      have b57 : But a H5 H7 := (Same.but s6).trans b7
      refine ⟨_, _, _, rfl, a, m + 1001, ls, r7, rfl, .inr ⟨L, rfl, b57 _ _ hL5 nLa⟩, rfl, by omega, by omega, p7, by omega, fun H8 f b8 p8 lf kf => ?_⟩
      have b58 := b57.trans b8
      have hd8 := b58 _ _ hd5 nda
      have b8H := b5.trans b58
      have lrs : rs.length = ls.length := by
        have e9 := congrArg List.length er
        rw [List.length_map] at e9
        exact e9
      have ekeys : (wkv rs).map (·.1) = (ls.map fun c => T [c]).map Sum.inr := by
        unfold wkv
        rw [← er, List.map_map, List.map_map, List.map_map]
        rfl
      refine ⟨_, rfl, _, rfl, d, wkv rs, ls.map fun c => T [c], rfl, .inl hd8, ekeys, by rw [List.length_map]; omega, fun ys P1 perm so hP1 => ?_⟩
      obtain ⟨cs, rfl, pc, up⟩ := sorted_S perm so
      have s9 : Same H8 (upd H8 P1 (.lst ((cs.map fun d => T [d]).map V.str))) := Same.new hP1
      have lcs : cs.length = ls.length := pc.length_eq
      have ecs : (cs.map fun d => T [d]).map V.str = cs.map fun d => V.str (T [d]) := by rw [List.map_map]; rfl
      refine ⟨P1, rfl, ⟨_, SqL.of upd_same⟩, fun D hD => ?_⟩
      rw [ecs] at s9 hD ⊢
      have hDH : H8 D = none := s9.free hD
      have nPD : P1 ≠ D := fun z => by rw [← z, upd_same] at hD; cases hD
      have ws : List.length (cs.map fun c => ((c, wordOf rs c) : Rule)) = cs.length := List.length_map _
      refine lc_it (walk_list (xs := cs.map fun d => V.str (T [d]))) (fun i H' => Same H8 H' ∧ H' P1 = some (.lst (cs.map fun d => V.str (T [d]))) ∧ ∃ ps : List V, H' D = some (.lst ps) ∧ Paired (RuleAt H') ps ((cs.map fun c => ((c, wordOf rs c) : Rule)).take i)) ⟨s9.trans (Same.new hD), by rw [upd_ne nPD, upd_same], [], upd_same, .nil⟩ (fun i H' _ ⟨_, e, _⟩ => SqL.of e) ?_ ?_
      · rintro i x H9 H10 hi ⟨s10, hP9, ps, hps, hpp⟩ ⟨rfl, hx⟩
        rw [List.length_map] at hi
        have ei : cs[i]? = some cs[i] := List.getElem?_eq_getElem hi
        rw [List.getElem?_map, ei] at hx
        have ex : V.str (T [cs[i]]) = x := Option.some.inj hx
        subst ex
        have hk : cs[i] ∈ rs.map (·.1) := by rw [er]; exact pc.mem_iff.mp (List.getElem_mem _)
        have er2 : (cs.map fun c => ((c, wordOf rs c) : Rule))[i]? = some (cs[i], wordOf rs cs[i]) := by rw [List.getElem?_map, ei]; rfl
        refine ⟨rfl, _, rfl, _, rfl, _, rfl, d, _, rfl, rdDGet (k := Sum.inr (T [cs[i]])) (.inl (s10 _ _ hd8)) (valV_word hk), (by show 2 ≤ sizeLine; decide), fun p9 hp9 => ?_⟩
        have s11 : Same H10 (upd H10 p9 (.tup [.str (T [cs[i]]), .str (T (wordOf rs cs[i]))])) := Same.new hp9
        have hps2 := s11 _ _ hps
        refine ⟨_, hps2, ?_, Same.mut (s10.trans s11) hDH, by rw [upd_ne nPD]; exact s11 _ _ hP9, _, upd_same, ?_⟩
        · have l9 := paired_len hpp
          rw [List.length_take] at l9
          exact le_small (by omega)
        · rw [take_more er2]
          exact paired_app (Paired.mapP hpp fun _ _ z => z.mono fun a xs h => mut_tups hps2 a xs (s11 _ _ h)) ⟨p9, rfl, mut_tups hps2 _ _ upd_same⟩
      · rintro H9 ⟨s10, hP9, ps, hps, hpp⟩
        rw [List.length_map, ← ws, List.take_length] at hpp
        refine ⟨_, ps, rfl, .inl ⟨SqL.of hps, fun R hR => ?_⟩⟩
        have s11 : Same H9 (upd H9 R (.tup ps)) := Same.new hR
        refine ⟨by show 2 ≤ sizeLine; decide, fun b hb => ?_⟩
        have s12 : Same _ _ := Same.new (o := .tup [.str (T f), .ref R]) hb
        have sA := s10.trans (s11.trans s12)
        refine q _ b f (cs.map fun c => ((c, wordOf rs c) : Rule)) (b8H.trans (Same.but sA)) ((p8.same sA).up (by omega)) ⟨R, upd_same, ps, s12 _ _ upd_same, Paired.mapP hpp fun _ _ z => z.mono (Same.tups (s11.trans s12))⟩ ?_
        have ek : (cs.map fun c => ((c, wordOf rs c) : Rule)).map (·.1) = cs := by
          rw [List.map_map]
          exact List.map_id' cs
        refine ⟨by rw [ws]; omega, ?_, by rw [ek]; exact lt_of_nd up (pc.nodup_iff.mpr nd), ?_, by omega, by rw [ek]; exact fun c hc => pc.mem_iff.mpr (kf c hc)⟩
        · intro r9 hr9
          obtain ⟨c, hc, rfl⟩ := List.mem_map.mp hr9
          exact low c (pc.mem_iff.mp hc)
        · intro r9 hr9
          obtain ⟨c, hc, rfl⟩ := List.mem_map.mp hr9
          rw [ek]
          have h9 := wordOf_le ok c
          exact ⟨h9.1, fun c2 hc2 => pc.mem_iff.mpr (h9.2 c2 hc2)⟩
end
end G

/-! The law's own reckoning: a book shown, sizes, numbers. -/
namespace G
open PySem PySem.Spec PyProof.Rows L2 TL

theorem rule_T (r : Rule) : Str.ofString " " ++ T [r.1] ++ Str.ofString "=" ++ T r.2 = T (32 :: ruleT r) := by
  refine ext_tl ?_
  rw [tl_append, tl_append, tl_append, sp_T, show tl (Str.ofString "=") = [61] by decide +kernel]
  rfl
theorem skv_take {rs : List Rule} {g : Nat → Int} {i : Nat} {r : Rule} (h : rs[i]? = some r) : skv (rs.take (i + 1)) g = skv (rs.take i) g ++ [(Sum.inr (T [r.1]), V.int (g r.1))] := by
  unfold skv
  rw [take_more h, List.map_append]
  rfl
theorem DictI.off {rs : List Rule} {H : Hp} {F B : Addr} {ys : List V} {o : HO} {p : V} {g : Nat → Int} (e : H F = some (.lst ys)) (h : DictI rs (Off B H) p g) : DictI rs (Off B (upd H F o)) p g := by
  obtain ⟨a, e1, e2⟩ := h
  have n : a ≠ B := fun z => by
    rw [z] at e2
    unfold Off at e2
    rw [if_pos rfl] at e2
    cases e2
  rw [off_ne n] at e2
  refine ⟨a, e1, ?_⟩
  rw [off_ne n, upd_ne]
  · exact e2
  · intro z
    rw [z, e] at e2
    cases e2
theorem few_len {n : Nat} {b : Nat} (s : String) (h : (Str.ofString s).length = b) (k : b + n ≤ 1000) : (Str.ofString s).length + n ≤ sizeLine := by
  rw [h]
  exact sz_ok (by omega)
theorem pg_tupK {X : Cx} (K : PySem.W.Frag) (n : Nat) {es : List Expr} {k : Nat} {t : TGs} {pos : Pos} (hc : X.calm = true) (h : PGs X es t) (hK : X.K = K := by rfl)
    (hn : (assignEach es X.env).length = n := by rfl) (hst : (assignEach es X.env).findIdx? (·.1) = none := by rfl) : PG X (.Tuple es k pos) (gTup K n t) := by
  subst hK
  exact pg_tup hc h hn hst
section
variable {P : Program} {w : World} {K : PySem.W.Frag} {mg : Str → Option Value} {base : Heap} {C aF : Addr}
def sp_law_shown : Sp := sp1 fun v H Q => ∃ b f rs, v = .ref b ∧ BookAt H b f rs ∧ Wf f rs ∧ ∀ H', Same H H' → Q (.str (T (bookT f rs))) H'
theorem sc_law_shown : FnScope ["_law_book_here", "_law_letter", "_law_text_here"] ["_law_book_here"] (defScope s_law_shown) := ⟨rfl, rfl, rfl, by decide +kernel, rfl, by decide +kernel, by decide +kernel⟩
theorem has_law_shown {k : Nat} (S : Src K mg "_law_shown" s_law_shown) (TX : Txt K mg w C aF)  : Has P w K mg base (k + 1) "_law_shown" ["_law_book_here"] (sp_law_shown) := by
  refine has_of S sc_law_shown (fun _ _ _ _ _ _ us hl => match us, hl with | [_], _ => rfl) (fun vs H Q E h => sp1_len h) (fun f cdv A outer s H vs Q E hr h => ?_)
  · obtain ⟨v0, rfl, h⟩ := h
    have hu := hu_of hr
    refine ⟨_, (pss_one (ps_ret (pe_op op_add_str (pe_op op_add_str (pe_ix (ix_tupK K) (pv 0) pe_int (fun _ _ => rfl)) pe_str) (pe_join pe_str (pe_lc (own := [("_law_letter", 1), ("_law_text_here", 2)]) (by rfl) sc_law_shown.nd (pi_tup (pe_ix (ix_tupK K) (pv 0) pe_int (fun _ _ => rfl))) (blkOk_by (own := [("_law_letter", 1), ("_law_text_here", 2)]) (by kernel_rfl)) (fun _ _ _ _ _ => (pg_tupK K 2 rfl (pgs_cons (pg_name (i := 1) sc_law_shown.nd rfl (Or.inl rfl)) (pgs_cons (pg_name (i := 2) sc_law_shown.nd rfl (Or.inl rfl)) pgs_nil)))) (fun _ _ _ _ _ => pts_nil) (fun _ _ _ _ _ => (pe_op op_add_str (pe_op op_add_str (pe_op op_add_str pe_str (pv 1)) pe_str) (pv 2)))))))), ?_⟩
    obtain ⟨b, f, rs, rfl, ⟨r, hb, hr⟩, wf, q⟩ := h
    obtain ⟨ps, hps, lps, ips⟩ := rules_at hr
    have few := wf.few
    have lf := wf.fl
    have l58 : (Str.ofString ":").length = 1 := by decide +kernel
    have l61 : (Str.ofString "=").length = 1 := by decide +kernel
    have l32 : (Str.ofString " ").length = 1 := by decide +kernel
    have e58 : T f ++ Str.ofString ":" = T (f ++ [58]) := ext_tl (by rw [tl_append, colon_T])
    refine ⟨_, rfl, b, _, (0 : Int), _, rfl, rfl, SqT.of hb, rfl, _, _, rfl, rfl, by rw [l58, T_len]; exact sz_ok (by omega), ?_⟩
    rw [e58]
    refine ⟨⟨_, rfl⟩, _, rfl, b, _, (1 : Int), _, rfl, rfl, SqT.of hb, rfl, r, rfl, ⟨_, SqT.of hps⟩, fun D hD => ?_⟩
    refine lc_it (walk_tup (xs := ps)) (fun i H' => Same H H' ∧ H' D = some (.lst ((rs.take i).map fun r => V.str (T (32 :: ruleT r))))) ⟨Same.new hD, upd_same⟩ (fun i H' _ ⟨s, _⟩ => SqT.of (s _ _ hps)) ?_ ?_
    · rintro i x H2 H3 hi ⟨s2, hl⟩ ⟨rfl, hx⟩
      obtain ⟨c, hc, p2, rfl, hp2⟩ := ips i x hx
      have h6 := (wf.wd c (List.mem_of_getElem? hc)).1
      refine ⟨_, _, rfl, SqT.of (s2 _ _ hp2), rfl, _, _, rfl, _, _, rfl, rfl, ?_⟩
      refine ⟨rfl, _, rfl, _, _, rfl, rfl, by rw [l32]; exact sz_ok (by show 1 + 1 ≤ 100000; omega), _, _, rfl, rfl, ?_, _, rfl, _, _, rfl, rfl, ?_, ?_⟩
      · rw [Str.length_append, l32, l61]
        exact sz_ok (by show 1 + 1 + 1 ≤ 100000; omega)
      · rw [Str.length_append, Str.length_append, l32, l61, T_len]
        exact sz_ok (by show 1 + 1 + 1 + c.2.length ≤ 100000; omega)
      rw [rule_T]
      refine ⟨_, hl, by rw [List.length_map, List.length_take]; exact le_small (by omega), Same.mut s2 hD, ?_⟩
      rw [upd_same, take_more hc, List.map_append]
      rfl
    · rintro H2 ⟨s2, hl⟩
      rw [lps, List.take_length] at hl
      have e1 : (rs.map fun r => V.str (T (32 :: ruleT r))) = ((rs.map fun r => 32 :: ruleT r).map T).map V.str := by rw [List.map_map, List.map_map]; rfl
      rw [e1] at hl
      refine ⟨_, D, (rs.map fun r => 32 :: ruleT r).map T, rfl, rfl, .inl (SqL.of hl), ?_, ?_⟩
      · have h1 := sum_len (ls := (rs.map fun r => 32 :: ruleT r).map T) (n := 9) (fun x hx => by
          obtain ⟨z, hz, rfl⟩ := List.mem_map.mp hx
          obtain ⟨y, hy, rfl⟩ := List.mem_map.mp hz
          have := (wf.wd y hy).1
          rw [T_len]
          show y.2.length + 1 + 1 + 1 ≤ 9
          omega)
        have h2 : (Str.ofString "").length = 0 := by decide +kernel
        rw [h2]
        simp only [List.length_map] at h1 ⊢
        omega
      · rw [join_T]
        have lt := tail_len wf
        refine ⟨_, _, rfl, rfl, ?_, ?_⟩
        · rw [T_len, T_len, List.length_append]
          show f.length + 1 + (tailT rs).length ≤ sizeLine
          exact sz_ok (by omega)
        · rw [T_app, List.append_assoc]
          exact q _ s2
def sp_law_number : Sp := sp1 fun v H Q => ∃ n, v = .str (T (numL n)) ∧ (numL n).length ≤ 300 ∧ Q (.int ((n : Nat) : Int)) H
theorem sc_law_number : FnScope ["_law_text_here", "_law_sign"] ["_law_text_here"] (defScope s_law_number) := ⟨rfl, rfl, rfl, by decide +kernel, rfl, by decide +kernel, by decide +kernel⟩
theorem has_law_number {k : Nat} (S : Src K mg "_law_number" s_law_number) (TX : Txt K mg w C aF)  : Has P w K mg base (k + 1) "_law_number" ["_law_text_here"] (sp_law_number) := by
  refine has_of S sc_law_number (fun _ _ _ _ _ _ us hl => match us, hl with | [_], _ => rfl) (fun vs H Q E h => sp1_len h) (fun f cdv A outer s H vs Q E hr h => ?_)
  · obtain ⟨v0, rfl, h⟩ := h
    have hu := hu_of hr
    refine ⟨_, (pss_cons (ps_if (PW.pt (pw_or (pt_cmpR op_eq (pv 0) pe_str (nomark _)) (pw_or1 (pt_cmpR op_gt (pe_callB call_len_str (by rfl) TX.len (by decide +kernel) (pa_cons (pv 0) pa_nil)) pe_int (nomark _))))) (pss_one (ps_ret (pe_un un_neg pe_int))) pss_nil)
    (pss_cons (ps_for PassesOwn.never rfl (pi_str (pv 0)) (pg_name (i := 1) sc_law_number.nd rfl (Or.inl rfl))
      (pss_one (ps_if (pt_cmpR op_notIn_sign (pv 1) pe_str rfl) (pss_one (ps_ret (pe_un un_neg pe_int))) pss_nil)))
    (pss_one (ps_ret (pe_callTy call_int_str (by rfl) TX.int (by decide +kernel) (pa_cons (pv 0) pa_nil)))))), ?_⟩
    obtain ⟨n, rfl, h2, q⟩ := h
    have h1 : 1 ≤ (numL n).length := by
      cases e : numL n with
      | nil => exact absurd e (numL_ne n)
      | cons _ _ => simp
    refine ⟨_, rfl, rfl, _, rfl, ibF (decide_eq_false (T_ne_empty h1)) ?_⟩
    refine ⟨_, rfl, _, rfl, T_sz (by omega), _, _, rfl, rfl, _, rfl, ibF (decide_eq_false (by rw [T_len]; omega)) ?_⟩
    refine ⟨_, rfl, _, rfl, for_it (walk_T (l := numL n)) (fun i σ H' => ∃ y, σ = [some (.str (T (numL n))), y] ∧ H' = H) ⟨none, rfl, rfl⟩ (fun _ _ _ _ _ => trivial) ?_ ?_⟩
    · rintro i x σ H2 H3 hi ⟨y, rfl, rfl⟩ ⟨rfl, c, hc, rfl⟩
      obtain ⟨l1, l2⟩ := numL_digits n c (List.mem_of_getElem? hc)
      refine ⟨_, rfl, c, _, rfl, rfl, _, rfl, ibF (by rw [decide_eq_true (dig_mem l1 l2)]; rfl) ?_⟩
      exact ⟨_, rfl, rfl⟩
    · rintro σ H2 ⟨y, rfl, rfl⟩
      exact ⟨_, rfl, _, n, rfl, int_text h2, by rw [T_len]; omega, q⟩
def sp_law_sizes : Sp := sp2 fun v0 v1 H Q => ∃ b f rs n, v0 = .ref b ∧ v1 = .int ((n : Nat) : Int) ∧ n ≤ 300 ∧ BookAt H b f rs ∧ Wf f rs ∧ ∀ H' L, Same H H' → (∀ B, H B ≠ none → SizesAt rs (Off B H') L (upS rs (n + 1))) → Q (.ref L) H'
theorem sc_law_sizes : FnScope ["_law_book_here", "_law_age", "_law_sizes_here", "_law_letter", "_law_text_here", "_law_found", "_law_k", "_law_sign"] ["_law_book_here", "_law_age"] (defScope s_law_sizes) := ⟨rfl, rfl, rfl, by decide +kernel, rfl, by decide +kernel, by decide +kernel⟩
theorem has_law_sizes {k : Nat} (S : Src K mg "_law_sizes" s_law_sizes) (TX : Txt K mg w C aF)  : Has P w K mg base (k + 1) "_law_sizes" ["_law_book_here", "_law_age"] (sp_law_sizes) := by
  refine has_of S sc_law_sizes (fun _ _ _ _ _ _ us hl => match us, hl with | [_, _], _ => rfl) (fun vs H Q E h => sp2_len h) (fun f cdv A outer s H vs Q E hr h => ?_)
  · obtain ⟨v0, v1, rfl, h⟩ := h
    have hu := hu_of hr
    refine ⟨_, (pss_cons (ps_set (i := 2) sc_law_sizes.nd rfl (Or.inl rfl) pe_dnewK)
    (pss_cons (ps_for PassesOwn.never rfl (pi_tup (pe_ix (ix_tupK K) (pv 0) pe_int (fun _ _ => rfl))) (pg_tup rfl (pgs_cons (pg_name (i := 3) sc_law_sizes.nd rfl (Or.inl rfl)) (pgs_cons (pg_name (i := 4) sc_law_sizes.nd rfl (Or.inl rfl)) pgs_nil)))
      (pss_one (ps_dput hu (pv 2) (pv 3) pe_int rfl)))
    (pss_cons (ps_set (i := 5) sc_law_sizes.nd rfl (Or.inr rfl) (pe_lst (pa_cons (pv 2) pa_nil)))
    (pss_cons (ps_for PassesOwn.never rfl (pi_range1 (by rfl) TX.range (pa_cons (pv 1) pa_nil)) (pg_name (i := 6) sc_law_sizes.nd rfl (Or.inr rfl))
      (pss_cons (ps_set (i := 2) sc_law_sizes.nd rfl (Or.inl rfl) pe_dnewK)
    (pss_cons (ps_for PassesOwn.never rfl (pi_tup (pe_ix (ix_tupK K) (pv 0) pe_int (fun _ _ => rfl))) (pg_tup rfl (pgs_cons (pg_name (i := 3) sc_law_sizes.nd rfl (Or.inl rfl)) (pgs_cons (pg_name (i := 4) sc_law_sizes.nd rfl (Or.inl rfl)) pgs_nil)))
      (pss_one (ps_dput hu (pv 2) (pv 3) (pe_callB (cr_sumK K rfl) (by rfl) TX.sum (by decide +kernel) (pa_cons (pe_lc (own := [("_law_sign", 7)]) (by rfl) sc_law_sizes.nd (pi_str (pv 4)) (blkOk_by (own := [("_law_sign", 7)]) (by kernel_rfl)) (fun _ _ _ _ _ => (pg_name (i := 7) sc_law_sizes.nd rfl (Or.inl rfl))) (fun _ _ _ _ _ => pts_nil) (fun _ _ _ _ _ => (pe_dget hu (pe_ix (ix_listK K) (pv 5) (pv 6) (fun _ _ => rfl)) (pv 7) (fun _ _ => rfl)))) pa_nil)) rfl)))
    (pss_one (ps_expr (pe_bm PySem.F.plainAttrs_list PySem.F.slot_list_append PySem.F.type_list_append mt_append (pv 5) (pa_cons (pv 2) pa_nil)))))))
    (pss_one (ps_ret (pv 5))))))), ?_⟩
    obtain ⟨b, f, rs, n, rfl, rfl, hn, ⟨r, hb, hr⟩, wf, q⟩ := h
    obtain ⟨ps, hps, lps, ips⟩ := rules_at hr
    have few := wf.few
    intro d hd
    have s1 : Same H (upd H d (.dK [])) := Same.new hd
    refine ⟨_, rfl, b, _, (1 : Int), _, rfl, rfl, SqT.of (s1 _ _ hb), rfl, r, rfl, ⟨_, SqT.of (s1 _ _ hps)⟩, ?_⟩
    refine for_it (walk_tup (xs := ps)) (fun i σ H' => ∃ y3 y4, σ = [some (.ref b), some (.int ((n : Nat) : Int)), some (.ref d), y3, y4, none, none, none] ∧ Same H H' ∧ H' d = some (.dK (skv (rs.take i) (sz rs 0)))) ⟨none, none, rfl, s1, upd_same⟩ (fun i σ H' _ ⟨_, _, _, s, _⟩ => SqT.of (s _ _ hps)) ?_ ?_
    · rintro i x σ H2 H3 hi ⟨y3, y4, rfl, s2, hd2⟩ ⟨rfl, hx⟩
      obtain ⟨c, hc, p2, rfl, hp2⟩ := ips i x hx
      have nk : c.1 ∉ (rs.take i).map (·.1) := not_yet wf.nd hc
      refine ⟨_, _, rfl, SqT.of (s2 _ _ hp2), rfl, _, _, rfl, _, _, rfl, rfl, ?_⟩
      refine ⟨_, rfl, _, rfl, d, _, rfl, DPut.k (k := Sum.inr (T [c.1])) hd2 (by rw [skv_len, List.length_take]; exact le_small (by omega)), ?_⟩
      refine ⟨_, _, rfl, Same.mut s2 hd, ?_⟩
      rw [upd_same, putK_new _ (skv_none nk), skv_take hc]
      rfl
    · rintro σ H2 ⟨y3, y4, rfl, s2, hd2⟩
      rw [lps, List.take_length] at hd2
      refine ⟨_, rfl, by show 1 ≤ sizeLine; decide, fun F hF => ?_⟩
      have s3 : Same H2 (upd H2 F (.lst [.ref d])) := Same.new hF
      have hF0 : H F = none := s2.free hF
      have e1 : upS rs (0 + 1) = [sz rs 0] := rfl
      have kn : ∀ A B : Addr, H A = none → H B ≠ none → A ≠ B := fun A B h1 h2 z => h2 (by rw [← z]; exact h1)
      refine ⟨_, rfl, n, rfl, by omega, by omega, ?_⟩
      refine for_it (walk_rng (n := n)) (fun i σ H' => ∃ y2 y3 y4 y6, σ = [some (.ref b), some (.int ((n : Nat) : Int)), y2, y3, y4, some (.ref F), y6, none] ∧ Same H H' ∧ ∀ B, H B ≠ none → SizesAt rs (Off B H') F (upS rs (i + 1))) ⟨_, _, _, none, rfl, s2.trans s3, fun B hB => ⟨[.ref d], by rw [off_ne (kn F B hF0 hB)]; exact upd_same, by rw [e1]; exact .cons ⟨d, rfl, by rw [off_ne (kn d B hd hB)]; exact s3 _ _ hd2⟩ .nil⟩⟩ (fun _ _ _ _ _ => trivial) ?_ ?_
      · rintro i x σ H4 H5 hi ⟨y2, y3, y4, y6, rfl, s4, hSB⟩ ⟨rfl, rfl⟩
        have hS : SizesAt rs H5 F (upS rs (i + 1)) := (hSB b (by rw [hb]; simp)).mono (off_same b H5)
        intro d2 hd2n
        have s5 : Same H5 (upd H5 d2 (.dK [])) := Same.new hd2n
        have s45 := s4.trans s5
        refine ⟨_, rfl, b, _, (1 : Int), _, rfl, rfl, SqT.of (s45 _ _ hb), rfl, r, rfl, ⟨_, SqT.of (s45 _ _ hps)⟩, ?_⟩
        refine for_it (walk_tup (xs := ps)) (fun j σ H' => ∃ y3 y4, σ = [some (.ref b), some (.int ((n : Nat) : Int)), some (.ref d2), y3, y4, some (.ref F), some (.int ((i : Nat) : Int)), none] ∧ Same H5 H' ∧ H' d2 = some (.dK (skv (rs.take j) (sz rs (i + 1))))) ⟨_, _, rfl, s5, upd_same⟩ (fun j σ H' _ ⟨_, _, _, s, _⟩ => SqT.of (s _ _ (s4 _ _ hps))) ?_ ?_
        · rintro j x σ H6 H7 hj ⟨y3, y4, rfl, s6, hd6⟩ ⟨rfl, hx⟩
          obtain ⟨c, hc, p2, rfl, hp2⟩ := ips j x hx
          have hcm := List.mem_of_getElem? hc
          have nk : c.1 ∉ (rs.take j).map (·.1) := not_yet wf.nd hc
          have h6 := wf.wd c hcm
          obtain ⟨ds, g, hFl, hg, hgd⟩ := sizes_get (hS.mono s6) (upS_at rs (show i < i + 1 by omega))
          refine ⟨_, _, rfl, SqT.of (s6 _ _ (s4 _ _ hp2)), rfl, _, _, rfl, _, _, rfl, rfl, ?_⟩
          refine ⟨_, rfl, _, rfl, fun D hD => ?_⟩
          refine lc_it (walk_T (l := c.2)) (fun m H' => Same H7 H' ∧ H' D = some (.lst (((c.2.take m).map (sz rs i)).map V.int))) ⟨Same.new hD, upd_same⟩ (fun _ _ _ _ => trivial) ?_ ?_
          · rintro m x H8 H9 hm ⟨s8, hl8⟩ ⟨rfl, e, he, rfl⟩
            have hck := h6.2 e (List.mem_of_getElem? he)
            refine ⟨rfl, _, rfl, _, rfl, F, ds, (i : Int), _, rfl, rfl, SqL.of (s8 _ _ hFl), atI_nat hg, _, rfl, g, _, rfl, rdDGet (k := Sum.inr (T [e])) (.inl (s8 _ _ hgd)) (skv_val hck), _, hl8, by rw [List.length_map, List.length_map, List.length_take]; exact le_small (by omega), Same.mut s8 hD, ?_⟩
            rw [upd_same, take_more he, List.map_append, List.map_append]
            rfl
          · rintro H8 ⟨s8, hl8⟩
            rw [List.take_length] at hl8
            refine ⟨D, _, rfl, SqL.of hl8, ?_⟩
            have hd8 := s8 _ _ hd6
            refine ⟨_, rfl, _, rfl, d2, _, rfl, DPut.k (k := Sum.inr (T [c.1])) hd8 (by rw [skv_len, List.length_take]; exact le_small (by omega)), ?_⟩
            refine ⟨_, _, rfl, Same.mut (s6.trans s8) hd2n, ?_⟩
            rw [upd_same, putK_new _ (skv_none nk), skv_take hc, sz_succ, wordOf_nd wf.nd hcm]
            rfl
        · rintro σ H6 ⟨y3, y4, rfl, s6, hd6⟩
          rw [lps, List.take_length] at hd6
          obtain ⟨ds, hF6, hpd⟩ := hS.mono s6
          refine ⟨_, rfl, .inl ⟨rfl, _, SqL.of hF6⟩, _, rfl, F, ds, _, rfl, rfl, hF6, ?_, ?_⟩
          · have l9 := paired_len hpd
            rw [upS_len] at l9
            exact le_small (by omega)
          · refine ⟨_, _, _, _, rfl, Same.mut (s4.trans s6) hF0, fun B hB => ⟨_, by rw [off_ne (kn F B hF0 hB)]; exact upd_same, ?_⟩⟩
            obtain ⟨dsB, hFB, hpB⟩ := (hSB B hB).mono (off_but (Same.but s6))
            rw [off_ne (kn F B hF0 hB), hF6] at hFB
            cases hFB
            rw [upS_succ]
            refine paired_app (Paired.mapP hpB fun _ _ z => z.off hF6) ⟨d2, rfl, ?_⟩
            rw [off_ne (kn d2 B (s4.free hd2n) hB), upd_ne]
            · exact hd6
            · intro z
              rw [z, hF6] at hd6
              cases hd6
      · rintro σ H4 ⟨y2, y3, y4, y6, rfl, s4, hS⟩
        exact ⟨_, rfl, q _ F s4 hS⟩
end
end G

/-! The law's own way down a told way. -/
namespace G
open PySem PySem.Spec PyProof.Rows L2 TL

theorem goes_step {rs : List Rule} {k : Nat} {text : List Nat} {lft : Int} {w : List (Nat × Nat)} {d : Nat} (h : Goes rs k text lft w d) :
    ∃ c j r w', w = (c, j) :: w' ∧ text[j]? = some c ∧ tot rs k (text.take j) + r = lft ∧ ((k = 0 ∧ r = 0 ∧ w' = [] ∧ c = d) ∨ ∃ k', k = k' + 1 ∧ Goes rs k' (wordOf rs c) r w' d) := by
  cases h with
  | last h1 h2 => exact ⟨_, _, 0, [], rfl, h1, by rw [h2]; exact Int.add_zero _, .inl ⟨rfl, rfl, rfl, rfl⟩⟩
  | step h1 h2 h3 => exact ⟨_, _, _, _, rfl, h1, h2, .inr ⟨_, rfl, h3⟩⟩
theorem goes_len {rs : List Rule} {k : Nat} {text : List Nat} {lft : Int} {w : List (Nat × Nat)} {d : Nat} (h : Goes rs k text lft w d) : w.length = k + 1 := by
  induction h with
  | last h1 h2 => rfl
  | step h1 h2 h3 ih => rw [List.length_cons, ih]
theorem goes_keys {f : List Nat} {rs : List Rule} (wf : Wf f rs) {k : Nat} {text : List Nat} {lft : Int} {w : List (Nat × Nat)} {d : Nat} (h : Goes rs k text lft w d) : (∀ c ∈ text, c ∈ rs.map (·.1)) → ∀ s ∈ w, s.1 ∈ rs.map (·.1) := by
  induction h with
  | last h1 h2 =>
    intro hk s hs
    rw [List.mem_singleton.mp hs]
    exact hk _ (List.mem_of_getElem? h1)
  | step h1 h2 h3 ih =>
    intro hk s hs
    rcases List.mem_cons.mp hs with e | e
    · rw [e]
      exact hk _ (List.mem_of_getElem? h1)
    · exact ih (fun c hc => word_known wf hc) s e
theorem wayW_at : ∀ {w : List (Nat × Nat)} {i : Nat} {s : Nat × Nat}, w[i]? = some s → (wayW w)[2 * i]? = some [s.1] ∧ (wayW w)[2 * i + 1]? = some (numL s.2)
  | [], i, s, h => by simp at h
  | a :: w, 0, s, h => by
    have e : a = s := Option.some.inj h
    subst e
    exact ⟨rfl, rfl⟩
  | a :: w, i + 1, s, h => by
    have ih := wayW_at (w := w) (i := i) (s := s) h
    have e : wayW (a :: w) = [a.1] :: numL a.2 :: wayW w := rfl
    rw [e, show 2 * (i + 1) = 2 * i + 1 + 1 by omega]
    exact ih
theorem wayW_free {f : List Nat} {rs : List Rule} (wf : Wf f rs) {w : List (Nat × Nat)} (h : ∀ s ∈ w, s.1 ∈ rs.map (·.1)) : ∀ p ∈ wayW w, (32 : Nat) ∉ p := by
  intro p hp
  unfold wayW at hp
  obtain ⟨l, hl, hpl⟩ := List.mem_flatten.mp hp
  obtain ⟨s, hs, rfl⟩ := List.mem_map.mp hl
  rcases List.mem_cons.mp hpl with e | e
  · rw [e]
    intro z
    obtain ⟨q, hq, e2⟩ := List.mem_map.mp (h s hs)
    have h1 := (wf.low q hq).1
    have h2 := List.mem_singleton.mp z
    omega
  · rw [List.mem_singleton.mp e]
    exact numL_free (by omega)
theorem cut_take (l : List Nat) (j : Nat) : cutS (T l) none (some ((j : Nat) : Int)) = T (l.take j) := by
  unfold cutS
  rw [HT.sIx_nat, HT.sIx_none, T_len]
  show T ((l.drop 0).take (min j l.length - 0)) = T (l.take j)
  rw [List.drop_zero, Nat.sub_zero]
  rcases Nat.le_total j l.length with h | h
  · rw [Nat.min_eq_left h]
  · rw [Nat.min_eq_right h, List.take_length, List.take_of_length_le h]
theorem drop_head {α : Type} {l : List α} {i : Nat} {a : α} {r : List α} (h : l.drop i = a :: r) : l[i]? = some a ∧ l.drop (i + 1) = r := by
  refine ⟨?_, ?_⟩
  · have e : (l.drop i)[0]? = some a := by rw [h]; rfl
    rw [List.getElem?_drop] at e
    exact e
  · have e : (l.drop i).drop 1 = r := by rw [h]; rfl
    rw [List.drop_drop] at e
    exact e
section
variable {P : Program} {w : World} {K : PySem.W.Frag} {mg : Str → Option Value} {base : Heap} {C aF : Addr}
def sp_law_walked : Sp := sp4 fun v0 v1 v2 v3 H Q => ∃ b f rs n st L left d, v0 = .ref b ∧ v1 = .int ((n : Nat) : Int) ∧ v2 = .str (T (jn (wayW st))) ∧ v3 = .ref L ∧ n ≤ 300 ∧ BookAt H b f rs ∧ Wf f rs ∧ SizesAt rs H L (upS rs (n + 1)) ∧ Goes rs n f left st d ∧
  ∀ H' p, Same H H' → H' p = some (.tup [.int left, .str (T [d])]) → Q (.ref p) H'
theorem sc_law_walked : FnScope ["_law_book_here", "_law_age", "_law_said", "_law_sizes_here", "_law_words", "_law_letter", "_law_text_here", "_law_parts", "_law_line", "_law_place", "_law_k", "_law_index", "_law_sign"] ["_law_book_here", "_law_age", "_law_said", "_law_sizes_here"] (defScope s_law_walked) := ⟨rfl, rfl, rfl, by decide +kernel, rfl, by decide +kernel, by decide +kernel⟩
theorem has_law_walked {k : Nat} (S : Src K mg "_law_walked" s_law_walked) (TX : Txt K mg w C aF) (h_law_number : Has P w K mg base k "_law_number" ["_law_text_here"] (sp_law_number)) : Has P w K mg base (k + 1) "_law_walked" ["_law_book_here", "_law_age", "_law_said", "_law_sizes_here"] (sp_law_walked) := by
  refine has_of S sc_law_walked (fun _ _ _ _ _ _ us hl => match us, hl with | [_, _, _, _], _ => rfl) (fun vs H Q E h => sp4_len h) (fun f cdv A outer s H vs Q E hr h => ?_)
  · obtain ⟨v0, v1, v2, v3, rfl, h⟩ := h
    have hu := hu_of hr
    obtain ⟨a_law_number, fd_law_number, mg_law_number, kp_law_number, bd_law_number, ok_law_number⟩ := h_law_number.ex
    refine ⟨_, (pss_cons (ps_set (i := 4) sc_law_walked.nd rfl (Or.inl rfl) pe_dnewK)
    (pss_cons (ps_for PassesOwn.never rfl (pi_tup (pe_ix (ix_tupK K) (pv 0) pe_int (fun _ _ => rfl))) (pg_tup rfl (pgs_cons (pg_name (i := 5) sc_law_walked.nd rfl (Or.inl rfl)) (pgs_cons (pg_name (i := 6) sc_law_walked.nd rfl (Or.inl rfl)) pgs_nil)))
      (pss_one (ps_dput hu (pv 4) (pv 5) (pv 6) rfl)))
    (pss_cons (ps_set (i := 7) sc_law_walked.nd rfl (Or.inl rfl) (pe_split (pv 2) pe_str))
    (pss_cons (ps_if (pt_cmpR op_ne (pe_callB (len_seqK K) (by rfl) TX.len (by decide +kernel) (pa_cons (pv 7) pa_nil)) (pe_op op_add (pe_op op_mul pe_int (pv 1)) pe_int) (nomark _)) (pss_one (ps_ret pe_non)) pss_nil)
    (pss_cons (ps_set (i := 8) sc_law_walked.nd rfl (Or.inl rfl) (pe_ix (ix_tupK K) (pv 0) pe_int (fun _ _ => rfl)))
    (pss_cons (ps_set (i := 9) sc_law_walked.nd rfl (Or.inl rfl) pe_int)
    (pss_cons (ps_for PassesOwn.never rfl (pi_range1 (by rfl) TX.range (pa_cons (pe_op op_add (pv 1) pe_int) pa_nil)) (pg_name (i := 10) sc_law_walked.nd rfl (Or.inr rfl))
      (pss_cons (ps_set (i := 11) sc_law_walked.nd rfl (Or.inl rfl) (pe_call ok_law_number hr rfl mg_law_number kp_law_number bd_law_number .nil pass0 (pa_cons (pe_ix (ix_listK K) (pv 7) (pe_op op_add (pe_op op_mul pe_int (pv 10)) pe_int) (fun _ _ => rfl)) pa_nil)))
    (pss_cons (ps_if (PW.pt (pw_or (pt_cmpR op_lt (pv 11) pe_int (nomark _)) (pw_or (pt_cmpR op_ge (pv 11) (pe_callB call_len_str (by rfl) TX.len (by decide +kernel) (pa_cons (pv 8) pa_nil)) (nomark _)) (pw_or1 (pt_cmpR op_ne (pe_ix ix_str (pv 8) (pv 11) (fun _ _ => rfl)) (pe_ix (ix_listK K) (pv 7) (pe_op op_mul pe_int (pv 10)) (fun _ _ => rfl)) (nomark _)))))) (pss_one (ps_ret pe_non)) pss_nil)
    (pss_cons (ps_set (i := 9) sc_law_walked.nd rfl (Or.inl rfl) (pe_op op_add (pv 9) (pe_callB (cr_sumK K rfl) (by rfl) TX.sum (by decide +kernel) (pa_cons (pe_lc (own := [("_law_sign", 12)]) (by rfl) sc_law_walked.nd (pi_str (pe_slice sl_str (pv 8) po_none (po_some (pv 11)))) (blkOk_by (own := [("_law_sign", 12)]) (by kernel_rfl)) (fun _ _ _ _ _ => (pg_name (i := 12) sc_law_walked.nd rfl (Or.inl rfl))) (fun _ _ _ _ _ => pts_nil) (fun _ _ _ _ _ => (pe_dget hu (pe_ix (ix_listK K) (pv 3) (pe_op op_sub (pv 1) (pv 10)) (fun _ _ => rfl)) (pv 12) (fun _ _ => rfl)))) pa_nil))))
    (pss_one (ps_set (i := 8) sc_law_walked.nd rfl (Or.inl rfl) (pe_dget hu (pv 4) (pe_ix (ix_listK K) (pv 7) (pe_op op_mul pe_int (pv 10)) (fun _ _ => rfl)) (fun _ _ => rfl))))))))
    (pss_one (ps_ret (pe_tup (pa_cons (pv 9) (pa_cons (pe_ix (ix_listK K) (pv 7) (pe_op op_mul pe_int (pv 1)) (fun _ _ => rfl)) pa_nil)))))))))))), ?_⟩
    obtain ⟨b, f, rs, n, st, L, left, d, rfl, rfl, rfl, rfl, hn, ⟨r, hb, hr⟩, wf, hS, hG, q⟩ := h
    obtain ⟨ps, hps, lps, ips⟩ := rules_at hr
    have few := wf.few
    have lst := goes_len hG
    have free := wayW_free wf (goes_keys wf hG wf.fk)
    have ixs := goes_ix wf hG wf.fl
    have hlen : (T (jn (wayW st))).length + 2 ≤ sizeLine := by
      have h1 := jn_len (wayW st)
      have h2 := wayW_le st ixs
      rw [wayW_len] at h1
      have h4 : (100000 : Nat) ≤ sizeLine := by decide
      rw [T_len]
      omega
    intro D hD
    have s1 : Same H (upd H D (.dK [])) := Same.new hD
    refine ⟨_, rfl, b, _, (1 : Int), _, rfl, rfl, SqT.of (s1 _ _ hb), rfl, r, rfl, ⟨_, SqT.of (s1 _ _ hps)⟩, ?_⟩
    refine for_it (walk_tup (xs := ps)) (fun i σ H' => ∃ y5 y6, σ = [some (.ref b), some (.int ((n : Nat) : Int)), some (.str (T (jn (wayW st)))), some (.ref L), some (.ref D), y5, y6, none, none, none, none, none, none] ∧ Same H H' ∧ H' D = some (.dK (wkv (rs.take i)))) ⟨none, none, rfl, s1, upd_same⟩ (fun i σ H' _ ⟨_, _, _, s, _⟩ => SqT.of (s _ _ hps)) ?_ ?_
    · rintro i x σ H2 H3 hi ⟨y5, y6, rfl, s2, hd2⟩ ⟨rfl, hx⟩
      obtain ⟨c, hc, p2, rfl, hp2⟩ := ips i x hx
      refine ⟨_, _, rfl, SqT.of (s2 _ _ hp2), rfl, _, _, rfl, _, _, rfl, rfl, ?_⟩
      refine ⟨_, rfl, _, rfl, _, rfl, D, _, rfl, DPut.k (k := Sum.inr (T [c.1])) hd2 (by rw [wkv_len, List.length_take]; exact le_small (by omega)), ?_⟩
      refine ⟨_, _, rfl, Same.mut s2 hD, ?_⟩
      rw [upd_same, putK_new _ (wkv_none (not_yet wf.nd hc)), wkv_take hc]
    · rintro σ H2 ⟨y5, y6, rfl, s2, hd2⟩
      rw [lps, List.take_length] at hd2
      refine ⟨_, rfl, ⟨_, rfl⟩, _, _, rfl, rfl, by decide +kernel, hlen, fun A hA => ?_⟩
      rw [split_sp (by intro z; have := wayW_len st; rw [z] at this; rw [lst] at this; cases this) free, map_T_V]
      have s3 : Same H2 (upd H2 A (.lst ((wayW st).map fun l => V.str (T l)))) := Same.new hA
      have s23 := s2.trans s3
      refine ⟨_, rfl, A, _, rfl, .inl (SqL.of upd_same), _, rfl, _, _, rfl, rfl, .inl ⟨by decide, by decide⟩, _, _, rfl, rfl, rfl, _, rfl, ibF ?_ ?_⟩
      · rw [List.length_map, wayW_len, lst]
        have e : ((2 * (n + 1) : Nat) : Int) = 2 * ((n : Nat) : Int) + 2 := by omega
        rw [e]
        simp
      refine ⟨_, rfl, b, _, (0 : Int), _, rfl, rfl, SqT.of (s23 _ _ hb), rfl, ?_⟩
      have hA3 : (upd H2 A (.lst ((wayW st).map fun l => V.str (T l)))) A = some (.lst ((wayW st).map fun l => V.str (T l))) := upd_same
      refine ⟨_, rfl, _, _, rfl, rfl, n + 1, rfl, by omega, by omega, ?_⟩
      refine for_it (walk_rng (n := n + 1)) (fun i σ H' => ∃ place text y5 y6 y10 y11, σ = [some (.ref b), some (.int ((n : Nat) : Int)), some (.str (T (jn (wayW st)))), some (.ref L), some (.ref D), y5, y6, some (.ref A), some (.str (T text)), some (.int place), y10, y11, none] ∧ Same (upd H2 A (.lst ((wayW st).map fun l => V.str (T l)))) H' ∧
          ((i ≤ n ∧ ∃ lft, Goes rs (n - i) text lft (st.drop i) d ∧ text.length ≤ 12 ∧ (∀ c ∈ text, c ∈ rs.map (·.1)) ∧ place + lft = left) ∨ (i = n + 1 ∧ place = left)))
        ⟨0, f, _, _, none, none, rfl, Same.refl _, .inl ⟨Nat.zero_le _, left, hG, wf.fl, wf.fk, Int.zero_add _⟩⟩ (fun _ _ _ _ _ => trivial) ?_ ?_
      · rintro i x σ H4 H5 hi ⟨place, text, y5, y6, y10, y11, rfl, s4, hcase⟩ ⟨rfl, rfl⟩
        rcases hcase with ⟨hin, lft, hGo, lt, kn, epl⟩ | ⟨e, _⟩
        case inr => omega
        obtain ⟨c, j, rr, w', ew, hcj, etot, hnext⟩ := goes_step hGo
        obtain ⟨hst, hdrop⟩ := drop_head ew
        obtain ⟨a1, a2⟩ := wayW_at hst
        obtain ⟨hjl, _⟩ := List.getElem?_eq_some_iff.mp hcj
        have hA4 := s4 _ _ hA3
        have ix1 : atI ((wayW st).map fun l => V.str (T l)) (2 * ((i : Nat) : Int) + 1) = some (.str (T (numL j))) := atI_nat (j := 2 * i + 1) (by rw [List.getElem?_map, a2]; rfl)
        have ix0 : atI ((wayW st).map fun l => V.str (T l)) (2 * ((i : Nat) : Int)) = some (.str (T [c])) := atI_nat (j := 2 * i) (by rw [List.getElem?_map, a1]; rfl)
        have nl : (numL j).length ≤ 300 := Nat.le_trans (numL_len (k := 3) (by omega) (ixs (c, j) (List.mem_of_getElem? hst))) (by omega)
        have hck := kn c (List.mem_of_getElem? hcj)
        refine ⟨_, rfl, _, rfl, _, _, rfl, rfl, .inl ⟨by decide, by decide⟩, _, _, rfl, rfl, A, _, _, _, rfl, rfl, SqL.of hA4, ix1, ?_⟩
        refine ⟨_, rfl, j, rfl, nl, ?_⟩
        refine ⟨_, rfl, _, _, rfl, rfl, _, rfl, ibF (decide_eq_false (by omega)) ?_⟩
        refine ⟨_, rfl, _, rfl, _, rfl, T_sz (by omega), _, _, rfl, rfl, _, rfl, ibF (decide_eq_false (by rw [T_len]; omega)) ?_⟩
        refine ⟨_, rfl, _, rfl, _, (j : Int), c, rfl, rfl, T_sz (by omega), atI_nat hcj, _, rfl, _, rfl, _, _, rfl, rfl, .inl ⟨by decide, by decide⟩, A, _, _, _, rfl, rfl, SqL.of hA4, ix0, rfl, _, rfl, ibF (by simp) ?_⟩
        have s14 := s23.trans s4
        obtain ⟨ds, g, hFl, hg, hgd⟩ := sizes_get (hS.mono s14) (upS_at rs (show n - i < n + 1 by omega))
        refine ⟨_, rfl, _, rfl, _, rfl, _, rfl, _, rfl, T_sz (by omega), _, rfl, fun E hE => ?_⟩
        rw [cut_take]
        refine lc_it (walk_T (l := text.take j)) (fun m H' => Same H5 H' ∧ H' E = some (.lst ((((text.take j).take m).map (sz rs (n - i))).map V.int))) ⟨Same.new hE, upd_same⟩ (fun _ _ _ _ => trivial) ?_ ?_
        · rintro m x H8 H9 hm ⟨s8, hl8⟩ ⟨rfl, e, he, rfl⟩
          have hke := kn e (List.mem_of_mem_take (List.mem_of_getElem? he))
          have ixn : atI ds (((n : Nat) : Int) - ((i : Nat) : Int)) = some (.ref g) := by
            rw [show ((n : Nat) : Int) - ((i : Nat) : Int) = ((n - i : Nat) : Int) by omega]
            exact atI_nat hg
          refine ⟨rfl, _, rfl, _, rfl, _, rfl, _, _, rfl, rfl, L, ds, _, _, rfl, rfl, SqL.of (s8 _ _ hFl), ixn, _, rfl, g, _, rfl, rdDGet (k := Sum.inr (T [e])) (.inl (s8 _ _ hgd)) (skv_val hke), _, hl8, by rw [List.length_map, List.length_map, List.length_take, List.length_take]; exact le_small (by omega), Same.mut s8 hE, ?_⟩
          rw [upd_same, take_more he, List.map_append, List.map_append]
          rfl
        · rintro H8 ⟨s8, hl8⟩
          rw [List.take_length] at hl8
          have s48 := s4.trans s8
          have hd8 := s48 _ _ (s3 _ _ hd2)
          refine ⟨E, _, rfl, SqL.of hl8, _, _, rfl, rfl, ?_⟩
          refine ⟨_, rfl, _, rfl, _, rfl, _, _, rfl, rfl, .inl ⟨by decide, by decide⟩, A, _, _, _, rfl, rfl, SqL.of (s8 _ _ hA4), ix0, D, _, rfl, rdDGet (k := Sum.inr (T [c])) (.inl hd8) (valV_word hck), ?_⟩
          refine ⟨_, wordOf rs c, _, _, _, _, rfl, s48, ?_⟩
          have etk : (((text.take j)).map (sz rs (n - i))).sum = tot rs (n - i) (text.take j) := rfl
          rw [etk]
          rcases hnext with ⟨e1, e2, e3, e4⟩ | ⟨k', e1, hG2⟩
          · exact .inr ⟨by omega, by omega⟩
          · refine .inl ⟨by omega, rr, ?_, ?_, fun c2 hc2 => word_known wf hc2, by omega⟩
            · rw [show n - (i + 1) = k' by omega, hdrop]
              exact hG2
            · have := word_le wf c
              omega
      · rintro σ H4 ⟨place, text, y5, y6, y10, y11, rfl, s4, hcase⟩
        rcases hcase with ⟨e, _⟩ | ⟨_, rfl⟩
        case inl => omega
        obtain ⟨jl, hl⟩ := goes_last hG
        have hst : st[n]? = some (d, jl) := by
          rw [List.getLast?_eq_getElem?, lst] at hl
          exact hl
        obtain ⟨a1, _⟩ := wayW_at hst
        have ix0 : atI ((wayW st).map fun l => V.str (T l)) (2 * ((n : Nat) : Int)) = some (.str (T [d])) := atI_nat (j := 2 * n) (by rw [List.getElem?_map, a1]; rfl)
        refine ⟨_, rfl, _, rfl, _, rfl, _, _, rfl, rfl, .inl ⟨by decide, by decide⟩, A, _, _, _, rfl, rfl, SqL.of (s4 _ _ hA3), ix0, by show 2 ≤ sizeLine; decide, fun p hp => ?_⟩
        exact q _ p ((s23.trans s4).trans (Same.new hp)) upd_same
theorem nat_log {k : Nat} {i : Int} (h : ((k : Nat) : Int) ≤ i) (l : i.natAbs.log2 < 1920) (h0 : 0 ≤ i) : k.log2 < 1920 := by
  by_cases z : k = 0
  · rw [z]
    decide
  · by_cases z2 : i.natAbs = 0
    · omega
    · have h1 := (Nat.log2_lt z2).mp l
      exact (Nat.log2_lt z).mpr (Nat.lt_of_le_of_lt (by omega) h1)
theorem form_way (TX : Txt K mg w C aF) : FormAt K aF (tk "way") (98 :: [100, 100]) := by
  obtain ⟨u, h1, h2⟩ := TX.f_way
  have e : (Str.ofString "bdd" : Str) = T (98 :: [100, 100]) := T_str "bdd"
  have e2 : (Str.ofString "way" : Str) = T (tk "way") := T_str "way"
  rw [e] at h2
  rw [e2] at h1
  exact ⟨u, h1, h2⟩
theorem form_letter (TX : Txt K mg w C aF) : FormAt K aF (tk "letter") (98 :: [100, 100]) := by
  obtain ⟨u, h1, h2⟩ := TX.f_letter
  have e : (Str.ofString "bdd" : Str) = T (98 :: [100, 100]) := T_str "bdd"
  have e2 : (Str.ofString "letter" : Str) = T (tk "letter") := T_str "letter"
  rw [e] at h2
  rw [e2] at h1
  exact ⟨u, h1, h2⟩
theorem form_length (TX : Txt K mg w C aF) : FormAt K aF (tk "length") (98 :: [100]) := by
  obtain ⟨u, h1, h2⟩ := TX.f_length
  have e : (Str.ofString "bd" : Str) = T (98 :: [100]) := T_str "bd"
  have e2 : (Str.ofString "length" : Str) = T (tk "length") := T_str "length"
  rw [e] at h2
  rw [e2] at h1
  exact ⟨u, h1, h2⟩
theorem name_free {nm : List Nat} (h : NameOk nm) : (32 : Nat) ∉ nm := fun z => by
  have := (h.2.2 32 z).1
  omega
def sp_law_asked (C : Addr) : Sp := sp6 fun v0 v1 v2 v3 v4 v5 H Q => ∃ x B nm b b2 f rs n L left, v0 = .ref x ∧ v1 = .str (T nm) ∧ v2 = .ref b2 ∧ v3 = .int ((n : Nat) : Int) ∧ v4 = .int ((left : Nat) : Int) ∧ v5 = .ref L ∧ n ≤ 300 ∧ NameOk nm ∧
  DeskAt C H x B [(Sum.inr (T nm), .ref b)] ∧ BookAt H b f rs ∧ BookAt H b2 f rs ∧ Wf f rs ∧ SizesAt rs H L (upS rs (n + 1)) ∧ (numL left).length ≤ 300 ∧ ((left : Nat) : Int) < tot rs n f ∧ ∀ H', Same H H' → Q (.bl true) H'
theorem sc_law_asked : FnScope ["_law_desk", "_law_name", "_law_book_here", "_law_age", "_law_place", "_law_sizes_here", "_law_tail", "_law_said", "_law_letter"] ["_law_desk", "_law_name", "_law_book_here", "_law_age", "_law_place", "_law_sizes_here"] (defScope s_law_asked) := ⟨rfl, rfl, rfl, by decide +kernel, rfl, by decide +kernel, by decide +kernel⟩
theorem has_law_asked {k : Nat} (S : Src K mg "_law_asked" s_law_asked) (TX : Txt K mg w C aF) (h_Desk_say : HasM P w K mg base k C "say" ["self", "row"] (sp_say K C aF)) (h_law_walked : Has P w K mg base k "_law_walked" ["_law_book_here", "_law_age", "_law_said", "_law_sizes_here"] (sp_law_walked)) : Has P w K mg base (k + 1) "_law_asked" ["_law_desk", "_law_name", "_law_book_here", "_law_age", "_law_place", "_law_sizes_here"] (sp_law_asked C) := by
  refine has_of S sc_law_asked (fun _ _ _ _ _ _ us hl => match us, hl with | [_, _, _, _, _, _], _ => rfl) (fun vs H Q E h => sp6_len h) (fun f cdv A outer s H vs Q E hr h => ?_)
  · obtain ⟨v0, v1, v2, v3, v4, v5, rfl, h⟩ := h
    have hu := hu_of hr
    obtain ⟨a_Desk_say, fd_Desk_say, mt_Desk_say, bd_Desk_say, ok_Desk_say⟩ := h_Desk_say.ex
    obtain ⟨a_law_walked, fd_law_walked, mg_law_walked, kp_law_walked, bd_law_walked, ok_law_walked⟩ := h_law_walked.ex
    refine ⟨_, (pss_cons (ps_set (i := 6) sc_law_asked.nd rfl (Or.inl rfl) (pe_op op_add_str (pe_op op_add_str (pe_op op_add_str (pe_op op_add_str (pe_op op_add_str pe_str (pv 1)) pe_str) (pe_callTy call_str_int (by rfl) TX.str (by decide +kernel) (pa_cons (pv 3) pa_nil))) pe_str) (pe_callTy call_str_int (by rfl) TX.str (by decide +kernel) (pa_cons (pv 4) pa_nil))))
    (pss_cons (ps_set (i := 7) sc_law_asked.nd rfl (Or.inl rfl) (pe_meth (pv 0) TX.cl mt_Desk_say ok_Desk_say hr bd_Desk_say .nil pass0 (pa_cons (pe_op op_add_str pe_str (pv 6)) pa_nil)))
    (pss_cons (ps_set (i := 8) sc_law_asked.nd rfl (Or.inl rfl) (pe_meth (pv 0) TX.cl mt_Desk_say ok_Desk_say hr bd_Desk_say .nil pass0 (pa_cons (pe_op op_add_str pe_str (pv 6)) pa_nil)))
    (pss_cons (ps_if (PW.pt (pw_or (pt_not (pt_val (pe_callB call_isi (by rfl) TX.isinstance (by decide +kernel) (pa_cons (pv 7) (pa_cons (pe_tyn "str" (by rfl) TX.str (by decide +kernel)) pa_nil))))) (pw_or1 (pt_not (pt_val (pe_callB call_isi (by rfl) TX.isinstance (by decide +kernel) (pa_cons (pv 8) (pa_cons (pe_tyn "str" (by rfl) TX.str (by decide +kernel)) pa_nil)))))))) (pss_one (ps_ret pe_bl)) pss_nil)
    (pss_one (ps_ret (pe_cmpR (op_eqD hr.units) (pe_call ok_law_walked hr rfl mg_law_walked kp_law_walked bd_law_walked .nil pass0 (pa_cons (pv 2) (pa_cons (pv 3) (pa_cons (pv 7) (pa_cons (pv 5) pa_nil))))) (pe_tup (pa_cons (pv 4) (pa_cons (pv 8) pa_nil))) (nomark _)))))))), ?_⟩
    obtain ⟨x, B, nm, b, b2, f, rs, n, L, left, rfl, rfl, rfl, rfl, rfl, rfl, hn, hnm, hDk, hB, hB2, wf, hS, hl, h1, q⟩ := h
    have ln : (numL n).length ≤ 3 := numL_len (k := 3) (by omega) (by omega)
    have l32 : (Str.ofString " ").length = 1 := by decide +kernel
    have lway : (Str.ofString "way").length = 3 := by decide +kernel
    have llet : (Str.ofString "letter").length = 6 := by decide +kernel
    have hn8 := hnm.2.1
    have big : (100000 : Nat) ≤ sizeLine := by decide
    have eT : Str.ofString " " ++ T nm ++ Str.ofString " " ++ Str.ofString (toString ((n : Nat) : Int)) ++ Str.ofString " " ++ Str.ofString (toString ((left : Nat) : Int)) = T (32 :: (nm ++ 32 :: (numL n ++ 32 :: numL left))) := by
      rw [num_T, num_T]
      refine ext_tl ?_
      rw [tl_append, tl_append, tl_append, tl_append, tl_append, sp_T]
      simp
    have lT : (T (32 :: (nm ++ 32 :: (numL n ++ 32 :: numL left)))).length ≤ 400 := by
      rw [T_len, List.length_cons, List.length_append, List.length_cons, List.length_append, List.length_cons]
      omega
    have ew : Str.ofString "way" ++ T (32 :: (nm ++ 32 :: (numL n ++ 32 :: numL left))) = T (jn (tk "way" :: nm :: [numL n, numL left])) := by
      refine ext_tl ?_
      rw [tl_append, tl_ofString]
      rfl
    have el : Str.ofString "letter" ++ T (32 :: (nm ++ 32 :: (numL n ++ 32 :: numL left))) = T (jn (tk "letter" :: nm :: [numL n, numL left])) := by
      refine ext_tl ?_
      rw [tl_append, tl_ofString]
      rfl
    have free : ∀ p ∈ nm :: [numL n, numL left], (32 : Nat) ∉ p := by
      intro p hp
      rcases List.mem_cons.mp hp with e | hp
      · rw [e]; exact name_free hnm
      · rcases List.mem_cons.mp hp with e | hp
        · rw [e]; exact numL_free (by omega)
        · rw [List.mem_singleton.mp hp]; exact numL_free (by omega)
    have pw : ∀ s : String, (32 : Nat) ∉ tk s → (tk s).length ≤ 10 → Parts (tk s :: nm :: [numL n, numL left]) := fun s hs ls => by
      refine ⟨fun p hp => ?_, ?_, ?_⟩
      · rcases List.mem_cons.mp hp with e | hp
        · rw [e]; exact hs
        · exact free p hp
      · show (tk s).length + (nm.length + ((numL n).length + ((numL left).length + 0))) ≤ 1000
        omega
      · show 4 ≤ 1000
        omega
    have hw : Paired WordOk [100, 100] [numL n, numL left] := .cons (.inl ⟨rfl, n, rfl, by omega⟩) (.cons (.inl ⟨rfl, left, rfl, hl⟩) .nil)
    have h100 : ∀ c ∈ [100, 100], c = 100 := by decide
    refine ⟨_, rfl, _, _, rfl, rfl, by rw [l32, T_len]; omega, _, _, rfl, rfl, by rw [Str.length_append, l32, T_len]; omega, _, rfl, _, rfl, small_log (by omega), _, _, rfl, rfl, by rw [Str.length_append, Str.length_append, l32, num_T, T_len, T_len]; omega, _, _, rfl, rfl, by rw [Str.length_append, Str.length_append, Str.length_append, l32, num_T, T_len, T_len]; omega, _, rfl, _, rfl, nat_log (i := tot rs n f) (by omega) (tot_log wf hn) (tot_nonneg _ _ _), _, _, rfl, rfl, by rw [Str.length_append, Str.length_append, Str.length_append, Str.length_append, l32, num_T, num_T, T_len, T_len, T_len]; omega, ?_⟩
    rw [eT]
    obtain ⟨dx, D0, hx, hBk⟩ := id hDk
    refine ⟨_, rfl, x, dx, _, rfl, hx, by kernel_rfl, _, rfl, _, _, rfl, rfl, by rw [lway]; omega, _, _, rfl, x, B, rfl, .inr ⟨nm, tk "way", [100, 100], [numL n, numL left], b, congrArg V.str ew, hDk, hnm, form_way TX, hw, h100, by decide, pw "way" (by decide) (by decide), .inr (.inr rfl), fun H1 W E' s1 hW => ?_⟩⟩
    refine ⟨_, _, _, rfl, b, f, rs, W, nm, n, rfl, rfl, hn, by omega, hB.mono (Same.tups s1), wf, .inr (.inr ⟨left, rfl, hW, hl, h1, fun H2 s2 => ?_⟩)⟩
    have s12 := s1.trans s2
    refine ⟨_, rfl, x, dx, _, rfl, s12 _ _ hx, by kernel_rfl, _, rfl, _, _, rfl, rfl, by rw [llet]; omega, _, _, rfl, x, B, rfl, .inr ⟨nm, tk "letter", [100, 100], [numL n, numL left], b, congrArg V.str el, hDk.mono s12, hnm, form_letter TX, hw, h100, by decide, pw "letter" (by decide) (by decide), .inr (.inl rfl), fun H3 W3 E3 s3 hW3 => ?_⟩⟩
    refine ⟨_, _, _, rfl, b, f, rs, W3, nm, n, rfl, rfl, hn, by omega, hB.mono (Same.tups (s12.trans s3)), wf, .inr (.inl ⟨left, rfl, hW3, hl, h1, fun H4 d s4 hG => ?_⟩)⟩
    have s14 := s12.trans (s3.trans s4)
    refine ⟨_, rfl, _, _, _, _, true, rfl, .ty _, .base (.str _), kit_ty (by decide +kernel), true, rfl, ibF rfl ⟨_, rfl, _, _, _, _, true, rfl, .ty _, .base (.str _), kit_ty (by decide +kernel), true, rfl, ibF rfl ?_⟩⟩
    refine ⟨_, rfl, _, rfl, _, rfl, _, rfl, _, _, _, _, rfl, b2, f, rs, n, wayD rs n f left, L, left, d, rfl, rfl, rfl, rfl, hn, hB2.mono (Same.tups s14), wf, hS.mono s14, hG, fun H5 p s5 hp => ?_⟩
    refine ⟨_, rfl, _, rfl, by show 2 ≤ sizeLine; decide, fun p2 hp2 => ?_⟩
    have s6 : Same H5 (upd H5 p2 (.tup [.int ((left : Nat) : Int), .str (T [d])])) := Same.new hp2
    obtain ⟨jl, hlast⟩ := goes_last hG
    have hdk : d ∈ rs.map (·.1) := goes_keys wf hG wf.fk _ (List.mem_of_getLast? hlast)
    obtain ⟨rd, hrd, erd⟩ := List.mem_map.mp hdk
    have hd122 := (wf.low rd hrd).2
    have sh : SeqAt.shaped (.tuple [.int ((left : Nat) : Int), .str (T [d])]) = true := by
      unfold SeqAt.shaped
      have h5 : PyData.strOk (T [d]) = true := strOk_T (by omega)
      simp [PyData.canLay0, PyData.canLayAll0, PyData.depth, PyData.depthAll, h5]
    refine ⟨_, _, .tup (SqT.of (s6 _ _ hp)) (.cons (.int _) (.cons (.str _) .nil)), .tup (SqT.of upd_same) (.cons (.int _) (.cons (.str _) .nil)), sh, sh, ?_⟩
    have er : PyData.eqv (.tuple [.int ((left : Nat) : Int), .str (T [d])]) (.tuple [.int ((left : Nat) : Int), .str (T [d])]) = true := SeqAt.eqv_refl _ (SeqAt.canLay_of_shaped sh)
    rw [er]
    exact q _ (s14.trans (s5.trans s6))
end
end G

/-! The law. -/
namespace G
open PySem PySem.Spec PyProof.Rows L2 TL

theorem But.pen {H H' : Hp} {a : Addr} {m : Nat} (e : But a H H') (h : PenAt H a m) : ∀ c xs, H c = some (.tup xs) → H' c = some (.tup xs) := by
  obtain ⟨x, y, z, h1, _⟩ := h
  exact But.tups e h1
theorem But.dict {H H' : Hp} {B : Addr} {kvs : List (Key × V)} (e : But B H H') (h : H B = some (.dK kvs)) : ∀ c xs, H c = some (.tup xs) → H' c = some (.tup xs) := fun c xs q => e c _ q (ne_of q h (by intro z; cases z))
theorem sizes_pen {rs : List Rule} {H H' : Hp} {a L : Addr} {m n : Nat} (e : But a H H') (h : PenAt H a m) (s : SizesAt rs H L (upS rs (n + 1))) : SizesAt rs H' L (upS rs (n + 1)) := by
  obtain ⟨x, y, z, h1, _⟩ := h
  obtain ⟨ds, hL, hp⟩ := s
  have nL : L ≠ a := fun q => by
    rw [q, h1] at hL
    cases hL
    have l := paired_len hp
    obtain ⟨g, hg, c, hc, _⟩ := paired_at (i := 0) hp rfl
    cases hc
  refine ⟨ds, e _ _ hL nL, Paired.mapP hp fun p g q => ?_⟩
  obtain ⟨c, e1, e2⟩ := q
  refine ⟨c, e1, e _ _ e2 fun z => ?_⟩
  rw [z, h1] at e2
  cases e2
theorem desk_pen {C : Addr} {H H' : Hp} {a x B : Addr} {m : Nat} {kvs : List (Key × V)} (e : But a H H') (h : PenAt H a m) (s : DeskAt C H x B kvs) : DeskAt C H' x B kvs := by
  obtain ⟨p, q, r, h1, _⟩ := h
  obtain ⟨dx, D, h2, h3⟩ := s
  exact ⟨dx, D, e _ _ h2 (ne_of h2 h1 (by intro z; cases z)), e _ _ h3 (ne_of h3 h1 (by intro z; cases z))⟩
theorem book_jn (f : List Nat) (rs : List Rule) : jn ((f ++ [58]) :: rs.map ruleT) = bookT f rs := by
  cases rs with
  | nil => rfl
  | cons r rs =>
    rw [jn_cons _ (by simp), ← tail_jn, List.append_assoc]
    rfl
/-- a def that keeps a promise, with its row's text -/
structure HasF (P : Program) (w : World) (K : PySem.W.Frag) (mg : Str → Option Value) (base : Heap) (k : Nat) (x : Str) (st : Stmt) (ps : List Str) (sp : Sp) : Prop where
  ex : ∃ a fd, mg x = some (.ref a) ∧ FunD K x x (defArgs st) (defBody st) (defScope st) [] [] a fd ∧ FnOk P w K mg base CX0 k a fd ps sp
theorem hasF_of {P : Program} {w : World} {K : PySem.W.Frag} {mg : Str → Option Value} {base : Heap} {x : Str} {st : Stmt} {N ps : List Str} {k : Nat} {sp : Sp} (S : Src K mg x st) (sc : FnScope N ps (defScope st))
    (hb : ∀ (kV doc pm : Value) (an : Option Addr) (cdv ct : Value) (us : List Value), us.length = ps.length → bindArgs (PySem.W.fnOf x x (defArgs st) (defBody st) (defScope st) .none kV doc pm an cdv ct) ⟨us, []⟩ = pure (ps.zip us))
    (len : ∀ vs H Q E, sp vs H Q E → vs.length = ps.length)
    (body : ∀ (f : Addr) (cdv : Value) (A : Around) (outer : List Env) (s : Shared) (H : Hp) (vs : List V) (Q : VK) (E : XK), Room k (A.deeper (envOfC x (defScope st) s.heap.objs.size f cdv)) → sp vs H Q E →
      ∃ t, PSs (cxOf CX0 P w K mg base N x (defScope st) f cdv A outer s H E).nox (defBody st) t ∧ t { nx := fun _ H' => Q .non H', rt := Q } (start N vs) H) : HasF P w K mg base (k + 1) x st ps sp := by
  obtain ⟨a, fd, m, F⟩ := S.ex
  refine ⟨a, fd, m, F, F.ok sc len fun cdv A outer s H vs Q E hr hsp => ?_⟩
  obtain ⟨t, h, q⟩ := body a cdv A outer s H vs Q E hr hsp
  exact ⟨t, h.nox, q⟩
section
variable {P : Program} {w : World} {K : PySem.W.Frag} {mg : Str → Option Value} {base : Heap} {C aF : Addr}
theorem book_parts {nm f : List Nat} {rs : List Rule} (hn : NameOk nm) (wf : Wf f rs) : Parts (tk "book" :: nm :: (f ++ [58]) :: rs.map ruleT) := by
  have h4 : (tk "book").length = 4 := by decide
  refine ⟨fun p hp => ?_, ?_, ?_⟩
  · rcases List.mem_cons.mp hp with e | hp
    · rw [e]; decide
    · rcases List.mem_cons.mp hp with e | hp
      · rw [e]; exact name_free hn
      · rcases List.mem_cons.mp hp with e | hp
        · rw [e]
          intro z
          rcases List.mem_append.mp z with z | z
          · obtain ⟨q, hq, e⟩ := List.mem_map.mp (wf.fk _ z)
            have := (wf.low q hq).1
            omega
          · have := List.mem_singleton.mp z
            omega
        · exact rule_nosp wf p hp
  · have h1 : ∀ l : List Rule, (∀ r ∈ l, r.2.length ≤ 6) → ((l.map ruleT).map List.length).sum ≤ l.length * 8 := by
      intro l
      induction l with
      | nil => intro _; exact Nat.le_refl _
      | cons r l ih =>
        intro h
        have e1 := ih fun q hq => h q (List.mem_cons_of_mem _ hq)
        have e2 := h r List.mem_cons_self
        have e4 : (ruleT r).length = r.2.length + 2 := rfl
        rw [List.map_cons, List.map_cons, List.sum_cons, List.length_cons]
        omega
    have h2 := h1 rs fun r hr => (wf.wd r hr).1
    have h3 := wf.few
    have h5 := wf.fl
    have h6 := hn.2.1
    rw [List.map_cons, List.map_cons, List.map_cons, List.sum_cons, List.sum_cons, List.sum_cons, List.length_append]
    show (tk "book").length + (nm.length + (f.length + 1 + _)) ≤ 1000
    omega
  · have h3 := wf.few
    rw [List.length_cons, List.length_cons, List.length_cons, List.length_map]
    omega
theorem num300 {f : List Nat} {rs : List Rule} (wf : Wf f rs) {n : Nat} (hn : n ≤ 300) {left : Nat} (h : ((left : Nat) : Int) < tot rs n f) : (numL left).length ≤ 300 := by
  refine numL_len (by omega) ?_
  have h1 := tot_le wf hn wf.fl
  have h2 := big_lt
  have h3 : ((left : Nat) : Int) < ((10 ^ 300 : Nat) : Int) := by
    have e : ((10 ^ 300 : Nat) : Int) = (10 : Int) ^ 300 := by decide +kernel
    rw [e]
    exact Int.lt_trans h (Int.lt_of_le_of_lt h1 h2)
  exact Int.ofNat_lt.mp h3
def sp_law (K : PySem.W.Frag) : Sp := sp1 fun v H Q => ∃ (S : Addr) (zs : List Int), v = .ref S ∧ SqL K H S (zs.map V.int) ∧ ∀ H', Same H H' → Q (.bl true) H'
theorem sc_law : FnScope ["_law_script", "_law_k", "_law_pen_here", "_law_far", "_law_book_here", "_law_name", "_law_age", "_law_desk", "_law_sizes_here", "_law_total", "_law_place", "_law_one", "_law_sign"] ["_law_script"] (defScope s_law) := ⟨rfl, rfl, rfl, by decide +kernel, rfl, by decide +kernel, by decide +kernel⟩
theorem has_law {k : Nat} (S : Src K mg "law" s_law) (TX : Txt K mg w C aF) (h_law_pen : Has P w K mg base k "_law_pen" ["_law_script", "_law_k"] (sp_law_pen K)) (h_law_take : Has P w K mg base k "_law_take" ["_law_pen_here", "_law_size"] (sp_law_take)) (h_law_book : Has P w K mg base k "_law_book" ["_law_pen_here"] (sp_law_book)) (h_law_names : Has P w K mg base k "_law_names" ["_law_pen_here", "_law_many"] (sp_law_names)) (h_law_sizes : Has P w K mg base k "_law_sizes" ["_law_book_here", "_law_age"] (sp_law_sizes)) (h_law_shown : Has P w K mg base k "_law_shown" ["_law_book_here"] (sp_law_shown)) (h_Desk_say : HasM P w K mg base k C "say" ["self", "row"] (sp_say K C aF)) (h_law_asked : Has P w K mg base k "_law_asked" ["_law_desk", "_law_name", "_law_book_here", "_law_age", "_law_place", "_law_sizes_here"] (sp_law_asked C)) (j : Nat) (hj : k = j + 1) (fI : Addr) (fdI : FuncData) (MK : Mk K C fI) (ok_init : FnOk P w K mg base CX0 j fI fdI ["self"] (sp_Desk_init C)) (bd_init : L2.Binds K fdI ["self"] []) : HasF P w K mg base (k + 1) "law" s_law ["_law_script"] (sp_law K) := by
  refine hasF_of S sc_law (fun _ _ _ _ _ _ us hl => match us, hl with | [_], _ => rfl) (fun vs H Q E h => sp1_len h) (fun f cdv A outer s H vs Q E hr h => ?_)
  · obtain ⟨v0, rfl, h⟩ := h
    have hu := hu_of hr
    obtain ⟨a_law_pen, fd_law_pen, mg_law_pen, kp_law_pen, bd_law_pen, ok_law_pen⟩ := h_law_pen.ex
    obtain ⟨a_law_take, fd_law_take, mg_law_take, kp_law_take, bd_law_take, ok_law_take⟩ := h_law_take.ex
    obtain ⟨a_law_book, fd_law_book, mg_law_book, kp_law_book, bd_law_book, ok_law_book⟩ := h_law_book.ex
    obtain ⟨a_law_names, fd_law_names, mg_law_names, kp_law_names, bd_law_names, ok_law_names⟩ := h_law_names.ex
    obtain ⟨a_law_sizes, fd_law_sizes, mg_law_sizes, kp_law_sizes, bd_law_sizes, ok_law_sizes⟩ := h_law_sizes.ex
    obtain ⟨a_law_shown, fd_law_shown, mg_law_shown, kp_law_shown, bd_law_shown, ok_law_shown⟩ := h_law_shown.ex
    obtain ⟨a_Desk_say, fd_Desk_say, mt_Desk_say, bd_Desk_say, ok_Desk_say⟩ := h_Desk_say.ex
    obtain ⟨a_law_asked, fd_law_asked, mg_law_asked, kp_law_asked, bd_law_asked, ok_law_asked⟩ := h_law_asked.ex
    refine ⟨_, (pss_cons (ps_for PassesOwn.never rfl (pi_range1 (by rfl) TX.range (pa_cons pe_int pa_nil)) (pg_name (i := 1) sc_law.nd rfl (Or.inl rfl))
      (pss_cons (ps_set (i := 2) sc_law.nd rfl (Or.inl rfl) (pe_call ok_law_pen hr rfl mg_law_pen kp_law_pen bd_law_pen .nil pass0 (pa_cons (pv 0) (pa_cons (pv 1) pa_nil))))
    (pss_cons (ps_set (i := 3) sc_law.nd rfl (Or.inl rfl) (pe_call ok_law_take hr rfl mg_law_take kp_law_take bd_law_take .nil pass0 (pa_cons (pv 2) (pa_cons pe_int pa_nil))))
    (pss_cons (ps_set (i := 4) sc_law.nd rfl (Or.inl rfl) (pe_call ok_law_book hr rfl mg_law_book kp_law_book bd_law_book .nil pass0 (pa_cons (pv 2) pa_nil)))
    (pss_cons (ps_set (i := 5) sc_law.nd rfl (Or.inl rfl) (pe_ix (ix_listK K) (pe_call ok_law_names hr rfl mg_law_names kp_law_names bd_law_names .nil pass0 (pa_cons (pv 2) (pa_cons pe_int pa_nil))) pe_int (fun _ _ => rfl)))
    (pss_cons (ps_set (i := 6) sc_law.nd rfl (Or.inr rfl) (pe_call ok_law_take hr rfl mg_law_take kp_law_take bd_law_take .nil pass0 (pa_cons (pv 2) (pa_cons pe_int pa_nil))))
    (pss_cons (ps_if (pt_cmpR op_eq (pv 3) pe_int (nomark _)) (pss_one (ps_set (i := 6) sc_law.nd rfl (Or.inr rfl) pe_int)) pss_nil)
    (pss_cons (ps_set (i := 7) sc_law.nd rfl (Or.inl rfl) (pe_make0 MK ok_init (hj ▸ hr) rfl TX.mgDesk bd_init .nil pass0))
    (pss_cons (ps_set (i := 8) sc_law.nd rfl (Or.inr rfl) (pe_call ok_law_sizes hr rfl mg_law_sizes kp_law_sizes bd_law_sizes .nil pass0 (pa_cons (pv 4) (pa_cons (pv 6) pa_nil))))
    (pss_cons (ps_set (i := 9) sc_law.nd rfl (Or.inl rfl) (pe_callB (cr_sumK K rfl) (by rfl) TX.sum (by decide +kernel) (pa_cons (pe_lc (own := [("_law_sign", 12)]) (by rfl) sc_law.nd (pi_str (pe_ix (ix_tupK K) (pv 4) pe_int (fun _ _ => rfl))) (blkOk_by (own := [("_law_sign", 12)]) (by kernel_rfl)) (fun _ _ _ _ _ => (pg_name (i := 12) sc_law.nd rfl (Or.inl rfl))) (fun _ _ _ _ _ => pts_nil) (fun _ _ _ _ _ => (pe_dget hu (pe_ix (ix_listK K) (pv 8) (pv 6) (fun _ _ => rfl)) (pv 12) (fun _ _ => rfl)))) pa_nil)))
    (pss_cons (ps_if (pt_cmpR op_ne (pe_meth (pv 7) TX.cl mt_Desk_say ok_Desk_say hr bd_Desk_say .nil pass0 (pa_cons (pe_op op_add_str (pe_op op_add_str (pe_op op_add_str pe_str (pv 5)) pe_str) (pe_call ok_law_shown hr rfl mg_law_shown kp_law_shown bd_law_shown .nil pass0 (pa_cons (pv 4) pa_nil))) pa_nil)) pe_str (nomark _)) (pss_one (ps_ret pe_bl)) pss_nil)
    (pss_cons (ps_if (pt_cmpR op_ne (pe_meth (pv 7) TX.cl mt_Desk_say ok_Desk_say hr bd_Desk_say .nil pass0 (pa_cons (pe_op op_add_str (pe_op op_add_str (pe_op op_add_str pe_str (pv 5)) pe_str) (pe_callTy call_str_int (by rfl) TX.str (by decide +kernel) (pa_cons (pv 6) pa_nil))) pa_nil)) (pe_callTy call_str_int (by rfl) TX.str (by decide +kernel) (pa_cons (pv 9) pa_nil)) (nomark _)) (pss_one (ps_ret pe_bl)) pss_nil)
    (pss_one (ps_if (pt_cmpR op_gt (pv 9) pe_int (nomark _)) (pss_cons (ps_set (i := 10) sc_law.nd rfl (Or.inl rfl) (pe_op op_fdiv (pe_op op_mul (pv 9) (pe_call ok_law_take hr rfl mg_law_take kp_law_take bd_law_take .nil pass0 (pa_cons (pv 2) (pa_cons (pe_op op_pow pe_int pe_int) pa_nil)))) (pe_op op_pow pe_int pe_int)))
    (pss_one (ps_for PassesOwn.never rfl (pi_list (pe_lst (pa_cons (pv 10) (pa_cons (pe_callB (call_min2 rfl) (by rfl) TX.min (by decide +kernel) (pa_cons (pe_op op_add (pv 10) pe_int) (pa_cons (pe_op op_sub (pv 9) pe_int) pa_nil))) pa_nil)))) (pg_name (i := 11) sc_law.nd rfl (Or.inl rfl))
      (pss_one (ps_if (pt_not (pt_val (pe_call ok_law_asked hr rfl mg_law_asked kp_law_asked bd_law_asked .nil pass0 (pa_cons (pv 7) (pa_cons (pv 5) (pa_cons (pv 4) (pa_cons (pv 6) (pa_cons (pv 11) (pa_cons (pv 8) pa_nil))))))))) (pss_one (ps_ret pe_bl)) pss_nil))))) pss_nil))))))))))))))
    (pss_one (ps_ret pe_bl))), ?_⟩
    obtain ⟨S, zs, rfl, hS0, q⟩ := h
    refine ⟨2, rfl, by decide, by decide, ?_⟩
    refine for_it (walk_rng (n := 2)) (fun i σ H' => ∃ y1 y2 y3 y4 y5 y6 y7 y8 y9 y10 y11, σ = [some (.ref S), y1, y2, y3, y4, y5, y6, y7, y8, y9, y10, y11, none] ∧ Same H H') ⟨none, none, none, none, none, none, none, none, none, none, none, rfl, Same.refl _⟩ (fun _ _ _ _ _ => trivial) ?_ ?_
    · rintro i x σ H0 H0' hi ⟨y1, y2, y3, y4, y5, y6, y7, y8, y9, y10, y11, rfl, s0⟩ ⟨rfl, rfl⟩
      refine ⟨_, rfl, _, rfl, _, _, rfl, S, zs, i, rfl, rfl, by omega, Le.seqL (Same.le s0) hS0, fun H1 a s1 na p1 => ?_⟩
      refine ⟨_, rfl, _, _, rfl, a, 0, 3, rfl, rfl, by decide, by decide, p1, by omega, fun H2 far b2 p2 hfar => ?_⟩
      refine ⟨_, rfl, _, rfl, a, 1, rfl, p2, by omega, fun H3 bk f rs b3 p3 hB wf => ?_⟩
      refine ⟨_, rfl, _, _, rfl, a, 2001, rfl, rfl, p3, by omega, fun H4 pn nm b4 p4 hnm hpn => ?_⟩
      have hB4 := hB.mono (But.pen b4 p3)
      refine ⟨pn, _, (0 : Int), _, rfl, rfl, SqL.of hpn, atI_nat (j := 0) rfl, ?_⟩
      refine ⟨_, rfl, _, _, rfl, a, 2201, 70, rfl, rfl, by decide, by decide, p4, by omega, fun H5 age0 b5 p5 hage => ?_⟩
      have hB5 := hB4.mono (But.pen b5 p4)
      have s5 : Same (H0') H5 := But.same s1 (b2.trans (b3.trans (b4.trans b5))) na
      refine ⟨_, rfl, rfl, _, rfl, ite2 (fun hc => ?_) (fun hc => ?_)⟩
      · have hn : (300 : Nat) ≤ 300 := by omega
        have ln : (numL (300 : Nat)).length ≤ 3 := numL_len (k := 3) (by omega) (by omega)
        intro x dx hx hdx ndx
        have sA : Same H5 (upd (upd H5 dx (.own x)) x (.ins C dx [])) := (Same.new hdx).trans (Same.new (by rw [upd_ne (Ne.symm ndx)]; exact hx))
        refine ⟨_, rfl, x, dx, rfl, upd_same, fun H7 B b7 hDk nB => ⟨rfl, ?_⟩⟩
        have s57 : Same H5 H7 := But.same sA b7 hx
        have nB5 : H5 B = none := sA.free nB
        have nB0 : H0' B = none := s5.free nB5
        have s7 := s5.trans s57
        have hB7 := hB5.mono (Same.tups s57)
        have p7 := p5.same s57
        obtain ⟨dx2, D2, hx7, hBk7⟩ := id hDk
        refine ⟨_, rfl, _, rfl, _, _, rfl, bk, f, rs, (300 : Nat), rfl, rfl, hn, hB7, wf, fun H8 L s8 hSB => ?_⟩
        have hS8 : SizesAt rs H8 L (upS rs ((300 : Nat) + 1)) := (hSB B (by rw [hBk7]; simp)).mono (off_same B H8)
        have hOff : SizesAt rs (Off B H8) L (upS rs ((300 : Nat) + 1)) := hSB B (by rw [hBk7]; simp)
        have hB8 := hB7.mono (Same.tups s8)
        obtain ⟨rr, hb8, hr8⟩ := id hB8
        obtain ⟨ds, g, hFl, hg, hgd⟩ := sizes_get hS8 (upS_at rs (show (300 : Nat) < (300 : Nat) + 1 by omega))
        refine ⟨_, rfl, bk, _, (0 : Int), _, rfl, rfl, SqT.of hb8, rfl, _, rfl, fun E hE => ?_⟩
        refine lc_it (walk_T (l := f)) (fun m H' => Same H8 H' ∧ H' E = some (.lst (((f.take m).map (sz rs (300 : Nat))).map V.int))) ⟨Same.new hE, upd_same⟩ (fun _ _ _ _ => trivial) ?_ ?_
        · rintro m y Ha Hb hm ⟨sa, hla⟩ ⟨rfl, e, he, rfl⟩
          have hke := wf.fk e (List.mem_of_getElem? he)
          refine ⟨rfl, _, rfl, _, rfl, L, ds, (((300 : Nat) : Nat) : Int), _, rfl, rfl, SqL.of (sa _ _ hFl), atI_nat hg, _, rfl, g, _, rfl, rdDGet (k := Sum.inr (T [e])) (.inl (sa _ _ hgd)) (skv_val hke), _, hla, by rw [List.length_map, List.length_map, List.length_take]; have := wf.fl; exact le_small (by omega), Same.mut sa hE, ?_⟩
          rw [upd_same, take_more he, List.map_append, List.map_append]
          rfl
        rintro H9 ⟨s89, hl9⟩
        rw [List.take_length] at hl9
        refine ⟨E, _, rfl, SqL.of hl9, ?_⟩
        have etot : (f.map (sz rs (300 : Nat))).sum = tot rs (300 : Nat) f := rfl
        rw [etot]
        have s79 := s8.trans s89
        have hB9 := hB7.mono (Same.tups s79)
        have hn8 := hnm.2.1
        have lbook : (Str.ofString "book ").length = 5 := by decide +kernel
        have llen : (Str.ofString "length ").length = 7 := by decide +kernel
        have l32 : (Str.ofString " ").length = 1 := by decide +kernel
        have big : (100000 : Nat) ≤ sizeLine := by decide
        have lbt : (bookT f rs).length ≤ 100 := by
          have h1 := tail_len wf
          have h2 := wf.fl
          have e1 : (bookT f rs).length = f.length + ((tailT rs).length + 1) := by unfold bookT; rw [List.length_append, List.length_cons]
          omega
        refine ⟨_, rfl, x, dx2, _, rfl, s79 _ _ hx7, by kernel_rfl, _, rfl, _, _, rfl, rfl, by rw [lbook, T_len]; omega, _, _, rfl, rfl, by rw [Str.length_append, lbook, T_len, l32]; omega, _, rfl, _, rfl, bk, f, rs, rfl, hB9, wf, fun H10 s10 => ?_⟩
        have s7A := s79.trans s10
        have eB : Str.ofString "book " ++ T nm ++ Str.ofString " " ++ T (bookT f rs) = T (jn (tk "book" :: nm :: (f ++ [58]) :: rs.map ruleT)) := by
          rw [jn_cons _ (by simp), jn_cons _ (by simp), book_jn]
          refine ext_tl ?_
          rw [tl_append, tl_append, tl_append, sp_T, tl_ofString]
          rw [tl_T, tl_T, tl_T, show List.map Char.toNat "book ".toList = tk "book" ++ [32] by decide]
          simp
        have hDkA := hDk.mono s7A
        have hBkA := s7A _ _ hBk7
        have hBA := hB7.mono (Same.tups s7A)
        have pA := p7.same s7A
        refine ⟨_, _, rfl, rfl, by rw [Str.length_append, Str.length_append, lbook, l32, T_len, T_len]; omega, _, _, rfl, x, B, rfl, .inl ⟨nm, (f ++ [58]) :: rs.map ruleT, f, rs, congrArg V.str eB, book_jn f rs, by simp, hnm, book_parts hnm wf, wf, hDkA, fun H11 bb b11 hBk11 hbb => ?_⟩⟩
        refine ⟨rfl, _, rfl, ibF (by simp) ?_⟩
        have s11 : Same H0' H11 := But.same (s7.trans s7A) b11 nB0
        have hB11 := hBA.mono (But.dict b11 hBkA)
        have hx11 : H11 x = some (.ins C dx2 [("books", .ref B), ("beds", .ref D2)]) := b11 _ _ (s7A _ _ hx7) (ne_of (s7A _ _ hx7) hBkA (by intro z; cases z))
        have hDk11 : DeskAt C H11 x B [(Sum.inr (T nm), .ref bb)] := ⟨dx2, D2, hx11, hBk11⟩
        have p11 : PenAt H11 a 2202 := by
          obtain ⟨u1, u2, u3, h1, h2⟩ := pA
          exact ⟨u1, u2, u3, b11 _ _ h1 (ne_of h1 hBkA (by intro z; cases z)), h2⟩
        have hS11 : SizesAt rs H11 L (upS rs ((300 : Nat) + 1)) := ((hOff.mono (off_but (Same.but (s89.trans s10)))).mono (off_but b11)).mono (off_same B H11)
        have eL : Str.ofString "length " ++ T nm ++ Str.ofString " " ++ Str.ofString (toString (((300 : Nat) : Nat) : Int)) = T (jn (tk "length" :: nm :: [numL (300 : Nat)])) := by
          rw [num_T, jn_cons _ (by simp), jn_cons _ (by simp)]
          refine ext_tl ?_
          rw [tl_append, tl_append, tl_append, sp_T, tl_ofString]
          rw [tl_T, tl_T, tl_T, show List.map Char.toNat "length ".toList = tk "length" ++ [32] by decide]
          simp
          rfl
        have hpl : Parts (tk "length" :: nm :: [numL (300 : Nat)]) := by
          refine ⟨fun p hp => ?_, ?_, ?_⟩
          · rcases List.mem_cons.mp hp with e | hp
            · rw [e]; decide
            · rcases List.mem_cons.mp hp with e | hp
              · rw [e]; exact name_free hnm
              · rw [List.mem_singleton.mp hp]; exact numL_free (by omega)
          · have l6 : (tk "length").length = 6 := by decide
            show (tk "length").length + (nm.length + ((numL (300 : Nat)).length + 0)) ≤ 1000
            omega
          · show 3 ≤ 1000
            omega
        have el5 : (Str.ofString (toString (((300 : Nat) : Nat) : Int))).length ≤ 3 := by rw [num_T, T_len]; exact ln
        refine ⟨_, rfl, x, dx2, _, rfl, hx11, by kernel_rfl, _, rfl, _, _, rfl, rfl, by rw [llen, T_len]; omega, _, _, rfl, rfl, by rw [Str.length_append, llen, T_len, l32]; omega, _, rfl, _, rfl, small_log (by show (300 : Nat) < 1000; omega), _, _, rfl, rfl, by rw [Str.length_append, Str.length_append, llen, l32, T_len]; exact Nat.le_trans (Nat.add_le_add_left el5 _) (by omega), _, _, rfl, x, B, rfl, .inr ⟨nm, tk "length", [100], [numL (300 : Nat)], bb, congrArg V.str eL, hDk11, hnm, form_length TX, .cons (.inl ⟨rfl, (300 : Nat), rfl, by omega⟩) .nil, by decide, by decide, hpl, .inl rfl, fun H12 W E' s12 hW => ?_⟩⟩
        refine ⟨_, _, _, rfl, bb, f, rs, W, nm, (300 : Nat), rfl, rfl, hn, by omega, hbb.mono (Same.tups s12), wf, .inl ⟨rfl, hW, fun H13 s13 => ?_⟩⟩
        have s1D := s12.trans s13
        refine ⟨_, rfl, _, rfl, tot_log wf hn, rfl, _, rfl, ibF (by rw [tot_str (f := f) (rs := rs)]; simp) ?_⟩
        have s0D := s11.trans s1D
        refine ⟨_, rfl, _, _, rfl, rfl, _, rfl, ite2 (fun hpos => ?_) (fun hpos => ?_)⟩
        case refine_2 => exact ⟨_, _, _, _, _, _, _, _, _, _, _, rfl, s0.trans s0D⟩
        have hp0 : 0 < tot rs (300 : Nat) f := of_decide_eq_true hpos
        have pD := p11.same s1D
        have e9 : V.int (10 ^ (9 : Int).toNat) = V.int (((1000000000 : Nat)) : Int) := congrArg V.int (by decide)
        refine ⟨_, rfl, _, rfl, _, _, rfl, rfl, ⟨by decide, by decide, by decide⟩, _, _, rfl, a, 2202, 1000000000, rfl, e9, by decide, by decide, pD, by omega, fun H14 t b14 p14 ht => ?_⟩
        have s0E : Same H0' H14 := But.same s0D b14 na
        refine ⟨_, _, rfl, rfl, .inr ⟨by omega, by omega⟩, _, _, rfl, rfl, ⟨by decide, by decide, by decide⟩, _, _, rfl, rfl, ⟨by decide, by decide⟩, ?_⟩
        have e9i : (10 : Int) ^ (9 : Int).toNat = 1000000000 := by decide
        rw [e9i]
        have hD14 := desk_pen b14 pD (hDk11.mono s1D)
        have hB14 := (hB11.mono (Same.tups s1D)).mono (But.pen b14 pD)
        have hbb14 := (hbb.mono (Same.tups s1D)).mono (But.pen b14 pD)
        have hS14 := sizes_pen b14 pD (hS11.mono s1D)
        have hpl0 : 0 ≤ tot rs (300 : Nat) f * ((t : Nat) : Int) / 1000000000 := Int.ediv_nonneg (Int.mul_nonneg (by omega) (by omega)) (by omega)
        have hpl1 : tot rs (300 : Nat) f * ((t : Nat) : Int) / 1000000000 < tot rs (300 : Nat) f := Int.ediv_lt_of_lt_mul (by omega) (Int.mul_lt_mul_of_pos_left (by omega) hp0)
        obtain ⟨l1, hl1⟩ : ∃ l : Nat, (tot rs (300 : Nat) f * ((t : Nat) : Int) / 1000000000) = ((l : Nat) : Int) := nat_of hpl0
        obtain ⟨l2, hl2⟩ : ∃ l : Nat, (if tot rs (300 : Nat) f - 1 < (tot rs (300 : Nat) f * ((t : Nat) : Int) / 1000000000) + 1 then tot rs (300 : Nat) f - 1 else (tot rs (300 : Nat) f * ((t : Nat) : Int) / 1000000000) + 1) = ((l : Nat) : Int) := nat_of (by split <;> omega)
        have h2lt : ((l2 : Nat) : Int) < tot rs (300 : Nat) f := by
          rw [← hl2]
          split <;> omega
        refine ⟨_, rfl, _, rfl, _, _, rfl, rfl, _, rfl, _, _, rfl, rfl, _, _, rfl, by show 2 ≤ sizeLine; decide, fun P2 hP2 => ?_⟩
        have sP : Same H14 (upd H14 P2 (.lst [.int (tot rs (300 : Nat) f * ((t : Nat) : Int) / 1000000000), .int (if tot rs (300 : Nat) f - 1 < (tot rs (300 : Nat) f * ((t : Nat) : Int) / 1000000000) + 1 then tot rs (300 : Nat) f - 1 else (tot rs (300 : Nat) f * ((t : Nat) : Int) / 1000000000) + 1)])) := Same.new hP2
        refine ⟨P2, rfl, ⟨_, SqL.of upd_same⟩, ?_⟩
        refine for_it (walk_list (xs := [V.int (tot rs (300 : Nat) f * ((t : Nat) : Int) / 1000000000), V.int (if tot rs (300 : Nat) f - 1 < (tot rs (300 : Nat) f * ((t : Nat) : Int) / 1000000000) + 1 then tot rs (300 : Nat) f - 1 else (tot rs (300 : Nat) f * ((t : Nat) : Int) / 1000000000) + 1)])) (fun u σ H' => ∃ y1 y11, σ = [some (.ref S), y1, some (.ref a), some (.int ((far : Nat) : Int)), some (.ref bk), some (.str (T nm)), some (.int (((300 : Nat) : Nat) : Int)), some (.ref x), some (.ref L), some (.int (tot rs (300 : Nat) f)), some (.int (tot rs (300 : Nat) f * ((t : Nat) : Int) / 1000000000)), y11, none] ∧ Same (upd H14 P2 (.lst [.int (tot rs (300 : Nat) f * ((t : Nat) : Int) / 1000000000), .int (if tot rs (300 : Nat) f - 1 < (tot rs (300 : Nat) f * ((t : Nat) : Int) / 1000000000) + 1 then tot rs (300 : Nat) f - 1 else (tot rs (300 : Nat) f * ((t : Nat) : Int) / 1000000000) + 1)])) H') ⟨_, _, rfl, Same.refl _⟩ (fun u σ H' _ ⟨_, _, _, s⟩ => SqL.of (s _ _ upd_same)) ?_ ?_
        · rintro u y σ Ha Hb hu2 ⟨y1, y11, rfl, sa⟩ ⟨rfl, hy⟩
          obtain ⟨l, rfl, hlt⟩ : ∃ l : Nat, y = .int ((l : Nat) : Int) ∧ ((l : Nat) : Int) < tot rs (300 : Nat) f := by
            match u, hy with
            | 0, hy => exact ⟨l1, by rw [← hl1]; exact (Option.some.inj hy).symm, by rw [← hl1]; exact hpl1⟩
            | 1, hy => exact ⟨l2, by rw [← hl2]; exact (Option.some.inj hy).symm, h2lt⟩
          have s14b := sP.trans sa
          refine ⟨_, rfl, _, rfl, _, rfl, _, rfl, _, rfl, _, rfl, _, _, _, _, _, _, rfl, x, B, nm, bb, bk, f, rs, (300 : Nat), L, l, rfl, rfl, rfl, rfl, rfl, rfl, hn, hnm, hD14.mono s14b, hbb14.mono (Same.tups s14b), hB14.mono (Same.tups s14b), wf, hS14.mono s14b, num300 wf hn hlt, hlt, fun Hc sc => ⟨true, rfl, ibF rfl ?_⟩⟩
          exact ⟨_, _, rfl, sa.trans sc⟩
        · rintro σ Ha ⟨y1, y11, rfl, sa⟩
          exact ⟨_, _, _, _, _, _, _, _, _, _, _, rfl, s0.trans (s0E.trans (sP.trans sa))⟩
      · have hn : age0 ≤ 300 := by omega
        have ln : (numL age0).length ≤ 3 := numL_len (k := 3) (by omega) (by omega)
        intro x dx hx hdx ndx
        have sA : Same H5 (upd (upd H5 dx (.own x)) x (.ins C dx [])) := (Same.new hdx).trans (Same.new (by rw [upd_ne (Ne.symm ndx)]; exact hx))
        refine ⟨_, rfl, x, dx, rfl, upd_same, fun H7 B b7 hDk nB => ⟨rfl, ?_⟩⟩
        have s57 : Same H5 H7 := But.same sA b7 hx
        have nB5 : H5 B = none := sA.free nB
        have nB0 : H0' B = none := s5.free nB5
        have s7 := s5.trans s57
        have hB7 := hB5.mono (Same.tups s57)
        have p7 := p5.same s57
        obtain ⟨dx2, D2, hx7, hBk7⟩ := id hDk
        refine ⟨_, rfl, _, rfl, _, _, rfl, bk, f, rs, age0, rfl, rfl, hn, hB7, wf, fun H8 L s8 hSB => ?_⟩
        have hS8 : SizesAt rs H8 L (upS rs (age0 + 1)) := (hSB B (by rw [hBk7]; simp)).mono (off_same B H8)
        have hOff : SizesAt rs (Off B H8) L (upS rs (age0 + 1)) := hSB B (by rw [hBk7]; simp)
        have hB8 := hB7.mono (Same.tups s8)
        obtain ⟨rr, hb8, hr8⟩ := id hB8
        obtain ⟨ds, g, hFl, hg, hgd⟩ := sizes_get hS8 (upS_at rs (show age0 < age0 + 1 by omega))
        refine ⟨_, rfl, bk, _, (0 : Int), _, rfl, rfl, SqT.of hb8, rfl, _, rfl, fun E hE => ?_⟩
        refine lc_it (walk_T (l := f)) (fun m H' => Same H8 H' ∧ H' E = some (.lst (((f.take m).map (sz rs age0)).map V.int))) ⟨Same.new hE, upd_same⟩ (fun _ _ _ _ => trivial) ?_ ?_
        · rintro m y Ha Hb hm ⟨sa, hla⟩ ⟨rfl, e, he, rfl⟩
          have hke := wf.fk e (List.mem_of_getElem? he)
          refine ⟨rfl, _, rfl, _, rfl, L, ds, ((age0 : Nat) : Int), _, rfl, rfl, SqL.of (sa _ _ hFl), atI_nat hg, _, rfl, g, _, rfl, rdDGet (k := Sum.inr (T [e])) (.inl (sa _ _ hgd)) (skv_val hke), _, hla, by rw [List.length_map, List.length_map, List.length_take]; have := wf.fl; exact le_small (by omega), Same.mut sa hE, ?_⟩
          rw [upd_same, take_more he, List.map_append, List.map_append]
          rfl
        rintro H9 ⟨s89, hl9⟩
        rw [List.take_length] at hl9
        refine ⟨E, _, rfl, SqL.of hl9, ?_⟩
        have etot : (f.map (sz rs age0)).sum = tot rs age0 f := rfl
        rw [etot]
        have s79 := s8.trans s89
        have hB9 := hB7.mono (Same.tups s79)
        have hn8 := hnm.2.1
        have lbook : (Str.ofString "book ").length = 5 := by decide +kernel
        have llen : (Str.ofString "length ").length = 7 := by decide +kernel
        have l32 : (Str.ofString " ").length = 1 := by decide +kernel
        have big : (100000 : Nat) ≤ sizeLine := by decide
        have lbt : (bookT f rs).length ≤ 100 := by
          have h1 := tail_len wf
          have h2 := wf.fl
          have e1 : (bookT f rs).length = f.length + ((tailT rs).length + 1) := by unfold bookT; rw [List.length_append, List.length_cons]
          omega
        refine ⟨_, rfl, x, dx2, _, rfl, s79 _ _ hx7, by kernel_rfl, _, rfl, _, _, rfl, rfl, by rw [lbook, T_len]; omega, _, _, rfl, rfl, by rw [Str.length_append, lbook, T_len, l32]; omega, _, rfl, _, rfl, bk, f, rs, rfl, hB9, wf, fun H10 s10 => ?_⟩
        have s7A := s79.trans s10
        have eB : Str.ofString "book " ++ T nm ++ Str.ofString " " ++ T (bookT f rs) = T (jn (tk "book" :: nm :: (f ++ [58]) :: rs.map ruleT)) := by
          rw [jn_cons _ (by simp), jn_cons _ (by simp), book_jn]
          refine ext_tl ?_
          rw [tl_append, tl_append, tl_append, sp_T, tl_ofString]
          rw [tl_T, tl_T, tl_T, show List.map Char.toNat "book ".toList = tk "book" ++ [32] by decide]
          simp
        have hDkA := hDk.mono s7A
        have hBkA := s7A _ _ hBk7
        have hBA := hB7.mono (Same.tups s7A)
        have pA := p7.same s7A
        refine ⟨_, _, rfl, rfl, by rw [Str.length_append, Str.length_append, lbook, l32, T_len, T_len]; omega, _, _, rfl, x, B, rfl, .inl ⟨nm, (f ++ [58]) :: rs.map ruleT, f, rs, congrArg V.str eB, book_jn f rs, by simp, hnm, book_parts hnm wf, wf, hDkA, fun H11 bb b11 hBk11 hbb => ?_⟩⟩
        refine ⟨rfl, _, rfl, ibF (by simp) ?_⟩
        have s11 : Same H0' H11 := But.same (s7.trans s7A) b11 nB0
        have hB11 := hBA.mono (But.dict b11 hBkA)
        have hx11 : H11 x = some (.ins C dx2 [("books", .ref B), ("beds", .ref D2)]) := b11 _ _ (s7A _ _ hx7) (ne_of (s7A _ _ hx7) hBkA (by intro z; cases z))
        have hDk11 : DeskAt C H11 x B [(Sum.inr (T nm), .ref bb)] := ⟨dx2, D2, hx11, hBk11⟩
        have p11 : PenAt H11 a 2202 := by
          obtain ⟨u1, u2, u3, h1, h2⟩ := pA
          exact ⟨u1, u2, u3, b11 _ _ h1 (ne_of h1 hBkA (by intro z; cases z)), h2⟩
        have hS11 : SizesAt rs H11 L (upS rs (age0 + 1)) := ((hOff.mono (off_but (Same.but (s89.trans s10)))).mono (off_but b11)).mono (off_same B H11)
        have eL : Str.ofString "length " ++ T nm ++ Str.ofString " " ++ Str.ofString (toString ((age0 : Nat) : Int)) = T (jn (tk "length" :: nm :: [numL age0])) := by
          rw [num_T, jn_cons _ (by simp), jn_cons _ (by simp)]
          refine ext_tl ?_
          rw [tl_append, tl_append, tl_append, sp_T, tl_ofString]
          rw [tl_T, tl_T, tl_T, show List.map Char.toNat "length ".toList = tk "length" ++ [32] by decide]
          simp
          rfl
        have hpl : Parts (tk "length" :: nm :: [numL age0]) := by
          refine ⟨fun p hp => ?_, ?_, ?_⟩
          · rcases List.mem_cons.mp hp with e | hp
            · rw [e]; decide
            · rcases List.mem_cons.mp hp with e | hp
              · rw [e]; exact name_free hnm
              · rw [List.mem_singleton.mp hp]; exact numL_free (by omega)
          · have l6 : (tk "length").length = 6 := by decide
            show (tk "length").length + (nm.length + ((numL age0).length + 0)) ≤ 1000
            omega
          · show 3 ≤ 1000
            omega
        have el5 : (Str.ofString (toString ((age0 : Nat) : Int))).length ≤ 3 := by rw [num_T, T_len]; exact ln
        refine ⟨_, rfl, x, dx2, _, rfl, hx11, by kernel_rfl, _, rfl, _, _, rfl, rfl, by rw [llen, T_len]; omega, _, _, rfl, rfl, by rw [Str.length_append, llen, T_len, l32]; omega, _, rfl, _, rfl, small_log (by show age0 < 1000; omega), _, _, rfl, rfl, by rw [Str.length_append, Str.length_append, llen, l32, T_len]; exact Nat.le_trans (Nat.add_le_add_left el5 _) (by omega), _, _, rfl, x, B, rfl, .inr ⟨nm, tk "length", [100], [numL age0], bb, congrArg V.str eL, hDk11, hnm, form_length TX, .cons (.inl ⟨rfl, age0, rfl, by omega⟩) .nil, by decide, by decide, hpl, .inl rfl, fun H12 W E' s12 hW => ?_⟩⟩
        refine ⟨_, _, _, rfl, bb, f, rs, W, nm, age0, rfl, rfl, hn, by omega, hbb.mono (Same.tups s12), wf, .inl ⟨rfl, hW, fun H13 s13 => ?_⟩⟩
        have s1D := s12.trans s13
        refine ⟨_, rfl, _, rfl, tot_log wf hn, rfl, _, rfl, ibF (by rw [tot_str (f := f) (rs := rs)]; simp) ?_⟩
        have s0D := s11.trans s1D
        refine ⟨_, rfl, _, _, rfl, rfl, _, rfl, ite2 (fun hpos => ?_) (fun hpos => ?_)⟩
        case refine_2 => exact ⟨_, _, _, _, _, _, _, _, _, _, _, rfl, s0.trans s0D⟩
        have hp0 : 0 < tot rs age0 f := of_decide_eq_true hpos
        have pD := p11.same s1D
        have e9 : V.int (10 ^ (9 : Int).toNat) = V.int (((1000000000 : Nat)) : Int) := congrArg V.int (by decide)
        refine ⟨_, rfl, _, rfl, _, _, rfl, rfl, ⟨by decide, by decide, by decide⟩, _, _, rfl, a, 2202, 1000000000, rfl, e9, by decide, by decide, pD, by omega, fun H14 t b14 p14 ht => ?_⟩
        have s0E : Same H0' H14 := But.same s0D b14 na
        refine ⟨_, _, rfl, rfl, .inr ⟨by omega, by omega⟩, _, _, rfl, rfl, ⟨by decide, by decide, by decide⟩, _, _, rfl, rfl, ⟨by decide, by decide⟩, ?_⟩
        have e9i : (10 : Int) ^ (9 : Int).toNat = 1000000000 := by decide
        rw [e9i]
        have hD14 := desk_pen b14 pD (hDk11.mono s1D)
        have hB14 := (hB11.mono (Same.tups s1D)).mono (But.pen b14 pD)
        have hbb14 := (hbb.mono (Same.tups s1D)).mono (But.pen b14 pD)
        have hS14 := sizes_pen b14 pD (hS11.mono s1D)
        have hpl0 : 0 ≤ tot rs age0 f * ((t : Nat) : Int) / 1000000000 := Int.ediv_nonneg (Int.mul_nonneg (by omega) (by omega)) (by omega)
        have hpl1 : tot rs age0 f * ((t : Nat) : Int) / 1000000000 < tot rs age0 f := Int.ediv_lt_of_lt_mul (by omega) (Int.mul_lt_mul_of_pos_left (by omega) hp0)
        obtain ⟨l1, hl1⟩ : ∃ l : Nat, (tot rs age0 f * ((t : Nat) : Int) / 1000000000) = ((l : Nat) : Int) := nat_of hpl0
        obtain ⟨l2, hl2⟩ : ∃ l : Nat, (if tot rs age0 f - 1 < (tot rs age0 f * ((t : Nat) : Int) / 1000000000) + 1 then tot rs age0 f - 1 else (tot rs age0 f * ((t : Nat) : Int) / 1000000000) + 1) = ((l : Nat) : Int) := nat_of (by split <;> omega)
        have h2lt : ((l2 : Nat) : Int) < tot rs age0 f := by
          rw [← hl2]
          split <;> omega
        refine ⟨_, rfl, _, rfl, _, _, rfl, rfl, _, rfl, _, _, rfl, rfl, _, _, rfl, by show 2 ≤ sizeLine; decide, fun P2 hP2 => ?_⟩
        have sP : Same H14 (upd H14 P2 (.lst [.int (tot rs age0 f * ((t : Nat) : Int) / 1000000000), .int (if tot rs age0 f - 1 < (tot rs age0 f * ((t : Nat) : Int) / 1000000000) + 1 then tot rs age0 f - 1 else (tot rs age0 f * ((t : Nat) : Int) / 1000000000) + 1)])) := Same.new hP2
        refine ⟨P2, rfl, ⟨_, SqL.of upd_same⟩, ?_⟩
        refine for_it (walk_list (xs := [V.int (tot rs age0 f * ((t : Nat) : Int) / 1000000000), V.int (if tot rs age0 f - 1 < (tot rs age0 f * ((t : Nat) : Int) / 1000000000) + 1 then tot rs age0 f - 1 else (tot rs age0 f * ((t : Nat) : Int) / 1000000000) + 1)])) (fun u σ H' => ∃ y1 y11, σ = [some (.ref S), y1, some (.ref a), some (.int ((far : Nat) : Int)), some (.ref bk), some (.str (T nm)), some (.int ((age0 : Nat) : Int)), some (.ref x), some (.ref L), some (.int (tot rs age0 f)), some (.int (tot rs age0 f * ((t : Nat) : Int) / 1000000000)), y11, none] ∧ Same (upd H14 P2 (.lst [.int (tot rs age0 f * ((t : Nat) : Int) / 1000000000), .int (if tot rs age0 f - 1 < (tot rs age0 f * ((t : Nat) : Int) / 1000000000) + 1 then tot rs age0 f - 1 else (tot rs age0 f * ((t : Nat) : Int) / 1000000000) + 1)])) H') ⟨_, _, rfl, Same.refl _⟩ (fun u σ H' _ ⟨_, _, _, s⟩ => SqL.of (s _ _ upd_same)) ?_ ?_
        · rintro u y σ Ha Hb hu2 ⟨y1, y11, rfl, sa⟩ ⟨rfl, hy⟩
          obtain ⟨l, rfl, hlt⟩ : ∃ l : Nat, y = .int ((l : Nat) : Int) ∧ ((l : Nat) : Int) < tot rs age0 f := by
            match u, hy with
            | 0, hy => exact ⟨l1, by rw [← hl1]; exact (Option.some.inj hy).symm, by rw [← hl1]; exact hpl1⟩
            | 1, hy => exact ⟨l2, by rw [← hl2]; exact (Option.some.inj hy).symm, h2lt⟩
          have s14b := sP.trans sa
          refine ⟨_, rfl, _, rfl, _, rfl, _, rfl, _, rfl, _, rfl, _, _, _, _, _, _, rfl, x, B, nm, bb, bk, f, rs, age0, L, l, rfl, rfl, rfl, rfl, rfl, rfl, hn, hnm, hD14.mono s14b, hbb14.mono (Same.tups s14b), hB14.mono (Same.tups s14b), wf, hS14.mono s14b, num300 wf hn hlt, hlt, fun Hc sc => ⟨true, rfl, ibF rfl ?_⟩⟩
          exact ⟨_, _, rfl, sa.trans sc⟩
        · rintro σ Ha ⟨y1, y11, rfl, sa⟩
          exact ⟨_, _, _, _, _, _, _, _, _, _, _, rfl, s0.trans (s0E.trans (sP.trans sa))⟩
    · rintro σ H2 ⟨y1, y2, y3, y4, y5, y6, y7, y8, y9, y10, y11, rfl, s2⟩
      exact q _ s2
end
end G

/-! The head's facts; the law. -/
namespace G
open PySem PySem.Spec PyProof.Rows L2 TL

theorem txt_of {w : World} {K : PySem.W.Frag} {h : Heap} {mg : Str → Option Value} (X : K.In h) (G : h.Ns mainGlobals mg) (c : He.SaysT fa fn ts w K) (e : ex K = true) : Txt K mg w (He.ga K "Desk") (He.ga K "FORMS") where
  len := He.free_ok X G (c.d.fact 48 (f := .free "len") rfl)
  range := He.free_ok X G (c.d.fact 49 (f := .free "range") rfl)
  isinstance := He.free_ok X G (c.d.fact 50 (f := .free "isinstance") rfl)
  sum := He.free_ok X G (c.d.fact 51 (f := .free "sum") rfl)
  zip := He.free_ok X G (c.d.fact 52 (f := .free "zip") rfl)
  enumerate := He.free_ok X G (c.d.fact 53 (f := .free "enumerate") rfl)
  reversed := He.free_ok X G (c.d.fact 54 (f := .free "reversed") rfl)
  sorted := He.free_ok X G (c.d.fact 55 (f := .free "sorted") rfl)
  list := He.free_ok X G (c.d.fact 56 (f := .free "list") rfl)
  tuple := He.free_ok X G (c.d.fact 57 (f := .free "tuple") rfl)
  dict := He.free_ok X G (c.d.fact 58 (f := .free "dict") rfl)
  int := He.free_ok X G (c.d.fact 59 (f := .free "int") rfl)
  str := He.free_ok X G (c.d.fact 60 (f := .free "str") rfl)
  bool := He.free_ok X G (c.d.fact 61 (f := .free "bool") rfl)
  min := He.free_ok X G (c.d.fact 62 (f := .free "min") rfl)
  g_MOST_LETTERS := He.int_ok X G (c.d.fact 63 (f := .int "MOST_LETTERS" 8) rfl)
  g_MOST_WORD := He.int_ok X G (c.d.fact 64 (f := .int "MOST_WORD" 6) rfl)
  g_MOST_FIRST := He.int_ok X G (c.d.fact 65 (f := .int "MOST_FIRST" 12) rfl)
  g_LAST_AGE := He.int_ok X G (c.d.fact 66 (f := .int "LAST_AGE" 300) rfl)
  g_MOST_FIGURES := He.int_ok X G (c.d.fact 67 (f := .int "MOST_FIGURES" 300) rfl)
  g_MOST_NAME_forms := He.int_ok X G (c.d.fact 68 (f := .int "MOST_NAME_forms" 8) rfl)
  g_SIGNS_books := He.str_ok X G (c.d.fact 69 (f := .str "SIGNS_books" "abcdefghijklmnopqrstuvwxyz") rfl)
  g_FIGURES := He.str_ok X G (c.d.fact 70 (f := .str "FIGURES" "0123456789") rfl)
  g_FORMS := He.glo_ok X G (c.d.fact 47 (f := .glo "FORMS") rfl)
  kd := c.tab 0
  f_length := He.valsB_ok e (q := ("length", .str "bd")) (by unfold fvals; simp)
  f_way := He.valsB_ok e (q := ("way", .str "bdd")) (by unfold fvals; simp)
  f_letter := He.valsB_ok e (q := ("letter", .str "bdd")) (by unfold fvals; simp)
  cl := He.cls_ok (c.d.fact 71 (f := .cls "Desk") rfl)
  nB := He.noat_ok (c.d.fact 72 (f := .noat "Desk" "books") rfl)
  nD := He.noat_ok (c.d.fact 73 (f := .noat "Desk" "beds") rfl)
  mgDesk := He.glo_ok X G (c.d.fact 46 (f := .glo "Desk") rfl)
theorem facts {w : World} {K : PySem.W.Frag} {h : Heap} {mg : Str → Option Value} {f : Addr} (X : K.In h) (G : h.Ns mainGlobals mg) (hfa : mg ("law" : Str) = some (.ref f)) (c : He.SaysT fa fn ts w K) (e : ex K = true) :
    ∃ fd : FuncData, (∀ (s : Shared) (v : Value), BindsTo s fd ⟨[v], []⟩ [("_law_script", v)]) ∧ ∀ base : Heap, FnOk R.prog w K mg base CX0 8 f fd ["_law_script"] (sp_law K) := by
  have TX := txt_of X G c e
  obtain ⟨fd_is_whole, F_is_whole⟩ := c.d.def_ 0 (d := d_is_whole) rfl
  have S_is_whole : Src K mg "is_whole" s_is_whole := ⟨_, fd_is_whole, He.glo_ok X G (c.d.fact 0 (f := .glo "is_whole") rfl), F_is_whole⟩
  obtain ⟨fd_is_letter, F_is_letter⟩ := c.d.def_ 1 (d := d_is_letter) rfl
  have S_is_letter : Src K mg "is_letter" s_is_letter := ⟨_, fd_is_letter, He.glo_ok X G (c.d.fact 1 (f := .glo "is_letter") rfl), F_is_letter⟩
  obtain ⟨fd_is_rule, F_is_rule⟩ := c.d.def_ 2 (d := d_is_rule) rfl
  have S_is_rule : Src K mg "is_rule" s_is_rule := ⟨_, fd_is_rule, He.glo_ok X G (c.d.fact 2 (f := .glo "is_rule") rfl), F_is_rule⟩
  obtain ⟨fd_rules_of, F_rules_of⟩ := c.d.def_ 3 (d := d_rules_of) rfl
  have S_rules_of : Src K mg "rules_of" s_rules_of := ⟨_, fd_rules_of, He.glo_ok X G (c.d.fact 3 (f := .glo "rules_of") rfl), F_rules_of⟩
  obtain ⟨fd_all_known, F_all_known⟩ := c.d.def_ 4 (d := d_all_known) rfl
  have S_all_known : Src K mg "all_known" s_all_known := ⟨_, fd_all_known, He.glo_ok X G (c.d.fact 4 (f := .glo "all_known") rfl), F_all_known⟩
  obtain ⟨fd_makes_book, F_makes_book⟩ := c.d.def_ 5 (d := d_makes_book) rfl
  have S_makes_book : Src K mg "makes_book" s_makes_book := ⟨_, fd_makes_book, He.glo_ok X G (c.d.fact 5 (f := .glo "makes_book") rfl), F_makes_book⟩
  obtain ⟨fd_is_book, F_is_book⟩ := c.d.def_ 6 (d := d_is_book) rfl
  have S_is_book : Src K mg "is_book" s_is_book := ⟨_, fd_is_book, He.glo_ok X G (c.d.fact 6 (f := .glo "is_book") rfl), F_is_book⟩
  obtain ⟨fd_letters, F_letters⟩ := c.d.def_ 7 (d := d_letters) rfl
  have S_letters : Src K mg "letters" s_letters := ⟨_, fd_letters, He.glo_ok X G (c.d.fact 7 (f := .glo "letters") rfl), F_letters⟩
  obtain ⟨fd_words_of, F_words_of⟩ := c.d.def_ 8 (d := d_words_of) rfl
  have S_words_of : Src K mg "words_of" s_words_of := ⟨_, fd_words_of, He.glo_ok X G (c.d.fact 8 (f := .glo "words_of") rfl), F_words_of⟩
  obtain ⟨fd_need_age, F_need_age⟩ := c.d.def_ 9 (d := d_need_age) rfl
  have S_need_age : Src K mg "need_age" s_need_age := ⟨_, fd_need_age, He.glo_ok X G (c.d.fact 9 (f := .glo "need_age") rfl), F_need_age⟩
  obtain ⟨fd_tally, F_tally⟩ := c.d.def_ 10 (d := d_tally) rfl
  have S_tally : Src K mg "tally" s_tally := ⟨_, fd_tally, He.glo_ok X G (c.d.fact 10 (f := .glo "tally") rfl), F_tally⟩
  obtain ⟨fd_table, F_table⟩ := c.d.def_ 11 (d := d_table) rfl
  have S_table : Src K mg "table" s_table := ⟨_, fd_table, He.glo_ok X G (c.d.fact 11 (f := .glo "table") rfl), F_table⟩
  obtain ⟨fd_passed, F_passed⟩ := c.d.def_ 12 (d := d_passed) rfl
  have S_passed : Src K mg "passed" s_passed := ⟨_, fd_passed, He.glo_ok X G (c.d.fact 12 (f := .glo "passed") rfl), F_passed⟩
  obtain ⟨fd_counts_from, F_counts_from⟩ := c.d.def_ 13 (d := d_counts_from) rfl
  have S_counts_from : Src K mg "counts_from" s_counts_from := ⟨_, fd_counts_from, He.glo_ok X G (c.d.fact 13 (f := .glo "counts_from") rfl), F_counts_from⟩
  obtain ⟨fd_counts, F_counts⟩ := c.d.def_ 14 (d := d_counts) rfl
  have S_counts : Src K mg "counts" s_counts := ⟨_, fd_counts, He.glo_ok X G (c.d.fact 14 (f := .glo "counts") rfl), F_counts⟩
  obtain ⟨fd_length, F_length⟩ := c.d.def_ 15 (d := d_length) rfl
  have S_length : Src K mg "length" s_length := ⟨_, fd_length, He.glo_ok X G (c.d.fact 15 (f := .glo "length") rfl), F_length⟩
  obtain ⟨fd_worths_of, F_worths_of⟩ := c.d.def_ 16 (d := d_worths_of) rfl
  have S_worths_of : Src K mg "worths_of" s_worths_of := ⟨_, fd_worths_of, He.glo_ok X G (c.d.fact 16 (f := .glo "worths_of") rfl), F_worths_of⟩
  obtain ⟨fd_sizes_of, F_sizes_of⟩ := c.d.def_ 17 (d := d_sizes_of) rfl
  have S_sizes_of : Src K mg "sizes_of" s_sizes_of := ⟨_, fd_sizes_of, He.glo_ok X G (c.d.fact 17 (f := .glo "sizes_of") rfl), F_sizes_of⟩
  obtain ⟨fd_total_of, F_total_of⟩ := c.d.def_ 18 (d := d_total_of) rfl
  have S_total_of : Src K mg "total_of" s_total_of := ⟨_, fd_total_of, He.glo_ok X G (c.d.fact 18 (f := .glo "total_of") rfl), F_total_of⟩
  obtain ⟨fd_way_down, F_way_down⟩ := c.d.def_ 19 (d := d_way_down) rfl
  have S_way_down : Src K mg "way_down" s_way_down := ⟨_, fd_way_down, He.glo_ok X G (c.d.fact 19 (f := .glo "way_down") rfl), F_way_down⟩
  obtain ⟨fd_words_at, F_words_at⟩ := c.d.def_ 20 (d := d_words_at) rfl
  have S_words_at : Src K mg "words_at" s_words_at := ⟨_, fd_words_at, He.glo_ok X G (c.d.fact 20 (f := .glo "words_at") rfl), F_words_at⟩
  obtain ⟨fd_need_place, F_need_place⟩ := c.d.def_ 21 (d := d_need_place) rfl
  have S_need_place : Src K mg "need_place" s_need_place := ⟨_, fd_need_place, He.glo_ok X G (c.d.fact 21 (f := .glo "need_place") rfl), F_need_place⟩
  obtain ⟨fd_way, F_way⟩ := c.d.def_ 22 (d := d_way) rfl
  have S_way : Src K mg "way" s_way := ⟨_, fd_way, He.glo_ok X G (c.d.fact 22 (f := .glo "way") rfl), F_way⟩
  obtain ⟨fd_letter_at, F_letter_at⟩ := c.d.def_ 23 (d := d_letter_at) rfl
  have S_letter_at : Src K mg "letter_at" s_letter_at := ⟨_, fd_letter_at, He.glo_ok X G (c.d.fact 23 (f := .glo "letter_at") rfl), F_letter_at⟩
  obtain ⟨fd_is_name, F_is_name⟩ := c.d.def_ 24 (d := d_is_name) rfl
  have S_is_name : Src K mg "is_name" s_is_name := ⟨_, fd_is_name, He.glo_ok X G (c.d.fact 24 (f := .glo "is_name") rfl), F_is_name⟩
  obtain ⟨fd_is_number, F_is_number⟩ := c.d.def_ 25 (d := d_is_number) rfl
  have S_is_number : Src K mg "is_number" s_is_number := ⟨_, fd_is_number, He.glo_ok X G (c.d.fact 25 (f := .glo "is_number") rfl), F_is_number⟩
  obtain ⟨fd_is_word_of, F_is_word_of⟩ := c.d.def_ 26 (d := d_is_word_of) rfl
  have S_is_word_of : Src K mg "is_word_of" s_is_word_of := ⟨_, fd_is_word_of, He.glo_ok X G (c.d.fact 26 (f := .glo "is_word_of") rfl), F_is_word_of⟩
  obtain ⟨fd_told_book, F_told_book⟩ := c.d.def_ 27 (d := d_told_book) rfl
  have S_told_book : Src K mg "told_book" s_told_book := ⟨_, fd_told_book, He.glo_ok X G (c.d.fact 27 (f := .glo "told_book") rfl), F_told_book⟩
  obtain ⟨fd_words_in, F_words_in⟩ := c.d.def_ 28 (d := d_words_in) rfl
  have S_words_in : Src K mg "words_in" s_words_in := ⟨_, fd_words_in, He.glo_ok X G (c.d.fact 28 (f := .glo "words_in") rfl), F_words_in⟩
  obtain ⟨fd_rules_in, F_rules_in⟩ := c.d.def_ 29 (d := d_rules_in) rfl
  have S_rules_in : Src K mg "rules_in" s_rules_in := ⟨_, fd_rules_in, He.glo_ok X G (c.d.fact 29 (f := .glo "rules_in") rfl), F_rules_in⟩
  obtain ⟨fd_read_book, F_read_book⟩ := c.d.def_ 30 (d := d_read_book) rfl
  have S_read_book : Src K mg "read_book" s_read_book := ⟨_, fd_read_book, He.glo_ok X G (c.d.fact 30 (f := .glo "read_book") rfl), F_read_book⟩
  obtain ⟨fd_way_told, F_way_told⟩ := c.d.def_ 31 (d := d_way_told) rfl
  have S_way_told : Src K mg "way_told" s_way_told := ⟨_, fd_way_told, He.glo_ok X G (c.d.fact 31 (f := .glo "way_told") rfl), F_way_told⟩
  obtain ⟨fd_row_told, F_row_told⟩ := c.d.def_ 32 (d := d_row_told) rfl
  have S_row_told : Src K mg "row_told" s_row_told := ⟨_, fd_row_told, He.glo_ok X G (c.d.fact 32 (f := .glo "row_told") rfl), F_row_told⟩
  obtain ⟨fd_Desk___init__, F_Desk___init__⟩ := c.d.def_ 33 (d := d_Desk___init__) rfl
  have MK : Mk K (He.ga K "Desk") (He.ma K (He.ga K "Desk") "__init__") := He.mkr_ok (c.d.fact 76 (f := .mkr "Desk") rfl)
  have S_Desk___init__ : SrcM K (He.ga K "Desk") "__init__" "Desk.__init__" s_Desk___init__ := ⟨_, fd_Desk___init__, ⟨MK.init, MK.fn, F_Desk___init__.kp⟩, F_Desk___init__⟩
  obtain ⟨fd_Desk_called_in, F_Desk_called_in⟩ := c.d.def_ 34 (d := d_Desk_called_in) rfl
  have S_Desk_called_in : SrcM K (He.ga K "Desk") "called_in" "Desk.called_in" s_Desk_called_in := ⟨_, fd_Desk_called_in, He.meth_ok (c.d.fact 75 (f := .meth "Desk" "called_in") rfl), F_Desk_called_in⟩
  obtain ⟨fd_Desk_say, F_Desk_say⟩ := c.d.def_ 35 (d := d_Desk_say) rfl
  have S_Desk_say : SrcM K (He.ga K "Desk") "say" "Desk.say" s_Desk_say := ⟨_, fd_Desk_say, He.meth_ok (c.d.fact 74 (f := .meth "Desk" "say") rfl), F_Desk_say⟩
  obtain ⟨fd_law_pen, F_law_pen⟩ := c.d.def_ 36 (d := d_law_pen) rfl
  have S_law_pen : Src K mg "_law_pen" s_law_pen := ⟨_, fd_law_pen, He.glo_ok X G (c.d.fact 33 (f := .glo "_law_pen") rfl), F_law_pen⟩
  obtain ⟨fd_law_take, F_law_take⟩ := c.d.def_ 37 (d := d_law_take) rfl
  have S_law_take : Src K mg "_law_take" s_law_take := ⟨_, fd_law_take, He.glo_ok X G (c.d.fact 34 (f := .glo "_law_take") rfl), F_law_take⟩
  obtain ⟨fd_law_signs, F_law_signs⟩ := c.d.def_ 38 (d := d_law_signs) rfl
  have S_law_signs : Src K mg "_law_signs" s_law_signs := ⟨_, fd_law_signs, He.glo_ok X G (c.d.fact 35 (f := .glo "_law_signs") rfl), F_law_signs⟩
  obtain ⟨fd_law_text, F_law_text⟩ := c.d.def_ 39 (d := d_law_text) rfl
  have S_law_text : Src K mg "_law_text" s_law_text := ⟨_, fd_law_text, He.glo_ok X G (c.d.fact 36 (f := .glo "_law_text") rfl), F_law_text⟩
  obtain ⟨fd_law_word, F_law_word⟩ := c.d.def_ 40 (d := d_law_word) rfl
  have S_law_word : Src K mg "_law_word" s_law_word := ⟨_, fd_law_word, He.glo_ok X G (c.d.fact 37 (f := .glo "_law_word") rfl), F_law_word⟩
  obtain ⟨fd_law_book, F_law_book⟩ := c.d.def_ 41 (d := d_law_book) rfl
  have S_law_book : Src K mg "_law_book" s_law_book := ⟨_, fd_law_book, He.glo_ok X G (c.d.fact 38 (f := .glo "_law_book") rfl), F_law_book⟩
  obtain ⟨fd_law_names, F_law_names⟩ := c.d.def_ 42 (d := d_law_names) rfl
  have S_law_names : Src K mg "_law_names" s_law_names := ⟨_, fd_law_names, He.glo_ok X G (c.d.fact 39 (f := .glo "_law_names") rfl), F_law_names⟩
  obtain ⟨fd_law_shown, F_law_shown⟩ := c.d.def_ 43 (d := d_law_shown) rfl
  have S_law_shown : Src K mg "_law_shown" s_law_shown := ⟨_, fd_law_shown, He.glo_ok X G (c.d.fact 40 (f := .glo "_law_shown") rfl), F_law_shown⟩
  obtain ⟨fd_law_sizes, F_law_sizes⟩ := c.d.def_ 44 (d := d_law_sizes) rfl
  have S_law_sizes : Src K mg "_law_sizes" s_law_sizes := ⟨_, fd_law_sizes, He.glo_ok X G (c.d.fact 41 (f := .glo "_law_sizes") rfl), F_law_sizes⟩
  obtain ⟨fd_law_number, F_law_number⟩ := c.d.def_ 45 (d := d_law_number) rfl
  have S_law_number : Src K mg "_law_number" s_law_number := ⟨_, fd_law_number, He.glo_ok X G (c.d.fact 42 (f := .glo "_law_number") rfl), F_law_number⟩
  obtain ⟨fd_law_walked, F_law_walked⟩ := c.d.def_ 46 (d := d_law_walked) rfl
  have S_law_walked : Src K mg "_law_walked" s_law_walked := ⟨_, fd_law_walked, He.glo_ok X G (c.d.fact 43 (f := .glo "_law_walked") rfl), F_law_walked⟩
  obtain ⟨fd_law_asked, F_law_asked⟩ := c.d.def_ 47 (d := d_law_asked) rfl
  have S_law_asked : Src K mg "_law_asked" s_law_asked := ⟨_, fd_law_asked, He.glo_ok X G (c.d.fact 44 (f := .glo "_law_asked") rfl), F_law_asked⟩
  obtain ⟨fd_law, F_law⟩ := c.d.def_ 48 (d := d_law) rfl
  have S_law : Src K mg "law" s_law := ⟨_, fd_law, He.glo_ok X G (c.d.fact 45 (f := .glo "law") rfl), F_law⟩
  have key : ∀ base : Heap, HasF R.prog w K mg base 8 "law" s_law ["_law_script"] (sp_law K) := fun base => by
    have l_is_whole : Has R.prog w K mg base 1 "is_whole" ["thing"] (sp_is_whole) := has_is_whole (k := 0) S_is_whole TX 
    have l_is_letter : Has R.prog w K mg base 1 "is_letter" ["thing"] (sp_is_letter) := has_is_letter (k := 0) S_is_letter TX 
    have l_all_known : Has R.prog w K mg base 1 "all_known" ["words", "text"] (sp_all_known) := has_all_known (k := 0) S_all_known TX 
    have l_letters : Has R.prog w K mg base 1 "letters" ["book"] (sp_letters) := has_letters (k := 0) S_letters TX 
    have l_words_of : Has R.prog w K mg base 1 "words_of" ["book"] (sp_words_of) := has_words_of (k := 0) S_words_of TX 
    have l_tally : Has R.prog w K mg base 1 "tally" ["signs", "text"] (sp_tally) := has_tally (k := 0) S_tally TX 
    have l_passed : Has R.prog w K mg base 1 "passed" ["rates", "amounts"] (sp_passed) := has_passed (k := 0) S_passed TX 
    have l_worths_of : Has R.prog w K mg base 1 "worths_of" ["words", "ends"] (sp_worths_of) := has_worths_of (k := 0) S_worths_of TX 
    have l_total_of : Has R.prog w K mg base 1 "total_of" ["worths", "first"] (sp_total_of) := has_total_of (k := 0) S_total_of TX 
    have l_way_down : Has R.prog w K mg base 1 "way_down" ["words", "worths", "first", "left"] (sp_way_down) := has_way_down (k := 0) S_way_down TX 
    have l_is_name : Has R.prog w K mg base 1 "is_name" ["text"] (sp_is_name) := has_is_name (k := 0) S_is_name TX 
    have l_is_number : Has R.prog w K mg base 1 "is_number" ["text"] (sp_is_number) := has_is_number (k := 0) S_is_number TX 
    have l_rules_in : Has R.prog w K mg base 1 "rules_in" ["words"] (sp_rules_in) := has_rules_in (k := 0) S_rules_in TX 
    have l_way_told : Has R.prog w K mg base 1 "way_told" ["found"] (sp_way_told) := has_way_told (k := 0) S_way_told TX 
    have l_Desk___init__ : HasM R.prog w K mg base 1 (He.ga K "Desk") "__init__" ["self"] (sp_Desk_init (He.ga K "Desk")) := has_Desk___init__ (k := 0) S_Desk___init__ TX 
    have l_Desk_called_in : HasM R.prog w K mg base 1 (He.ga K "Desk") "called_in" ["self", "words"] (sp_called_in K (He.ga K "Desk") (He.ga K "FORMS")) := has_Desk_called_in (k := 0) S_Desk_called_in TX 
    have l_law_pen : Has R.prog w K mg base 1 "_law_pen" ["_law_script", "_law_k"] (sp_law_pen K) := has_law_pen (k := 0) S_law_pen TX 
    have l_law_take : Has R.prog w K mg base 1 "_law_take" ["_law_pen_here", "_law_size"] (sp_law_take) := has_law_take (k := 0) S_law_take TX 
    have l_law_shown : Has R.prog w K mg base 1 "_law_shown" ["_law_book_here"] (sp_law_shown) := has_law_shown (k := 0) S_law_shown TX 
    have l_law_sizes : Has R.prog w K mg base 1 "_law_sizes" ["_law_book_here", "_law_age"] (sp_law_sizes) := has_law_sizes (k := 0) S_law_sizes TX 
    have l_law_number : Has R.prog w K mg base 1 "_law_number" ["_law_text_here"] (sp_law_number) := has_law_number (k := 0) S_law_number TX 
    have l_is_rule : Has R.prog w K mg base 2 "is_rule" ["thing"] (sp_is_rule) := has_is_rule (k := 1) S_is_rule TX (l_is_letter.mono (by decide))
    have l_makes_book : Has R.prog w K mg base 2 "makes_book" ["first", "words"] (sp_makes_book) := has_makes_book (k := 1) S_makes_book TX (l_all_known.mono (by decide))
    have l_need_age : Has R.prog w K mg base 2 "need_age" ["age"] (sp_need_age) := has_need_age (k := 1) S_need_age TX (l_is_whole.mono (by decide))
    have l_table : Has R.prog w K mg base 2 "table" ["book"] (sp_table) := has_table (k := 1) S_table TX (l_letters.mono (by decide)) (l_tally.mono (by decide))
    have l_counts_from : Has R.prog w K mg base 2 "counts_from" ["rates", "amounts", "age"] (sp_counts_from) := has_counts_from (k := 1) S_counts_from TX (l_passed.mono (by decide))
    have l_sizes_of : Has R.prog w K mg base 2 "sizes_of" ["words", "names"] (sp_sizes_of) := has_sizes_of (k := 1) S_sizes_of TX (l_worths_of.mono (by decide))
    have l_words_at : Has R.prog w K mg base 2 "words_at" ["book", "age"] (sp_words_at) := has_words_at (k := 1) S_words_at TX (l_words_of.mono (by decide))
    have l_need_place : Has R.prog w K mg base 2 "need_place" ["place", "many"] (sp_need_place) := has_need_place (k := 1) S_need_place TX (l_is_whole.mono (by decide))
    have l_is_word_of : Has R.prog w K mg base 2 "is_word_of" ["form", "text"] (sp_is_word_of) := has_is_word_of (k := 1) S_is_word_of TX (l_is_number.mono (by decide)) (l_is_name.mono (by decide))
    have l_told_book : Has R.prog w K mg base 2 "told_book" ["text"] (sp_told_book) := has_told_book (k := 1) S_told_book TX (l_is_name.mono (by decide))
    have l_law_signs : Has R.prog w K mg base 2 "_law_signs" ["_law_pen_here", "_law_many"] (sp_law_signs) := has_law_signs (k := 1) S_law_signs TX (l_law_take.mono (by decide))
    have l_law_text : Has R.prog w K mg base 2 "_law_text" ["_law_pen_here", "_law_signs_here", "_law_many"] (sp_law_text) := has_law_text (k := 1) S_law_text TX (l_law_take.mono (by decide))
    have l_law_walked : Has R.prog w K mg base 2 "_law_walked" ["_law_book_here", "_law_age", "_law_said", "_law_sizes_here"] (sp_law_walked) := has_law_walked (k := 1) S_law_walked TX (l_law_number.mono (by decide))
    have l_rules_of : Has R.prog w K mg base 3 "rules_of" ["rules"] (sp_rules_of) := has_rules_of (k := 2) S_rules_of TX (l_is_rule.mono (by decide))
    have l_counts : Has R.prog w K mg base 3 "counts" ["book", "age"] (sp_counts) := has_counts (k := 2) S_counts TX (l_need_age.mono (by decide)) (l_counts_from.mono (by decide)) (l_table.mono (by decide)) (l_tally.mono (by decide)) (l_letters.mono (by decide))
    have l_way : Has R.prog w K mg base 3 "way" ["book", "age", "place"] (sp_way) := has_way (k := 2) S_way TX (l_need_age.mono (by decide)) (l_words_at.mono (by decide)) (l_sizes_of.mono (by decide)) (l_letters.mono (by decide)) (l_need_place.mono (by decide)) (l_total_of.mono (by decide)) (l_way_down.mono (by decide))
    have l_words_in : Has R.prog w K mg base 3 "words_in" ["text"] (sp_words_in K (He.ga K "FORMS")) := has_words_in (k := 2) S_words_in TX (l_told_book.mono (by decide)) (l_is_word_of.mono (by decide))
    have l_law_word : Has R.prog w K mg base 3 "_law_word" ["_law_pen_here", "_law_pick", "_law_signs_here", "_law_at"] (sp_law_word) := has_law_word (k := 2) S_law_word TX (l_law_text.mono (by decide)) (l_law_take.mono (by decide))
    have l_law_names : Has R.prog w K mg base 3 "_law_names" ["_law_pen_here", "_law_many"] (sp_law_names) := has_law_names (k := 2) S_law_names TX (l_law_text.mono (by decide)) (l_law_take.mono (by decide)) (l_law_signs.mono (by decide))
    have l_is_book : Has R.prog w K mg base 4 "is_book" ["thing"] (sp_is_book) := has_is_book (k := 3) S_is_book TX (l_rules_of.mono (by decide)) (l_makes_book.mono (by decide))
    have l_length : Has R.prog w K mg base 4 "length" ["book", "age"] (sp_length) := has_length (k := 3) S_length TX (l_counts.mono (by decide))
    have l_letter_at : Has R.prog w K mg base 4 "letter_at" ["book", "age", "place"] (sp_letter_at) := has_letter_at (k := 3) S_letter_at TX (l_way.mono (by decide))
    have l_law_book : Has R.prog w K mg base 4 "_law_book" ["_law_pen_here"] (sp_law_book) := has_law_book (k := 3) S_law_book TX (l_law_take.mono (by decide)) (l_law_signs.mono (by decide)) (l_law_word.mono (by decide)) (l_law_text.mono (by decide))
    have l_read_book : Has R.prog w K mg base 5 "read_book" ["text"] (sp_read_book) := has_read_book (k := 4) S_read_book TX (l_rules_in.mono (by decide)) (l_is_book.mono (by decide))
    have l_row_told : Has R.prog w K mg base 5 "row_told" ["deed", "book", "words"] (sp_row_told) := has_row_told (k := 4) S_row_told TX (l_length.mono (by decide)) (l_letter_at.mono (by decide)) (l_way_told.mono (by decide)) (l_way.mono (by decide))
    have l_Desk_say : HasM R.prog w K mg base 6 (He.ga K "Desk") "say" ["self", "row"] (sp_say K (He.ga K "Desk") (He.ga K "FORMS")) := has_Desk_say (k := 5) S_Desk_say TX (l_words_in.mono (by decide)) (l_read_book.mono (by decide)) (l_Desk_called_in.mono (by decide)) (l_row_told.mono (by decide))
    have l_law_asked : Has R.prog w K mg base 7 "_law_asked" ["_law_desk", "_law_name", "_law_book_here", "_law_age", "_law_place", "_law_sizes_here"] (sp_law_asked (He.ga K "Desk")) := has_law_asked (k := 6) S_law_asked TX (l_Desk_say.mono (by decide)) (l_law_walked.mono (by decide))
    obtain ⟨aI, fdI, mI, bI, oI⟩ := l_Desk___init__.ex
    have eI : aI = He.ma K (He.ga K "Desk") "__init__" := by
      have e1 := mI.at_.symm.trans MK.init
      cases e1
      rfl
    subst eI
    exact has_law (k := 7) S_law TX (l_law_pen.mono (by decide)) (l_law_take.mono (by decide)) (l_law_book.mono (by decide)) (l_law_names.mono (by decide)) (l_law_sizes.mono (by decide)) (l_law_shown.mono (by decide)) (l_Desk_say.mono (by decide)) (l_law_asked.mono (by decide)) 6 rfl _ fdI MK (oI.mono (by decide)) bI
  have bnd : ∀ (s : Shared) (v : Value), BindsTo s fd_law ⟨[v], []⟩ [("_law_script", v)] := fun s v =>
    FunD.bindsA (ps := ["_law_script"]) F_law (fun _ _ _ _ _ _ us hl => match us, hl with | [_], _ => rfl) s [v] rfl
  refine ⟨fd_law, bnd, fun base => ?_⟩
  obtain ⟨a, fd, m, F, ok⟩ := (key base).ex
  have ea : a = f := by
    have e1 := m.symm.trans hfa
    cases e1
    rfl
  subst ea
  have ef : fd = fd_law := by
    obtain ⟨_, _, _, _, _, _, _, _, _, _, _, lk, _⟩ := F.ex
    obtain ⟨_, _, _, _, _, _, _, _, _, _, _, lk2, _⟩ := F_law.ex
    have e0 : a = He.fAd K d_law.at_ := by
      have e1 := m.symm.trans (He.glo_ok X G (c.d.fact 45 (f := .glo "law") rfl))
      cases e1
      rfl
    rw [← e0] at lk2
    have e1 := lk.symm.trans lk2
    cases e1
    rfl
  subst ef
  exact ok
end G
open PySem PySem.W PySem.Calls PyProof.Rows
theorem PySem.Challenge.cw_linegrow_k97_whole_from_text_to_letter_holds : PySem.Challenge.rw_linegrow_k97_whole_from_text_to_letter.Holds := by
  w_on; o_law
  refine HandSHeadRun.head_any (r := OpenLaw.row PySem.Challenge.rw_linegrow_k97_whole_from_text_to_letter) (q := view (OpenLaw.row PySem.Challenge.rw_linegrow_k97_whole_from_text_to_letter).prog [189]) (H := G.hk) (ob := G.ob) (M := 20000) (loose := G.loose) (d := HandSHeadRun.topDef (OpenLaw.row PySem.Challenge.rw_linegrow_k97_whole_from_text_to_letter).prog 189) (kwd := []) G.ob_eq
    (by kernel_rfl) (fun s => by kernel_rfl) G.run (by kernel_rfl) (by kernel_rfl) (by kernel_rfl) (by rfl) (by first | assumption | decide +kernel) (by decide +kernel) ⟨rfl, rfl, rfl, rfl, rfl, by decide +kernel⟩ ?hw ?hc
  case hw => w_witness2
  case hc =>
    refine L2.walk_ofE (l := PySem.Challenge.rw_linegrow_k97_whole_from_text_to_letter) (n := 63) (k := 8) (x := "_law_script") (CX := L2.CX0) rfl (by decide) (by kernel_rfl) ⟨rfl, by decide, by decide⟩ ?F (fun _ _ _ _ z => z)
    intro w mg fa h Y G hmg0
    obtain ⟨K, KX, c, e⟩ := Y
    have hmg : mg ("law" : PySem.Str) = some (.ref fa) := by
      have e : (HandSHeadRun.topDef (OpenLaw.row PySem.Challenge.rw_linegrow_k97_whole_from_text_to_letter).prog 189).name = ("law" : PySem.Str) := by kernel_rfl
      rw [← e]
      exact hmg0
    obtain ⟨fd, hb, hF⟩ := _root_.G.facts KX G hmg c e
    exact ⟨K, fd, _root_.G.sp_law K, KX, hb, fun H a ns hl _ hS => ⟨_, rfl, a, ns, rfl, hS, fun _ _ => rfl⟩, fun base _ _ => hF base⟩

